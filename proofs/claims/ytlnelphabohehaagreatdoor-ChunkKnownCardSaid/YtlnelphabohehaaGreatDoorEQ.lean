/- Each of the interpreter's functions is the program's, compiled. -/
import Derived.Test.YtlnelphabohehaaGreatDoorCQ1
import Derived.Test.YtlnelphabohehaaGreatDoorP8
import Derived.Test.YtlnelphabohehaaGreatDoorProg
import Derived.KernelRfl
set_option maxRecDepth 1000000
set_option maxHeartbeats 0
set_option linter.unusedVariables false
set_option linter.unusedSimpArgs false
namespace Go.AI
open Go Go.Proofs
noncomputable section
def FnE (x : Nat × CF) : Prop := ∃ fn, Tryz.prog.funcs[x.1]? = some fn ∧ fn.name ≠ "runtime.NumGoroutine" ∧ fn.body.isSome = true ∧ x.2 = compF Tryz.prog fn
theorem fnE {i : Nat} {f : Func} {c : CF} (h : Tryz.prog.funcs[i]? = some f) (hb : (f.name != "runtime.NumGoroutine" && f.body.isSome) = true) (e : c = compF Tryz.prog f) : FnE (i, c) := by
  simp only [Bool.and_eq_true, bne_iff_ne, ne_eq] at hb
  exact ⟨f, h, hb.1, hb.2, e⟩
theorem e5 : FnE (5, c5) := fnE Tryz.func5 (by kernel_rfl) (by kernel_rfl)
theorem e6 : FnE (6, c6) := fnE Tryz.func6 (by kernel_rfl) (by kernel_rfl)
theorem e7 : FnE (7, c7) := fnE Tryz.func7 (by kernel_rfl) (by kernel_rfl)
theorem e8 : FnE (8, c8) := fnE Tryz.func8 (by kernel_rfl) (by kernel_rfl)
theorem e10 : FnE (10, c10) := fnE Tryz.func10 (by kernel_rfl) (by kernel_rfl)
theorem e15 : FnE (15, c15) := fnE Tryz.func15 (by kernel_rfl) (by kernel_rfl)
theorem e16 : FnE (16, c16) := fnE Tryz.func16 (by kernel_rfl) (by kernel_rfl)
theorem e17 : FnE (17, c17) := fnE Tryz.func17 (by kernel_rfl) (by kernel_rfl)
theorem e18 : FnE (18, c18) := fnE Tryz.func18 (by kernel_rfl) (by kernel_rfl)
theorem e19 : FnE (19, c19) := fnE Tryz.func19 (by kernel_rfl) (by kernel_rfl)
theorem e20 : FnE (20, c20) := fnE Tryz.func20 (by kernel_rfl) (by kernel_rfl)
theorem e21 : FnE (21, c21) := fnE Tryz.func21 (by kernel_rfl) (by kernel_rfl)
theorem e22 : FnE (22, c22) := fnE Tryz.func22 (by kernel_rfl) (by kernel_rfl)
theorem e23 : FnE (23, c23) := fnE Tryz.func23 (by kernel_rfl) (by kernel_rfl)
theorem e24 : FnE (24, c24) := fnE Tryz.func24 (by kernel_rfl) (by kernel_rfl)
theorem e25 : FnE (25, c25) := fnE Tryz.func25 (by kernel_rfl) (by kernel_rfl)
theorem e27 : FnE (27, c27) := fnE Tryz.func27 (by kernel_rfl) (by kernel_rfl)
theorem e28 : FnE (28, c28) := fnE Tryz.func28 (by kernel_rfl) (by kernel_rfl)
theorem e32 : FnE (32, c32) := fnE Tryz.func32 (by kernel_rfl) (by kernel_rfl)
theorem e33 : FnE (33, c33) := fnE Tryz.func33 (by kernel_rfl) (by kernel_rfl)
theorem e34 : FnE (34, c34) := fnE Tryz.func34 (by kernel_rfl) (by kernel_rfl)
theorem e35 : FnE (35, c35) := fnE Tryz.func35 (by kernel_rfl) (by kernel_rfl)
theorem e36 : FnE (36, c36) := fnE Tryz.func36 (by kernel_rfl) (by kernel_rfl)
theorem e37 : FnE (37, c37) := fnE Tryz.func37 (by kernel_rfl) (by kernel_rfl)
theorem e38 : FnE (38, c38) := fnE Tryz.func38 (by kernel_rfl) (by kernel_rfl)
theorem e39 : FnE (39, c39) := fnE Tryz.func39 (by kernel_rfl) (by kernel_rfl)
theorem e42 : FnE (42, c42) := fnE Tryz.func42 (by kernel_rfl) (by kernel_rfl)
theorem e43 : FnE (43, c43) := fnE Tryz.func43 (by kernel_rfl) (by kernel_rfl)
theorem e60 : FnE (60, c60) := fnE Tryz.func60 (by kernel_rfl) (by kernel_rfl)
theorem e62 : FnE (62, c62) := fnE Tryz.func62 (by kernel_rfl) (by kernel_rfl)
theorem e63 : FnE (63, c63) := fnE Tryz.func63 (by kernel_rfl) (by kernel_rfl)
theorem e64 : FnE (64, c64) := fnE Tryz.func64 (by kernel_rfl) (by kernel_rfl)
theorem e65 : FnE (65, c65) := fnE Tryz.func65 (by kernel_rfl) (by kernel_rfl)
theorem e66 : FnE (66, c66) := fnE Tryz.func66 (by kernel_rfl) (by kernel_rfl)
theorem e67 : FnE (67, c67) := fnE Tryz.func67 (by kernel_rfl) (by kernel_rfl)
theorem e68 : FnE (68, c68) := fnE Tryz.func68 (by kernel_rfl) (by kernel_rfl)
theorem e79 : FnE (79, c79) := fnE Tryz.func79 (by kernel_rfl) (by kernel_rfl)
theorem e81 : FnE (81, c81) := fnE Tryz.func81 (by kernel_rfl) (by kernel_rfl)
theorem e106 : FnE (106, c106) := fnE Tryz.func106 (by kernel_rfl) (by kernel_rfl)
theorem e107 : FnE (107, c107) := fnE Tryz.func107 (by kernel_rfl) (by kernel_rfl)
theorem e108 : FnE (108, c108) := fnE Tryz.func108 (by kernel_rfl) (by kernel_rfl)
theorem e115 : FnE (115, c115) := fnE Tryz.func115 (by kernel_rfl) (by kernel_rfl)
theorem e116 : FnE (116, c116) := fnE Tryz.func116 (by kernel_rfl) (by kernel_rfl)
theorem e117 : FnE (117, c117) := fnE Tryz.func117 (by kernel_rfl) (by kernel_rfl)
theorem e118 : FnE (118, c118) := fnE Tryz.func118 (by kernel_rfl) (by kernel_rfl)
theorem e119 : FnE (119, c119) := fnE Tryz.func119 (by kernel_rfl) (by kernel_rfl)
theorem e120 : FnE (120, c120) := fnE Tryz.func120 (by kernel_rfl) (by kernel_rfl)
theorem e121 : FnE (121, c121) := fnE Tryz.func121 (by kernel_rfl) (by kernel_rfl)
theorem e122 : FnE (122, c122) := fnE Tryz.func122 (by kernel_rfl) (by kernel_rfl)
theorem e132 : FnE (132, c132) := fnE Tryz.func132 (by kernel_rfl) (by kernel_rfl)
theorem e133 : FnE (133, c133) := fnE Tryz.func133 (by kernel_rfl) (by kernel_rfl)
theorem e159 : FnE (159, c159) := fnE Tryz.func159 (by kernel_rfl) (by kernel_rfl)
theorem e160 : FnE (160, c160) := fnE Tryz.func160 (by kernel_rfl) (by kernel_rfl)
theorem e161 : FnE (161, c161) := fnE Tryz.func161 (by kernel_rfl) (by kernel_rfl)
theorem e162 : FnE (162, c162) := fnE Tryz.func162 (by kernel_rfl) (by kernel_rfl)
theorem e163 : FnE (163, c163) := fnE Tryz.func163 (by kernel_rfl) (by kernel_rfl)
theorem e164 : FnE (164, c164) := fnE Tryz.func164 (by kernel_rfl) (by kernel_rfl)
theorem e171 : FnE (171, c171) := fnE Tryz.func171 (by kernel_rfl) (by kernel_rfl)
theorem e196 : FnE (196, c196) := fnE Tryz.func196 (by kernel_rfl) (by kernel_rfl)
theorem e197 : FnE (197, c197) := fnE Tryz.func197 (by kernel_rfl) (by kernel_rfl)
theorem e229 : FnE (229, c229) := fnE Tryz.func229 (by kernel_rfl) (by kernel_rfl)
theorem e298 : FnE (298, c298) := fnE Tryz.func298 (by kernel_rfl) (by kernel_rfl)
theorem e299 : FnE (299, c299) := fnE Tryz.func299 (by kernel_rfl) (by kernel_rfl)
theorem e3 : FnE (3, c3) := fnE Tryz.func3 (by kernel_rfl) (by kernel_rfl)
theorem e9 : FnE (9, c9) := fnE Tryz.func9 (by kernel_rfl) (by kernel_rfl)
theorem e26 : FnE (26, c26) := fnE Tryz.func26 (by kernel_rfl) (by kernel_rfl)
theorem e40 : FnE (40, c40) := fnE Tryz.func40 (by kernel_rfl) (by kernel_rfl)
theorem e41 : FnE (41, c41) := fnE Tryz.func41 (by kernel_rfl) (by kernel_rfl)
theorem e44 : FnE (44, c44) := fnE Tryz.func44 (by kernel_rfl) (by kernel_rfl)
theorem e69 : FnE (69, c69) := fnE Tryz.func69 (by kernel_rfl) (by kernel_rfl)
theorem e70 : FnE (70, c70) := fnE Tryz.func70 (by kernel_rfl) (by kernel_rfl)
theorem e71 : FnE (71, c71) := fnE Tryz.func71 (by kernel_rfl) (by kernel_rfl)
theorem e72 : FnE (72, c72) := fnE Tryz.func72 (by kernel_rfl) (by kernel_rfl)
theorem e73 : FnE (73, c73) := fnE Tryz.func73 (by kernel_rfl) (by kernel_rfl)
theorem e74 : FnE (74, c74) := fnE Tryz.func74 (by kernel_rfl) (by kernel_rfl)
theorem e75 : FnE (75, c75) := fnE Tryz.func75 (by kernel_rfl) (by kernel_rfl)
theorem e82 : FnE (82, c82) := fnE Tryz.func82 (by kernel_rfl) (by kernel_rfl)
theorem e86 : FnE (86, c86) := fnE Tryz.func86 (by kernel_rfl) (by kernel_rfl)
theorem e123 : FnE (123, c123) := fnE Tryz.func123 (by kernel_rfl) (by kernel_rfl)
theorem e124 : FnE (124, c124) := fnE Tryz.func124 (by kernel_rfl) (by kernel_rfl)
theorem e125 : FnE (125, c125) := fnE Tryz.func125 (by kernel_rfl) (by kernel_rfl)
theorem e126 : FnE (126, c126) := fnE Tryz.func126 (by kernel_rfl) (by kernel_rfl)
theorem e127 : FnE (127, c127) := fnE Tryz.func127 (by kernel_rfl) (by kernel_rfl)
theorem e128 : FnE (128, c128) := fnE Tryz.func128 (by kernel_rfl) (by kernel_rfl)
theorem e136 : FnE (136, c136) := fnE Tryz.func136 (by kernel_rfl) (by kernel_rfl)
theorem e165 : FnE (165, c165) := fnE Tryz.func165 (by kernel_rfl) (by kernel_rfl)
theorem e166 : FnE (166, c166) := fnE Tryz.func166 (by kernel_rfl) (by kernel_rfl)
theorem e167 : FnE (167, c167) := fnE Tryz.func167 (by kernel_rfl) (by kernel_rfl)
theorem e168 : FnE (168, c168) := fnE Tryz.func168 (by kernel_rfl) (by kernel_rfl)
theorem e169 : FnE (169, c169) := fnE Tryz.func169 (by kernel_rfl) (by kernel_rfl)
theorem e198 : FnE (198, c198) := fnE Tryz.func198 (by kernel_rfl) (by kernel_rfl)
theorem e199 : FnE (199, c199) := fnE Tryz.func199 (by kernel_rfl) (by kernel_rfl)
theorem e200 : FnE (200, c200) := fnE Tryz.func200 (by kernel_rfl) (by kernel_rfl)
theorem e231 : FnE (231, c231) := fnE Tryz.func231 (by kernel_rfl) (by kernel_rfl)
theorem e297 : FnE (297, c297) := fnE Tryz.func297 (by kernel_rfl) (by kernel_rfl)
def fsL : List (Nat × CF) := [(3, c3), (5, c5), (6, c6), (7, c7), (8, c8), (9, c9), (10, c10), (15, c15), (16, c16), (17, c17), (18, c18), (19, c19), (20, c20), (21, c21), (22, c22), (23, c23), (24, c24), (25, c25), (26, c26), (27, c27), (28, c28), (32, c32), (33, c33), (34, c34), (35, c35), (36, c36), (37, c37), (38, c38), (39, c39), (40, c40), (41, c41), (42, c42), (43, c43), (44, c44), (60, c60), (62, c62), (63, c63), (64, c64), (65, c65), (66, c66), (67, c67), (68, c68), (69, c69), (70, c70), (71, c71), (72, c72), (73, c73), (74, c74), (75, c75), (79, c79), (81, c81), (82, c82), (86, c86), (106, c106), (107, c107), (108, c108), (115, c115), (116, c116), (117, c117), (118, c118), (119, c119), (120, c120), (121, c121), (122, c122), (123, c123), (124, c124), (125, c125), (126, c126), (127, c127), (128, c128), (132, c132), (133, c133), (136, c136), (159, c159), (160, c160), (161, c161), (162, c162), (163, c163), (164, c164), (165, c165), (166, c166), (167, c167), (168, c168), (169, c169), (171, c171), (196, c196), (197, c197), (198, c198), (199, c199), (200, c200), (229, c229), (231, c231), (297, c297), (298, c298), (299, c299)]
def fs : T CF := tabL fsL
theorem fs_ok : ∀ x ∈ fsL, FnE x := by
  unfold fsL
  exact List.forall_mem_cons.2 ⟨e3, List.forall_mem_cons.2 ⟨e5, List.forall_mem_cons.2 ⟨e6, List.forall_mem_cons.2 ⟨e7, List.forall_mem_cons.2 ⟨e8, List.forall_mem_cons.2 ⟨e9, List.forall_mem_cons.2 ⟨e10, List.forall_mem_cons.2 ⟨e15, List.forall_mem_cons.2 ⟨e16, List.forall_mem_cons.2 ⟨e17, List.forall_mem_cons.2 ⟨e18, List.forall_mem_cons.2 ⟨e19, List.forall_mem_cons.2 ⟨e20, List.forall_mem_cons.2 ⟨e21, List.forall_mem_cons.2 ⟨e22, List.forall_mem_cons.2 ⟨e23, List.forall_mem_cons.2 ⟨e24, List.forall_mem_cons.2 ⟨e25, List.forall_mem_cons.2 ⟨e26, List.forall_mem_cons.2 ⟨e27, List.forall_mem_cons.2 ⟨e28, List.forall_mem_cons.2 ⟨e32, List.forall_mem_cons.2 ⟨e33, List.forall_mem_cons.2 ⟨e34, List.forall_mem_cons.2 ⟨e35, List.forall_mem_cons.2 ⟨e36, List.forall_mem_cons.2 ⟨e37, List.forall_mem_cons.2 ⟨e38, List.forall_mem_cons.2 ⟨e39, List.forall_mem_cons.2 ⟨e40, List.forall_mem_cons.2 ⟨e41, List.forall_mem_cons.2 ⟨e42, List.forall_mem_cons.2 ⟨e43, List.forall_mem_cons.2 ⟨e44, List.forall_mem_cons.2 ⟨e60, List.forall_mem_cons.2 ⟨e62, List.forall_mem_cons.2 ⟨e63, List.forall_mem_cons.2 ⟨e64, List.forall_mem_cons.2 ⟨e65, List.forall_mem_cons.2 ⟨e66, List.forall_mem_cons.2 ⟨e67, List.forall_mem_cons.2 ⟨e68, List.forall_mem_cons.2 ⟨e69, List.forall_mem_cons.2 ⟨e70, List.forall_mem_cons.2 ⟨e71, List.forall_mem_cons.2 ⟨e72, List.forall_mem_cons.2 ⟨e73, List.forall_mem_cons.2 ⟨e74, List.forall_mem_cons.2 ⟨e75, List.forall_mem_cons.2 ⟨e79, List.forall_mem_cons.2 ⟨e81, List.forall_mem_cons.2 ⟨e82, List.forall_mem_cons.2 ⟨e86, List.forall_mem_cons.2 ⟨e106, List.forall_mem_cons.2 ⟨e107, List.forall_mem_cons.2 ⟨e108, List.forall_mem_cons.2 ⟨e115, List.forall_mem_cons.2 ⟨e116, List.forall_mem_cons.2 ⟨e117, List.forall_mem_cons.2 ⟨e118, List.forall_mem_cons.2 ⟨e119, List.forall_mem_cons.2 ⟨e120, List.forall_mem_cons.2 ⟨e121, List.forall_mem_cons.2 ⟨e122, List.forall_mem_cons.2 ⟨e123, List.forall_mem_cons.2 ⟨e124, List.forall_mem_cons.2 ⟨e125, List.forall_mem_cons.2 ⟨e126, List.forall_mem_cons.2 ⟨e127, List.forall_mem_cons.2 ⟨e128, List.forall_mem_cons.2 ⟨e132, List.forall_mem_cons.2 ⟨e133, List.forall_mem_cons.2 ⟨e136, List.forall_mem_cons.2 ⟨e159, List.forall_mem_cons.2 ⟨e160, List.forall_mem_cons.2 ⟨e161, List.forall_mem_cons.2 ⟨e162, List.forall_mem_cons.2 ⟨e163, List.forall_mem_cons.2 ⟨e164, List.forall_mem_cons.2 ⟨e165, List.forall_mem_cons.2 ⟨e166, List.forall_mem_cons.2 ⟨e167, List.forall_mem_cons.2 ⟨e168, List.forall_mem_cons.2 ⟨e169, List.forall_mem_cons.2 ⟨e171, List.forall_mem_cons.2 ⟨e196, List.forall_mem_cons.2 ⟨e197, List.forall_mem_cons.2 ⟨e198, List.forall_mem_cons.2 ⟨e199, List.forall_mem_cons.2 ⟨e200, List.forall_mem_cons.2 ⟨e229, List.forall_mem_cons.2 ⟨e231, List.forall_mem_cons.2 ⟨e297, List.forall_mem_cons.2 ⟨e298, List.forall_mem_cons.2 ⟨e299, fun _ h => (by cases h)⟩⟩⟩⟩⟩⟩⟩⟩⟩⟩⟩⟩⟩⟩⟩⟩⟩⟩⟩⟩⟩⟩⟩⟩⟩⟩⟩⟩⟩⟩⟩⟩⟩⟩⟩⟩⟩⟩⟩⟩⟩⟩⟩⟩⟩⟩⟩⟩⟩⟩⟩⟩⟩⟩⟩⟩⟩⟩⟩⟩⟩⟩⟩⟩⟩⟩⟩⟩⟩⟩⟩⟩⟩⟩⟩⟩⟩⟩⟩⟩⟩⟩⟩⟩⟩⟩⟩⟩⟩⟩⟩⟩⟩⟩⟩
theorem fs_get (f : Nat) (cf : CF) (h : fs.get f = some cf) : ∃ fn, Tryz.prog.funcs[f]? = some fn ∧ fn.name ≠ "runtime.NumGoroutine" ∧ fn.body.isSome = true ∧ cf = compF Tryz.prog fn := fs_ok (f, cf) (tabL_get h)
end
end Go.AI
