/- Equations in bundles; the code of the functions that are walked; functions on a text of four letters, paths, Members, the set of 4097 Members, and the law's own loop, walked: proved without conditions but those that each names. -/
import Derived.Test.YtlnelphabohehaaGreatDoorP7
import Derived.Test.YtlnelphabohehaaGreatDoorProg
set_option maxRecDepth 1000000
set_option maxHeartbeats 0
set_option linter.unusedVariables false
set_option linter.unusedSimpArgs false
namespace Go.AI
open Go
noncomputable section
section
open Go N8
/-! where simp is to look: at what decides alone -/
theorem cgr_thenR {r r' : Res} (h : r = r') (k : TM → Heap → X → Res) : thenR r k = thenR r' k := by rw [h]
theorem cgr_goOn {r r' : OR} (h : r = r') (n : TM → Heap → X → Res) (d : SetF) (c : Ctx) (tm : TM) (H : Heap) (x : X) : goOn n d c tm H x r = goOn n d c tm H x r' := by rw [h]
theorem cgr_onCR {r r' : CR} (h : r = r') (n : TM → Heap → X → Res) (d : SetF) (tm : TM) (x : X) : onCR n d tm x r = onCR n d tm x r' := by rw [h]
theorem cgr_isBn {v v' : AV} (h : v = v') (k : Bool → Res) : isBn v k = isBn v' k := by rw [h]
theorem cgr_guardK {v v' : AV} (h : v = v') (b : Bool) (yes no : Res) : guardK v b yes no = guardK v' b yes no := by rw [h]
theorem cgr_condK {v v' : Bool} (h : v = v') (a b : TM → Heap → X → Res) (tm : TM) (H : Heap) (x : X) : condK a b v tm H x = condK a b v' tm H x := by rw [h]
theorem cgr_leaveB {r r' : Res} (h : r = r') (i : Nat) : leaveB i r = leaveB i r' := by rw [h]
theorem cgr_outF {r r' : Res} (h : r = r') (dc : Option AV → Nat → List AV → Heap → DR) (rs : List (EvF × Option (Nat × Bool))) : outF dc rs r = outF dc rs r' := by rw [h]
theorem cgr_freeK {r r' : OR} (h : r = r') (p : PI) (nx : PK) (rs : List RD) (tm : TM) (H : Heap) (x : X) : freeK p nx rs tm H x r = freeK p nx rs tm H x r' := by rw [h]
theorem cgr_readK {r r' : OR} (h : r = r') (p : PI) (nx : PK) (rs : List RD) (tm : TM) (H : Heap) (x : X) : readK p nx rs tm H x r = readK p nx rs tm H x r' := by rw [h]
theorem cgr_effK {r r' : OR} (h : r = r') (ds : List SetF) (p : PI) (nx : PK) (rs : List RD) (c : Ctx) (tm : TM) (x : X) : effK ds p nx rs c tm x r = effK ds p nx rs c tm x r' := by rw [h]
theorem cgr_retK {r r' : CR} (h : r = r') (ds : List SetF) (p : PI) (nx : PK) (rs : List RD) (tm : TM) (x : X) : retK ds p nx rs tm x r = retK ds p nx rs tm x r' := by rw [h]
attribute [congr] cgr_thenR cgr_goOn cgr_onCR cgr_isBn cgr_guardK cgr_condK cgr_leaveB cgr_outF cgr_freeK cgr_readK cgr_effK cgr_retK
theorem TB0 : (∀ tm : TM, gt0 tm = a0 (a0 (a0 tm)) ∧ gt1 tm = a1 (a0 (a0 tm)) ∧ gt2 tm = a2 (a0 (a0 tm)) ∧ gt3 tm = a3 (a0 (a0 tm)) ∧ gt4 tm = a4 (a0 (a0 tm)) ∧ gt5 tm = a5 (a0 (a0 tm)) ∧ gt6 tm = a6 (a0 (a0 tm)) ∧ gt7 tm = a7 (a0 (a0 tm)) ∧ gt8 tm = a0 (a1 (a0 tm)) ∧ gt9 tm = a1 (a1 (a0 tm)) ∧ gt10 tm = a2 (a1 (a0 tm)) ∧ gt11 tm = a3 (a1 (a0 tm)) ∧ gt12 tm = a4 (a1 (a0 tm)) ∧ gt13 tm = a5 (a1 (a0 tm)) ∧ gt14 tm = a6 (a1 (a0 tm)) ∧ gt15 tm = a7 (a1 (a0 tm)) ∧ gt16 tm = a0 (a2 (a0 tm)) ∧ gt17 tm = a1 (a2 (a0 tm)) ∧ gt18 tm = a2 (a2 (a0 tm)) ∧ gt19 tm = a3 (a2 (a0 tm)) ∧ gt20 tm = a4 (a2 (a0 tm)) ∧ gt21 tm = a5 (a2 (a0 tm)) ∧ gt22 tm = a6 (a2 (a0 tm)) ∧ gt23 tm = a7 (a2 (a0 tm)) ∧ gt24 tm = a0 (a3 (a0 tm)) ∧ gt25 tm = a1 (a3 (a0 tm)) ∧ gt26 tm = a2 (a3 (a0 tm)) ∧ gt27 tm = a3 (a3 (a0 tm)) ∧ gt28 tm = a4 (a3 (a0 tm)) ∧ gt29 tm = a5 (a3 (a0 tm)) ∧ gt30 tm = a6 (a3 (a0 tm)) ∧ gt31 tm = a7 (a3 (a0 tm))) ∧ (∀ (tm : TM) (v : AV), st0 tm v = u0 (u0 (u0 fun _ => v)) tm ∧ st1 tm v = u0 (u0 (u1 fun _ => v)) tm ∧ st2 tm v = u0 (u0 (u2 fun _ => v)) tm ∧ st3 tm v = u0 (u0 (u3 fun _ => v)) tm ∧ st4 tm v = u0 (u0 (u4 fun _ => v)) tm ∧ st5 tm v = u0 (u0 (u5 fun _ => v)) tm ∧ st6 tm v = u0 (u0 (u6 fun _ => v)) tm ∧ st7 tm v = u0 (u0 (u7 fun _ => v)) tm ∧ st8 tm v = u0 (u1 (u0 fun _ => v)) tm ∧ st9 tm v = u0 (u1 (u1 fun _ => v)) tm ∧ st10 tm v = u0 (u1 (u2 fun _ => v)) tm ∧ st11 tm v = u0 (u1 (u3 fun _ => v)) tm ∧ st12 tm v = u0 (u1 (u4 fun _ => v)) tm ∧ st13 tm v = u0 (u1 (u5 fun _ => v)) tm ∧ st14 tm v = u0 (u1 (u6 fun _ => v)) tm ∧ st15 tm v = u0 (u1 (u7 fun _ => v)) tm ∧ st16 tm v = u0 (u2 (u0 fun _ => v)) tm ∧ st17 tm v = u0 (u2 (u1 fun _ => v)) tm ∧ st18 tm v = u0 (u2 (u2 fun _ => v)) tm ∧ st19 tm v = u0 (u2 (u3 fun _ => v)) tm ∧ st20 tm v = u0 (u2 (u4 fun _ => v)) tm ∧ st21 tm v = u0 (u2 (u5 fun _ => v)) tm ∧ st22 tm v = u0 (u2 (u6 fun _ => v)) tm ∧ st23 tm v = u0 (u2 (u7 fun _ => v)) tm ∧ st24 tm v = u0 (u3 (u0 fun _ => v)) tm ∧ st25 tm v = u0 (u3 (u1 fun _ => v)) tm ∧ st26 tm v = u0 (u3 (u2 fun _ => v)) tm ∧ st27 tm v = u0 (u3 (u3 fun _ => v)) tm ∧ st28 tm v = u0 (u3 (u4 fun _ => v)) tm ∧ st29 tm v = u0 (u3 (u5 fun _ => v)) tm ∧ st30 tm v = u0 (u3 (u6 fun _ => v)) tm ∧ st31 tm v = u0 (u3 (u7 fun _ => v)) tm) := ⟨fun _ => ⟨rfl, rfl, rfl, rfl, rfl, rfl, rfl, rfl, rfl, rfl, rfl, rfl, rfl, rfl, rfl, rfl, rfl, rfl, rfl, rfl, rfl, rfl, rfl, rfl, rfl, rfl, rfl, rfl, rfl, rfl, rfl, rfl⟩, fun _ _ => ⟨rfl, rfl, rfl, rfl, rfl, rfl, rfl, rfl, rfl, rfl, rfl, rfl, rfl, rfl, rfl, rfl, rfl, rfl, rfl, rfl, rfl, rfl, rfl, rfl, rfl, rfl, rfl, rfl, rfl, rfl, rfl, rfl⟩⟩
theorem TB1 : (∀ tm : TM, gt32 tm = a0 (a4 (a0 tm)) ∧ gt33 tm = a1 (a4 (a0 tm)) ∧ gt34 tm = a2 (a4 (a0 tm)) ∧ gt35 tm = a3 (a4 (a0 tm)) ∧ gt36 tm = a4 (a4 (a0 tm)) ∧ gt37 tm = a5 (a4 (a0 tm)) ∧ gt38 tm = a6 (a4 (a0 tm)) ∧ gt39 tm = a7 (a4 (a0 tm)) ∧ gt40 tm = a0 (a5 (a0 tm)) ∧ gt41 tm = a1 (a5 (a0 tm)) ∧ gt42 tm = a2 (a5 (a0 tm)) ∧ gt43 tm = a3 (a5 (a0 tm)) ∧ gt44 tm = a4 (a5 (a0 tm)) ∧ gt45 tm = a5 (a5 (a0 tm)) ∧ gt46 tm = a6 (a5 (a0 tm)) ∧ gt47 tm = a7 (a5 (a0 tm)) ∧ gt48 tm = a0 (a6 (a0 tm)) ∧ gt49 tm = a1 (a6 (a0 tm)) ∧ gt50 tm = a2 (a6 (a0 tm)) ∧ gt51 tm = a3 (a6 (a0 tm)) ∧ gt52 tm = a4 (a6 (a0 tm)) ∧ gt53 tm = a5 (a6 (a0 tm)) ∧ gt54 tm = a6 (a6 (a0 tm)) ∧ gt55 tm = a7 (a6 (a0 tm)) ∧ gt56 tm = a0 (a7 (a0 tm)) ∧ gt57 tm = a1 (a7 (a0 tm)) ∧ gt58 tm = a2 (a7 (a0 tm)) ∧ gt59 tm = a3 (a7 (a0 tm)) ∧ gt60 tm = a4 (a7 (a0 tm)) ∧ gt61 tm = a5 (a7 (a0 tm)) ∧ gt62 tm = a6 (a7 (a0 tm)) ∧ gt63 tm = a7 (a7 (a0 tm))) ∧ (∀ (tm : TM) (v : AV), st32 tm v = u0 (u4 (u0 fun _ => v)) tm ∧ st33 tm v = u0 (u4 (u1 fun _ => v)) tm ∧ st34 tm v = u0 (u4 (u2 fun _ => v)) tm ∧ st35 tm v = u0 (u4 (u3 fun _ => v)) tm ∧ st36 tm v = u0 (u4 (u4 fun _ => v)) tm ∧ st37 tm v = u0 (u4 (u5 fun _ => v)) tm ∧ st38 tm v = u0 (u4 (u6 fun _ => v)) tm ∧ st39 tm v = u0 (u4 (u7 fun _ => v)) tm ∧ st40 tm v = u0 (u5 (u0 fun _ => v)) tm ∧ st41 tm v = u0 (u5 (u1 fun _ => v)) tm ∧ st42 tm v = u0 (u5 (u2 fun _ => v)) tm ∧ st43 tm v = u0 (u5 (u3 fun _ => v)) tm ∧ st44 tm v = u0 (u5 (u4 fun _ => v)) tm ∧ st45 tm v = u0 (u5 (u5 fun _ => v)) tm ∧ st46 tm v = u0 (u5 (u6 fun _ => v)) tm ∧ st47 tm v = u0 (u5 (u7 fun _ => v)) tm ∧ st48 tm v = u0 (u6 (u0 fun _ => v)) tm ∧ st49 tm v = u0 (u6 (u1 fun _ => v)) tm ∧ st50 tm v = u0 (u6 (u2 fun _ => v)) tm ∧ st51 tm v = u0 (u6 (u3 fun _ => v)) tm ∧ st52 tm v = u0 (u6 (u4 fun _ => v)) tm ∧ st53 tm v = u0 (u6 (u5 fun _ => v)) tm ∧ st54 tm v = u0 (u6 (u6 fun _ => v)) tm ∧ st55 tm v = u0 (u6 (u7 fun _ => v)) tm ∧ st56 tm v = u0 (u7 (u0 fun _ => v)) tm ∧ st57 tm v = u0 (u7 (u1 fun _ => v)) tm ∧ st58 tm v = u0 (u7 (u2 fun _ => v)) tm ∧ st59 tm v = u0 (u7 (u3 fun _ => v)) tm ∧ st60 tm v = u0 (u7 (u4 fun _ => v)) tm ∧ st61 tm v = u0 (u7 (u5 fun _ => v)) tm ∧ st62 tm v = u0 (u7 (u6 fun _ => v)) tm ∧ st63 tm v = u0 (u7 (u7 fun _ => v)) tm) := ⟨fun _ => ⟨rfl, rfl, rfl, rfl, rfl, rfl, rfl, rfl, rfl, rfl, rfl, rfl, rfl, rfl, rfl, rfl, rfl, rfl, rfl, rfl, rfl, rfl, rfl, rfl, rfl, rfl, rfl, rfl, rfl, rfl, rfl, rfl⟩, fun _ _ => ⟨rfl, rfl, rfl, rfl, rfl, rfl, rfl, rfl, rfl, rfl, rfl, rfl, rfl, rfl, rfl, rfl, rfl, rfl, rfl, rfl, rfl, rfl, rfl, rfl, rfl, rfl, rfl, rfl, rfl, rfl, rfl, rfl⟩⟩
theorem TB2 : (∀ tm : TM, gt64 tm = a0 (a0 (a1 tm)) ∧ gt65 tm = a1 (a0 (a1 tm)) ∧ gt66 tm = a2 (a0 (a1 tm)) ∧ gt67 tm = a3 (a0 (a1 tm)) ∧ gt68 tm = a4 (a0 (a1 tm)) ∧ gt69 tm = a5 (a0 (a1 tm)) ∧ gt70 tm = a6 (a0 (a1 tm)) ∧ gt71 tm = a7 (a0 (a1 tm)) ∧ gt72 tm = a0 (a1 (a1 tm)) ∧ gt73 tm = a1 (a1 (a1 tm)) ∧ gt74 tm = a2 (a1 (a1 tm)) ∧ gt75 tm = a3 (a1 (a1 tm)) ∧ gt76 tm = a4 (a1 (a1 tm)) ∧ gt77 tm = a5 (a1 (a1 tm)) ∧ gt78 tm = a6 (a1 (a1 tm)) ∧ gt79 tm = a7 (a1 (a1 tm)) ∧ gt80 tm = a0 (a2 (a1 tm)) ∧ gt81 tm = a1 (a2 (a1 tm)) ∧ gt82 tm = a2 (a2 (a1 tm)) ∧ gt83 tm = a3 (a2 (a1 tm)) ∧ gt84 tm = a4 (a2 (a1 tm)) ∧ gt85 tm = a5 (a2 (a1 tm)) ∧ gt86 tm = a6 (a2 (a1 tm)) ∧ gt87 tm = a7 (a2 (a1 tm)) ∧ gt88 tm = a0 (a3 (a1 tm)) ∧ gt89 tm = a1 (a3 (a1 tm)) ∧ gt90 tm = a2 (a3 (a1 tm)) ∧ gt91 tm = a3 (a3 (a1 tm)) ∧ gt92 tm = a4 (a3 (a1 tm)) ∧ gt93 tm = a5 (a3 (a1 tm)) ∧ gt94 tm = a6 (a3 (a1 tm)) ∧ gt95 tm = a7 (a3 (a1 tm))) ∧ (∀ (tm : TM) (v : AV), st64 tm v = u1 (u0 (u0 fun _ => v)) tm ∧ st65 tm v = u1 (u0 (u1 fun _ => v)) tm ∧ st66 tm v = u1 (u0 (u2 fun _ => v)) tm ∧ st67 tm v = u1 (u0 (u3 fun _ => v)) tm ∧ st68 tm v = u1 (u0 (u4 fun _ => v)) tm ∧ st69 tm v = u1 (u0 (u5 fun _ => v)) tm ∧ st70 tm v = u1 (u0 (u6 fun _ => v)) tm ∧ st71 tm v = u1 (u0 (u7 fun _ => v)) tm ∧ st72 tm v = u1 (u1 (u0 fun _ => v)) tm ∧ st73 tm v = u1 (u1 (u1 fun _ => v)) tm ∧ st74 tm v = u1 (u1 (u2 fun _ => v)) tm ∧ st75 tm v = u1 (u1 (u3 fun _ => v)) tm ∧ st76 tm v = u1 (u1 (u4 fun _ => v)) tm ∧ st77 tm v = u1 (u1 (u5 fun _ => v)) tm ∧ st78 tm v = u1 (u1 (u6 fun _ => v)) tm ∧ st79 tm v = u1 (u1 (u7 fun _ => v)) tm ∧ st80 tm v = u1 (u2 (u0 fun _ => v)) tm ∧ st81 tm v = u1 (u2 (u1 fun _ => v)) tm ∧ st82 tm v = u1 (u2 (u2 fun _ => v)) tm ∧ st83 tm v = u1 (u2 (u3 fun _ => v)) tm ∧ st84 tm v = u1 (u2 (u4 fun _ => v)) tm ∧ st85 tm v = u1 (u2 (u5 fun _ => v)) tm ∧ st86 tm v = u1 (u2 (u6 fun _ => v)) tm ∧ st87 tm v = u1 (u2 (u7 fun _ => v)) tm ∧ st88 tm v = u1 (u3 (u0 fun _ => v)) tm ∧ st89 tm v = u1 (u3 (u1 fun _ => v)) tm ∧ st90 tm v = u1 (u3 (u2 fun _ => v)) tm ∧ st91 tm v = u1 (u3 (u3 fun _ => v)) tm ∧ st92 tm v = u1 (u3 (u4 fun _ => v)) tm ∧ st93 tm v = u1 (u3 (u5 fun _ => v)) tm ∧ st94 tm v = u1 (u3 (u6 fun _ => v)) tm ∧ st95 tm v = u1 (u3 (u7 fun _ => v)) tm) := ⟨fun _ => ⟨rfl, rfl, rfl, rfl, rfl, rfl, rfl, rfl, rfl, rfl, rfl, rfl, rfl, rfl, rfl, rfl, rfl, rfl, rfl, rfl, rfl, rfl, rfl, rfl, rfl, rfl, rfl, rfl, rfl, rfl, rfl, rfl⟩, fun _ _ => ⟨rfl, rfl, rfl, rfl, rfl, rfl, rfl, rfl, rfl, rfl, rfl, rfl, rfl, rfl, rfl, rfl, rfl, rfl, rfl, rfl, rfl, rfl, rfl, rfl, rfl, rfl, rfl, rfl, rfl, rfl, rfl, rfl⟩⟩
theorem TB3 : (∀ tm : TM, gt96 tm = a0 (a4 (a1 tm)) ∧ gt97 tm = a1 (a4 (a1 tm)) ∧ gt98 tm = a2 (a4 (a1 tm)) ∧ gt99 tm = a3 (a4 (a1 tm)) ∧ gt100 tm = a4 (a4 (a1 tm)) ∧ gt101 tm = a5 (a4 (a1 tm)) ∧ gt102 tm = a6 (a4 (a1 tm)) ∧ gt103 tm = a7 (a4 (a1 tm)) ∧ gt104 tm = a0 (a5 (a1 tm)) ∧ gt105 tm = a1 (a5 (a1 tm)) ∧ gt106 tm = a2 (a5 (a1 tm)) ∧ gt107 tm = a3 (a5 (a1 tm)) ∧ gt108 tm = a4 (a5 (a1 tm)) ∧ gt109 tm = a5 (a5 (a1 tm)) ∧ gt110 tm = a6 (a5 (a1 tm)) ∧ gt111 tm = a7 (a5 (a1 tm)) ∧ gt112 tm = a0 (a6 (a1 tm)) ∧ gt113 tm = a1 (a6 (a1 tm)) ∧ gt114 tm = a2 (a6 (a1 tm)) ∧ gt115 tm = a3 (a6 (a1 tm)) ∧ gt116 tm = a4 (a6 (a1 tm)) ∧ gt117 tm = a5 (a6 (a1 tm)) ∧ gt118 tm = a6 (a6 (a1 tm)) ∧ gt119 tm = a7 (a6 (a1 tm)) ∧ gt120 tm = a0 (a7 (a1 tm)) ∧ gt121 tm = a1 (a7 (a1 tm)) ∧ gt122 tm = a2 (a7 (a1 tm)) ∧ gt123 tm = a3 (a7 (a1 tm)) ∧ gt124 tm = a4 (a7 (a1 tm)) ∧ gt125 tm = a5 (a7 (a1 tm)) ∧ gt126 tm = a6 (a7 (a1 tm)) ∧ gt127 tm = a7 (a7 (a1 tm))) ∧ (∀ (tm : TM) (v : AV), st96 tm v = u1 (u4 (u0 fun _ => v)) tm ∧ st97 tm v = u1 (u4 (u1 fun _ => v)) tm ∧ st98 tm v = u1 (u4 (u2 fun _ => v)) tm ∧ st99 tm v = u1 (u4 (u3 fun _ => v)) tm ∧ st100 tm v = u1 (u4 (u4 fun _ => v)) tm ∧ st101 tm v = u1 (u4 (u5 fun _ => v)) tm ∧ st102 tm v = u1 (u4 (u6 fun _ => v)) tm ∧ st103 tm v = u1 (u4 (u7 fun _ => v)) tm ∧ st104 tm v = u1 (u5 (u0 fun _ => v)) tm ∧ st105 tm v = u1 (u5 (u1 fun _ => v)) tm ∧ st106 tm v = u1 (u5 (u2 fun _ => v)) tm ∧ st107 tm v = u1 (u5 (u3 fun _ => v)) tm ∧ st108 tm v = u1 (u5 (u4 fun _ => v)) tm ∧ st109 tm v = u1 (u5 (u5 fun _ => v)) tm ∧ st110 tm v = u1 (u5 (u6 fun _ => v)) tm ∧ st111 tm v = u1 (u5 (u7 fun _ => v)) tm ∧ st112 tm v = u1 (u6 (u0 fun _ => v)) tm ∧ st113 tm v = u1 (u6 (u1 fun _ => v)) tm ∧ st114 tm v = u1 (u6 (u2 fun _ => v)) tm ∧ st115 tm v = u1 (u6 (u3 fun _ => v)) tm ∧ st116 tm v = u1 (u6 (u4 fun _ => v)) tm ∧ st117 tm v = u1 (u6 (u5 fun _ => v)) tm ∧ st118 tm v = u1 (u6 (u6 fun _ => v)) tm ∧ st119 tm v = u1 (u6 (u7 fun _ => v)) tm ∧ st120 tm v = u1 (u7 (u0 fun _ => v)) tm ∧ st121 tm v = u1 (u7 (u1 fun _ => v)) tm ∧ st122 tm v = u1 (u7 (u2 fun _ => v)) tm ∧ st123 tm v = u1 (u7 (u3 fun _ => v)) tm ∧ st124 tm v = u1 (u7 (u4 fun _ => v)) tm ∧ st125 tm v = u1 (u7 (u5 fun _ => v)) tm ∧ st126 tm v = u1 (u7 (u6 fun _ => v)) tm ∧ st127 tm v = u1 (u7 (u7 fun _ => v)) tm) := ⟨fun _ => ⟨rfl, rfl, rfl, rfl, rfl, rfl, rfl, rfl, rfl, rfl, rfl, rfl, rfl, rfl, rfl, rfl, rfl, rfl, rfl, rfl, rfl, rfl, rfl, rfl, rfl, rfl, rfl, rfl, rfl, rfl, rfl, rfl⟩, fun _ _ => ⟨rfl, rfl, rfl, rfl, rfl, rfl, rfl, rfl, rfl, rfl, rfl, rfl, rfl, rfl, rfl, rfl, rfl, rfl, rfl, rfl, rfl, rfl, rfl, rfl, rfl, rfl, rfl, rfl, rfl, rfl, rfl, rfl⟩⟩
theorem TB5 : (∀ tm : TM, gt160 tm = a0 (a4 (a2 tm)) ∧ gt161 tm = a1 (a4 (a2 tm)) ∧ gt162 tm = a2 (a4 (a2 tm)) ∧ gt163 tm = a3 (a4 (a2 tm)) ∧ gt164 tm = a4 (a4 (a2 tm)) ∧ gt165 tm = a5 (a4 (a2 tm)) ∧ gt166 tm = a6 (a4 (a2 tm)) ∧ gt167 tm = a7 (a4 (a2 tm)) ∧ gt168 tm = a0 (a5 (a2 tm)) ∧ gt169 tm = a1 (a5 (a2 tm)) ∧ gt170 tm = a2 (a5 (a2 tm)) ∧ gt171 tm = a3 (a5 (a2 tm)) ∧ gt172 tm = a4 (a5 (a2 tm)) ∧ gt173 tm = a5 (a5 (a2 tm)) ∧ gt174 tm = a6 (a5 (a2 tm)) ∧ gt175 tm = a7 (a5 (a2 tm)) ∧ gt176 tm = a0 (a6 (a2 tm)) ∧ gt177 tm = a1 (a6 (a2 tm)) ∧ gt178 tm = a2 (a6 (a2 tm)) ∧ gt179 tm = a3 (a6 (a2 tm)) ∧ gt180 tm = a4 (a6 (a2 tm)) ∧ gt181 tm = a5 (a6 (a2 tm)) ∧ gt182 tm = a6 (a6 (a2 tm)) ∧ gt183 tm = a7 (a6 (a2 tm)) ∧ gt184 tm = a0 (a7 (a2 tm)) ∧ gt185 tm = a1 (a7 (a2 tm)) ∧ gt186 tm = a2 (a7 (a2 tm)) ∧ gt187 tm = a3 (a7 (a2 tm)) ∧ gt188 tm = a4 (a7 (a2 tm)) ∧ gt189 tm = a5 (a7 (a2 tm)) ∧ gt190 tm = a6 (a7 (a2 tm)) ∧ gt191 tm = a7 (a7 (a2 tm))) ∧ (∀ (tm : TM) (v : AV), st160 tm v = u2 (u4 (u0 fun _ => v)) tm ∧ st161 tm v = u2 (u4 (u1 fun _ => v)) tm ∧ st162 tm v = u2 (u4 (u2 fun _ => v)) tm ∧ st163 tm v = u2 (u4 (u3 fun _ => v)) tm ∧ st164 tm v = u2 (u4 (u4 fun _ => v)) tm ∧ st165 tm v = u2 (u4 (u5 fun _ => v)) tm ∧ st166 tm v = u2 (u4 (u6 fun _ => v)) tm ∧ st167 tm v = u2 (u4 (u7 fun _ => v)) tm ∧ st168 tm v = u2 (u5 (u0 fun _ => v)) tm ∧ st169 tm v = u2 (u5 (u1 fun _ => v)) tm ∧ st170 tm v = u2 (u5 (u2 fun _ => v)) tm ∧ st171 tm v = u2 (u5 (u3 fun _ => v)) tm ∧ st172 tm v = u2 (u5 (u4 fun _ => v)) tm ∧ st173 tm v = u2 (u5 (u5 fun _ => v)) tm ∧ st174 tm v = u2 (u5 (u6 fun _ => v)) tm ∧ st175 tm v = u2 (u5 (u7 fun _ => v)) tm ∧ st176 tm v = u2 (u6 (u0 fun _ => v)) tm ∧ st177 tm v = u2 (u6 (u1 fun _ => v)) tm ∧ st178 tm v = u2 (u6 (u2 fun _ => v)) tm ∧ st179 tm v = u2 (u6 (u3 fun _ => v)) tm ∧ st180 tm v = u2 (u6 (u4 fun _ => v)) tm ∧ st181 tm v = u2 (u6 (u5 fun _ => v)) tm ∧ st182 tm v = u2 (u6 (u6 fun _ => v)) tm ∧ st183 tm v = u2 (u6 (u7 fun _ => v)) tm ∧ st184 tm v = u2 (u7 (u0 fun _ => v)) tm ∧ st185 tm v = u2 (u7 (u1 fun _ => v)) tm ∧ st186 tm v = u2 (u7 (u2 fun _ => v)) tm ∧ st187 tm v = u2 (u7 (u3 fun _ => v)) tm ∧ st188 tm v = u2 (u7 (u4 fun _ => v)) tm ∧ st189 tm v = u2 (u7 (u5 fun _ => v)) tm ∧ st190 tm v = u2 (u7 (u6 fun _ => v)) tm ∧ st191 tm v = u2 (u7 (u7 fun _ => v)) tm) := ⟨fun _ => ⟨rfl, rfl, rfl, rfl, rfl, rfl, rfl, rfl, rfl, rfl, rfl, rfl, rfl, rfl, rfl, rfl, rfl, rfl, rfl, rfl, rfl, rfl, rfl, rfl, rfl, rfl, rfl, rfl, rfl, rfl, rfl, rfl⟩, fun _ _ => ⟨rfl, rfl, rfl, rfl, rfl, rfl, rfl, rfl, rfl, rfl, rfl, rfl, rfl, rfl, rfl, rfl, rfl, rfl, rfl, rfl, rfl, rfl, rfl, rfl, rfl, rfl, rfl, rfl, rfl, rfl, rfl, rfl⟩⟩
theorem TB6 : (∀ tm : TM, gt192 tm = a0 (a0 (a3 tm)) ∧ gt193 tm = a1 (a0 (a3 tm)) ∧ gt194 tm = a2 (a0 (a3 tm)) ∧ gt195 tm = a3 (a0 (a3 tm)) ∧ gt196 tm = a4 (a0 (a3 tm)) ∧ gt197 tm = a5 (a0 (a3 tm)) ∧ gt198 tm = a6 (a0 (a3 tm)) ∧ gt199 tm = a7 (a0 (a3 tm)) ∧ gt200 tm = a0 (a1 (a3 tm)) ∧ gt201 tm = a1 (a1 (a3 tm)) ∧ gt202 tm = a2 (a1 (a3 tm)) ∧ gt203 tm = a3 (a1 (a3 tm)) ∧ gt204 tm = a4 (a1 (a3 tm)) ∧ gt205 tm = a5 (a1 (a3 tm)) ∧ gt206 tm = a6 (a1 (a3 tm)) ∧ gt207 tm = a7 (a1 (a3 tm)) ∧ gt208 tm = a0 (a2 (a3 tm)) ∧ gt209 tm = a1 (a2 (a3 tm)) ∧ gt210 tm = a2 (a2 (a3 tm)) ∧ gt211 tm = a3 (a2 (a3 tm)) ∧ gt212 tm = a4 (a2 (a3 tm)) ∧ gt213 tm = a5 (a2 (a3 tm)) ∧ gt214 tm = a6 (a2 (a3 tm)) ∧ gt215 tm = a7 (a2 (a3 tm)) ∧ gt216 tm = a0 (a3 (a3 tm)) ∧ gt217 tm = a1 (a3 (a3 tm)) ∧ gt218 tm = a2 (a3 (a3 tm)) ∧ gt219 tm = a3 (a3 (a3 tm)) ∧ gt220 tm = a4 (a3 (a3 tm)) ∧ gt221 tm = a5 (a3 (a3 tm)) ∧ gt222 tm = a6 (a3 (a3 tm)) ∧ gt223 tm = a7 (a3 (a3 tm))) ∧ (∀ (tm : TM) (v : AV), st192 tm v = u3 (u0 (u0 fun _ => v)) tm ∧ st193 tm v = u3 (u0 (u1 fun _ => v)) tm ∧ st194 tm v = u3 (u0 (u2 fun _ => v)) tm ∧ st195 tm v = u3 (u0 (u3 fun _ => v)) tm ∧ st196 tm v = u3 (u0 (u4 fun _ => v)) tm ∧ st197 tm v = u3 (u0 (u5 fun _ => v)) tm ∧ st198 tm v = u3 (u0 (u6 fun _ => v)) tm ∧ st199 tm v = u3 (u0 (u7 fun _ => v)) tm ∧ st200 tm v = u3 (u1 (u0 fun _ => v)) tm ∧ st201 tm v = u3 (u1 (u1 fun _ => v)) tm ∧ st202 tm v = u3 (u1 (u2 fun _ => v)) tm ∧ st203 tm v = u3 (u1 (u3 fun _ => v)) tm ∧ st204 tm v = u3 (u1 (u4 fun _ => v)) tm ∧ st205 tm v = u3 (u1 (u5 fun _ => v)) tm ∧ st206 tm v = u3 (u1 (u6 fun _ => v)) tm ∧ st207 tm v = u3 (u1 (u7 fun _ => v)) tm ∧ st208 tm v = u3 (u2 (u0 fun _ => v)) tm ∧ st209 tm v = u3 (u2 (u1 fun _ => v)) tm ∧ st210 tm v = u3 (u2 (u2 fun _ => v)) tm ∧ st211 tm v = u3 (u2 (u3 fun _ => v)) tm ∧ st212 tm v = u3 (u2 (u4 fun _ => v)) tm ∧ st213 tm v = u3 (u2 (u5 fun _ => v)) tm ∧ st214 tm v = u3 (u2 (u6 fun _ => v)) tm ∧ st215 tm v = u3 (u2 (u7 fun _ => v)) tm ∧ st216 tm v = u3 (u3 (u0 fun _ => v)) tm ∧ st217 tm v = u3 (u3 (u1 fun _ => v)) tm ∧ st218 tm v = u3 (u3 (u2 fun _ => v)) tm ∧ st219 tm v = u3 (u3 (u3 fun _ => v)) tm ∧ st220 tm v = u3 (u3 (u4 fun _ => v)) tm ∧ st221 tm v = u3 (u3 (u5 fun _ => v)) tm ∧ st222 tm v = u3 (u3 (u6 fun _ => v)) tm ∧ st223 tm v = u3 (u3 (u7 fun _ => v)) tm) := ⟨fun _ => ⟨rfl, rfl, rfl, rfl, rfl, rfl, rfl, rfl, rfl, rfl, rfl, rfl, rfl, rfl, rfl, rfl, rfl, rfl, rfl, rfl, rfl, rfl, rfl, rfl, rfl, rfl, rfl, rfl, rfl, rfl, rfl, rfl⟩, fun _ _ => ⟨rfl, rfl, rfl, rfl, rfl, rfl, rfl, rfl, rfl, rfl, rfl, rfl, rfl, rfl, rfl, rfl, rfl, rfl, rfl, rfl, rfl, rfl, rfl, rfl, rfl, rfl, rfl, rfl, rfl, rfl, rfl, rfl⟩⟩
theorem TB7 : (∀ tm : TM, gt224 tm = a0 (a4 (a3 tm)) ∧ gt225 tm = a1 (a4 (a3 tm)) ∧ gt226 tm = a2 (a4 (a3 tm)) ∧ gt227 tm = a3 (a4 (a3 tm)) ∧ gt228 tm = a4 (a4 (a3 tm)) ∧ gt229 tm = a5 (a4 (a3 tm)) ∧ gt230 tm = a6 (a4 (a3 tm)) ∧ gt231 tm = a7 (a4 (a3 tm)) ∧ gt232 tm = a0 (a5 (a3 tm)) ∧ gt233 tm = a1 (a5 (a3 tm)) ∧ gt234 tm = a2 (a5 (a3 tm)) ∧ gt235 tm = a3 (a5 (a3 tm)) ∧ gt236 tm = a4 (a5 (a3 tm)) ∧ gt237 tm = a5 (a5 (a3 tm)) ∧ gt238 tm = a6 (a5 (a3 tm)) ∧ gt239 tm = a7 (a5 (a3 tm)) ∧ gt240 tm = a0 (a6 (a3 tm)) ∧ gt241 tm = a1 (a6 (a3 tm)) ∧ gt242 tm = a2 (a6 (a3 tm)) ∧ gt243 tm = a3 (a6 (a3 tm)) ∧ gt244 tm = a4 (a6 (a3 tm)) ∧ gt245 tm = a5 (a6 (a3 tm)) ∧ gt246 tm = a6 (a6 (a3 tm)) ∧ gt247 tm = a7 (a6 (a3 tm)) ∧ gt248 tm = a0 (a7 (a3 tm)) ∧ gt249 tm = a1 (a7 (a3 tm)) ∧ gt250 tm = a2 (a7 (a3 tm)) ∧ gt251 tm = a3 (a7 (a3 tm)) ∧ gt252 tm = a4 (a7 (a3 tm)) ∧ gt253 tm = a5 (a7 (a3 tm)) ∧ gt254 tm = a6 (a7 (a3 tm)) ∧ gt255 tm = a7 (a7 (a3 tm))) ∧ (∀ (tm : TM) (v : AV), st224 tm v = u3 (u4 (u0 fun _ => v)) tm ∧ st225 tm v = u3 (u4 (u1 fun _ => v)) tm ∧ st226 tm v = u3 (u4 (u2 fun _ => v)) tm ∧ st227 tm v = u3 (u4 (u3 fun _ => v)) tm ∧ st228 tm v = u3 (u4 (u4 fun _ => v)) tm ∧ st229 tm v = u3 (u4 (u5 fun _ => v)) tm ∧ st230 tm v = u3 (u4 (u6 fun _ => v)) tm ∧ st231 tm v = u3 (u4 (u7 fun _ => v)) tm ∧ st232 tm v = u3 (u5 (u0 fun _ => v)) tm ∧ st233 tm v = u3 (u5 (u1 fun _ => v)) tm ∧ st234 tm v = u3 (u5 (u2 fun _ => v)) tm ∧ st235 tm v = u3 (u5 (u3 fun _ => v)) tm ∧ st236 tm v = u3 (u5 (u4 fun _ => v)) tm ∧ st237 tm v = u3 (u5 (u5 fun _ => v)) tm ∧ st238 tm v = u3 (u5 (u6 fun _ => v)) tm ∧ st239 tm v = u3 (u5 (u7 fun _ => v)) tm ∧ st240 tm v = u3 (u6 (u0 fun _ => v)) tm ∧ st241 tm v = u3 (u6 (u1 fun _ => v)) tm ∧ st242 tm v = u3 (u6 (u2 fun _ => v)) tm ∧ st243 tm v = u3 (u6 (u3 fun _ => v)) tm ∧ st244 tm v = u3 (u6 (u4 fun _ => v)) tm ∧ st245 tm v = u3 (u6 (u5 fun _ => v)) tm ∧ st246 tm v = u3 (u6 (u6 fun _ => v)) tm ∧ st247 tm v = u3 (u6 (u7 fun _ => v)) tm ∧ st248 tm v = u3 (u7 (u0 fun _ => v)) tm ∧ st249 tm v = u3 (u7 (u1 fun _ => v)) tm ∧ st250 tm v = u3 (u7 (u2 fun _ => v)) tm ∧ st251 tm v = u3 (u7 (u3 fun _ => v)) tm ∧ st252 tm v = u3 (u7 (u4 fun _ => v)) tm ∧ st253 tm v = u3 (u7 (u5 fun _ => v)) tm ∧ st254 tm v = u3 (u7 (u6 fun _ => v)) tm ∧ st255 tm v = u3 (u7 (u7 fun _ => v)) tm) := ⟨fun _ => ⟨rfl, rfl, rfl, rfl, rfl, rfl, rfl, rfl, rfl, rfl, rfl, rfl, rfl, rfl, rfl, rfl, rfl, rfl, rfl, rfl, rfl, rfl, rfl, rfl, rfl, rfl, rfl, rfl, rfl, rfl, rfl, rfl⟩, fun _ _ => ⟨rfl, rfl, rfl, rfl, rfl, rfl, rfl, rfl, rfl, rfl, rfl, rfl, rfl, rfl, rfl, rfl, rfl, rfl, rfl, rfl, rfl, rfl, rfl, rfl, rfl, rfl, rfl, rfl, rfl, rfl, rfl, rfl⟩⟩
theorem TB8 : (∀ tm : TM, gt256 tm = a0 (a0 (a4 tm)) ∧ gt257 tm = a1 (a0 (a4 tm)) ∧ gt258 tm = a2 (a0 (a4 tm)) ∧ gt259 tm = a3 (a0 (a4 tm)) ∧ gt260 tm = a4 (a0 (a4 tm)) ∧ gt261 tm = a5 (a0 (a4 tm)) ∧ gt262 tm = a6 (a0 (a4 tm)) ∧ gt263 tm = a7 (a0 (a4 tm)) ∧ gt264 tm = a0 (a1 (a4 tm)) ∧ gt265 tm = a1 (a1 (a4 tm)) ∧ gt266 tm = a2 (a1 (a4 tm)) ∧ gt267 tm = a3 (a1 (a4 tm)) ∧ gt268 tm = a4 (a1 (a4 tm)) ∧ gt269 tm = a5 (a1 (a4 tm)) ∧ gt270 tm = a6 (a1 (a4 tm)) ∧ gt271 tm = a7 (a1 (a4 tm)) ∧ gt272 tm = a0 (a2 (a4 tm)) ∧ gt273 tm = a1 (a2 (a4 tm)) ∧ gt274 tm = a2 (a2 (a4 tm)) ∧ gt275 tm = a3 (a2 (a4 tm)) ∧ gt276 tm = a4 (a2 (a4 tm)) ∧ gt277 tm = a5 (a2 (a4 tm)) ∧ gt278 tm = a6 (a2 (a4 tm)) ∧ gt279 tm = a7 (a2 (a4 tm)) ∧ gt280 tm = a0 (a3 (a4 tm)) ∧ gt281 tm = a1 (a3 (a4 tm)) ∧ gt282 tm = a2 (a3 (a4 tm)) ∧ gt283 tm = a3 (a3 (a4 tm)) ∧ gt284 tm = a4 (a3 (a4 tm)) ∧ gt285 tm = a5 (a3 (a4 tm)) ∧ gt286 tm = a6 (a3 (a4 tm)) ∧ gt287 tm = a7 (a3 (a4 tm))) ∧ (∀ (tm : TM) (v : AV), st256 tm v = u4 (u0 (u0 fun _ => v)) tm ∧ st257 tm v = u4 (u0 (u1 fun _ => v)) tm ∧ st258 tm v = u4 (u0 (u2 fun _ => v)) tm ∧ st259 tm v = u4 (u0 (u3 fun _ => v)) tm ∧ st260 tm v = u4 (u0 (u4 fun _ => v)) tm ∧ st261 tm v = u4 (u0 (u5 fun _ => v)) tm ∧ st262 tm v = u4 (u0 (u6 fun _ => v)) tm ∧ st263 tm v = u4 (u0 (u7 fun _ => v)) tm ∧ st264 tm v = u4 (u1 (u0 fun _ => v)) tm ∧ st265 tm v = u4 (u1 (u1 fun _ => v)) tm ∧ st266 tm v = u4 (u1 (u2 fun _ => v)) tm ∧ st267 tm v = u4 (u1 (u3 fun _ => v)) tm ∧ st268 tm v = u4 (u1 (u4 fun _ => v)) tm ∧ st269 tm v = u4 (u1 (u5 fun _ => v)) tm ∧ st270 tm v = u4 (u1 (u6 fun _ => v)) tm ∧ st271 tm v = u4 (u1 (u7 fun _ => v)) tm ∧ st272 tm v = u4 (u2 (u0 fun _ => v)) tm ∧ st273 tm v = u4 (u2 (u1 fun _ => v)) tm ∧ st274 tm v = u4 (u2 (u2 fun _ => v)) tm ∧ st275 tm v = u4 (u2 (u3 fun _ => v)) tm ∧ st276 tm v = u4 (u2 (u4 fun _ => v)) tm ∧ st277 tm v = u4 (u2 (u5 fun _ => v)) tm ∧ st278 tm v = u4 (u2 (u6 fun _ => v)) tm ∧ st279 tm v = u4 (u2 (u7 fun _ => v)) tm ∧ st280 tm v = u4 (u3 (u0 fun _ => v)) tm ∧ st281 tm v = u4 (u3 (u1 fun _ => v)) tm ∧ st282 tm v = u4 (u3 (u2 fun _ => v)) tm ∧ st283 tm v = u4 (u3 (u3 fun _ => v)) tm ∧ st284 tm v = u4 (u3 (u4 fun _ => v)) tm ∧ st285 tm v = u4 (u3 (u5 fun _ => v)) tm ∧ st286 tm v = u4 (u3 (u6 fun _ => v)) tm ∧ st287 tm v = u4 (u3 (u7 fun _ => v)) tm) := ⟨fun _ => ⟨rfl, rfl, rfl, rfl, rfl, rfl, rfl, rfl, rfl, rfl, rfl, rfl, rfl, rfl, rfl, rfl, rfl, rfl, rfl, rfl, rfl, rfl, rfl, rfl, rfl, rfl, rfl, rfl, rfl, rfl, rfl, rfl⟩, fun _ _ => ⟨rfl, rfl, rfl, rfl, rfl, rfl, rfl, rfl, rfl, rfl, rfl, rfl, rfl, rfl, rfl, rfl, rfl, rfl, rfl, rfl, rfl, rfl, rfl, rfl, rfl, rfl, rfl, rfl, rfl, rfl, rfl, rfl⟩⟩
end

section
open Go.Proofs N8
def lit0 : List UInt8 := [48, 49, 50, 51, 52, 53, 54, 55, 56, 57, 97, 98, 99, 100, 101, 102]
def c9_l0 : D := (seqD (seqO (oCmp gt11 gt10 iltF strLt) st12 <| normD) (seqD (condD gt12 normD (exitD 0)) (seqD (blockD 1 (seqD (seqO (oMv gt11) st13 <| seqO (oIdxS gt9 gt11 9) st14 <| seqO (oLoad gt14 9) st15 <| seqO (oAlloc 40 [(.str []), (nI .i64 0), (nI .u32 0), (nI .u32 0), (nI .u32 0), (nI .i64 0), .nils, .nils, (.str [])]) st4 <| seqO (oMv gt13) st3 <| seqO (oStore gt4 gt15 9) d0 <| normD) (seqD (drawnD [⟨oLoad gt4 9, none, [(st4, gt4)], st16, .read, 0, 0⟩, ⟨oCallF 26 [gt16], none, [(st16, gt16)], st17, .eff, 1, 1⟩, ⟨oNot gt17, none, [(st17, gt17)], st18, .free, 2, 3⟩, ⟨oMv gt18, none, [(st18, gt18)], st19, .free, 3, 7⟩, ⟨oMv gt3, (some (gt19, false)), [(st3, gt3)], st20, .free, 4, 15⟩, ⟨oCmp gt20 (k (nI .i64 0)) igtF strGt, (some (gt19, false)), [(st20, gt20)], st21, .free, 5, 31⟩, ⟨oMv gt21, (some (gt19, false)), [(st21, gt21)], st22, .free, 6, 63⟩, ⟨oMv gt0, (some (gt22, true)), [(st0, gt0)], st23, .free, 7, 127⟩, ⟨oMv gt3, (some (gt22, true)), [(st3, gt3)], st24, .free, 8, 127⟩, ⟨oSub gt24 (k (nI .i64 1)), (some (gt22, true)), [(st24, gt24)], st25, .free, 9, 383⟩, ⟨oIdxS gt23 gt25 9, (some (gt22, true)), [(st23, gt23), (st25, gt25)], st26, .free, 10, 1023⟩, ⟨oOff gt26 0, (some (gt22, true)), [(st26, gt26)], st27, .free, 11, 2047⟩, ⟨oLoad1 gt27, (some (gt22, true)), [(st27, gt27)], st28, .read, 12, 4095⟩, ⟨oOff gt4 0, (some (gt22, true)), [(st4, gt4)], st29, .free, 13, 127⟩, ⟨oLoad1 gt29, (some (gt22, true)), [(st29, gt29)], st30, .read, 14, 8319⟩, ⟨oCmp gt28 gt30 igeF strGe, (some (gt22, true)), [(st28, gt28), (st30, gt30)], st31, .free, 15, 32767⟩, ⟨oPick gt22 gt31 (k (.bool false)), (some (gt19, false)), [(st22, gt22), (st31, gt31)], st32, .free, 16, 65535⟩, ⟨oPick gt19 (k (.bool true)) gt32, none, [(st19, gt19), (st32, gt32)], st33, .free, 17, 131071⟩]) (condD gt33 (seqD (seqO (oMv (k (nI .i64 1))) st2 <| normD) retD) normD)))) (seqO (oAddS gt11 (k (nI .i64 1))) st34 <| seqO (oMv gt34) st11 <| normD))))
def c9 : CF := ⟨[(gt2, none)], (seqD (seqO (oMv (k (nI .i64 0))) st2 <| normD) (seqD (seqD (seqO (oMv gt0) st5 <| seqO (oMv gt0) st6 <| seqO (oLenL gt6) st7 <| seqO (oMinMax false [gt7, (k (nI .i64 4096))]) st8 <| seqO (oSlice 9 gt5 none (some gt8) none) st9 <| seqO (oLenL gt9) st10 <| seqO (oMv (k (nI .i64 0))) st11 <| normD) (blockD 0 (loopD c9_l0))) (seqD (seqD (seqO (oMv gt0) st35 <| seqO (oLenL gt35) st36 <| seqO (oCmp gt36 (k (nI .i64 4096)) igtF strGt) st37 <| normD) (condD gt37 (seqD (seqO (oMv (k (nI .i64 42))) st2 <| normD) retD) normD)) (seqD (seqO (oMv (k (nI .i64 0))) st2 <| normD) retD))))⟩
def c26 : CF := ⟨[(gt2, none)], (seqD (seqO (oBox gt0 40) st1 <| seqO (oMv (k (.bool false))) st2 <| normD) (seqD (seqO (oOff gt1 0) st6 <| seqO (oLoad1 gt6) st7 <| seqO (oCallF 40 [gt7]) st8 <| seqO (oMv gt8) st5 <| seqO (oExtr gt5 0) st9 <| seqO (oExtr gt5 1) st10 <| seqO (oMv gt9) st3 <| seqO (oMv gt10) st4 <| normD) (seqD (seqO (oMv gt3) st11 <| seqO (oCmp gt11 (k (nI .i64 1)) igeF strGe) st12 <| seqO (oMv gt12) st13 <| seqG gt13 true (oMv gt3) st14 <| seqG gt13 true (oCmp gt14 (k (nI .i64 3)) ileF strLe) st15 <| seqO (oPick gt13 gt15 (k (.bool false))) st16 <| seqO (oMv gt16) st17 <| seqG gt17 true (oLoad gt1 9) st18 <| seqG gt17 true (oCallF 41 [gt18]) st19 <| seqO (oPick gt17 gt19 (k (.bool false))) st20 <| seqO (oMv gt20) st2 <| normD) retD)))⟩
def c40 : CF := ⟨[(gt2, none), (gt3, none)], (seqD (seqO (oMv (k (nI .i64 0))) st2 <| seqO (oMv (k (.str []))) st3 <| normD) (seqD (seqD (seqO (oMv gt0) st6 <| seqO (oEq gt6 (k (.str [46, 119, 104, 46, 46, 119, 104, 46, 116, 111, 99])) eqS false) st7 <| normD) (condD gt7 (seqD (seqO (oMv (k (nI .i64 4))) st2 <| seqO (oMv (k (.str []))) st3 <| normD) retD) normD)) (seqD (seqO (oMv gt0) st8 <| seqO (oCallF 69 [gt8]) st9 <| seqO (oMv gt9) st4 <| normD) (seqD (seqO (oMv gt4) st10 <| seqO (oCallF 70 [gt10]) st11 <| seqO (oMv gt11) st2 <| normD) (seqD (seqO (oMv gt0) st12 <| seqO (oMv gt4) st13 <| seqO (oCallF 71 [gt12, gt13]) st14 <| seqO (oMv gt14) st5 <| normD) (seqD (seqO (oLoad1 (k (.ptr 0 0))) st15 <| seqO (oMv gt2) st16 <| seqO (oLookup eqI .nilf false gt15 gt16) st17 <| seqO (oMv gt5) st18 <| seqO (oMv gt4) st19 <| seqO (oCall gt17 Tryz.prog [gt18, gt19]) st20 <| seqO (oMv gt20) st3 <| normD) (seqD (seqD (seqO (oMv gt3) st21 <| seqO (oCallF 72 [gt21]) st22 <| seqO (oNot gt22) st23 <| seqO (oMv gt23) st24 <| seqG gt24 false (oMv gt2) st25 <| seqG gt24 false (oEq gt25 (k (nI .i64 3)) eqI true) st26 <| seqG gt24 false (oMv gt26) st27 <| seqG gt27 true (oMv gt3) st28 <| seqG gt27 true (oEq gt28 (k (.str [])) eqS false) st29 <| seqG gt24 false (oPick gt27 gt29 (k (.bool false))) st30 <| seqO (oPick gt24 (k (.bool true)) gt30) st31 <| seqO (oMv gt31) st32 <| seqG gt32 false (oMv gt2) st33 <| seqG gt32 false (oEq gt33 (k (nI .i64 2)) eqI false) st34 <| seqG gt32 false (oMv gt34) st35 <| seqG gt35 true (oMv gt4) st36 <| seqG gt35 true (oSlStr gt36 (some (k (nI .i64 4))) none none) st37 <| seqG gt35 true (oCallF 73 [gt37]) st38 <| seqG gt35 true (oNot gt38) st39 <| seqG gt32 false (oPick gt35 gt39 (k (.bool false))) st40 <| seqO (oPick gt32 (k (.bool true)) gt40) st41 <| seqO (oMv gt41) st42 <| seqG gt42 false (oMv gt5) st43 <| seqG gt42 false (oEq gt43 (k (.str [47])) eqS false) st44 <| seqO (oPick gt42 (k (.bool true)) gt44) st45 <| normD) (condD gt45 (seqD (seqO (oMv (k (nI .i64 0))) st2 <| seqO (oMv (k (.str []))) st3 <| normD) retD) normD)) (seqD (seqO (oMv gt2) st46 <| seqO (oMv gt3) st47 <| seqO (oMv gt46) st2 <| seqO (oMv gt47) st3 <| normD) retD))))))))⟩
def c69 : CF := ⟨[(gt2, none)], (seqD (seqO (oMv (k (.str []))) st2 <| normD) (seqD (seqO (oMv gt0) st3 <| seqO (oMv gt0) st4 <| seqO (oCallF 123 [gt4, (k (nI .u8 47))]) st5 <| seqO (oAddS gt5 (k (nI .i64 1))) st6 <| seqO (oSlStr gt3 (some gt6) none none) st7 <| seqO (oMv gt7) st2 <| normD) retD))⟩
def c123 : CF := ⟨[(gt4, none)], (seqD (seqO (oMv (k (nI .i64 0))) st4 <| normD) (seqD (seqO (oMv gt0) st5 <| seqO (oMv gt1) st6 <| seqO (oCallF 165 [gt5, gt6]) st7 <| seqO (oMv gt7) st4 <| normD) retD))⟩
def c165_l0 : D := (seqD (seqD (seqO (oMv gt5) st9 <| seqO (oCmp gt9 (k (nI .i64 0)) igeF strGe) st10 <| normD) (condD gt10 normD (exitD 0))) (seqD (blockD 1 (seqD (seqO (oMv gt0) st13 <| seqO (oMv gt5) st14 <| seqO (oIdxStr gt13 gt14) st15 <| seqO (oMv gt1) st16 <| seqO (oEq gt15 gt16 eqI false) st17 <| normD) (condD gt17 (seqD (seqO (oMv gt5) st18 <| seqO (oMv gt18) st4 <| normD) retD) normD))) (seqO (oMv gt5) st11 <| seqO (oSub gt11 (k (nI .i64 1))) st12 <| seqO (oMv gt12) st5 <| normD)))
def c165 : CF := ⟨[(gt4, none)], (seqD (seqO (oMv (k (nI .i64 0))) st4 <| normD) (seqD (seqD (seqO (oMv gt0) st6 <| seqO (oLenS gt6) st7 <| seqO (oSub gt7 (k (nI .i64 1))) st8 <| seqO (oMv gt8) st5 <| normD) (blockD 0 (loopD c165_l0))) (seqD (seqO (oMv (k (.int .i64 (.negSucc 0)))) st4 <| normD) retD)))⟩
def c70 : CF := ⟨[(gt2, none)], (seqD (seqO (oMv (k (nI .i64 0))) st2 <| normD) (seqD (blockD 0 (seqD (seqO (oMv gt0) st4 <| seqO (oEq gt4 (k (.str [46, 119, 104, 46, 46, 119, 104, 46, 46, 111, 112, 113])) eqS false) st5 <| seqO (oMv gt5) st3 <| normD) (condD gt3 (seqD (seqO (oMv (k (nI .i64 3))) st2 <| normD) retD) (seqD (seqO (oMv gt0) st7 <| seqO (oCallF 44 [gt7, (k (.str [46, 119, 104, 46]))]) st8 <| seqO (oMv gt8) st6 <| normD) (condD gt6 (seqD (seqO (oMv (k (nI .i64 2))) st2 <| normD) retD) normD))))) (seqD (seqO (oMv (k (nI .i64 1))) st2 <| normD) retD)))⟩
def c44 : CF := ⟨[(gt4, none)], (seqD (seqO (oMv (k (.bool false))) st4 <| normD) (seqD (seqO (oMv gt0) st5 <| seqO (oMv gt1) st6 <| seqO (oCallF 82 [gt5, gt6]) st7 <| seqO (oMv gt7) st4 <| normD) retD))⟩
def c82 : CF := ⟨[(gt4, none)], (seqD (seqO (oMv (k (.bool false))) st4 <| normD) (seqD (seqO (oMv gt0) st5 <| seqO (oLenS gt5) st6 <| seqO (oMv gt1) st7 <| seqO (oLenS gt7) st8 <| seqO (oCmp gt6 gt8 igeF strGe) st9 <| seqO (oMv gt9) st10 <| seqG gt10 true (oMv gt0) st11 <| seqG gt10 true (oMv gt1) st12 <| seqG gt10 true (oLenS gt12) st13 <| seqG gt10 true (oSlStr gt11 none (some gt13) none) st14 <| seqG gt10 true (oMv gt1) st15 <| seqG gt10 true (oEq gt14 gt15 eqS false) st16 <| seqO (oPick gt10 gt16 (k (.bool false))) st17 <| seqO (oMv gt17) st4 <| normD) retD))⟩
def c71 : CF := ⟨[(gt4, none)], (seqD (seqO (oMv (k (.str []))) st4 <| normD) (seqD (seqO (oMv gt0) st5 <| seqO (oMv gt1) st6 <| seqO (oCallF 124 [gt5, gt6]) st7 <| seqO (oMv gt7) st4 <| normD) retD))⟩
def c124 : CF := ⟨[(gt4, none)], (seqD (seqO (oMv (k (.str []))) st4 <| normD) (seqD (seqD (seqO (oMv gt0) st5 <| seqO (oMv gt1) st6 <| seqO (oCallF 166 [gt5, gt6]) st7 <| normD) (condD gt7 (seqD (seqO (oMv gt0) st8 <| seqO (oMv gt0) st9 <| seqO (oLenS gt9) st10 <| seqO (oMv gt1) st11 <| seqO (oLenS gt11) st12 <| seqO (oSub gt10 gt12) st13 <| seqO (oSlStr gt8 none (some gt13) none) st14 <| seqO (oMv gt14) st4 <| normD) retD) normD)) (seqD (seqO (oMv gt0) st15 <| seqO (oMv gt15) st4 <| normD) retD)))⟩
def c166 : CF := ⟨[(gt4, none)], (seqD (seqO (oMv (k (.bool false))) st4 <| normD) (seqD (seqO (oMv gt0) st5 <| seqO (oLenS gt5) st6 <| seqO (oMv gt1) st7 <| seqO (oLenS gt7) st8 <| seqO (oCmp gt6 gt8 igeF strGe) st9 <| seqO (oMv gt9) st10 <| seqG gt10 true (oMv gt0) st11 <| seqG gt10 true (oMv gt0) st12 <| seqG gt10 true (oLenS gt12) st13 <| seqG gt10 true (oMv gt1) st14 <| seqG gt10 true (oLenS gt14) st15 <| seqG gt10 true (oSub gt13 gt15) st16 <| seqG gt10 true (oSlStr gt11 (some gt16) none none) st17 <| seqG gt10 true (oMv gt1) st18 <| seqG gt10 true (oEq gt17 gt18 eqS false) st19 <| seqO (oPick gt10 gt19 (k (.bool false))) st20 <| seqO (oMv gt20) st4 <| normD) retD))⟩
def c297 : CF := ⟨[(gt4, none)], (seqD (seqO (oMv (k (.str []))) st4 <| normD) (seqD (seqO (oMv gt0) st5 <| seqO (oMv gt1) st6 <| seqO (oAddS gt5 gt6) st7 <| seqO (oMv gt7) st4 <| normD) retD))⟩
def c72 : CF := ⟨[(gt2, none)], (seqD (seqO (oMv (k (.bool false))) st2 <| normD) (seqD (seqO (oMv gt0) st4 <| seqO (oCallF 125 [gt4]) st5 <| seqO (oMv gt5) st3 <| normD) (seqD (seqO (oMv gt0) st6 <| seqO (oLenS gt6) st7 <| seqO (oCmp gt7 (k (nI .i64 4080)) ileF strLe) st8 <| seqO (oMv gt8) st9 <| seqG gt9 true (oMv gt3) st10 <| seqG gt9 true (oLenL gt10) st11 <| seqG gt9 true (oCmp gt11 (k (nI .i64 255)) iltF strLt) st12 <| seqO (oPick gt9 gt12 (k (.bool false))) st13 <| seqO (oMv gt13) st14 <| seqG gt14 true (oMv gt3) st15 <| seqG gt14 true (oCallF 126 [gt15, (k (.func 127 [] []))]) st16 <| seqG gt14 true (oNot gt16) st17 <| seqO (oPick gt14 gt17 (k (.bool false))) st18 <| seqO (oMv gt18) st2 <| normD) retD)))⟩
def c125 : CF := ⟨[(gt2, none)], (seqD (seqO (oMv (k .nils)) st2 <| normD) (seqD (seqD (seqO (oMv gt0) st3 <| seqO (oEq gt3 (k (.str [])) eqS false) st4 <| normD) (condD gt4 (seqD (seqO (oMv (k .nils)) st2 <| normD) retD) normD)) (seqD (seqO (oMv gt0) st5 <| seqO (oCallF 167 [gt5, (k (.str [47]))]) st6 <| seqO (oMv gt6) st2 <| normD) retD)))⟩
def c167 : CF := ⟨[(gt4, none)], (seqD (seqO (oMv (k .nils)) st4 <| normD) (seqD (seqO (oMv gt0) st5 <| seqO (oMv gt1) st6 <| seqO (oCallF 198 [gt5, gt6, (k (nI .i64 0)), (k (.int .i64 (.negSucc 0)))]) st7 <| seqO (oMv gt7) st4 <| normD) retD))⟩
def c198_l0 : D := (seqD (seqD (seqO (oMv gt10) st34 <| seqO (oMv gt3) st35 <| seqO (oCmp gt34 gt35 iltF strLt) st36 <| normD) (condD gt36 normD (exitD 0))) (blockD 1 (seqD (seqO (oMv gt0) st37 <| seqO (oMv gt1) st38 <| seqO (oCallF 196 [gt37, gt38]) st39 <| seqO (oMv gt39) st11 <| normD) (seqD (seqD (seqO (oMv gt11) st40 <| seqO (oCmp gt40 (k (nI .i64 0)) iltF strLt) st41 <| normD) (condD gt41 (exitD 0) normD)) (seqD (seqO (oMv gt9) st42 <| seqO (oMv gt10) st43 <| seqO (oMv gt0) st44 <| seqO (oMv gt11) st45 <| seqO (oMv gt2) st46 <| seqO (oAddS gt45 gt46) st47 <| seqO (oSlStr gt44 none (some gt47) none) st48 <| seqO (oIdxS gt42 gt43 1) st49 <| seqO (oStore gt49 gt48 1) d0 <| normD) (seqD (seqO (oMv gt0) st50 <| seqO (oMv gt11) st51 <| seqO (oMv gt1) st52 <| seqO (oLenS gt52) st53 <| seqO (oAddS gt51 gt53) st54 <| seqO (oSlStr gt50 (some gt54) none none) st55 <| seqO (oMv gt55) st0 <| normD) (seqO (oMv gt10) st56 <| seqO (oAddS gt56 (k (nI .i64 1))) st57 <| seqO (oMv gt57) st10 <| normD)))))))
def c198 : CF := ⟨[(gt8, none)], (seqD (seqO (oMv (k .nils)) st8 <| normD) (seqD (seqD (seqO (oMv gt3) st12 <| seqO (oEq gt12 (k (nI .i64 0)) eqI false) st13 <| normD) (condD gt13 (seqD (seqO (oMv (k .nils)) st8 <| normD) retD) normD)) (seqD (seqD (seqO (oMv gt1) st14 <| seqO (oEq gt14 (k (.str [])) eqS false) st15 <| normD) (condD gt15 (seqD (seqO (oMv gt0) st16 <| seqO (oMv gt3) st17 <| seqO (oCallF 230 [gt16, gt17]) st18 <| seqO (oMv gt18) st8 <| normD) retD) normD)) (seqD (seqD (seqO (oMv gt3) st19 <| seqO (oCmp gt19 (k (nI .i64 0)) iltF strLt) st20 <| normD) (condD gt20 (seqO (oMv gt0) st21 <| seqO (oMv gt1) st22 <| seqO (oCallF 231 [gt21, gt22]) st23 <| seqO (oAddS gt23 (k (nI .i64 1))) st24 <| seqO (oMv gt24) st3 <| normD) normD)) (seqD (seqO (oMv gt3) st25 <| seqO (oMv gt0) st26 <| seqO (oLenS gt26) st27 <| seqO (oAddS gt27 (k (nI .i64 1))) st28 <| seqO (oMinMax false [gt25, gt28]) st29 <| seqO (oMv gt29) st3 <| normD) (seqD (seqO (oMv gt3) st30 <| seqO (oMkSlice 9 1 16 [(.str [])] gt30 gt30) st31 <| seqO (oMv gt31) st9 <| normD) (seqD (seqO (oMv gt3) st32 <| seqO (oSub gt32 (k (nI .i64 1))) st33 <| seqO (oMv gt33) st3 <| normD) (seqD (seqO (oMv (k (nI .i64 0))) st10 <| normD) (seqD (blockD 0 (loopD c198_l0)) (seqD (seqO (oMv gt9) st58 <| seqO (oMv gt10) st59 <| seqO (oMv gt0) st60 <| seqO (oIdxS gt58 gt59 1) st61 <| seqO (oStore gt61 gt60 1) d0 <| normD) (seqD (seqO (oMv gt9) st62 <| seqO (oMv gt10) st63 <| seqO (oAddS gt63 (k (nI .i64 1))) st64 <| seqO (oSlice 1 gt62 none (some gt64) none) st65 <| seqO (oMv gt65) st8 <| normD) retD)))))))))))⟩
def c231_l0 : D := (blockD 1 (seqD (seqO (oMv gt0) st20 <| seqO (oMv gt1) st21 <| seqO (oCallF 196 [gt20, gt21]) st22 <| seqO (oMv gt22) st6 <| normD) (seqD (seqD (seqO (oMv gt6) st23 <| seqO (oEq gt23 (k (.int .i64 (.negSucc 0))) eqI false) st24 <| normD) (condD gt24 (seqD (seqO (oMv gt5) st25 <| seqO (oMv gt25) st4 <| normD) retD) normD)) (seqD (seqO (oMv gt5) st26 <| seqO (oAddS gt26 (k (nI .i64 1))) st27 <| seqO (oMv gt27) st5 <| normD) (seqO (oMv gt0) st28 <| seqO (oMv gt6) st29 <| seqO (oMv gt1) st30 <| seqO (oLenS gt30) st31 <| seqO (oAddS gt29 gt31) st32 <| seqO (oSlStr gt28 (some gt32) none none) st33 <| seqO (oMv gt33) st0 <| normD)))))
def c231 : CF := ⟨[(gt4, none)], (seqD (seqO (oMv (k (nI .i64 0))) st4 <| normD) (seqD (seqD (seqO (oMv gt1) st7 <| seqO (oLenS gt7) st8 <| seqO (oEq gt8 (k (nI .i64 0)) eqI false) st9 <| normD) (condD gt9 (seqD (seqO (oMv gt0) st10 <| seqO (oCallF 250 [gt10]) st11 <| seqO (oAddS gt11 (k (nI .i64 1))) st12 <| seqO (oMv gt12) st4 <| normD) retD) normD)) (seqD (seqD (seqO (oMv gt1) st13 <| seqO (oLenS gt13) st14 <| seqO (oEq gt14 (k (nI .i64 1)) eqI false) st15 <| normD) (condD gt15 (seqD (seqO (oMv gt0) st16 <| seqO (oMv gt1) st17 <| seqO (oIdxStr gt17 (k (nI .i64 0))) st18 <| seqO (oCallF 252 [gt16, gt18]) st19 <| seqO (oMv gt19) st4 <| normD) retD) normD)) (seqD (seqO (oMv (k (nI .i64 0))) st5 <| normD) (blockD 0 (loopD c231_l0))))))⟩
def c126 : CF := ⟨[(gt4, none)], (seqD (seqO (oMv (k (.bool false))) st4 <| normD) (seqD (seqO (oMv gt0) st5 <| seqO (oMv gt1) st6 <| seqO (oCallF 168 [gt5, gt6]) st7 <| seqO (oCmp gt7 (k (nI .i64 0)) igeF strGe) st8 <| seqO (oMv gt8) st4 <| normD) retD))⟩
def c168_l0 : D := (seqD (seqO (oCmp gt8 gt7 iltF strLt) st9 <| normD) (seqD (condD gt9 normD (exitD 0)) (seqD (blockD 1 (seqD (seqO (oMv gt8) st10 <| seqO (oMv gt10) st5 <| normD) (seqD (seqO (oMv gt1) st11 <| seqO (oMv gt0) st12 <| seqO (oMv gt5) st13 <| seqO (oIdxS gt12 gt13 1) st14 <| seqO (oLoad1 gt14) st15 <| seqO (oCall gt11 Tryz.prog [gt15]) st16 <| normD) (condD gt16 (seqD (seqO (oMv gt5) st17 <| seqO (oMv gt17) st4 <| normD) retD) normD)))) (seqO (oAddS gt8 (k (nI .i64 1))) st18 <| seqO (oMv gt18) st8 <| normD))))
def c168 : CF := ⟨[(gt4, none)], (seqD (seqO (oMv (k (nI .i64 0))) st4 <| normD) (seqD (seqD (seqO (oMv gt0) st6 <| seqO (oLenL gt6) st7 <| seqO (oMv (k (nI .i64 0))) st8 <| normD) (blockD 0 (loopD c168_l0))) (seqD (seqO (oMv (k (.int .i64 (.negSucc 0)))) st4 <| normD) retD)))⟩
def c127 : CF := ⟨[(gt2, none)], (seqD (seqO (oMv (k (.bool false))) st2 <| normD) (seqD (seqO (oMv gt0) st3 <| seqO (oCallF 73 [gt3]) st4 <| seqO (oNot gt4) st5 <| seqO (oMv gt5) st2 <| normD) retD))⟩
def c73 : CF := ⟨[(gt2, none)], (seqD (seqO (oMv (k (.bool false))) st2 <| normD) (seqD (seqO (oMv gt0) st3 <| seqO (oEq gt3 (k (.str [])) eqS true) st4 <| seqO (oMv gt4) st5 <| seqG gt5 true (oMv gt0) st6 <| seqG gt5 true (oLenS gt6) st7 <| seqG gt5 true (oCmp gt7 (k (nI .i64 251)) ileF strLe) st8 <| seqO (oPick gt5 gt8 (k (.bool false))) st9 <| seqO (oMv gt9) st10 <| seqG gt10 true (oMv gt0) st11 <| seqG gt10 true (oEq gt11 (k (.str [46])) eqS true) st12 <| seqO (oPick gt10 gt12 (k (.bool false))) st13 <| seqO (oMv gt13) st14 <| seqG gt14 true (oMv gt0) st15 <| seqG gt14 true (oEq gt15 (k (.str [46, 46])) eqS true) st16 <| seqO (oPick gt14 gt16 (k (.bool false))) st17 <| seqO (oMv gt17) st18 <| seqG gt18 true (oMv gt0) st19 <| seqG gt18 true (oCallF 128 [gt19, (k (.str [47, 0]))]) st20 <| seqG gt18 true (oNot gt20) st21 <| seqO (oPick gt18 gt21 (k (.bool false))) st22 <| seqO (oMv gt22) st23 <| seqG gt23 true (oMv gt0) st24 <| seqG gt23 true (oCallF 44 [gt24, (k (.str [46, 119, 104, 46]))]) st25 <| seqG gt23 true (oNot gt25) st26 <| seqO (oPick gt23 gt26 (k (.bool false))) st27 <| seqO (oMv gt27) st2 <| normD) retD))⟩
def c128 : CF := ⟨[(gt4, none)], (seqD (seqO (oMv (k (.bool false))) st4 <| normD) (seqD (seqO (oMv gt0) st5 <| seqO (oMv gt1) st6 <| seqO (oCallF 169 [gt5, gt6]) st7 <| seqO (oCmp gt7 (k (nI .i64 0)) igeF strGe) st8 <| seqO (oMv gt8) st4 <| normD) retD))⟩
def c169_l0 : D := (seqD (seqD (seqO (oMv gt8) st33 <| seqO (oMv gt0) st34 <| seqO (oLenS gt34) st35 <| seqO (oCmp gt33 gt35 iltF strLt) st36 <| normD) (condD gt36 normD (exitD 0))) (seqD (blockD 1 (seqD (seqO (oMv gt0) st39 <| seqO (oMv gt8) st40 <| seqO (oIdxStr gt39 gt40) st41 <| seqO (oCallF 202 [gt6, gt41]) st42 <| normD) (condD gt42 (seqD (seqO (oMv gt8) st43 <| seqO (oMv gt43) st4 <| normD) retD) normD))) (seqO (oMv gt8) st37 <| seqO (oAddS gt37 (k (nI .i64 1))) st38 <| seqO (oMv gt38) st8 <| normD)))
def c169_l1 : D := (seqD (seqO (oNext gt45) st46 <| seqO (oExtr gt46 0) st47 <| normD) (seqD (condD gt47 normD (exitD 2)) (blockD 3 (seqD (seqO (oExtr gt46 1) st48 <| seqO (oExtr gt46 2) st49 <| seqO (oMv gt48) st9 <| seqO (oMv gt49) st10 <| normD) (seqD (seqO (oMv gt1) st50 <| seqO (oMv gt10) st51 <| seqO (oCallF 199 [gt50, gt51]) st52 <| seqO (oCmp gt52 (k (nI .i64 0)) igeF strGe) st53 <| normD) (condD gt53 (seqD (seqO (oMv gt9) st54 <| seqO (oMv gt54) st4 <| normD) retD) normD))))))
def c169 : CF := ⟨[(gt4, none)], (seqD (seqO (oMv (k (nI .i64 0))) st4 <| normD) (seqD (seqD (seqO (oMv gt1) st11 <| seqO (oEq gt11 (k (.str [])) eqS false) st12 <| normD) (condD gt12 (seqD (seqO (oMv (k (.int .i64 (.negSucc 0)))) st4 <| normD) retD) normD)) (seqD (seqD (seqO (oMv gt1) st13 <| seqO (oLenS gt13) st14 <| seqO (oEq gt14 (k (nI .i64 1)) eqI false) st15 <| normD) (condD gt15 (seqD (seqO (oMv gt1) st16 <| seqO (oIdxStr gt16 (k (nI .i64 0))) st17 <| seqO (oInt gt17 .i32) st18 <| seqO (oMv gt18) st5 <| normD) (seqD (seqD (seqO (oMv gt5) st19 <| seqO (oCmp gt19 (k (nI .i32 128)) igeF strGe) st20 <| normD) (condD gt20 (seqO (oMv (k (nI .i32 65533))) st5 <| normD) normD)) (seqD (seqO (oMv gt0) st21 <| seqO (oMv gt5) st22 <| seqO (oCallF 199 [gt21, gt22]) st23 <| seqO (oMv gt23) st4 <| normD) retD))) normD)) (seqD (seqD (seqO (oMv gt0) st24 <| seqO (oLenS gt24) st25 <| seqO (oCallF 200 [gt25]) st26 <| normD) (condD gt26 (seqD (seqO (oMv gt1) st28 <| seqO (oCallF 201 [gt28]) st29 <| seqO (oMv gt29) st27 <| seqO (oExtr gt27 0) st30 <| seqO (oExtr gt27 1) st31 <| seqO (oAlloc 296 [(.bool false), (.bool false), (.bool false), (.bool false), (.bool false), (.bool false), (.bool false), (.bool false), (.bool false), (.bool false), (.bool false), (.bool false), (.bool false), (.bool false), (.bool false), (.bool false), (.bool false), (.bool false), (.bool false), (.bool false), (.bool false), (.bool false), (.bool false), (.bool false), (.bool false), (.bool false), (.bool false), (.bool false), (.bool false), (.bool false), (.bool false), (.bool false), (.bool false), (.bool false), (.bool false), (.bool false), (.bool false), (.bool false), (.bool false), (.bool false), (.bool false), (.bool false), (.bool false), (.bool false), (.bool false), (.bool false), (.bool false), (.bool false), (.bool false), (.bool false), (.bool false), (.bool false), (.bool false), (.bool false), (.bool false), (.bool false), (.bool false), (.bool false), (.bool false), (.bool false), (.bool false), (.bool false), (.bool false), (.bool false), (.bool false), (.bool false), (.bool false), (.bool false), (.bool false), (.bool false), (.bool false), (.bool false), (.bool false), (.bool false), (.bool false), (.bool false), (.bool false), (.bool false), (.bool false), (.bool false), (.bool false), (.bool false), (.bool false), (.bool false), (.bool false), (.bool false), (.bool false), (.bool false), (.bool false), (.bool false), (.bool false), (.bool false), (.bool false), (.bool false), (.bool false), (.bool false), (.bool false), (.bool false), (.bool false), (.bool false), (.bool false), (.bool false), (.bool false), (.bool false), (.bool false), (.bool false), (.bool false), (.bool false), (.bool false), (.bool false), (.bool false), (.bool false), (.bool false), (.bool false), (.bool false), (.bool false), (.bool false), (.bool false), (.bool false), (.bool false), (.bool false), (.bool false), (.bool false), (.bool false), (.bool false), (.bool false), (.bool false), (.bool false), (.bool false), (.bool false), (.bool false), (.bool false), (.bool false), (.bool false), (.bool false), (.bool false), (.bool false), (.bool false), (.bool false), (.bool false), (.bool false), (.bool false), (.bool false), (.bool false), (.bool false), (.bool false), (.bool false), (.bool false), (.bool false), (.bool false), (.bool false), (.bool false), (.bool false), (.bool false), (.bool false), (.bool false), (.bool false), (.bool false), (.bool false), (.bool false), (.bool false), (.bool false), (.bool false), (.bool false), (.bool false), (.bool false), (.bool false), (.bool false), (.bool false), (.bool false), (.bool false), (.bool false), (.bool false), (.bool false), (.bool false), (.bool false), (.bool false), (.bool false), (.bool false), (.bool false), (.bool false), (.bool false), (.bool false), (.bool false), (.bool false), (.bool false), (.bool false), (.bool false), (.bool false), (.bool false), (.bool false), (.bool false), (.bool false), (.bool false), (.bool false), (.bool false), (.bool false), (.bool false), (.bool false), (.bool false), (.bool false), (.bool false), (.bool false), (.bool false), (.bool false), (.bool false), (.bool false), (.bool false), (.bool false), (.bool false), (.bool false), (.bool false), (.bool false), (.bool false), (.bool false), (.bool false), (.bool false), (.bool false), (.bool false), (.bool false), (.bool false), (.bool false), (.bool false), (.bool false), (.bool false), (.bool false), (.bool false), (.bool false), (.bool false), (.bool false), (.bool false), (.bool false), (.bool false), (.bool false), (.bool false), (.bool false), (.bool false), (.bool false), (.bool false), (.bool false), (.bool false), (.bool false), (.bool false), (.bool false), (.bool false), (.bool false), (.bool false), (.bool false), (.bool false), (.bool false), (.bool false), (.bool false), (.bool false), (.bool false), (.bool false), (.bool false)]) st6 <| seqO (oStore gt6 gt30 256) d0 <| seqO (oMv gt31) st7 <| normD) (seqD (seqO (oMv gt7) st32 <| normD) (condD gt32 (seqD (seqD (seqO (oMv (k (nI .i64 0))) st8 <| normD) (blockD 0 (loopD c169_l0))) (seqD (seqO (oMv (k (.int .i64 (.negSucc 0)))) st4 <| normD) retD)) normD))) normD)) (seqD (seqD (seqO (oMv gt0) st44 <| seqO (oRangeS gt44) st45 <| normD) (blockD 2 (loopD c169_l1))) (seqD (seqO (oMv (k (.int .i64 (.negSucc 0)))) st4 <| normD) retD))))))⟩
def c200 : CF := ⟨[(gt2, none)], (seqD (seqO (oMv (k (.bool false))) st2 <| normD) (seqD (seqO (oMv gt0) st3 <| seqO (oCmp gt3 (k (nI .i64 8)) igtF strGt) st4 <| seqO (oMv gt4) st2 <| normD) retD))⟩
def c199_l0 : D := (seqD (seqO (oNext gt175) st176 <| seqO (oExtr gt176 0) st177 <| normD) (seqD (condD gt177 normD (exitD 9)) (blockD 10 (seqD (seqO (oExtr gt176 1) st178 <| seqO (oExtr gt176 2) st179 <| seqO (oMv gt178) st5 <| seqO (oMv gt179) st6 <| normD) (seqD (seqO (oMv gt6) st180 <| seqO (oEq gt180 (k (nI .i32 65533)) eqI false) st181 <| normD) (condD gt181 (seqD (seqO (oMv gt5) st182 <| seqO (oMv gt182) st4 <| normD) retD) normD))))))
def c199_l1 : D := (seqD (seqD (seqO (oMv gt12) st48 <| seqO (oMv gt7) st49 <| seqO (oLenS gt49) st50 <| seqO (oCmp gt48 gt50 iltF strLt) st51 <| normD) (condD gt51 normD (exitD 3))) (seqD (blockD 4 (seqD (drawnD [⟨oMv gt0, none, [(st0, gt0)], st54, .free, 0, 0⟩, ⟨oMv gt9, none, [(st9, gt9)], st55, .free, 1, 0⟩, ⟨oMv gt12, none, [(st12, gt12)], st56, .free, 2, 0⟩, ⟨oSub gt55 gt56, none, [(st55, gt55), (st56, gt56)], st57, .free, 3, 6⟩, ⟨oIdxStr gt54 gt57, none, [(st54, gt54), (st57, gt57)], st58, .free, 4, 15⟩, ⟨oMv gt7, none, [(st7, gt7)], st59, .free, 5, 0⟩, ⟨oMv gt8, none, [(st8, gt8)], st60, .free, 6, 0⟩, ⟨oMv gt12, none, [(st12, gt12)], st61, .free, 7, 0⟩, ⟨oSub gt60 gt61, none, [(st60, gt60), (st61, gt61)], st62, .free, 8, 192⟩, ⟨oIdxStr gt59 gt62, none, [(st59, gt59), (st62, gt62)], st63, .free, 9, 480⟩, ⟨oEq gt58 gt63 eqI true, none, [(st58, gt58), (st63, gt63)], st64, .free, 10, 1023⟩]) (condD gt64 badD normD))) (seqO (oMv gt12) st52 <| seqO (oAddS gt52 (k (nI .i64 1))) st53 <| seqO (oMv gt53) st12 <| normD)))
def c199_l2 : D := (seqD (seqD (seqO (oMv gt9) st23 <| seqO (oMv gt0) st24 <| seqO (oLenS gt24) st25 <| seqO (oCmp gt23 gt25 iltF strLt) st26 <| normD) (condD gt26 normD (exitD 1))) (blockD 2 (seqD (seqD (drawnD [⟨oMv gt0, none, [(st0, gt0)], st27, .free, 0, 0⟩, ⟨oMv gt9, none, [(st9, gt9)], st28, .free, 1, 0⟩, ⟨oIdxStr gt27 gt28, none, [(st27, gt27), (st28, gt28)], st29, .free, 2, 3⟩, ⟨oMv gt7, none, [(st7, gt7)], st30, .free, 3, 0⟩, ⟨oMv gt8, none, [(st8, gt8)], st31, .free, 4, 0⟩, ⟨oIdxStr gt30 gt31, none, [(st30, gt30), (st31, gt31)], st32, .free, 5, 24⟩, ⟨oEq gt29 gt32 eqI true, none, [(st29, gt29), (st32, gt32)], st33, .free, 6, 63⟩]) (condD gt33 (seqD (drawnD [⟨oMv gt0, none, [(st0, gt0)], st34, .free, 0, 0⟩, ⟨oMv gt9, none, [(st9, gt9)], st35, .free, 1, 0⟩, ⟨oAddS gt35 (k (nI .i64 1)), none, [(st35, gt35)], st36, .free, 2, 2⟩, ⟨oSlStr gt34 (some gt36) none none, none, [(st34, gt34), (st36, gt36)], st37, .free, 3, 7⟩, ⟨oMv gt7, none, [(st7, gt7)], st38, .free, 4, 0⟩, ⟨oMv gt8, none, [(st8, gt8)], st39, .free, 5, 0⟩, ⟨oIdxStr gt38 gt39, none, [(st38, gt38), (st39, gt39)], st40, .free, 6, 48⟩, ⟨oCallF 86 [gt37, gt40], none, [(st37, gt37), (st40, gt40)], st41, .eff, 7, 127⟩, ⟨oMv gt41, none, [(st41, gt41)], st11, .eff, 8, 255⟩]) (seqD (seqD (seqO (oMv gt11) st42 <| seqO (oCmp gt42 (k (nI .i64 0)) iltF strLt) st43 <| normD) (condD gt43 (seqD (seqO (oMv (k (.int .i64 (.negSucc 0)))) st4 <| normD) retD) normD)) (seqO (oMv gt9) st44 <| seqO (oMv gt11) st45 <| seqO (oAddS gt45 (k (nI .i64 1))) st46 <| seqO (oAddS gt44 gt46) st47 <| seqO (oMv gt47) st9 <| normD))) normD)) (seqD (seqD (seqO (oMv (k (nI .i64 1))) st12 <| normD) (blockD 3 (loopD c199_l1))) (seqD (seqD (seqO (oMv gt9) st65 <| seqO (oMv gt8) st66 <| seqO (oSub gt65 gt66) st67 <| seqO (oMv gt67) st4 <| normD) retD) (seqD normD (seqD (seqO (oMv gt10) st68 <| seqO (oAddS gt68 (k (nI .i64 1))) st69 <| seqO (oMv gt69) st10 <| normD) (seqD (seqO (oMv gt9) st70 <| seqO (oAddS gt70 (k (nI .i64 1))) st71 <| seqO (oMv gt71) st9 <| normD) (seqD (seqO (oMv (k (.bool true))) st72 <| seqG gt72 true (oMv gt10) st73 <| seqG gt72 true (oMv gt9) st74 <| seqG gt72 true (oCallF 233 [gt74]) st75 <| seqG gt72 true (oCmp gt73 gt75 igtF strGt) st76 <| seqO (oPick gt72 gt76 (k (.bool false))) st77 <| seqO (oMv gt77) st78 <| seqG gt78 true (oMv gt9) st79 <| seqG gt78 true (oMv gt0) st80 <| seqG gt78 true (oLenS gt80) st81 <| seqG gt78 true (oCmp gt79 gt81 iltF strLt) st82 <| seqO (oPick gt78 gt82 (k (.bool false))) st83 <| seqO (oMv gt83) st84 <| seqG gt84 false (oMv (k (.bool false))) st85 <| seqG gt85 true (oMv gt10) st86 <| seqG gt85 true (oMv gt9) st87 <| seqG gt85 true (oShr gt87 (k (nI .u64 4))) st88 <| seqG gt85 true (oAddS (k (nI .i64 4)) gt88) st89 <| seqG gt85 true (oCmp gt86 gt89 igeF strGe) st90 <| seqG gt84 false (oPick gt85 gt90 (k (.bool false))) st91 <| seqG gt84 false (oMv gt91) st92 <| seqG gt92 true (oMv gt9) st93 <| seqG gt92 true (oMv gt0) st94 <| seqG gt92 true (oLenS gt94) st95 <| seqG gt92 true (oCmp gt93 gt95 iltF strLt) st96 <| seqG gt84 false (oPick gt92 gt96 (k (.bool false))) st97 <| seqO (oPick gt84 (k (.bool true)) gt97) st98 <| normD) (condD gt98 badD normD))))))))))
def c199_l3 : D := (seqD (seqD (seqO (oMv gt16) st140 <| seqO (oMv gt7) st141 <| seqO (oLenS gt141) st142 <| seqO (oCmp gt140 gt142 iltF strLt) st143 <| normD) (condD gt143 normD (exitD 7))) (seqD (blockD 8 (seqD (drawnD [⟨oMv gt0, none, [(st0, gt0)], st146, .free, 0, 0⟩, ⟨oMv gt9, none, [(st9, gt9)], st147, .free, 1, 0⟩, ⟨oMv gt16, none, [(st16, gt16)], st148, .free, 2, 0⟩, ⟨oSub gt147 gt148, none, [(st147, gt147), (st148, gt148)], st149, .free, 3, 6⟩, ⟨oIdxStr gt146 gt149, none, [(st146, gt146), (st149, gt149)], st150, .free, 4, 15⟩, ⟨oMv gt7, none, [(st7, gt7)], st151, .free, 5, 0⟩, ⟨oMv gt8, none, [(st8, gt8)], st152, .free, 6, 0⟩, ⟨oMv gt16, none, [(st16, gt16)], st153, .free, 7, 0⟩, ⟨oSub gt152 gt153, none, [(st152, gt152), (st153, gt153)], st154, .free, 8, 192⟩, ⟨oIdxStr gt151 gt154, none, [(st151, gt151), (st154, gt154)], st155, .free, 9, 480⟩, ⟨oEq gt150 gt155 eqI true, none, [(st150, gt150), (st155, gt155)], st156, .free, 10, 1023⟩]) (condD gt156 (exitD 6) normD))) (seqO (oMv gt16) st144 <| seqO (oAddS gt144 (k (nI .i64 1))) st145 <| seqO (oMv gt145) st16 <| normD)))
def c199_l4 : D := (seqD (seqD (seqO (oMv gt9) st121 <| seqO (oMv gt0) st122 <| seqO (oLenS gt122) st123 <| seqO (oCmp gt121 gt123 iltF strLt) st124 <| normD) (condD gt124 normD (exitD 5))) (seqD (blockD 6 (seqD (seqO (oMv gt0) st127 <| seqO (oMv gt9) st128 <| seqO (oIdxStr gt127 gt128) st129 <| seqO (oMv gt14) st130 <| seqO (oEq gt129 gt130 eqI false) st131 <| seqO (oMv gt131) st132 <| seqG gt132 true (oMv gt0) st133 <| seqG gt132 true (oMv gt9) st134 <| seqG gt132 true (oSub gt134 (k (nI .i64 1))) st135 <| seqG gt132 true (oIdxStr gt133 gt135) st136 <| seqG gt132 true (oMv gt15) st137 <| seqG gt132 true (oEq gt136 gt137 eqI false) st138 <| seqO (oPick gt132 gt138 (k (.bool false))) st139 <| normD) (condD gt139 (seqD (seqD (seqO (oMv (k (nI .i64 2))) st16 <| normD) (blockD 7 (loopD c199_l3))) (seqD (seqO (oMv gt9) st157 <| seqO (oMv gt8) st158 <| seqO (oSub gt157 gt158) st159 <| seqO (oMv gt159) st4 <| normD) retD)) normD))) (seqO (oMv gt9) st125 <| seqO (oAddS gt125 (k (nI .i64 1))) st126 <| seqO (oMv gt126) st9 <| normD)))
def c199 : CF := ⟨[(gt4, none)], (seqD (seqO (oMv (k (nI .i64 0))) st4 <| normD) (blockD 0 (seqD (seqO (oMv gt1) st161 <| seqO (oCmp (k (nI .i32 0)) gt161 ileF strLe) st162 <| seqO (oMv gt162) st163 <| seqG gt163 true (oMv gt1) st164 <| seqG gt163 true (oCmp gt164 (k (nI .i32 128)) iltF strLt) st165 <| seqO (oPick gt163 gt165 (k (.bool false))) st166 <| seqO (oMv gt166) st160 <| normD) (condD gt160 (seqD (seqO (oMv gt0) st167 <| seqO (oMv gt1) st168 <| seqO (oInt gt168 .u8) st169 <| seqO (oCallF 86 [gt167, gt169]) st170 <| seqO (oMv gt170) st4 <| normD) retD) (seqD (seqO (oMv gt1) st172 <| seqO (oEq gt172 (k (nI .i32 65533)) eqI false) st173 <| seqO (oMv gt173) st171 <| normD) (condD gt171 (seqD (seqD (seqO (oMv gt0) st174 <| seqO (oRangeS gt174) st175 <| normD) (blockD 9 (loopD c199_l0))) (seqD (seqO (oMv (k (.int .i64 (.negSucc 0)))) st4 <| normD) retD)) (seqD (seqO (oMv gt1) st184 <| seqO (oCallF 232 [gt184]) st185 <| seqO (oNot gt185) st186 <| seqO (oMv gt186) st183 <| normD) (condD gt183 (seqD (seqO (oMv (k (.int .i64 (.negSucc 0)))) st4 <| normD) retD) (seqD (seqO (oMv gt1) st17 <| seqO (oRune gt17) st18 <| seqO (oMv gt18) st7 <| normD) (seqD (seqO (oMv gt7) st19 <| seqO (oLenS gt19) st20 <| seqO (oSub gt20 (k (nI .i64 1))) st21 <| seqO (oMv gt21) st8 <| normD) (seqD (seqO (oMv gt8) st22 <| seqO (oMv gt22) st9 <| normD) (seqD (seqO (oMv (k (nI .i64 0))) st10 <| normD) (seqD (blockD 1 (loopD c199_l2)) (seqD (seqD (seqO (oMv (k (.int .i64 (.negSucc 0)))) st4 <| normD) retD) (seqD normD (seqD (condD (k (.bool true)) (seqD (seqO (oMv gt0) st99 <| seqO (oMv gt9) st100 <| seqO (oMv gt8) st101 <| seqO (oSub gt100 gt101) st102 <| seqO (oSlStr gt99 (some gt102) none none) st103 <| seqO (oMv gt1) st104 <| seqO (oRune gt104) st105 <| seqO (oCallF 234 [gt103, gt105]) st106 <| seqO (oMv gt106) st13 <| normD) (seqD (seqO (oMv gt13) st107 <| seqO (oCmp gt107 (k (nI .i64 0)) igeF strGe) st108 <| normD) (condD gt108 (seqD (seqO (oMv gt9) st109 <| seqO (oMv gt13) st110 <| seqO (oAddS gt109 gt110) st111 <| seqO (oMv gt8) st112 <| seqO (oSub gt111 gt112) st113 <| seqO (oMv gt113) st4 <| normD) retD) normD))) (seqD (seqO (oMv gt7) st114 <| seqO (oMv gt8) st115 <| seqO (oIdxStr gt114 gt115) st116 <| seqO (oMv gt116) st14 <| normD) (seqD (seqO (oMv gt7) st117 <| seqO (oMv gt8) st118 <| seqO (oSub gt118 (k (nI .i64 1))) st119 <| seqO (oIdxStr gt117 gt119) st120 <| seqO (oMv gt120) st15 <| normD) (seqD normD (blockD 5 (loopD c199_l4)))))) (seqD (seqO (oMv (k (.int .i64 (.negSucc 0)))) st4 <| normD) retD)))))))))))))))))⟩
def c86 : CF := ⟨[(gt4, none)], (seqD (seqO (oMv (k (nI .i64 0))) st4 <| normD) (seqD (seqO (oMv gt0) st5 <| seqO (oMv gt1) st6 <| seqO (oCallF 136 [gt5, gt6]) st7 <| seqO (oMv gt7) st4 <| normD) retD))⟩
def c136 : CF := ⟨[(gt4, none)], (seqD (seqO (oMv (k (nI .i64 0))) st4 <| normD) (seqD (seqO (oMv gt0) st5 <| seqO (oMv gt1) st6 <| seqO (oCallF 172 [gt5, gt6]) st7 <| seqO (oMv gt7) st4 <| normD) retD))⟩
def c41 : CF := ⟨[(gt2, none)], (seqD (seqO (oBox gt0 40) st1 <| seqO (oMv (k (.bool false))) st2 <| normD) (seqD (seqO (oOff gt1 0) st7 <| seqO (oLoad1 gt7) st8 <| seqO (oCallF 40 [gt8]) st9 <| seqO (oMv gt9) st6 <| seqO (oExtr gt6 0) st10 <| seqO (oExtr gt6 1) st11 <| seqO (oMv gt10) st3 <| seqO (oMv gt11) st4 <| normD) (seqD (seqO (oOff gt1 1) st12 <| seqO (oLoad gt12 8) st13 <| seqO (oAlloc 38 [(nI .i64 0), (nI .u32 0), (nI .u32 0), (nI .u32 0), (nI .i64 0), .nils, .nils, (.str [])]) st5 <| seqO (oStore gt5 gt13 8) d0 <| normD) (seqD (seqD (seqO (oMv gt3) st14 <| seqO (oEq gt14 (k (nI .i64 0)) eqI false) st15 <| seqO (oMv gt15) st16 <| seqG gt16 false (oLoad1 (k (.ptr 1 0))) st17 <| seqG gt16 false (oOff gt5 0) st18 <| seqG gt16 false (oLoad1 gt18) st19 <| seqG gt16 false (oLookup eqI (nI .u8 0) false gt17 gt19) st20 <| seqG gt16 false (oEq gt20 (k (nI .u8 0)) eqI false) st21 <| seqO (oPick gt16 (k (.bool true)) gt21) st22 <| seqO (oMv gt22) st23 <| seqG gt23 false (oOff gt5 1) st24 <| seqG gt23 false (oLoad1 gt24) st25 <| seqG gt23 false (oCmp gt25 (k (nI .u32 4095)) igtF strGt) st26 <| seqO (oPick gt23 (k (.bool true)) gt26) st27 <| seqO (oMv gt27) st28 <| seqG gt28 false (oOff gt5 5) st29 <| seqG gt28 false (oLoad1 gt29) st30 <| seqG gt28 false (oCallF 74 [gt30]) st31 <| seqG gt28 false (oNot gt31) st32 <| seqO (oPick gt28 (k (.bool true)) gt32) st33 <| seqO (oMv gt33) st34 <| seqG gt34 false (oOff gt5 7) st35 <| seqG gt34 false (oLoad1 gt35) st36 <| seqG gt34 false (oOff gt5 0) st37 <| seqG gt34 false (oLoad1 gt37) st38 <| seqG gt34 false (oEq gt38 (k (nI .i64 3)) eqI false) st39 <| seqG gt34 false (oCallF 75 [gt36, gt39]) st40 <| seqG gt34 false (oNot gt40) st41 <| seqO (oPick gt34 (k (.bool true)) gt41) st42 <| normD) (condD gt42 (seqD (seqO (oMv (k (.bool false))) st2 <| normD) retD) normD)) (seqD (seqO (oOff gt5 6) st43 <| seqO (oLoad1 gt43) st44 <| seqO (oLenL gt44) st45 <| seqO (oCmp gt45 (k (nI .i64 16777216)) ileF strLe) st46 <| seqO (oMv gt46) st47 <| seqG gt47 true (oOff gt5 0) st48 <| seqG gt47 true (oLoad1 gt48) st49 <| seqG gt47 true (oEq gt49 (k (nI .i64 2)) eqI false) st50 <| seqG gt47 true (oMv gt50) st51 <| seqG gt51 false (oOff gt5 6) st52 <| seqG gt51 false (oLoad1 gt52) st53 <| seqG gt51 false (oLenL gt53) st54 <| seqG gt51 false (oEq gt54 (k (nI .i64 0)) eqI false) st55 <| seqG gt47 true (oPick gt51 (k (.bool true)) gt55) st56 <| seqO (oPick gt47 gt56 (k (.bool false))) st57 <| seqO (oMv gt57) st2 <| normD) retD)))))⟩
def c74_l0 : D := (seqD (seqO (oCmp gt7 gt6 iltF strLt) st8 <| normD) (seqD (condD gt8 normD (exitD 0)) (seqD (blockD 1 (seqD (seqO (oMv gt7) st9 <| seqO (oIdxS gt5 gt7 2) st10 <| seqO (oLoad gt10 2) st11 <| seqO (oAlloc 67 [(.str []), (.str [])]) st4 <| seqO (oMv gt9) st3 <| seqO (oStore gt4 gt11 2) d0 <| normD) (seqD (drawnD [⟨oOff gt4 0, none, [(st4, gt4)], st12, .free, 0, 0⟩, ⟨oLoad1 gt12, none, [(st12, gt12)], st13, .read, 1, 1⟩, ⟨oEq gt13 (k (.str [])) eqS false, none, [(st13, gt13)], st14, .free, 2, 3⟩, ⟨oMv gt14, none, [(st14, gt14)], st15, .free, 3, 7⟩, ⟨oOff gt4 0, (some (gt15, false)), [(st4, gt4)], st16, .free, 4, 15⟩, ⟨oLoad1 gt16, (some (gt15, false)), [(st16, gt16)], st17, .read, 5, 31⟩, ⟨oLenS gt17, (some (gt15, false)), [(st17, gt17)], st18, .free, 6, 63⟩, ⟨oCmp gt18 (k (nI .i64 242)) igtF strGt, (some (gt15, false)), [(st18, gt18)], st19, .free, 7, 127⟩, ⟨oPick gt15 (k (.bool true)) gt19, none, [(st15, gt15), (st19, gt19)], st20, .free, 8, 255⟩, ⟨oMv gt20, none, [(st20, gt20)], st21, .free, 9, 511⟩, ⟨oOff gt4 0, (some (gt21, false)), [(st4, gt4)], st22, .free, 10, 1023⟩, ⟨oLoad1 gt22, (some (gt21, false)), [(st22, gt22)], st23, .read, 11, 2047⟩, ⟨oCallF 128 [gt23, (k (.str [0, 61, 10]))], (some (gt21, false)), [(st23, gt23)], st24, .eff, 12, 4095⟩, ⟨oPick gt21 (k (.bool true)) gt24, none, [(st21, gt21), (st24, gt24)], st25, .free, 13, 8191⟩, ⟨oMv gt25, none, [(st25, gt25)], st26, .free, 14, 16383⟩, ⟨oMv gt3, (some (gt26, false)), [(st3, gt3)], st27, .free, 15, 32767⟩, ⟨oCmp gt27 (k (nI .i64 0)) igtF strGt, (some (gt26, false)), [(st27, gt27)], st28, .free, 16, 65535⟩, ⟨oMv gt28, (some (gt26, false)), [(st28, gt28)], st29, .free, 17, 131071⟩, ⟨oMv gt0, (some (gt29, true)), [(st0, gt0)], st30, .free, 18, 262143⟩, ⟨oMv gt3, (some (gt29, true)), [(st3, gt3)], st31, .free, 19, 262143⟩, ⟨oSub gt31 (k (nI .i64 1)), (some (gt29, true)), [(st31, gt31)], st32, .free, 20, 786431⟩, ⟨oIdxS gt30 gt32 2, (some (gt29, true)), [(st30, gt30), (st32, gt32)], st33, .free, 21, 2097151⟩, ⟨oOff gt33 0, (some (gt29, true)), [(st33, gt33)], st34, .free, 22, 4194303⟩, ⟨oLoad1 gt34, (some (gt29, true)), [(st34, gt34)], st35, .read, 23, 8388607⟩, ⟨oOff gt4 0, (some (gt29, true)), [(st4, gt4)], st36, .free, 24, 262143⟩, ⟨oLoad1 gt36, (some (gt29, true)), [(st36, gt36)], st37, .read, 25, 17039359⟩, ⟨oCmp gt35 gt37 igeF strGe, (some (gt29, true)), [(st35, gt35), (st37, gt37)], st38, .free, 26, 67108863⟩, ⟨oPick gt29 gt38 (k (.bool false)), (some (gt26, false)), [(st29, gt29), (st38, gt38)], st39, .free, 27, 134217727⟩, ⟨oPick gt26 (k (.bool true)) gt39, none, [(st26, gt26), (st39, gt39)], st40, .free, 28, 268435455⟩]) (condD gt40 (seqD (seqO (oMv (k (.bool false))) st2 <| normD) retD) normD)))) (seqO (oAddS gt7 (k (nI .i64 1))) st41 <| seqO (oMv gt41) st7 <| normD))))
def c74 : CF := ⟨[(gt2, none)], (seqD (seqO (oMv (k (.bool false))) st2 <| normD) (seqD (seqD (seqO (oMv gt0) st5 <| seqO (oLenL gt5) st6 <| seqO (oMv (k (nI .i64 0))) st7 <| normD) (blockD 0 (loopD c74_l0))) (seqD (seqO (oMv gt0) st42 <| seqO (oLenL gt42) st43 <| seqO (oCmp gt43 (k (nI .i64 16)) ileF strLe) st44 <| seqO (oMv gt44) st2 <| normD) retD)))⟩
def c75 : CF := ⟨[(gt4, none)], (seqD (seqO (oMv (k (.bool false))) st4 <| normD) (seqD (seqD (seqO (oMv gt1) st5 <| seqO (oNot gt5) st6 <| normD) (condD gt6 (seqD (seqO (oMv gt0) st7 <| seqO (oEq gt7 (k (.str [])) eqS false) st8 <| seqO (oMv gt8) st4 <| normD) retD) normD)) (seqD (seqO (oMv gt0) st9 <| seqO (oEq gt9 (k (.str [])) eqS true) st10 <| seqO (oMv gt10) st11 <| seqG gt11 true (oMv gt0) st12 <| seqG gt11 true (oLenS gt12) st13 <| seqG gt11 true (oCmp gt13 (k (nI .i64 4096)) ileF strLe) st14 <| seqO (oPick gt11 gt14 (k (.bool false))) st15 <| seqO (oMv gt15) st16 <| seqG gt16 true (oMv gt0) st17 <| seqG gt16 true (oCallF 86 [gt17, (k (nI .u8 0))]) st18 <| seqG gt16 true (oCmp gt18 (k (nI .i64 0)) iltF strLt) st19 <| seqO (oPick gt16 gt19 (k (.bool false))) st20 <| seqO (oMv gt20) st4 <| normD) retD)))⟩
def c3_l0 : D := (seqD (seqO (oCmp gt177 gt176 iltF strLt) st178 <| normD) (seqD (condD gt178 normD (exitD 0)) (seqD (blockD 1 (seqD (seqO (oMv gt177) st179 <| seqO (oMv gt179) st35 <| normD) (seqO (oMv gt34) st180 <| seqO (oMv gt35) st181 <| seqO (oMv gt35) st182 <| seqO (oQuo gt182 (k (nI .i64 676))) st183 <| seqO (oAddS (k (nI .i64 97)) gt183) st184 <| seqO (oInt gt184 .u8) st185 <| seqO (oMv gt35) st186 <| seqO (oQuo gt186 (k (nI .i64 26))) st187 <| seqO (oRem gt187 (k (nI .i64 26))) st188 <| seqO (oAddS (k (nI .i64 97)) gt188) st189 <| seqO (oInt gt189 .u8) st190 <| seqO (oMv gt35) st191 <| seqO (oRem gt191 (k (nI .i64 26))) st192 <| seqO (oAddS (k (nI .i64 97)) gt192) st193 <| seqO (oInt gt193 .u8) st194 <| seqO (oBSlice 5 1 3 (List.replicate 3 [(nI .u8 0)]).flatten [⟨0, 1, gt185⟩, ⟨1, 1, gt190⟩, ⟨2, 1, gt194⟩]) st195 <| seqO (oStr gt195) st196 <| seqO (oAddS (k (.str [97])) gt196) st197 <| seqO (oBuild [(nI .i64 0), (nI .u32 0), (nI .u32 0), (nI .u32 0), (nI .i64 0), .nils, .nils, (.str [])] [⟨0, 1, (k (nI .i64 4))⟩]) st198 <| seqO (oBuild [(.str []), (nI .i64 0), (nI .u32 0), (nI .u32 0), (nI .u32 0), (nI .i64 0), .nils, .nils, (.str [])] [⟨0, 1, gt197⟩, ⟨1, 8, gt198⟩]) st199 <| seqO (oIdxS gt180 gt181 9) st200 <| seqO (oStore gt200 gt199 9) d0 <| normD))) (seqO (oAddS gt177 (k (nI .i64 1))) st201 <| seqO (oMv gt201) st177 <| normD))))
def c3_mk : D := (seqO (oMkSlice 40 9 112 [(.str []), (nI .i64 0), (nI .u32 0), (nI .u32 0), (nI .u32 0), (nI .i64 0), .nils, .nils, (.str [])] (k (nI .i64 4097)) (k (nI .i64 4097))) st174 <| seqO (oMv gt174) st34 <| normD)
def c3_lp : D := (seqD (seqO (oMv gt34) st175 <| seqO (oLenL gt175) st176 <| seqO (oMv (k (nI .i64 0))) st177 <| normD) (blockD 0 (loopD c3_l0)))
def c3_tl : D := (seqD (seqO (oMv (k (.bool true))) st202 <| seqG gt202 true (oMv gt7) st203 <| seqG gt202 true (oEq gt203 (k (nI .i64 1)) eqI false) st204 <| seqO (oPick gt202 gt204 (k (.bool false))) st205 <| seqO (oMv gt205) st206 <| seqG gt206 true (oMv gt9) st207 <| seqG gt206 true (oEq gt207 (k (nI .i64 1)) eqI false) st208 <| seqO (oPick gt206 gt208 (k (.bool false))) st209 <| seqO (oMv gt209) st210 <| seqG gt210 true (oMv gt11) st211 <| seqG gt210 true (oEq gt211 (k (nI .i64 1)) eqI false) st212 <| seqO (oPick gt210 gt212 (k (.bool false))) st213 <| seqO (oMv gt213) st214 <| seqG gt214 true (oMv gt13) st215 <| seqG gt214 true (oEq gt215 (k (nI .i64 1)) eqI false) st216 <| seqO (oPick gt214 gt216 (k (.bool false))) st217 <| seqO (oMv gt217) st218 <| seqG gt218 true (oMv gt15) st219 <| seqG gt218 true (oEq gt219 (k (nI .i64 1)) eqI false) st220 <| seqO (oPick gt218 gt220 (k (.bool false))) st221 <| seqO (oMv gt221) st222 <| seqG gt222 true (oMv gt17) st223 <| seqG gt222 true (oEq gt223 (k (nI .i64 1)) eqI false) st224 <| seqO (oPick gt222 gt224 (k (.bool false))) st225 <| seqO (oMv gt225) st226 <| seqG gt226 true (oMv gt19) st227 <| seqG gt226 true (oEq gt227 (k (nI .i64 1)) eqI false) st228 <| seqO (oPick gt226 gt228 (k (.bool false))) st229 <| seqO (oMv gt229) st230 <| seqG gt230 true (oMv gt21) st231 <| seqG gt230 true (oEq gt231 (k (nI .i64 0)) eqI false) st232 <| seqO (oPick gt230 gt232 (k (.bool false))) st233 <| seqO (oMv gt233) st234 <| seqG gt234 true (oMv gt23) st235 <| seqG gt234 true (oEq gt235 (k (nI .i64 1)) eqI false) st236 <| seqO (oPick gt234 gt236 (k (.bool false))) st237 <| seqO (oMv gt237) st238 <| seqG gt238 true (oMv gt25) st239 <| seqG gt238 true (oEq gt239 (k (nI .i64 1)) eqI false) st240 <| seqO (oPick gt238 gt240 (k (.bool false))) st241 <| seqO (oMv gt241) st242 <| seqG gt242 true (oMv gt27) st243 <| seqG gt242 true (oEq gt243 (k (nI .i64 1)) eqI false) st244 <| seqO (oPick gt242 gt244 (k (.bool false))) st245 <| seqO (oMv gt245) st246 <| seqG gt246 true (oMv gt29) st247 <| seqG gt246 true (oEq gt247 (k (nI .i64 0)) eqI false) st248 <| seqO (oPick gt246 gt248 (k (.bool false))) st249 <| seqO (oMv gt249) st250 <| seqG gt250 true (oMv gt28) st251 <| seqG gt250 true (oStr gt251) st252 <| seqG gt250 true (oEq gt252 (k (.str lit0)) eqS false) st253 <| seqO (oPick gt250 gt253 (k (.bool false))) st254 <| seqO (oMv gt254) st255 <| seqG gt255 true (oMv gt31) st256 <| seqG gt255 true (oEq gt256 (k (nI .i64 21)) eqI false) st257 <| seqO (oPick gt255 gt257 (k (.bool false))) st258 <| seqO (oMv gt258) st259 <| seqG gt259 true (oMv gt33) st260 <| seqG gt259 true (oEq gt260 (k (nI .i64 5)) eqI false) st261 <| seqO (oPick gt259 gt261 (k (.bool false))) st262 <| seqO (oMv gt262) st263 <| seqG gt263 true (oMv gt34) st264 <| seqG gt263 true (oCallF 9 [gt264]) st265 <| seqG gt263 true (oEq gt265 (k (nI .i64 42)) eqI false) st266 <| seqO (oPick gt263 gt266 (k (.bool false))) st267 <| seqO (oMv gt267) st268 <| seqG gt268 true (oMv gt34) st269 <| seqG gt268 true (oSlice 9 gt269 none (some (k (nI .i64 4096))) none) st270 <| seqG gt268 true (oCallF 9 [gt270]) st271 <| seqG gt268 true (oEq gt271 (k (nI .i64 0)) eqI false) st272 <| seqO (oPick gt268 gt272 (k (.bool false))) st273 <| seqO (oMv gt273) st274 <| seqG gt274 true (oCallF 10 []) st275 <| seqO (oPick gt274 gt275 (k (.bool false))) st276 <| seqO (oMv gt276) st0 <| normD) retD)
def c3_a (r_ : D) : D := (seqD (seqO (oMv (k (.bool false))) st0 <| normD) (seqD (seqO (oCallF 5 []) st36 <| seqO (oMv gt36) st1 <| normD) (seqD (seqO (oMv gt1) st38 <| seqO (oCallF 6 [gt38, (k (nI .i64 16))]) st39 <| seqO (oMv gt39) st37 <| seqO (oExtr gt37 0) st40 <| seqO (oExtr gt37 1) st41 <| seqO (oMv gt40) st2 <| seqO (oMv gt41) st3 <| normD) (seqD (seqO (oMv gt1) st43 <| seqO (oMv gt2) st44 <| seqO (oBSlice 2 1 3 (List.replicate 3 [(nI .i64 0)]).flatten [⟨0, 1, (k (nI .i64 0))⟩, ⟨1, 1, (k (nI .i64 100))⟩, ⟨2, 1, (k (nI .i64 130))⟩]) st45 <| seqO (oCallF 7 [gt43, gt44, gt45]) st46 <| seqO (oMv gt46) st42 <| seqO (oExtr gt42 0) st47 <| seqO (oExtr gt42 1) st48 <| seqO (oAlloc 30 [.nils]) st4 <| seqO (oStore gt4 gt47 1) d0 <| seqO (oMv gt48) st5 <| normD) (seqD (seqD (seqO (oMv gt5) st49 <| seqO (oEq gt49 (k (nI .i64 0)) eqI true) st50 <| seqO (oMv gt50) st51 <| seqG gt51 false (oOff gt4 0) st52 <| seqG gt51 false (oLoad1 gt52) st53 <| seqG gt51 false (oLenL gt53) st54 <| seqG gt51 false (oEq gt54 (k (nI .i64 1)) eqI true) st55 <| seqO (oPick gt51 (k (.bool true)) gt55) st56 <| seqO (oMv gt56) st57 <| seqG gt57 false (oOff gt4 0) st58 <| seqG gt57 false (oLoad1 gt58) st59 <| seqG gt57 false (oIdxS gt59 (k (nI .i64 0)) 12) st60 <| seqG gt57 false (oOff gt60 11) st61 <| seqG gt57 false (oLoad1 gt61) st62 <| seqG gt57 false (oLenL gt62) st63 <| seqG gt57 false (oEq gt63 (k (nI .i64 2)) eqI true) st64 <| seqO (oPick gt57 (k (.bool true)) gt64) st65 <| normD) (condD gt65 (seqD (seqO (oMv (k (.bool false))) st0 <| normD) retD) normD)) (seqD (seqO (oMv gt1) st67 <| seqO (oCallF 6 [gt67, (k (nI .i64 15))]) st68 <| seqO (oMv gt68) st66 <| seqO (oExtr gt66 0) st69 <| seqO (oExtr gt66 1) st70 <| seqO (oMv gt69) st6 <| seqO (oMv gt70) st7 <| normD) (seqD (seqO (oMv gt1) st72 <| seqO (oCallF 6 [gt72, (k (nI .i64 65537))]) st73 <| seqO (oMv gt73) st71 <| seqO (oExtr gt71 0) st74 <| seqO (oExtr gt71 1) st75 <| seqO (oMv gt74) st8 <| seqO (oMv gt75) st9 <| normD) (seqD (seqO (oBuild [(nI .i64 0), (nI .u32 0), (nI .u32 0), (nI .u32 0), (nI .i64 0), .nils, .nils, (.str [])] [⟨0, 1, (k (nI .i64 2))⟩]) st77 <| seqO (oBuild [(.str []), (nI .i64 0), (nI .u32 0), (nI .u32 0), (nI .u32 0), (nI .i64 0), .nils, .nils, (.str [])] [⟨0, 1, (k (.str [46, 119, 104, 46, 46, 119, 104, 46, 116, 111, 99]))⟩, ⟨1, 8, gt77⟩]) st78 <| seqO (oBSlice 40 9 1 [(.str []), (nI .i64 0), (nI .u32 0), (nI .u32 0), (nI .u32 0), (nI .i64 0), .nils, .nils, (.str [])] [⟨0, 9, gt78⟩]) st79 <| seqO (oCallF 6 [gt79, (k (nI .i64 16))]) st80 <| seqO (oMv gt80) st76 <| seqO (oExtr gt76 0) st81 <| seqO (oExtr gt76 1) st82 <| seqO (oMv gt81) st10 <| seqO (oMv gt82) st11 <| normD) (seqD (drawnD [⟨oMv gt1, none, [(st1, gt1)], st84, .free, 0, 0⟩, ⟨oIdxS gt84 (k (nI .i64 0)) 9, none, [(st84, gt84)], st85, .free, 1, 1⟩, ⟨oLoad gt85 9, none, [(st85, gt85)], st86, .read, 2, 3⟩, ⟨oMv gt1, none, [(st1, gt1)], st87, .free, 3, 0⟩, ⟨oIdxS gt87 (k (nI .i64 0)) 9, none, [(st87, gt87)], st88, .free, 4, 8⟩, ⟨oLoad gt88 9, none, [(st88, gt88)], st89, .read, 5, 24⟩, ⟨oBSlice 40 9 2 (List.replicate 2 [(.str []), (nI .i64 0), (nI .u32 0), (nI .u32 0), (nI .u32 0), (nI .i64 0), .nils, .nils, (.str [])]).flatten [⟨0, 9, gt86⟩, ⟨9, 9, gt89⟩], none, [(st86, gt86), (st89, gt89)], st90, .free, 6, 63⟩, ⟨oCallF 6 [gt90, (k (nI .i64 16))], none, [(st90, gt90)], st91, .eff, 7, 127⟩, ⟨oMv gt91, none, [(st91, gt91)], st83, .free, 8, 255⟩, ⟨oExtr gt83 0, none, [(st83, gt83)], st92, .free, 9, 511⟩, ⟨oExtr gt83 1, none, [(st83, gt83)], st93, .free, 10, 511⟩, ⟨oMv gt92, none, [(st92, gt92)], st12, .eff, 11, 1023⟩, ⟨oMv gt93, none, [(st93, gt93)], st13, .eff, 12, 4095⟩]) (seqD (seqO (oMv gt1) st95 <| seqO (oMv gt2) st96 <| seqO (oBSlice 2 1 2 (List.replicate 2 [(nI .i64 0)]).flatten [⟨0, 1, (k (nI .i64 0))⟩, ⟨1, 1, (k (nI .i64 100))⟩]) st97 <| seqO (oCallF 7 [gt95, gt96, gt97]) st98 <| seqO (oMv gt98) st94 <| seqO (oExtr gt94 0) st99 <| seqO (oExtr gt94 1) st100 <| seqO (oAlloc 30 [.nils]) st14 <| seqO (oStore gt14 gt99 1) d0 <| seqO (oMv gt100) st15 <| normD) (seqD (seqO (oMv gt1) st102 <| seqO (oMv gt2) st103 <| seqO (oBSlice 2 1 3 (List.replicate 3 [(nI .i64 0)]).flatten [⟨0, 1, (k (nI .i64 0))⟩, ⟨1, 1, (k (nI .i64 100))⟩, ⟨2, 1, (k (nI .i64 100))⟩]) st104 <| seqO (oCallF 7 [gt102, gt103, gt104]) st105 <| seqO (oMv gt105) st101 <| seqO (oExtr gt101 0) st106 <| seqO (oExtr gt101 1) st107 <| seqO (oAlloc 30 [.nils]) st16 <| seqO (oStore gt16 gt106 1) d0 <| seqO (oMv gt107) st17 <| normD) (seqD (seqO (oMv gt1) st109 <| seqO (oMv gt2) st110 <| seqO (oSlice 37 gt110 none (some (k (nI .i64 2))) none) st111 <| seqO (oBSlice 2 1 2 (List.replicate 2 [(nI .i64 0)]).flatten [⟨0, 1, (k (nI .i64 0))⟩, ⟨1, 1, (k (nI .i64 100))⟩]) st112 <| seqO (oCallF 7 [gt109, gt111, gt112]) st113 <| seqO (oMv gt113) st108 <| seqO (oExtr gt108 0) st114 <| seqO (oExtr gt108 1) st115 <| seqO (oAlloc 30 [.nils]) st18 <| seqO (oStore gt18 gt114 1) d0 <| seqO (oMv gt115) st19 <| normD) (seqD (seqO (oCallF 7 [(k .nils), (k .nils), (k .nils)]) st117 <| seqO (oMv gt117) st116 <| seqO (oExtr gt116 0) st118 <| seqO (oExtr gt116 1) st119 <| seqO (oAlloc 30 [.nils]) st20 <| seqO (oStore gt20 gt118 1) d0 <| seqO (oMv gt119) st21 <| normD) (seqD (seqO (oOff gt4 0) st121 <| seqO (oLoad1 gt121) st122 <| seqO (oIdxS gt122 (k (nI .i64 0)) 12) st123 <| seqO (oLoad gt123 12) st124 <| seqO (oCallF 8 [gt124, (k (nI .i64 2)), (k .nils)]) st125 <| seqO (oMv gt125) st120 <| seqO (oExtr gt120 0) st126 <| seqO (oExtr gt120 1) st127 <| seqO (oMv gt126) st22 <| seqO (oMv gt127) st23 <| normD) (seqD (seqO (oOff gt4 0) st129 <| seqO (oLoad1 gt129) st130 <| seqO (oIdxS gt130 (k (nI .i64 0)) 12) st131 <| seqO (oLoad gt131 12) st132 <| seqO (oCallF 8 [gt132, (k (.int .i64 (.negSucc 0))), (k .nils)]) st133 <| seqO (oMv gt133) st128 <| seqO (oExtr gt128 0) st134 <| seqO (oExtr gt128 1) st135 <| seqO (oMv gt134) st24 <| seqO (oMv gt135) st25 <| normD) (seqD (seqO (oBuild [(nI .i64 0), (nI .i64 0), (nI .i64 0), (nI .u8 0), (nI .u8 0), (nI .u8 0), (nI .u8 0), (nI .u8 0), (nI .u8 0), (nI .u8 0), (nI .u8 0), (nI .u8 0), (nI .u8 0), (nI .u8 0), (nI .u8 0), (nI .u8 0), (nI .u8 0), (nI .u8 0), (nI .u8 0), (nI .u8 0), (nI .u8 0), (nI .u8 0), (nI .u8 0), (nI .u8 0), (nI .u8 0), (nI .u8 0), (nI .u8 0), (nI .u8 0), (nI .u8 0), (nI .u8 0), (nI .u8 0), (nI .u8 0), (nI .u8 0), (nI .u8 0), (nI .u8 0)] [⟨1, 1, (k (nI .i64 1))⟩]) st137 <| seqO (oBSlice 49 35 1 [(nI .i64 0), (nI .i64 0), (nI .i64 0), (nI .u8 0), (nI .u8 0), (nI .u8 0), (nI .u8 0), (nI .u8 0), (nI .u8 0), (nI .u8 0), (nI .u8 0), (nI .u8 0), (nI .u8 0), (nI .u8 0), (nI .u8 0), (nI .u8 0), (nI .u8 0), (nI .u8 0), (nI .u8 0), (nI .u8 0), (nI .u8 0), (nI .u8 0), (nI .u8 0), (nI .u8 0), (nI .u8 0), (nI .u8 0), (nI .u8 0), (nI .u8 0), (nI .u8 0), (nI .u8 0), (nI .u8 0), (nI .u8 0), (nI .u8 0), (nI .u8 0), (nI .u8 0)] [⟨0, 35, gt137⟩]) st138 <| seqO (oBuild [(.str []), (nI .i64 0), (nI .u32 0), (nI .u32 0), (nI .u32 0), (nI .i64 0), .nils, .nils, (.str []), (nI .i64 0), (nI .i64 0), .nils] [⟨11, 1, gt138⟩]) st139 <| seqO (oBSlice 5 1 1 [(nI .u8 0)] [⟨0, 1, (k (nI .u8 1))⟩]) st140 <| seqO (oCallF 8 [gt139, (k (nI .i64 0)), gt140]) st141 <| seqO (oMv gt141) st136 <| seqO (oExtr gt136 0) st142 <| seqO (oExtr gt136 1) st143 <| seqO (oMv gt142) st26 <| seqO (oMv gt143) st27 <| normD) (seqD (seqO (oOff gt4 0) st145 <| seqO (oLoad1 gt145) st146 <| seqO (oIdxS gt146 (k (nI .i64 0)) 12) st147 <| seqO (oLoad gt147 12) st148 <| seqO (oBSlice 5 1 16 (List.replicate 16 [(nI .u8 0)]).flatten [⟨0, 1, (k (nI .u8 48))⟩, ⟨1, 1, (k (nI .u8 49))⟩, ⟨2, 1, (k (nI .u8 50))⟩, ⟨3, 1, (k (nI .u8 51))⟩, ⟨4, 1, (k (nI .u8 52))⟩, ⟨5, 1, (k (nI .u8 53))⟩, ⟨6, 1, (k (nI .u8 54))⟩, ⟨7, 1, (k (nI .u8 55))⟩, ⟨8, 1, (k (nI .u8 56))⟩, ⟨9, 1, (k (nI .u8 57))⟩, ⟨10, 1, (k (nI .u8 97))⟩, ⟨11, 1, (k (nI .u8 98))⟩, ⟨12, 1, (k (nI .u8 99))⟩, ⟨13, 1, (k (nI .u8 100))⟩, ⟨14, 1, (k (nI .u8 101))⟩, ⟨15, 1, (k (nI .u8 102))⟩]) st149 <| seqO (oMark gt149) st150 <| seqO (oCallF 8 [gt148, (k (nI .i64 0)), gt150]) st151 <| seqO (oMv gt151) st144 <| seqO (oExtr gt144 0) st152 <| seqO (oExtr gt144 1) st153 <| seqO (oMv gt152) st28 <| seqO (oMv gt153) st29 <| normD) (seqD (seqO (oOff gt4 0) st155 <| seqO (oLoad1 gt155) st156 <| seqO (oIdxS gt156 (k (nI .i64 0)) 12) st157 <| seqO (oLoad gt157 12) st158 <| seqO (oBSlice 5 1 16 (List.replicate 16 [(nI .u8 0)]).flatten [⟨0, 1, (k (nI .u8 48))⟩, ⟨1, 1, (k (nI .u8 49))⟩, ⟨2, 1, (k (nI .u8 50))⟩, ⟨3, 1, (k (nI .u8 51))⟩, ⟨4, 1, (k (nI .u8 52))⟩, ⟨5, 1, (k (nI .u8 53))⟩, ⟨6, 1, (k (nI .u8 54))⟩, ⟨7, 1, (k (nI .u8 55))⟩, ⟨8, 1, (k (nI .u8 56))⟩, ⟨9, 1, (k (nI .u8 57))⟩, ⟨10, 1, (k (nI .u8 97))⟩, ⟨11, 1, (k (nI .u8 98))⟩, ⟨12, 1, (k (nI .u8 99))⟩, ⟨13, 1, (k (nI .u8 100))⟩, ⟨14, 1, (k (nI .u8 101))⟩, ⟨15, 1, (k (nI .u8 70))⟩]) st159 <| seqO (oMark gt159) st160 <| seqO (oCallF 8 [gt158, (k (nI .i64 0)), gt160]) st161 <| seqO (oMv gt161) st154 <| seqO (oExtr gt154 0) st162 <| seqO (oExtr gt154 1) st163 <| seqO (oMv gt162) st30 <| seqO (oMv gt163) st31 <| normD) (seqD (seqO (oOff gt4 0) st165 <| seqO (oLoad1 gt165) st166 <| seqO (oIdxS gt166 (k (nI .i64 0)) 12) st167 <| seqO (oLoad gt167 12) st168 <| seqO (oBSlice 5 1 4 (List.replicate 4 [(nI .u8 0)]).flatten [⟨0, 1, (k (nI .u8 103))⟩, ⟨1, 1, (k (nI .u8 104))⟩, ⟨2, 1, (k (nI .u8 105))⟩, ⟨3, 1, (k (nI .u8 106))⟩]) st169 <| seqO (oMark gt169) st170 <| seqO (oCallF 8 [gt168, (k (nI .i64 1)), gt170]) st171 <| seqO (oMv gt171) st164 <| seqO (oExtr gt164 0) st172 <| seqO (oExtr gt164 1) st173 <| seqO (oMv gt172) st32 <| seqO (oMv gt173) st33 <| normD) r_)))))))))))))))))))
def c3 : CF := ⟨[(gt0, none)], c3_a (seqD c3_mk (seqD c3_lp c3_tl))⟩
end

def rank : Nat → Nat
  | 9 => 14
  | 26 => 13
  | 40 => 11
  | 41 => 12
  | 44 => 2
  | 69 => 3
  | 70 => 3
  | 71 => 3
  | 72 => 10
  | 73 => 6
  | 74 => 1
  | 75 => 1
  | 82 => 1
  | 86 => 2
  | 123 => 2
  | 124 => 2
  | 126 => 9
  | 127 => 7
  | 128 => 5
  | 136 => 1
  | 165 => 1
  | 166 => 1
  | 168 => 8
  | 169 => 4
  | 199 => 3
  | 200 => 1
  | 231 => 1
  | 297 => 1
  | _ => 0
def spec : Lib := fun _ _ _ => none
abbrev LK (lib0 : Lib) (fs : T CF) (fuel k : Nat) : Lib := libK lib0 fs fuel rank spec k
structure Env (lib0 : Lib) (fs : T CF) (fuel : Nat) : Prop where
  big : 50000 ≤ fuel
  f9 : fs.get 9 = some c9
  n9 : ∀ l H, lib0 9 l H = none
  f26 : fs.get 26 = some c26
  n26 : ∀ l H, lib0 26 l H = none
  f40 : fs.get 40 = some c40
  n40 : ∀ l H, lib0 40 l H = none
  f41 : fs.get 41 = some c41
  n41 : ∀ l H, lib0 41 l H = none
  f44 : fs.get 44 = some c44
  n44 : ∀ l H, lib0 44 l H = none
  f69 : fs.get 69 = some c69
  n69 : ∀ l H, lib0 69 l H = none
  f70 : fs.get 70 = some c70
  n70 : ∀ l H, lib0 70 l H = none
  f71 : fs.get 71 = some c71
  n71 : ∀ l H, lib0 71 l H = none
  f72 : fs.get 72 = some c72
  n72 : ∀ l H, lib0 72 l H = none
  f73 : fs.get 73 = some c73
  n73 : ∀ l H, lib0 73 l H = none
  f74 : fs.get 74 = some c74
  n74 : ∀ l H, lib0 74 l H = none
  f75 : fs.get 75 = some c75
  n75 : ∀ l H, lib0 75 l H = none
  f82 : fs.get 82 = some c82
  n82 : ∀ l H, lib0 82 l H = none
  f86 : fs.get 86 = some c86
  n86 : ∀ l H, lib0 86 l H = none
  f123 : fs.get 123 = some c123
  n123 : ∀ l H, lib0 123 l H = none
  f124 : fs.get 124 = some c124
  n124 : ∀ l H, lib0 124 l H = none
  f125 : fs.get 125 = some c125
  n125 : ∀ l H, lib0 125 l H = none
  f126 : fs.get 126 = some c126
  n126 : ∀ l H, lib0 126 l H = none
  f127 : fs.get 127 = some c127
  n127 : ∀ l H, lib0 127 l H = none
  f128 : fs.get 128 = some c128
  n128 : ∀ l H, lib0 128 l H = none
  f136 : fs.get 136 = some c136
  n136 : ∀ l H, lib0 136 l H = none
  f165 : fs.get 165 = some c165
  n165 : ∀ l H, lib0 165 l H = none
  f166 : fs.get 166 = some c166
  n166 : ∀ l H, lib0 166 l H = none
  f167 : fs.get 167 = some c167
  n167 : ∀ l H, lib0 167 l H = none
  f168 : fs.get 168 = some c168
  n168 : ∀ l H, lib0 168 l H = none
  f169 : fs.get 169 = some c169
  n169 : ∀ l H, lib0 169 l H = none
  f198 : fs.get 198 = some c198
  n198 : ∀ l H, lib0 198 l H = none
  f199 : fs.get 199 = some c199
  n199 : ∀ l H, lib0 199 l H = none
  f200 : fs.get 200 = some c200
  n200 : ∀ l H, lib0 200 l H = none
  f231 : fs.get 231 = some c231
  n231 : ∀ l H, lib0 231 l H = none
  f297 : fs.get 297 = some c297
  n297 : ∀ l H, lib0 297 l H = none
  ix : ∀ (s : List UInt8) (x : Nat) (H : Heap), x < 256 → lib0 172 [.str s, nI .u8 x] H = some (.ret (.int .i64 (idxByte x s 0)) H)
  cn : ∀ (s : List UInt8) (x : Nat) (H : Heap), x < 256 → lib0 252 [.str s, nI .u8 x] H = some (.ret (nI .i64 (cntByte x s 0)) H)

theorem flat_len {sz : Nat} : ∀ {ls : List (List AV)}, (∀ l ∈ ls, l.length = sz) → ls.flatten.length = ls.length * sz
  | [], _ => by simp
  | l :: ls, h => by
    rw [List.flatten_cons, List.length_append, flat_len (fun x hx => h x (List.mem_cons_of_mem _ hx)), h l (List.mem_cons_self ..), List.length_cons, Nat.add_mul]
    omega
theorem flat_at {sz : Nat} : ∀ {ls : List (List AV)} {i : Nat}, (∀ l ∈ ls, l.length = sz) → i < ls.length → (ls.flatten.drop (i * sz)).take sz = ls.getD i []
  | l :: ls, 0, h, _ => by
    rw [Nat.zero_mul, List.drop_zero, List.flatten_cons, List.take_append_of_le_length (by rw [h l (List.mem_cons_self ..)]; exact Nat.le_refl _), List.take_of_length_le (by rw [h l (List.mem_cons_self ..)]; exact Nat.le_refl _)]
    rfl
  | l :: ls, i + 1, h, hi => by
    have hl := h l (List.mem_cons_self ..)
    have e : (i + 1) * sz = l.length + i * sz := by rw [hl, Nat.add_mul]; omega
    rw [List.flatten_cons, e, ← List.drop_drop, List.drop_left]
    have := flat_at (i := i) (fun x hx => h x (List.mem_cons_of_mem _ hx)) (by simpa using hi)
    rw [this]; rfl
structure Recs (H : Heap) (b e sz : Nat) (ls : List (List AV)) (r : Row) : Prop where
  at_ : H.t.get b = some (.row r)
  elem : r.elem = e
  szr : r.sz = sz
  own : r.own = true
  fz : r.fz = 0
  sm : r.sm = false
  exact_ : r.exact = false
  cells : Cells r ls.flatten
  each : ∀ l ∈ ls, l.length = sz
  ro : H.ro ≤ b
  low : b < H.nx
theorem Recs.size {H : Heap} {b e sz : Nat} {ls : List (List AV)} {r : Row} (h : Recs H b e sz ls r) : r.size = ls.length * sz := by rw [h.cells.size, flat_len h.each]
theorem Recs.moved {H H' : Heap} {b e sz : Nat} {ls : List (List AV)} {r : Row} (h : Recs H b e sz ls r) (g : H'.t.get b = H.t.get b) (hro : H'.ro = H.ro) (hnx : H.nx ≤ H'.nx) : Recs H' b e sz ls r :=
  ⟨g.trans h.at_, h.elem, h.szr, h.own, h.fz, h.sm, h.exact_, h.cells, h.each, by rw [hro]; exact h.ro, Nat.lt_of_lt_of_le h.low hnx⟩
theorem Recs.load {H H' : Heap} {b e sz : Nat} {ls : List (List AV)} {r : Row} (h : Recs H b e sz ls r) (ht : H'.t = H.t) {i : Nat} (hi : i < ls.length) : loadV sz (.ptr b (i * sz)) H' = .val (.agg (ls.getD i [])) H' := by
  have hf := flat_len h.each
  have hm : (i + 1) * sz ≤ ls.length * sz := Nat.mul_le_mul_right _ hi
  rw [Nat.add_mul, Nat.one_mul] at hm
  rw [loadV_row (r := r) (by rw [ht]; exact h.at_) h.cells (by omega), flat_at h.each hi]
theorem idxSV_rec {n i sz : Nat} (h : i < n) (b o : Nat) (c : Option Nat) (k : IntKind) (H : Heap) : idxSV sz (.slice b o n c) (nI k i) H = .val (.ptr b (o + i * sz)) H := by
  show onIf (Nat.ble (Nat.succ i) n) (OR.val (.ptr b (Nat.add o (Nat.mul i sz))) H) = _
  rw [Nat.ble_eq_true_of_le (show Nat.succ i ≤ n from h)]; rfl
def RBuf (H : Heap) (v : AV) (e sz : Nat) (ls : List (List AV)) (lo : Nat) : Prop := (ls = [] ∧ v = .nils) ∨ (ls ≠ [] ∧ ∃ b r, v = .slice b 0 ls.length none ∧ Recs H b e sz ls r ∧ lo ≤ b)
theorem RBuf.below {H H' : Heap} {v : AV} {e sz : Nat} {ls : List (List AV)} {lo : Nat} (h : RBuf H v e sz ls lo) (hp : ∀ c, lo ≤ c → c < H.nx → H'.t.get c = H.t.get c) (hro : H'.ro = H.ro) (hnx : H.nx ≤ H'.nx) : RBuf H' v e sz ls lo := by
  rcases h with h | ⟨hne, b, r, rfl, g, hb⟩
  · exact .inl h
  · exact .inr ⟨hne, b, r, rfl, g.moved (hp b hb g.low) hro hnx, hb⟩
theorem RBuf.len {H : Heap} {v : AV} {e sz : Nat} {ls : List (List AV)} {lo : Nat} (h : RBuf H v e sz ls lo) (G : Heap) : lenV v G = .val (nI .i64 ls.length) G := by
  rcases h with ⟨rfl, rfl⟩ | ⟨_, b, r, rfl, _⟩
  · exact lenV_nil G
  · exact lenV_slice ..
theorem RBuf.low {H : Heap} {v : AV} {e sz : Nat} {ls : List (List AV)} {lo : Nat} (h : RBuf H v e sz ls lo) {n : Nat} (hn : H.nx ≤ n) : lowV n v = true := by
  rcases h with ⟨_, rfl⟩ | ⟨_, b, r, rfl, g, _⟩
  · rfl
  · exact lowV_slice (Nat.lt_of_lt_of_le g.low hn) _ _ _
theorem RBuf.same {H : Heap} {v : AV} {e sz : Nat} {ls : List (List AV)} {lo : Nat} (h : RBuf H v e sz ls lo) (n : Nat) (t : T Obj) : isSame (.val v ⟨n, t, n⟩) v n = true := by
  rcases h with ⟨_, rfl⟩ | ⟨_, b, r, rfl, _⟩
  · exact isSame_nils n t
  · exact isSame_slice _ _ _ _ _ _

/-! maps whose keys are texts -/
def Seen (es : List Ent) (ks : List (List UInt8)) : Prop := es.map (fun e => (e.key, e.val)) = ks.map fun k => (AV.str k, nI .i64 1)
theorem Seen.nil : Seen [] [] := rfl
theorem Seen.push {es : List Ent} {ks : List (List UInt8)} (h : Seen es ks) (k : List UInt8) (c : Nat) : Seen (es ++ [⟨.str k, nI .i64 1, c⟩]) (ks ++ [k]) := by
  unfold Seen at *
  rw [List.map_append, List.map_append, h]; rfl
def lookV (eq : AV → AV → Option Bool) (zv : AV) (ok : Bool) (m k : AV) (H : Heap) : OR := onMap m (found ok H zv false) fun b => onObj H b fun o => asLook o fun es => mapFind eq k (found ok H zv false) (fun v => found ok H v true) es
theorem oLookup_at (eq : AV → AV → Option Bool) (zv : AV) (ok : Bool) (m k : EvF) (tm : TM) (H : Heap) : oLookup eq zv ok m k tm H = lookV eq zv ok (m tm) (k tm) H := rfl
def lkO (eq : AV → AV → Option Bool) (zv : AV) (ok : Bool) (x : Option Obj) (k : AV) (H : Heap) : OR := match x with | some o => asLook o fun es => mapFind eq k (found ok H zv false) (fun v => found ok H v true) es | none => .fail
theorem lookV_at (eq : AV → AV → Option Bool) (zv : AV) (ok : Bool) (b : Nat) (k : AV) (H : Heap) : lookV eq zv ok (.map b) k H = lkO eq zv ok (H.t.get b) k H := rfl
/-! slices of records -/
structure Sl (H : Heap) (sz : Nat) (v : AV) (ls : List (List AV)) : Prop where
  each : ∀ l ∈ ls, l.length = sz
  here : (ls = [] ∧ v = .nils) ∨ ∃ b o c, v = .slice b o ls.length c ∧ b < H.nx ∧ (ls ≠ [] → ∃ r, H.t.get b = some (.row r) ∧ o + ls.length * sz ≤ r.size ∧ ∀ i, i < ls.length * sz → r.get (o + i) = ls.flatten.getD i .unk)
theorem Sl.nil (H : Heap) (sz : Nat) : Sl H sz .nils [] := ⟨fun _ h => (by cases h), .inl ⟨rfl, rfl⟩⟩
theorem Sl.keep {H H' : Heap} {sz : Nat} {v : AV} {ls : List (List AV)} {S : List Nat} (h : Sl H sz v ls) (k : Keep H H' S) (hS : ∀ b o n c, v = .slice b o n c → b ∉ S) : Sl H' sz v ls := by
  refine ⟨h.each, ?_⟩
  rcases h.here with h1 | ⟨b, o, c, rfl, hb, h2⟩
  · exact .inl h1
  · refine .inr ⟨b, o, c, rfl, Nat.lt_of_lt_of_le hb k.nx, fun hne => ?_⟩
    obtain ⟨r, h3, h4⟩ := h2 hne
    exact ⟨r, by rw [k.get b hb (hS _ _ _ _ rfl)]; exact h3, h4⟩
theorem Sl.len {H : Heap} {sz : Nat} {v : AV} {ls : List (List AV)} (h : Sl H sz v ls) (G : Heap) : lenV v G = .val (nI .i64 ls.length) G := by
  rcases h.here with ⟨rfl, rfl⟩ | ⟨b, o, c, rfl, _⟩
  · rfl
  · exact lenV_slice ..
theorem Sl.low {H : Heap} {sz : Nat} {v : AV} {ls : List (List AV)} (h : Sl H sz v ls) {n : Nat} (hn : H.nx ≤ n) : lowV n v = true := by
  rcases h.here with ⟨rfl, rfl⟩ | ⟨b, o, c, rfl, hb, _⟩
  · rfl
  · exact lowV_slice (by omega) ..
theorem Sl.same {H : Heap} {sz : Nat} {v : AV} {ls : List (List AV)} (h : Sl H sz v ls) (n : Nat) (t : T Obj) : isSame (.val v ⟨n, t, n⟩) v n = true := by
  rcases h.here with ⟨rfl, rfl⟩ | ⟨b, o, c, rfl, _⟩
  · exact isSame_nils ..
  · exact isSame_slice ..
theorem Sl.cells {H : Heap} {sz : Nat} {v : AV} {ls : List (List AV)} (h : Sl H sz v ls) : v.cells = [v] := by
  rcases h.here with ⟨rfl, rfl⟩ | ⟨b, o, c, rfl, _⟩ <;> rfl
/-- an element -/
theorem Sl.at_ {H : Heap} {sz : Nat} {v : AV} {ls : List (List AV)} (h : Sl H sz v ls) {i : Nat} (hi : i < ls.length) :
    ∃ b o r, (∀ (k : IntKind) (G : Heap), idxSV sz v (nI k i) G = .val (.ptr b o) G) ∧ b < H.nx ∧ H.t.get b = some (.row r) ∧ (∀ G : Heap, ldN sz (some (.row r)) o G = .val (.agg (ls.getD i [])) G) ∧ ∀ (j : Nat) (G : Heap), j < sz → ld1 (some (.row r)) (o + j) G = .val ((ls.getD i []).getD j .unk) G := by
  have hne : ls ≠ [] := by intro e; subst e; cases hi
  rcases h.here with ⟨rfl, _⟩ | ⟨b, o, c, rfl, hb, h2⟩
  · exact absurd rfl hne
  · obtain ⟨r, h3, h4, h5⟩ := h2 hne
    have hm : (i + 1) * sz ≤ ls.length * sz := Nat.mul_le_mul_right _ hi
    rw [Nat.add_mul, Nat.one_mul] at hm
    have hf := flat_len h.each
    have hg := flat_at h.each hi
    refine ⟨b, o + i * sz, r, fun k G => idxSV_rec hi b o c k G, hb, h3, fun G => ?_, fun j G hj => ?_⟩
    · show onIf (Nat.ble (Nat.add (o + i * sz) sz) r.size) (OR.val (.agg (loadN r (o + i * sz) sz)) G) = _
      rw [Nat.ble_eq_true_of_le (show Nat.add (o + i * sz) sz ≤ r.size by show o + i * sz + sz ≤ _; omega)]
      show OR.val (.agg (loadN r (o + i * sz) sz)) G = _
      congr 2
      rw [← hg]
      apply List.ext_getElem?
      intro j
      by_cases hj : j < sz
      · rw [loadN_get _ _ _ _ hj, List.getElem?_take_of_lt hj, List.getElem?_drop]
        have := h5 (i * sz + j) (by omega)
        rw [← Nat.add_assoc, List.getD_eq_getElem?_getD, List.getElem?_eq_getElem (by omega)] at this
        rw [List.getElem?_eq_getElem (by omega), this]; rfl
      · rw [List.getElem?_eq_none (by rw [loadN_length]; omega), List.getElem?_eq_none (by rw [List.length_take]; omega)]
    · rw [ld1_row (by omega)]
      congr 1
      rw [← hg, Nat.add_assoc, h5 _ (by omega), List.getD_eq_getElem?_getD, List.getD_eq_getElem?_getD, List.getElem?_take_of_lt hj, List.getElem?_drop]
theorem stN_all {n b : Nat} {l vs : List AV} {H : Heap} (hl : l.length = n) (hv : vs.length = n) (hn : 1 ≤ n) (hro : H.ro ≤ b) (e sz : Nat) (sm ex : Bool) : stN n (some (rG e sz l 0 sm true ex)) b 0 (.agg vs) H = .val undefA (H.put b (rG e sz vs 0 sm true ex)) := by
  rw [stN_rG hn (by exact hv) (by omega) hro (Nat.zero_le _)]
  congr 3
  rw [lay_eq _ _ _ (by show 0 + vs.length ≤ _; omega)]
  show [] ++ (vs ++ l.drop (0 + vs.length)) = vs
  rw [List.drop_eq_nil_of_le (by omega)]; simp
/-- four small letters -/
structure Low (s : List UInt8) : Prop where
  len : s.length = 4
  at_ : ∀ i, i < 4 → 97 ≤ (s.getD i 0).toNat ∧ (s.getD i 0).toNat ≤ 122
theorem Low.ne {s l : List UInt8} (h : Low s) (h2 : l.length ≠ 4 ∨ (l.getD 0 0).toNat < 97) : decide (s = l) = false := decide_eq_false fun e => by
  subst e
  rcases h2 with h2 | h2
  · exact h2 h.len
  · have := h.at_ 0 (by omega); omega
theorem Low.byte {s : List UInt8} (h : Low s) {i x : Nat} (hi : i < 4) (hx : x < 97) : decide ((s.getD i 0).toNat = x) = false := decide_eq_false (by have := h.at_ i hi; omega)
theorem Low.tk {s : List UInt8} (h : Low s) : s.take 4 = s := List.take_of_length_le (by rw [h.len]; exact Nat.le_refl _)
theorem Low.mem {s : List UInt8} (h : Low s) : ∀ c ∈ s, 97 ≤ c.toNat ∧ c.toNat ≤ 122 := fun c hc => by
  obtain ⟨i, hi, rfl⟩ := List.getElem_of_mem hc
  have := h.at_ i (by rw [← h.len]; exact hi)
  rw [List.getD_eq_getElem?_getD, List.getElem?_eq_getElem hi] at this
  exact this
theorem beqF {a b : Nat} (h : a ≠ b) : Nat.beq a b = false := by
  cases e : Nat.beq a b with
  | false => rfl
  | true => exact absurd (Nat.eq_of_beq_eq_true e) h
theorem cnt0 : ∀ (l : List UInt8) (n x : Nat), (∀ c ∈ l, c.toNat ≠ x) → cntByte x l n = n
  | [], n, x, _ => rfl
  | c :: l, n, x, h => by
    show cond (Nat.beq c.toNat x) (cntByte x l (n + 1)) (cntByte x l n) = n
    rw [beqF (h c (by simp)), cond_false, cnt0 l n x fun y hy => h y (by simp [hy])]
theorem neg_ge (G : Heap) : cmpV igeF strGe (.int .i64 (.negSucc 0)) (nI .i64 0) G = .val (.bool false) G := rfl
theorem neg_lt (G : Heap) : cmpV iltF strLt (.int .i64 (.negSucc 0)) (nI .i64 0) G = .val (.bool true) G := rfl
theorem neg_sub (G : Heap) : subV (nI .i64 0) (nI .i64 1) G = .val (.int .i64 (.negSucc 0)) G := rfl
theorem neg_add (G : Heap) : addV (.int .i64 (.negSucc 0)) (nI .i64 1) G = .val (nI .i64 0) G := rfl
theorem neg_eq0 (G : Heap) : eqV eqI false (.int .i64 (.negSucc 0)) (nI .i64 0) G = .val (.bool false) G := rfl
def rangeSV (a : AV) (H : Heap) : OR := onStr a fun s => .val (.ptr H.nx 0) (H.new (.siter s 0))
theorem oRangeS_at (x : EvF) (tm : TM) (H : Heap) : oRangeS x tm H = rangeSV (x tm) H := rfl
theorem rangeSV_str (s : List UInt8) (H : Heap) : rangeSV (.str s) H = .val (.ptr H.nx 0) (H.new (.siter s 0)) := rfl
def nextO (o : Option Obj) (b : Nat) (H : Heap) : OR := onIf (Nat.ble H.ro b) <| match o with
  | some o => asSiter o fun s pos => cond (Nat.ble (Nat.succ pos) (lenL s)) (match Utf8.decode ⟨s.toArray⟩ pos with | (c, w) => .val (.tup [.bool true, .int .i64 (.ofNat pos), .int .i32 c]) (H.put b (.siter s (Nat.add pos w)))) (.val (.tup [.bool false]) H)
  | none => .fail
def nextV (a : AV) (H : Heap) : OR := onPtr a fun b o => onIf (Nat.beq o 0) <| nextO (H.t.get b) b H
theorem oNext_at (x : EvF) (tm : TM) (H : Heap) : oNext x tm H = nextV (x tm) H := by
  show onPtr (x tm) _ = onPtr (x tm) _
  congr 1
theorem nextV_at (b : Nat) (H : Heap) : nextV (.ptr b 0) H = nextO (H.t.get b) b H := rfl
theorem decode_low {s : List UInt8} {i : Nat} (h : i < s.length) (hc : (s.getD i 0).toNat < 128) : Utf8.decode ⟨s.toArray⟩ i = ((s.getD i 0).toNat, 1) := by
  have e : ((⟨s.toArray⟩ : ByteArray).get! (i + 0)).toNat = (s.getD i 0).toNat := by
    show (s.toArray[i + 0]!).toNat = _
    rw [Nat.add_zero, List.getElem!_toArray, List.getD_eq_getElem?_getD, List.getElem!_eq_getElem?_getD]
    rfl
  unfold Utf8.decode
  simp only [e]
  rw [if_pos hc]
theorem nextO_low {H : Heap} {b : Nat} {s : List UInt8} {i : Nat} (hro : H.ro ≤ b) (h : i < s.length) (hc : (s.getD i 0).toNat < 128) :
    nextO (some (.siter s i)) b H = .val (.tup [.bool true, nI .i64 i, nI .i32 (s.getD i 0).toNat]) (H.put b (.siter s (i + 1))) := by
  show onIf (Nat.ble H.ro b) (cond (Nat.ble (Nat.succ i) (lenL s)) (match Utf8.decode ⟨s.toArray⟩ i with | (c, w) => OR.val (.tup [.bool true, .int .i64 (.ofNat i), .int .i32 c]) (H.put b (.siter s (Nat.add i w)))) _) = _
  rw [Nat.ble_eq_true_of_le hro, lenL_eq, Nat.ble_eq_true_of_le (show Nat.succ i ≤ s.length from h), decode_low h hc]
  rfl
theorem nextO_end {H : Heap} {b : Nat} {s : List UInt8} {i : Nat} (hro : H.ro ≤ b) (h : s.length ≤ i) : nextO (some (.siter s i)) b H = .val (.tup [.bool false]) H := by
  have e : Nat.ble (Nat.succ i) s.length = false := by
    cases hq : Nat.ble (Nat.succ i) s.length with
    | false => rfl
    | true => have := Nat.le_of_ble_eq_true hq; have : i + 1 ≤ s.length := this; omega
  show onIf (Nat.ble H.ro b) (cond (Nat.ble (Nat.succ i) (lenL s)) _ _) = _
  rw [Nat.ble_eq_true_of_le hro, lenL_eq, e]; rfl
theorem lastIB0_run {lib0 : Lib} {fs : T CF} {fuel : Nat} (E : Env lib0 fs fuel) {n : Nat} {s : List UInt8} {H : Heap} (h : Low s) :
    ∃ H', callN (LK lib0 fs fuel 0) fs fuel (n + 2) 165 [.str s, nI .u8 47] H = .ret (.int .i64 (.negSucc 0)) H' ∧ Keep H H' [] := by
  rw [callN_fn (libK_none E.n165 (.inl (by decide)) _ _) E.f165]
  have hl := h.len
  obtain ⟨m, rfl⟩ : ∃ m, fuel = m + 6 := ⟨fuel - 6, by have := E.big; omega⟩
  have q0 := h.byte (i := 0) (x := 47) (by omega) (by omega)
  have q1 := h.byte (i := 1) (x := 47) (by omega) (by omega)
  have q2 := h.byte (i := 2) (x := 47) (by omega) (by omega)
  have q3 := h.byte (i := 3) (x := 47) (by omega) (by omega)
  simp (maxSteps := 4000000) (disch := first | assumption | omega | (simp -implicitDefEqProofs only [SideG, SideL] <;> first | assumption | omega) | decide) only [hl, neg_sub, neg_ge, q0, q1, q2, q3, idxStr_at, cmpV_ge, cmpV_le, cmpV_lt, cmpV_gt, eqV_eq, eqV_ne, eqS_eq, eqS_ne, subV_i, addV_i, lenSV_str, slStr_drop, slStr_take, intV_u8, loopN_succ, Nat.reduceSub, Nat.reduceAdd, Nat.reduceLeDiff, Nat.zero_le, Nat.lt_irrefl, Nat.reduceEqDiff, decide_true, decide_false, c165, c165_l0, RunG, N8G, CoreG, CoreL, freeK_at, readK_at, freeN_at, Nat.reduceEqDiff, reduceCtorEq, TB0]
  exact ⟨_, rfl, Keep.refl _ _⟩
theorem lastIB0 {lib0 : Lib} {fs : T CF} {fuel : Nat} (E : Env lib0 fs fuel) {k n : Nat} (hk : 1 ≤ k) {s : List UInt8} {H : Heap} (h : Low s) :
    callN (LK lib0 fs fuel k) fs fuel (n + 1) 165 [.str s, nI .u8 47] H = .ret (.int .i64 (.negSucc 0)) H := by
  obtain ⟨H', e, g⟩ := lastIB0_run E (n := 898) (H := H) h
  exact keep_hit (r := 0) rfl rfl e g (rfl) hk
theorem lastIB_run {lib0 : Lib} {fs : T CF} {fuel : Nat} (E : Env lib0 fs fuel) {n : Nat} {s : List UInt8} {H : Heap} (h : Low s) :
    ∃ H', callN (LK lib0 fs fuel 1) fs fuel (n + 2) 123 [.str s, nI .u8 47] H = .ret (.int .i64 (.negSucc 0)) H' ∧ Keep H H' [] := by
  rw [callN_fn (libK_none E.n123 (.inl (by decide)) _ _) E.f123]
  have hl := h.len
  have e1 := fun {j} => lastIB0 (lib0 := lib0) (fs := fs) (fuel := fuel) E (k := 1) (n := j) (by decide) (H := H) h
  simp (maxSteps := 4000000) (disch := first | assumption | omega | (simp -implicitDefEqProofs only [SideG, SideL] <;> first | assumption | omega) | decide) only [e1, idxStr_at, cmpV_ge, cmpV_le, cmpV_lt, cmpV_gt, eqV_eq, eqV_ne, eqS_eq, eqS_ne, subV_i, addV_i, lenSV_str, slStr_drop, slStr_take, intV_u8, loopN_succ, Nat.reduceSub, Nat.reduceAdd, Nat.reduceLeDiff, Nat.zero_le, Nat.lt_irrefl, Nat.reduceEqDiff, decide_true, decide_false, c123, RunG, N8G, CoreG, CoreL, freeK_at, readK_at, freeN_at, Nat.reduceEqDiff, reduceCtorEq, TB0]
  exact ⟨_, rfl, Keep.refl _ _⟩
theorem lastIB {lib0 : Lib} {fs : T CF} {fuel : Nat} (E : Env lib0 fs fuel) {k n : Nat} (hk : 2 ≤ k) {s : List UInt8} {H : Heap} (h : Low s) :
    callN (LK lib0 fs fuel k) fs fuel (n + 1) 123 [.str s, nI .u8 47] H = .ret (.int .i64 (.negSucc 0)) H := by
  obtain ⟨H', e, g⟩ := lastIB_run E (n := 898) (H := H) h
  exact keep_hit (r := 1) rfl rfl e g (rfl) hk
theorem base_run {lib0 : Lib} {fs : T CF} {fuel : Nat} (E : Env lib0 fs fuel) {n : Nat} {s : List UInt8} {H : Heap} (h : Low s) :
    ∃ H', callN (LK lib0 fs fuel 2) fs fuel (n + 2) 69 [.str s] H = .ret (.str s) H' ∧ Keep H H' [] := by
  rw [callN_fn (libK_none E.n69 (.inl (by decide)) _ _) E.f69]
  have hl := h.len
  have e1 := fun {j} => lastIB (lib0 := lib0) (fs := fs) (fuel := fuel) E (k := 2) (n := j) (by decide) (H := H) h
  simp (maxSteps := 4000000) (disch := first | assumption | omega | (simp -implicitDefEqProofs only [SideG, SideL] <;> first | assumption | omega) | decide) only [e1, neg_add, List.drop_zero, idxStr_at, cmpV_ge, cmpV_le, cmpV_lt, cmpV_gt, eqV_eq, eqV_ne, eqS_eq, eqS_ne, subV_i, addV_i, lenSV_str, slStr_drop, slStr_take, intV_u8, loopN_succ, Nat.reduceSub, Nat.reduceAdd, Nat.reduceLeDiff, Nat.zero_le, Nat.lt_irrefl, Nat.reduceEqDiff, decide_true, decide_false, c69, RunG, N8G, CoreG, CoreL, freeK_at, readK_at, freeN_at, Nat.reduceEqDiff, reduceCtorEq, TB0]
  exact ⟨_, rfl, Keep.refl _ _⟩
theorem base {lib0 : Lib} {fs : T CF} {fuel : Nat} (E : Env lib0 fs fuel) {k n : Nat} (hk : 3 ≤ k) {s : List UInt8} {H : Heap} (h : Low s) :
    callN (LK lib0 fs fuel k) fs fuel (n + 1) 69 [.str s] H = .ret (.str s) H := by
  obtain ⟨H', e, g⟩ := base_run E (n := 898) (H := H) h
  exact keep_hit (r := 2) rfl rfl e g (rfl) hk
theorem hasP0_run {lib0 : Lib} {fs : T CF} {fuel : Nat} (E : Env lib0 fs fuel) {n : Nat} {s : List UInt8} {H : Heap} (h : Low s) :
    ∃ H', callN (LK lib0 fs fuel 0) fs fuel (n + 2) 82 [.str s, .str [46, 119, 104, 46]] H = .ret (.bool false) H' ∧ Keep H H' [] := by
  rw [callN_fn (libK_none E.n82 (.inl (by decide)) _ _) E.f82]
  have hl := h.len
  have tk := h.tk
  have ne := h.ne (l := [46, 119, 104, 46]) (.inr (by decide))
  have wl : ([46, 119, 104, 46] : List UInt8).length = 4 := rfl
  simp (maxSteps := 4000000) (disch := first | assumption | omega | (simp -implicitDefEqProofs only [SideG, SideL] <;> first | assumption | omega) | decide) only [hl, tk, ne, wl, idxStr_at, cmpV_ge, cmpV_le, cmpV_lt, cmpV_gt, eqV_eq, eqV_ne, eqS_eq, eqS_ne, subV_i, addV_i, lenSV_str, slStr_drop, slStr_take, intV_u8, loopN_succ, Nat.reduceSub, Nat.reduceAdd, Nat.reduceLeDiff, Nat.zero_le, Nat.lt_irrefl, Nat.reduceEqDiff, decide_true, decide_false, c82, RunG, N8G, CoreG, CoreL, freeK_at, readK_at, freeN_at, Nat.reduceEqDiff, reduceCtorEq, TB0]
  exact ⟨_, rfl, Keep.refl _ _⟩
theorem hasP0 {lib0 : Lib} {fs : T CF} {fuel : Nat} (E : Env lib0 fs fuel) {k n : Nat} (hk : 1 ≤ k) {s : List UInt8} {H : Heap} (h : Low s) :
    callN (LK lib0 fs fuel k) fs fuel (n + 1) 82 [.str s, .str [46, 119, 104, 46]] H = .ret (.bool false) H := by
  obtain ⟨H', e, g⟩ := hasP0_run E (n := 898) (H := H) h
  exact keep_hit (r := 0) rfl rfl e g (rfl) hk
theorem hasP_run {lib0 : Lib} {fs : T CF} {fuel : Nat} (E : Env lib0 fs fuel) {n : Nat} {s : List UInt8} {H : Heap} (h : Low s) :
    ∃ H', callN (LK lib0 fs fuel 1) fs fuel (n + 2) 44 [.str s, .str [46, 119, 104, 46]] H = .ret (.bool false) H' ∧ Keep H H' [] := by
  rw [callN_fn (libK_none E.n44 (.inl (by decide)) _ _) E.f44]
  have e1 := fun {j} => hasP0 (lib0 := lib0) (fs := fs) (fuel := fuel) E (k := 1) (n := j) (by decide) (H := H) h
  simp (maxSteps := 4000000) (disch := first | assumption | omega | (simp -implicitDefEqProofs only [SideG, SideL] <;> first | assumption | omega) | decide) only [e1, idxStr_at, cmpV_ge, cmpV_le, cmpV_lt, cmpV_gt, eqV_eq, eqV_ne, eqS_eq, eqS_ne, subV_i, addV_i, lenSV_str, slStr_drop, slStr_take, intV_u8, loopN_succ, Nat.reduceSub, Nat.reduceAdd, Nat.reduceLeDiff, Nat.zero_le, Nat.lt_irrefl, Nat.reduceEqDiff, decide_true, decide_false, c44, RunG, N8G, CoreG, CoreL, freeK_at, readK_at, freeN_at, Nat.reduceEqDiff, reduceCtorEq, TB0]
  exact ⟨_, rfl, Keep.refl _ _⟩
theorem hasP {lib0 : Lib} {fs : T CF} {fuel : Nat} (E : Env lib0 fs fuel) {k n : Nat} (hk : 2 ≤ k) {s : List UInt8} {H : Heap} (h : Low s) :
    callN (LK lib0 fs fuel k) fs fuel (n + 1) 44 [.str s, .str [46, 119, 104, 46]] H = .ret (.bool false) H := by
  obtain ⟨H', e, g⟩ := hasP_run E (n := 898) (H := H) h
  exact keep_hit (r := 1) rfl rfl e g (rfl) hk
theorem last__run {lib0 : Lib} {fs : T CF} {fuel : Nat} (E : Env lib0 fs fuel) {n : Nat} {s : List UInt8} {H : Heap} (h : Low s) :
    ∃ H', callN (LK lib0 fs fuel 2) fs fuel (n + 2) 70 [.str s] H = .ret (nI .i64 1) H' ∧ Keep H H' [] := by
  rw [callN_fn (libK_none E.n70 (.inl (by decide)) _ _) E.f70]
  have e1 := fun {j} => hasP (lib0 := lib0) (fs := fs) (fuel := fuel) E (k := 2) (n := j) (by decide) (H := H) h
  have ne := h.ne (l := [46, 119, 104, 46, 46, 119, 104, 46, 46, 111, 112, 113]) (.inl (by decide))
  simp (maxSteps := 4000000) (disch := first | assumption | omega | (simp -implicitDefEqProofs only [SideG, SideL] <;> first | assumption | omega) | decide) only [e1, ne, idxStr_at, cmpV_ge, cmpV_le, cmpV_lt, cmpV_gt, eqV_eq, eqV_ne, eqS_eq, eqS_ne, subV_i, addV_i, lenSV_str, slStr_drop, slStr_take, intV_u8, loopN_succ, Nat.reduceSub, Nat.reduceAdd, Nat.reduceLeDiff, Nat.zero_le, Nat.lt_irrefl, Nat.reduceEqDiff, decide_true, decide_false, c70, RunG, N8G, CoreG, CoreL, freeK_at, readK_at, freeN_at, Nat.reduceEqDiff, reduceCtorEq, TB0]
  exact ⟨_, rfl, Keep.refl _ _⟩
theorem last_ {lib0 : Lib} {fs : T CF} {fuel : Nat} (E : Env lib0 fs fuel) {k n : Nat} (hk : 3 ≤ k) {s : List UInt8} {H : Heap} (h : Low s) :
    callN (LK lib0 fs fuel k) fs fuel (n + 1) 70 [.str s] H = .ret (nI .i64 1) H := by
  obtain ⟨H', e, g⟩ := last__run E (n := 898) (H := H) h
  exact keep_hit (r := 2) rfl rfl e g (rfl) hk
theorem hasS_run {lib0 : Lib} {fs : T CF} {fuel : Nat} (E : Env lib0 fs fuel) {n : Nat} {s : List UInt8} {H : Heap} (h : Low s) :
    ∃ H', callN (LK lib0 fs fuel 0) fs fuel (n + 2) 166 [.str s, .str s] H = .ret (.bool true) H' ∧ Keep H H' [] := by
  rw [callN_fn (libK_none E.n166 (.inl (by decide)) _ _) E.f166]
  have hl := h.len
  have ne : decide (s = s) = true := decide_eq_true rfl
  simp (maxSteps := 4000000) (disch := first | assumption | omega | (simp -implicitDefEqProofs only [SideG, SideL] <;> first | assumption | omega) | decide) only [hl, ne, List.drop_zero, idxStr_at, cmpV_ge, cmpV_le, cmpV_lt, cmpV_gt, eqV_eq, eqV_ne, eqS_eq, eqS_ne, subV_i, addV_i, lenSV_str, slStr_drop, slStr_take, intV_u8, loopN_succ, Nat.reduceSub, Nat.reduceAdd, Nat.reduceLeDiff, Nat.zero_le, Nat.lt_irrefl, Nat.reduceEqDiff, decide_true, decide_false, c166, RunG, N8G, CoreG, CoreL, freeK_at, readK_at, freeN_at, Nat.reduceEqDiff, reduceCtorEq, TB0]
  exact ⟨_, rfl, Keep.refl _ _⟩
theorem hasS {lib0 : Lib} {fs : T CF} {fuel : Nat} (E : Env lib0 fs fuel) {k n : Nat} (hk : 1 ≤ k) {s : List UInt8} {H : Heap} (h : Low s) :
    callN (LK lib0 fs fuel k) fs fuel (n + 1) 166 [.str s, .str s] H = .ret (.bool true) H := by
  obtain ⟨H', e, g⟩ := hasS_run E (n := 898) (H := H) h
  exact keep_hit (r := 0) rfl rfl e g (rfl) hk
theorem trimS0_run {lib0 : Lib} {fs : T CF} {fuel : Nat} (E : Env lib0 fs fuel) {n : Nat} {s : List UInt8} {H : Heap} (h : Low s) :
    ∃ H', callN (LK lib0 fs fuel 1) fs fuel (n + 2) 124 [.str s, .str s] H = .ret (.str []) H' ∧ Keep H H' [] := by
  rw [callN_fn (libK_none E.n124 (.inl (by decide)) _ _) E.f124]
  have hl := h.len
  have e1 := fun {j} => hasS (lib0 := lib0) (fs := fs) (fuel := fuel) E (k := 1) (n := j) (by decide) (H := H) h
  simp (maxSteps := 4000000) (disch := first | assumption | omega | (simp -implicitDefEqProofs only [SideG, SideL] <;> first | assumption | omega) | decide) only [hl, e1, List.take_zero, idxStr_at, cmpV_ge, cmpV_le, cmpV_lt, cmpV_gt, eqV_eq, eqV_ne, eqS_eq, eqS_ne, subV_i, addV_i, lenSV_str, slStr_drop, slStr_take, intV_u8, loopN_succ, Nat.reduceSub, Nat.reduceAdd, Nat.reduceLeDiff, Nat.zero_le, Nat.lt_irrefl, Nat.reduceEqDiff, decide_true, decide_false, c124, RunG, N8G, CoreG, CoreL, freeK_at, readK_at, freeN_at, Nat.reduceEqDiff, reduceCtorEq, TB0]
  exact ⟨_, rfl, Keep.refl _ _⟩
theorem trimS0 {lib0 : Lib} {fs : T CF} {fuel : Nat} (E : Env lib0 fs fuel) {k n : Nat} (hk : 2 ≤ k) {s : List UInt8} {H : Heap} (h : Low s) :
    callN (LK lib0 fs fuel k) fs fuel (n + 1) 124 [.str s, .str s] H = .ret (.str []) H := by
  obtain ⟨H', e, g⟩ := trimS0_run E (n := 898) (H := H) h
  exact keep_hit (r := 1) rfl rfl e g (rfl) hk
theorem trimS_run {lib0 : Lib} {fs : T CF} {fuel : Nat} (E : Env lib0 fs fuel) {n : Nat} {s : List UInt8} {H : Heap} (h : Low s) :
    ∃ H', callN (LK lib0 fs fuel 2) fs fuel (n + 2) 71 [.str s, .str s] H = .ret (.str []) H' ∧ Keep H H' [] := by
  rw [callN_fn (libK_none E.n71 (.inl (by decide)) _ _) E.f71]
  have e1 := fun {j} => trimS0 (lib0 := lib0) (fs := fs) (fuel := fuel) E (k := 2) (n := j) (by decide) (H := H) h
  simp (maxSteps := 4000000) (disch := first | assumption | omega | (simp -implicitDefEqProofs only [SideG, SideL] <;> first | assumption | omega) | decide) only [e1, idxStr_at, cmpV_ge, cmpV_le, cmpV_lt, cmpV_gt, eqV_eq, eqV_ne, eqS_eq, eqS_ne, subV_i, addV_i, lenSV_str, slStr_drop, slStr_take, intV_u8, loopN_succ, Nat.reduceSub, Nat.reduceAdd, Nat.reduceLeDiff, Nat.zero_le, Nat.lt_irrefl, Nat.reduceEqDiff, decide_true, decide_false, c71, RunG, N8G, CoreG, CoreL, freeK_at, readK_at, freeN_at, Nat.reduceEqDiff, reduceCtorEq, TB0]
  exact ⟨_, rfl, Keep.refl _ _⟩
theorem trimS {lib0 : Lib} {fs : T CF} {fuel : Nat} (E : Env lib0 fs fuel) {k n : Nat} (hk : 3 ≤ k) {s : List UInt8} {H : Heap} (h : Low s) :
    callN (LK lib0 fs fuel k) fs fuel (n + 1) 71 [.str s, .str s] H = .ret (.str []) H := by
  obtain ⟨H', e, g⟩ := trimS_run E (n := 898) (H := H) h
  exact keep_hit (r := 2) rfl rfl e g (rfl) hk
theorem class1_run {lib0 : Lib} {fs : T CF} {fuel : Nat} (E : Env lib0 fs fuel) {n : Nat} {s : List UInt8} {H : Heap} (h : Low s) :
    ∃ H', callN (LK lib0 fs fuel 0) fs fuel (n + 2) 297 [.str [], .str s] H = .ret (.str s) H' ∧ Keep H H' [] := by
  rw [callN_fn (libK_none E.n297 (.inl (by decide)) _ _) E.f297]
  have ad := fun G => addV_str (a := []) (b := s) (by rw [h.len]; simp) G
  simp (maxSteps := 4000000) (disch := first | assumption | omega | (simp -implicitDefEqProofs only [SideG, SideL] <;> first | assumption | omega) | decide) only [ad, idxStr_at, cmpV_ge, cmpV_le, cmpV_lt, cmpV_gt, eqV_eq, eqV_ne, eqS_eq, eqS_ne, subV_i, addV_i, lenSV_str, slStr_drop, slStr_take, intV_u8, loopN_succ, Nat.reduceSub, Nat.reduceAdd, Nat.reduceLeDiff, Nat.zero_le, Nat.lt_irrefl, Nat.reduceEqDiff, decide_true, decide_false, c297, RunG, N8G, CoreG, CoreL, freeK_at, readK_at, freeN_at, Nat.reduceEqDiff, reduceCtorEq, TB0]
  exact ⟨_, rfl, Keep.refl _ _⟩
theorem class1 {lib0 : Lib} {fs : T CF} {fuel : Nat} (E : Env lib0 fs fuel) {k n : Nat} (hk : 1 ≤ k) {s : List UInt8} {H : Heap} (h : Low s) :
    callN (LK lib0 fs fuel k) fs fuel (n + 1) 297 [.str [], .str s] H = .ret (.str s) H := by
  obtain ⟨H', e, g⟩ := class1_run E (n := 898) (H := H) h
  exact keep_hit (r := 0) rfl rfl e g (rfl) hk
theorem count_run {lib0 : Lib} {fs : T CF} {fuel : Nat} (E : Env lib0 fs fuel) {n : Nat} {s : List UInt8} {H : Heap} (h : Low s) :
    ∃ H', callN (LK lib0 fs fuel 0) fs fuel (n + 2) 231 [.str s, .str [47]] H = .ret (nI .i64 0) H' ∧ Keep H H' [] := by
  rw [callN_fn (libK_none E.n231 (.inl (by decide)) _ _) E.f231]
  have ec : ∀ {j}, callN (LK lib0 fs fuel 0) fs fuel (j + 1) 252 [.str s, nI .u8 47] H = .ret (nI .i64 0) H := fun {j} => by
    rw [base_hit rfl (E.cn s 47 H (by omega)), cnt0 s 0 47 fun c hc => by have := h.mem c hc; omega]
  have wl : ([47] : List UInt8).length = 1 := rfl
  have w0 : ([47] : List UInt8).getD 0 0 = 47 := rfl
  have w1 : (47 : UInt8).toNat = 47 := rfl
  have w2 : decide (0 = 1) = false := rfl
  simp (maxSteps := 4000000) (disch := first | assumption | omega | (simp -implicitDefEqProofs only [SideG, SideL] <;> first | assumption | omega) | decide) only [wl, w0, w1, ec, idxStr_at, cmpV_ge, cmpV_le, cmpV_lt, cmpV_gt, eqV_eq, eqV_ne, eqS_eq, eqS_ne, subV_i, addV_i, lenSV_str, slStr_drop, slStr_take, intV_u8, loopN_succ, Nat.reduceSub, Nat.reduceAdd, Nat.reduceLeDiff, Nat.zero_le, Nat.lt_irrefl, Nat.reduceEqDiff, decide_true, decide_false, c231, RunG, N8G, CoreG, CoreL, freeK_at, readK_at, freeN_at, Nat.reduceEqDiff, reduceCtorEq, TB0]
  exact ⟨_, rfl, Keep.refl _ _⟩
theorem count {lib0 : Lib} {fs : T CF} {fuel : Nat} (E : Env lib0 fs fuel) {k n : Nat} (hk : 1 ≤ k) {s : List UInt8} {H : Heap} (h : Low s) :
    callN (LK lib0 fs fuel k) fs fuel (n + 1) 231 [.str s, .str [47]] H = .ret (nI .i64 0) H := by
  obtain ⟨H', e, g⟩ := count_run E (n := 898) (H := H) h
  exact keep_hit (r := 0) rfl rfl e g (rfl) hk
theorem indB0_run {lib0 : Lib} {fs : T CF} {fuel : Nat} (E : Env lib0 fs fuel) {n : Nat} {x : Nat} {H : Heap} (h1 : 97 ≤ x) (h2 : x ≤ 122) :
    ∃ H', callN (LK lib0 fs fuel 0) fs fuel (n + 2) 136 [.str [47, 0], nI .u8 x] H = .ret (.int .i64 (.negSucc 0)) H' ∧ Keep H H' [] := by
  rw [callN_fn (libK_none E.n136 (.inl (by decide)) _ _) E.f136]
  have ec : ∀ {j}, callN (LK lib0 fs fuel 0) fs fuel (j + 1) 172 [.str [47, 0], nI .u8 x] H = .ret (.int .i64 (.negSucc 0)) H := fun {j} => by
    rw [base_hit rfl (E.ix [47, 0] x H (by omega))]
    show CR.ret (.int .i64 (cond (Nat.beq 47 x) _ (cond (Nat.beq 0 x) _ _))) H = _
    rw [beqF (by omega), beqF (by omega)]; rfl
  simp (maxSteps := 4000000) (disch := first | assumption | omega | (simp -implicitDefEqProofs only [SideG, SideL] <;> first | assumption | omega) | decide) only [ec, idxStr_at, cmpV_ge, cmpV_le, cmpV_lt, cmpV_gt, eqV_eq, eqV_ne, eqS_eq, eqS_ne, subV_i, addV_i, lenSV_str, slStr_drop, slStr_take, intV_u8, loopN_succ, Nat.reduceSub, Nat.reduceAdd, Nat.reduceLeDiff, Nat.zero_le, Nat.lt_irrefl, Nat.reduceEqDiff, decide_true, decide_false, c136, RunG, N8G, CoreG, CoreL, freeK_at, readK_at, freeN_at, Nat.reduceEqDiff, reduceCtorEq, TB0]
  exact ⟨_, rfl, Keep.refl _ _⟩
theorem indB0 {lib0 : Lib} {fs : T CF} {fuel : Nat} (E : Env lib0 fs fuel) {k n : Nat} (hk : 1 ≤ k) {x : Nat} {H : Heap} (h1 : 97 ≤ x) (h2 : x ≤ 122) :
    callN (LK lib0 fs fuel k) fs fuel (n + 1) 136 [.str [47, 0], nI .u8 x] H = .ret (.int .i64 (.negSucc 0)) H := by
  obtain ⟨H', e, g⟩ := indB0_run E (n := 898) (H := H) h1 h2
  exact keep_hit (r := 0) rfl rfl e g (rfl) hk
theorem indB_run {lib0 : Lib} {fs : T CF} {fuel : Nat} (E : Env lib0 fs fuel) {n : Nat} {x : Nat} {H : Heap} (h1 : 97 ≤ x) (h2 : x ≤ 122) :
    ∃ H', callN (LK lib0 fs fuel 1) fs fuel (n + 2) 86 [.str [47, 0], nI .u8 x] H = .ret (.int .i64 (.negSucc 0)) H' ∧ Keep H H' [] := by
  rw [callN_fn (libK_none E.n86 (.inl (by decide)) _ _) E.f86]
  have e1 := fun {j} => indB0 (lib0 := lib0) (fs := fs) (fuel := fuel) E (k := 1) (n := j) (by decide) (H := H) h1 h2
  simp (maxSteps := 4000000) (disch := first | assumption | omega | (simp -implicitDefEqProofs only [SideG, SideL] <;> first | assumption | omega) | decide) only [e1, idxStr_at, cmpV_ge, cmpV_le, cmpV_lt, cmpV_gt, eqV_eq, eqV_ne, eqS_eq, eqS_ne, subV_i, addV_i, lenSV_str, slStr_drop, slStr_take, intV_u8, loopN_succ, Nat.reduceSub, Nat.reduceAdd, Nat.reduceLeDiff, Nat.zero_le, Nat.lt_irrefl, Nat.reduceEqDiff, decide_true, decide_false, c86, RunG, N8G, CoreG, CoreL, freeK_at, readK_at, freeN_at, Nat.reduceEqDiff, reduceCtorEq, TB0]
  exact ⟨_, rfl, Keep.refl _ _⟩
theorem indB {lib0 : Lib} {fs : T CF} {fuel : Nat} (E : Env lib0 fs fuel) {k n : Nat} (hk : 2 ≤ k) {x : Nat} {H : Heap} (h1 : 97 ≤ x) (h2 : x ≤ 122) :
    callN (LK lib0 fs fuel k) fs fuel (n + 1) 86 [.str [47, 0], nI .u8 x] H = .ret (.int .i64 (.negSucc 0)) H := by
  obtain ⟨H', e, g⟩ := indB_run E (n := 898) (H := H) h1 h2
  exact keep_hit (r := 1) rfl rfl e g (rfl) hk
theorem should_run {lib0 : Lib} {fs : T CF} {fuel : Nat} (E : Env lib0 fs fuel) {n : Nat}  {H : Heap}  :
    ∃ H', callN (LK lib0 fs fuel 0) fs fuel (n + 2) 200 [nI .i64 4] H = .ret (.bool false) H' ∧ Keep H H' [] := by
  rw [callN_fn (libK_none E.n200 (.inl (by decide)) _ _) E.f200]
  have d0 : decide (8 < 4) = false := rfl
  simp (maxSteps := 4000000) (disch := first | assumption | omega | (simp -implicitDefEqProofs only [SideG, SideL] <;> first | assumption | omega) | decide) only [d0, idxStr_at, cmpV_ge, cmpV_le, cmpV_lt, cmpV_gt, eqV_eq, eqV_ne, eqS_eq, eqS_ne, subV_i, addV_i, lenSV_str, slStr_drop, slStr_take, intV_u8, loopN_succ, Nat.reduceSub, Nat.reduceAdd, Nat.reduceLeDiff, Nat.zero_le, Nat.lt_irrefl, Nat.reduceEqDiff, decide_true, decide_false, c200, RunG, N8G, CoreG, CoreL, freeK_at, readK_at, freeN_at, Nat.reduceEqDiff, reduceCtorEq, TB0]
  exact ⟨_, rfl, Keep.refl _ _⟩
theorem should {lib0 : Lib} {fs : T CF} {fuel : Nat} (E : Env lib0 fs fuel) {k n : Nat} (hk : 1 ≤ k)  {H : Heap}  :
    callN (LK lib0 fs fuel k) fs fuel (n + 1) 200 [nI .i64 4] H = .ret (.bool false) H := by
  obtain ⟨H', e, g⟩ := should_run E (n := 898) (H := H) 
  exact keep_hit (r := 0) rfl rfl e g (rfl) hk
theorem indR_run {lib0 : Lib} {fs : T CF} {fuel : Nat} (E : Env lib0 fs fuel) {n : Nat} {x : Nat} {H : Heap} (h1 : 97 ≤ x) (h2 : x ≤ 122) :
    ∃ H', callN (LK lib0 fs fuel 2) fs fuel (n + 2) 199 [.str [47, 0], nI .i32 x] H = .ret (.int .i64 (.negSucc 0)) H' ∧ Keep H H' [] := by
  rw [callN_fn (libK_none E.n199 (.inl (by decide)) _ _) E.f199]
  have e1 := fun {j} => indB (lib0 := lib0) (fs := fs) (fuel := fuel) E (k := 2) (n := j) (by decide) (H := H) h1 h2
  have d0 : decide (x < 128) = true := decide_eq_true (by omega)
  simp (maxSteps := 4000000) (disch := first | assumption | omega | (simp -implicitDefEqProofs only [SideG, SideL] <;> first | assumption | omega) | decide) only [e1, d0, idxStr_at, cmpV_ge, cmpV_le, cmpV_lt, cmpV_gt, eqV_eq, eqV_ne, eqS_eq, eqS_ne, subV_i, addV_i, lenSV_str, slStr_drop, slStr_take, intV_u8, loopN_succ, Nat.reduceSub, Nat.reduceAdd, Nat.reduceLeDiff, Nat.zero_le, Nat.lt_irrefl, Nat.reduceEqDiff, decide_true, decide_false, c199, RunG, N8G, CoreG, CoreL, freeK_at, readK_at, freeN_at, Nat.reduceEqDiff, reduceCtorEq, TB0, TB3, TB5]
  exact ⟨_, rfl, Keep.refl _ _⟩
theorem indR {lib0 : Lib} {fs : T CF} {fuel : Nat} (E : Env lib0 fs fuel) {k n : Nat} (hk : 3 ≤ k) {x : Nat} {H : Heap} (h1 : 97 ≤ x) (h2 : x ≤ 122) :
    callN (LK lib0 fs fuel k) fs fuel (n + 1) 199 [.str [47, 0], nI .i32 x] H = .ret (.int .i64 (.negSucc 0)) H := by
  obtain ⟨H', e, g⟩ := indR_run E (n := 898) (H := H) h1 h2
  exact keep_hit (r := 2) rfl rfl e g (rfl) hk
theorem indA_run {lib0 : Lib} {fs : T CF} {fuel : Nat} (E : Env lib0 fs fuel) {n : Nat} {s : List UInt8} {H : Heap} (h : Low s) (hro : H.ro ≤ H.nx) :
    ∃ H', callN (LK lib0 fs fuel 3) fs fuel (n + 2) 169 [.str s, .str [47, 0]] H = .ret (.int .i64 (.negSucc 0)) H' ∧ Keep H H' [] := by
  rw [callN_fn (libK_none E.n169 (.inl (by decide)) _ _) E.f169]
  have hl := h.len
  obtain ⟨m, rfl⟩ : ∃ m, fuel = m + 6 := ⟨fuel - 6, by have := E.big; omega⟩
  have wl : ([47, 0] : List UInt8).length = 2 := rfl
  have ne : decide (([47, 0] : List UInt8) = []) = false := rfl
  have es := fun {j} => should (lib0 := lib0) (fs := fs) (fuel := m + 6) E (k := 3) (n := j) (by decide) (H := H)
  obtain ⟨a0, b0⟩ := h.at_ 0 (by omega)
  have i0 := fun {j} {G : Heap} => indR (lib0 := lib0) (fs := fs) (fuel := m + 6) E (k := 3) (n := j) (by decide) (H := G) a0 b0
  obtain ⟨a1, b1⟩ := h.at_ 1 (by omega)
  have i1 := fun {j} {G : Heap} => indR (lib0 := lib0) (fs := fs) (fuel := m + 6) E (k := 3) (n := j) (by decide) (H := G) a1 b1
  obtain ⟨a2, b2⟩ := h.at_ 2 (by omega)
  have i2 := fun {j} {G : Heap} => indR (lib0 := lib0) (fs := fs) (fuel := m + 6) E (k := 3) (n := j) (by decide) (H := G) a2 b2
  obtain ⟨a3, b3⟩ := h.at_ 3 (by omega)
  have i3 := fun {j} {G : Heap} => indR (lib0 := lib0) (fs := fs) (fuel := m + 6) E (k := 3) (n := j) (by decide) (H := G) a3 b3
  simp (maxSteps := 4000000) (disch := first | assumption | (rw [h.len]; omega) | (show _ < 128; omega) | omega | (simp -implicitDefEqProofs only [SideG, SideL] <;> first | assumption | omega) | decide) only [wl, ne, hl, es, i0, i1, i2, i3, oRangeS_at, rangeSV_str, oNext_at, nextV_at, nextO_low, nextO_end, neg_ge, put_put, idxStr_at, cmpV_ge, cmpV_le, cmpV_lt, cmpV_gt, eqV_eq, eqV_ne, eqS_eq, eqS_ne, subV_i, addV_i, lenSV_str, slStr_drop, slStr_take, intV_u8, loopN_succ, Nat.reduceSub, Nat.reduceAdd, Nat.reduceLeDiff, Nat.zero_le, Nat.lt_irrefl, Nat.reduceEqDiff, decide_true, decide_false, c169, c169_l1, RunG, N8G, CoreG, CoreL, freeK_at, readK_at, freeN_at, Nat.reduceEqDiff, reduceCtorEq, TB0, TB1]
  exact ⟨_, rfl, Keep.new _ _ _⟩
theorem indA {lib0 : Lib} {fs : T CF} {fuel : Nat} (E : Env lib0 fs fuel) {k n : Nat} (hk : 4 ≤ k) {s : List UInt8} {H : Heap} (h : Low s) (hro : H.ro ≤ H.nx) :
    callN (LK lib0 fs fuel k) fs fuel (n + 1) 169 [.str s, .str [47, 0]] H = .ret (.int .i64 (.negSucc 0)) H := by
  obtain ⟨H', e, g⟩ := indA_run E (n := 898) (H := H) h hro
  exact keep_hit (r := 3) rfl rfl e g (rfl) hk
theorem contA_run {lib0 : Lib} {fs : T CF} {fuel : Nat} (E : Env lib0 fs fuel) {n : Nat} {s : List UInt8} {H : Heap} (h : Low s) (hro : H.ro ≤ H.nx) :
    ∃ H', callN (LK lib0 fs fuel 4) fs fuel (n + 2) 128 [.str s, .str [47, 0]] H = .ret (.bool false) H' ∧ Keep H H' [] := by
  rw [callN_fn (libK_none E.n128 (.inl (by decide)) _ _) E.f128]
  have e1 := fun {j} => indA (lib0 := lib0) (fs := fs) (fuel := fuel) E (k := 4) (n := j) (by decide) (H := H) h hro
  simp (maxSteps := 4000000) (disch := first | assumption | omega | (simp -implicitDefEqProofs only [SideG, SideL] <;> first | assumption | omega) | decide) only [e1, neg_ge, idxStr_at, cmpV_ge, cmpV_le, cmpV_lt, cmpV_gt, eqV_eq, eqV_ne, eqS_eq, eqS_ne, subV_i, addV_i, lenSV_str, slStr_drop, slStr_take, intV_u8, loopN_succ, Nat.reduceSub, Nat.reduceAdd, Nat.reduceLeDiff, Nat.zero_le, Nat.lt_irrefl, Nat.reduceEqDiff, decide_true, decide_false, c128, RunG, N8G, CoreG, CoreL, freeK_at, readK_at, freeN_at, Nat.reduceEqDiff, reduceCtorEq, TB0]
  exact ⟨_, rfl, Keep.refl _ _⟩
theorem contA {lib0 : Lib} {fs : T CF} {fuel : Nat} (E : Env lib0 fs fuel) {k n : Nat} (hk : 5 ≤ k) {s : List UInt8} {H : Heap} (h : Low s) (hro : H.ro ≤ H.nx) :
    callN (LK lib0 fs fuel k) fs fuel (n + 1) 128 [.str s, .str [47, 0]] H = .ret (.bool false) H := by
  obtain ⟨H', e, g⟩ := contA_run E (n := 898) (H := H) h hro
  exact keep_hit (r := 4) rfl rfl e g (rfl) hk
theorem mayN_run {lib0 : Lib} {fs : T CF} {fuel : Nat} (E : Env lib0 fs fuel) {n : Nat} {s : List UInt8} {H : Heap} (h : Low s) (hro : H.ro ≤ H.nx) :
    ∃ H', callN (LK lib0 fs fuel 5) fs fuel (n + 2) 73 [.str s] H = .ret (.bool true) H' ∧ Keep H H' [] := by
  rw [callN_fn (libK_none E.n73 (.inl (by decide)) _ _) E.f73]
  have hl := h.len
  have e1 := fun {j} => contA (lib0 := lib0) (fs := fs) (fuel := fuel) E (k := 5) (n := j) (by decide) (H := H) h hro
  have e2 := fun {j} => hasP (lib0 := lib0) (fs := fs) (fuel := fuel) E (k := 5) (n := j) (by decide) (H := H) h
  have n1 := h.ne (l := []) (.inl (by decide))
  have n2 := h.ne (l := [46]) (.inl (by decide))
  have n3 := h.ne (l := [46, 46]) (.inl (by decide))
  simp (maxSteps := 4000000) (disch := first | assumption | omega | (simp -implicitDefEqProofs only [SideG, SideL] <;> first | assumption | omega) | decide) only [hl, e1, e2, n1, n2, n3, idxStr_at, cmpV_ge, cmpV_le, cmpV_lt, cmpV_gt, eqV_eq, eqV_ne, eqS_eq, eqS_ne, subV_i, addV_i, lenSV_str, slStr_drop, slStr_take, intV_u8, loopN_succ, Nat.reduceSub, Nat.reduceAdd, Nat.reduceLeDiff, Nat.zero_le, Nat.lt_irrefl, Nat.reduceEqDiff, decide_true, decide_false, c73, RunG, N8G, CoreG, CoreL, freeK_at, readK_at, freeN_at, Nat.reduceEqDiff, reduceCtorEq, TB0]
  exact ⟨_, rfl, Keep.refl _ _⟩
theorem mayN {lib0 : Lib} {fs : T CF} {fuel : Nat} (E : Env lib0 fs fuel) {k n : Nat} (hk : 6 ≤ k) {s : List UInt8} {H : Heap} (h : Low s) (hro : H.ro ≤ H.nx) :
    callN (LK lib0 fs fuel k) fs fuel (n + 1) 73 [.str s] H = .ret (.bool true) H := by
  obtain ⟨H', e, g⟩ := mayN_run E (n := 898) (H := H) h hro
  exact keep_hit (r := 5) rfl rfl e g (rfl) hk
theorem may1_run {lib0 : Lib} {fs : T CF} {fuel : Nat} (E : Env lib0 fs fuel) {n : Nat} {s : List UInt8} {H : Heap} (h : Low s) (hro : H.ro ≤ H.nx) :
    ∃ H', callN (LK lib0 fs fuel 6) fs fuel (n + 2) 127 [.str s] H = .ret (.bool false) H' ∧ Keep H H' [] := by
  rw [callN_fn (libK_none E.n127 (.inl (by decide)) _ _) E.f127]
  have e1 := fun {j} => mayN (lib0 := lib0) (fs := fs) (fuel := fuel) E (k := 6) (n := j) (by decide) (H := H) h hro
  simp (maxSteps := 4000000) (disch := first | assumption | omega | (simp -implicitDefEqProofs only [SideG, SideL] <;> first | assumption | omega) | decide) only [e1, idxStr_at, cmpV_ge, cmpV_le, cmpV_lt, cmpV_gt, eqV_eq, eqV_ne, eqS_eq, eqS_ne, subV_i, addV_i, lenSV_str, slStr_drop, slStr_take, intV_u8, loopN_succ, Nat.reduceSub, Nat.reduceAdd, Nat.reduceLeDiff, Nat.zero_le, Nat.lt_irrefl, Nat.reduceEqDiff, decide_true, decide_false, c127, RunG, N8G, CoreG, CoreL, freeK_at, readK_at, freeN_at, Nat.reduceEqDiff, reduceCtorEq, TB0]
  exact ⟨_, rfl, Keep.refl _ _⟩
theorem may1 {lib0 : Lib} {fs : T CF} {fuel : Nat} (E : Env lib0 fs fuel) {k n : Nat} (hk : 7 ≤ k) {s : List UInt8} {H : Heap} (h : Low s) (hro : H.ro ≤ H.nx) :
    callN (LK lib0 fs fuel k) fs fuel (n + 1) 127 [.str s] H = .ret (.bool false) H := by
  obtain ⟨H', e, g⟩ := may1_run E (n := 898) (H := H) h hro
  exact keep_hit (r := 6) rfl rfl e g (rfl) hk

def mkSV (e sz bytes : Nat) (zs : List AV) (l c : AV) (H : Heap) : OR := onNat l fun l => onNat c fun c => onIf (Nat.ble 1 sz) <| onIf (Nat.ble l c) (onIf (Nat.ble c 140737488355328) <| onIf (Nat.ble (Nat.mul c bytes) 140737488355328) (mkRow H e sz l c zs))
theorem oMkSlice_at (e sz bytes : Nat) (zs : List AV) (l c : EvF) (tm : TM) (H : Heap) : oMkSlice e sz bytes zs l c tm H = mkSV e sz bytes zs (l tm) (c tm) H := rfl
def rZ1 : Row := ⟨9, 1, 1, .leaf, .str [], 0, false, true, true⟩
/-- a row of one text -/
def rS (s : List UInt8) : Obj := .row (rZ1.st 0 (.str s))
theorem mk1 (H : Heap) : mkSV 9 1 16 [.str []] (nI .i64 1) (nI .i64 1) H = .val (.slice H.nx 0 1 none) (H.new (.row rZ1)) := rfl
theorem slice_one {H : Heap} {b : Nat} {r : Row} (g : H.t.get b = some (.row r)) (hz : r.sz = 1) (hs : r.size = 1) : sliceV 1 (.slice b 0 1 none) none (some (nI .i64 1)) H = .val (.slice b 0 1 none) H := by
  show onRow H b _ = _
  unfold onRow
  rw [g]
  have e1 : szOk r 1 none = true := by show Nat.beq r.sz 1 = true; rw [hz]; rfl
  have e2 : capOf r 0 none = 1 := by show cond (Nat.beq r.sz 1) (r.size - 0) _ = _; rw [hz, hs]; rfl
  show onIf (szOk r 1 none) (boundV (some (nI .i64 1)) 1 (capOf r 0 none) fun h => boundV none 0 h fun l => onIf (Nat.ble l (capOf r 0 none)) (cond (Nat.beq l (capOf r 0 none)) _ _)) = _
  rw [e1, e2]; rfl
theorem min15 (G : Heap) : minV false [nI .i64 1, nI .i64 5] G = .val (nI .i64 1) G := rfl
theorem ld_rS (s : List UInt8) (G : Heap) : ld1 (some (rS s)) 0 G = .val (.str s) G := by
  unfold rS
  rw [ld1_row (show 0 < 1 by decide), Row.st_get, if_pos rfl]
theorem genS {lib0 : Lib} {fs : T CF} {fuel : Nat} (E : Env lib0 fs fuel) {k n : Nat} (hk : 1 ≤ k) {s : List UInt8} {H : Heap} (h : Low s) (hro : H.ro ≤ H.nx) : callN (LK lib0 fs fuel k) fs fuel (n + 2) 198 [.str s, .str [47], nI .i64 0, .int .i64 (.negSucc 0)] H = .ret (.slice H.nx 0 1 none) (H.new (rS s)) := by
  rw [callN_fn (libK_none E.n198 (.inr rfl) _ _) E.f198]
  have hl := h.len
  obtain ⟨m, rfl⟩ : ∃ m, fuel = m + 2 := ⟨fuel - 2, by have := E.big; omega⟩
  have ec := fun {j} => count (lib0 := lib0) (fs := fs) (fuel := m + 2) E (k := k) (n := j) hk (H := H) h
  have ne : decide (([47] : List UInt8) = []) = false := rfl
  have sf := fun (G : Heap) (hG : G.ro ≤ H.nx) => stN_row (r := rZ1) (b := H.nx) (o := 0) (v := .str s) (H := G) rfl (by decide) rfl hG (Nat.zero_le _)
  have sf := sf (H.new (.row rZ1)) hro
  rw [new_put rfl] at sf
  have sl := slice_one (H := H.new (rS s)) (b := H.nx) (r := rZ1.st 0 (.str s)) (get_new_eq rfl _) rfl rfl
  have z0 : decide (0 < 0) = false := rfl
  unfold rS at *
  simp (maxSteps := 4000000) (disch := first | assumption | omega | (simp -implicitDefEqProofs only [SideG, SideL] <;> first | assumption | omega) | decide) only [hl, ec, ne, mk1, min15, sf, sl, z0, idxStr_at, cmpV_ge, cmpV_le, cmpV_lt, cmpV_gt, eqV_eq, eqV_ne, eqS_eq, eqS_ne, subV_i, addV_i, lenSV_str, slStr_drop, slStr_take, intV_u8, loopN_succ, Nat.reduceSub, Nat.reduceAdd, Nat.reduceLeDiff, Nat.zero_le, Nat.lt_irrefl, Nat.reduceEqDiff, decide_true, decide_false, neg_eq0, neg_lt, neg_add, idxSV_slice, Nat.add_zero, Nat.zero_add, lenV_slice, ld1_rG, oMkSlice_at, callV_func, List.nil_append, List.append_nil, c198, c198_l0, RunG, N8G, CoreG, CoreL, freeK_at, readK_at, freeN_at, Nat.reduceEqDiff, reduceCtorEq, TB0, TB1, TB2]
theorem split1 {lib0 : Lib} {fs : T CF} {fuel : Nat} (E : Env lib0 fs fuel) {k n : Nat} (hk : 1 ≤ k) {s : List UInt8} {H : Heap} (h : Low s) (hro : H.ro ≤ H.nx) : callN (LK lib0 fs fuel k) fs fuel (n + 3) 167 [.str s, .str [47]] H = .ret (.slice H.nx 0 1 none) (H.new (rS s)) := by
  rw [callN_fn (libK_none E.n167 (.inr rfl) _ _) E.f167]
  have e1 := fun {j} => genS (lib0 := lib0) (fs := fs) (fuel := fuel) E (k := k) (n := j) hk (H := H) h hro
  simp (maxSteps := 4000000) (disch := first | assumption | omega | (simp -implicitDefEqProofs only [SideG, SideL] <;> first | assumption | omega) | decide) only [e1, idxStr_at, cmpV_ge, cmpV_le, cmpV_lt, cmpV_gt, eqV_eq, eqV_ne, eqS_eq, eqS_ne, subV_i, addV_i, lenSV_str, slStr_drop, slStr_take, intV_u8, loopN_succ, Nat.reduceSub, Nat.reduceAdd, Nat.reduceLeDiff, Nat.zero_le, Nat.lt_irrefl, Nat.reduceEqDiff, decide_true, decide_false, neg_eq0, neg_lt, neg_add, idxSV_slice, Nat.add_zero, Nat.zero_add, lenV_slice, ld1_rG, oMkSlice_at, callV_func, List.nil_append, List.append_nil, c167, RunG, N8G, CoreG, CoreL, freeK_at, readK_at, freeN_at, Nat.reduceEqDiff, reduceCtorEq, TB0]
theorem split {lib0 : Lib} {fs : T CF} {fuel : Nat} (E : Env lib0 fs fuel) {k n : Nat} (hk : 1 ≤ k) {s : List UInt8} {H : Heap} (h : Low s) (hro : H.ro ≤ H.nx) : callN (LK lib0 fs fuel k) fs fuel (n + 4) 125 [.str s] H = .ret (.slice H.nx 0 1 none) (H.new (rS s)) := by
  rw [callN_fn (libK_none E.n125 (.inr rfl) _ _) E.f125]
  have e1 := fun {j} => split1 (lib0 := lib0) (fs := fs) (fuel := fuel) E (k := k) (n := j) hk (H := H) h hro
  have ne := h.ne (l := []) (.inl (by decide))
  simp (maxSteps := 4000000) (disch := first | assumption | omega | (simp -implicitDefEqProofs only [SideG, SideL] <;> first | assumption | omega) | decide) only [e1, ne, idxStr_at, cmpV_ge, cmpV_le, cmpV_lt, cmpV_gt, eqV_eq, eqV_ne, eqS_eq, eqS_ne, subV_i, addV_i, lenSV_str, slStr_drop, slStr_take, intV_u8, loopN_succ, Nat.reduceSub, Nat.reduceAdd, Nat.reduceLeDiff, Nat.zero_le, Nat.lt_irrefl, Nat.reduceEqDiff, decide_true, decide_false, neg_eq0, neg_lt, neg_add, idxSV_slice, Nat.add_zero, Nat.zero_add, lenV_slice, ld1_rG, oMkSlice_at, callV_func, List.nil_append, List.append_nil, c125, RunG, N8G, CoreG, CoreL, freeK_at, readK_at, freeN_at, Nat.reduceEqDiff, reduceCtorEq, TB0]
theorem idxF_run {lib0 : Lib} {fs : T CF} {fuel : Nat} (E : Env lib0 fs fuel) {n : Nat} {s : List UInt8} {b : Nat} {H : Heap} (h : Low s) (hro : H.ro ≤ H.nx) (g : H.t.get b = some (rS s)) :
    ∃ H', callN (LK lib0 fs fuel 7) fs fuel (n + 3) 168 [.slice b 0 1 none, .func 127 [] []] H = .ret (.int .i64 (.negSucc 0)) H' ∧ Keep H H' [] := by
  rw [callN_fn (libK_none E.n168 (.inl (by decide)) _ _) E.f168]
  obtain ⟨m, rfl⟩ : ∃ m, fuel = m + 3 := ⟨fuel - 3, by have := E.big; omega⟩
  have e1 := fun {j} => may1 (lib0 := lib0) (fs := fs) (fuel := m + 3) E (k := 7) (n := j) (by decide) (H := H) h hro
  have z1 : decide (0 < 1) = true := rfl
  have z2 : decide (1 < 1) = false := rfl
  have ld := ld_rS s
  simp (maxSteps := 4000000) (disch := first | assumption | omega | (simp -implicitDefEqProofs only [SideG, SideL] <;> first | assumption | omega) | decide) only [e1, z1, z2, g, ld, idxStr_at, cmpV_ge, cmpV_le, cmpV_lt, cmpV_gt, eqV_eq, eqV_ne, eqS_eq, eqS_ne, subV_i, addV_i, lenSV_str, slStr_drop, slStr_take, intV_u8, loopN_succ, Nat.reduceSub, Nat.reduceAdd, Nat.reduceLeDiff, Nat.zero_le, Nat.lt_irrefl, Nat.reduceEqDiff, decide_true, decide_false, neg_eq0, neg_lt, neg_add, idxSV_slice, Nat.add_zero, Nat.zero_add, lenV_slice, ld1_rG, oMkSlice_at, callV_func, List.nil_append, List.append_nil, c168, c168_l0, RunG, N8G, CoreG, CoreL, freeK_at, readK_at, freeN_at, Nat.reduceEqDiff, reduceCtorEq, TB0]
  exact ⟨_, rfl, Keep.refl _ _⟩
theorem idxF {lib0 : Lib} {fs : T CF} {fuel : Nat} (E : Env lib0 fs fuel) {k n : Nat} (hk : 8 ≤ k) {s : List UInt8} {b : Nat} {H : Heap} (h : Low s) (hro : H.ro ≤ H.nx) (g : H.t.get b = some (rS s)) :
    callN (LK lib0 fs fuel k) fs fuel (n + 1) 168 [.slice b 0 1 none, .func 127 [] []] H = .ret (.int .i64 (.negSucc 0)) H := by
  obtain ⟨H', e, g⟩ := idxF_run E (n := 897) (H := H) h hro g
  exact keep_hit (r := 7) rfl rfl e g (rfl) hk
theorem conF_run {lib0 : Lib} {fs : T CF} {fuel : Nat} (E : Env lib0 fs fuel) {n : Nat} {s : List UInt8} {b : Nat} {H : Heap} (h : Low s) (hro : H.ro ≤ H.nx) (g : H.t.get b = some (rS s)) :
    ∃ H', callN (LK lib0 fs fuel 8) fs fuel (n + 2) 126 [.slice b 0 1 none, .func 127 [] []] H = .ret (.bool false) H' ∧ Keep H H' [] := by
  rw [callN_fn (libK_none E.n126 (.inl (by decide)) _ _) E.f126]
  have e1 := fun {j} => idxF (lib0 := lib0) (fs := fs) (fuel := fuel) E (k := 8) (n := j) (by decide) (H := H) h hro g
  simp (maxSteps := 4000000) (disch := first | assumption | omega | (simp -implicitDefEqProofs only [SideG, SideL] <;> first | assumption | omega) | decide) only [e1, neg_ge, idxStr_at, cmpV_ge, cmpV_le, cmpV_lt, cmpV_gt, eqV_eq, eqV_ne, eqS_eq, eqS_ne, subV_i, addV_i, lenSV_str, slStr_drop, slStr_take, intV_u8, loopN_succ, Nat.reduceSub, Nat.reduceAdd, Nat.reduceLeDiff, Nat.zero_le, Nat.lt_irrefl, Nat.reduceEqDiff, decide_true, decide_false, neg_eq0, neg_lt, neg_add, idxSV_slice, Nat.add_zero, Nat.zero_add, lenV_slice, ld1_rG, oMkSlice_at, callV_func, List.nil_append, List.append_nil, c126, RunG, N8G, CoreG, CoreL, freeK_at, readK_at, freeN_at, Nat.reduceEqDiff, reduceCtorEq, TB0]
  exact ⟨_, rfl, Keep.refl _ _⟩
theorem conF {lib0 : Lib} {fs : T CF} {fuel : Nat} (E : Env lib0 fs fuel) {k n : Nat} (hk : 9 ≤ k) {s : List UInt8} {b : Nat} {H : Heap} (h : Low s) (hro : H.ro ≤ H.nx) (g : H.t.get b = some (rS s)) :
    callN (LK lib0 fs fuel k) fs fuel (n + 1) 126 [.slice b 0 1 none, .func 127 [] []] H = .ret (.bool false) H := by
  obtain ⟨H', e, g⟩ := conF_run E (n := 898) (H := H) h hro g
  exact keep_hit (r := 8) rfl rfl e g (rfl) hk
theorem pMay_run {lib0 : Lib} {fs : T CF} {fuel : Nat} (E : Env lib0 fs fuel) {n : Nat} {s : List UInt8} {H : Heap} (h : Low s) (hro : H.ro ≤ H.nx) :
    ∃ H', callN (LK lib0 fs fuel 9) fs fuel (n + 6) 72 [.str s] H = .ret (.bool true) H' ∧ Keep H H' [] := by
  rw [callN_fn (libK_none E.n72 (.inl (by decide)) _ _) E.f72]
  have hl := h.len
  obtain ⟨H1, hH1⟩ : ∃ G, H.new (rS s) = G := ⟨_, rfl⟩
  have e1 := fun {j} => split (lib0 := lib0) (fs := fs) (fuel := fuel) E (k := 9) (n := j) (by decide) (H := H) h hro
  have g : H1.t.get H.nx = some (rS s) := by rw [← hH1, get_new_eq rfl]
  have e2 := fun {j} => conF (lib0 := lib0) (fs := fs) (fuel := fuel) E (k := 9) (n := j) (by decide) (H := H1) h (by rw [← hH1]; exact Nat.le_trans hro (Nat.le_succ _)) g
  simp (maxSteps := 4000000) (disch := first | assumption | omega | (simp -implicitDefEqProofs only [SideG, SideL] <;> first | assumption | omega) | decide) only [hl, e1, hH1, e2, idxStr_at, cmpV_ge, cmpV_le, cmpV_lt, cmpV_gt, eqV_eq, eqV_ne, eqS_eq, eqS_ne, subV_i, addV_i, lenSV_str, slStr_drop, slStr_take, intV_u8, loopN_succ, Nat.reduceSub, Nat.reduceAdd, Nat.reduceLeDiff, Nat.zero_le, Nat.lt_irrefl, Nat.reduceEqDiff, decide_true, decide_false, neg_eq0, neg_lt, neg_add, idxSV_slice, Nat.add_zero, Nat.zero_add, lenV_slice, ld1_rG, oMkSlice_at, callV_func, List.nil_append, List.append_nil, c72, RunG, N8G, CoreG, CoreL, freeK_at, readK_at, freeN_at, Nat.reduceEqDiff, reduceCtorEq, TB0]
  exact ⟨_, rfl, by rw [← hH1]; exact Keep.new _ _ _⟩
theorem pMay {lib0 : Lib} {fs : T CF} {fuel : Nat} (E : Env lib0 fs fuel) {k n : Nat} (hk : 10 ≤ k) {s : List UInt8} {H : Heap} (h : Low s) (hro : H.ro ≤ H.nx) :
    callN (LK lib0 fs fuel k) fs fuel (n + 1) 72 [.str s] H = .ret (.bool true) H := by
  obtain ⟨H', e, g⟩ := pMay_run E (n := 894) (H := H) h hro
  exact keep_hit (r := 9) rfl rfl e g (rfl) hk
/-- the tables of paths and of tars -/
def cEs : List Ent := [⟨nI .i64 1, .func 297 [] [], 0⟩, ⟨nI .i64 2, .func 298 [] [], 0⟩, ⟨nI .i64 3, .func 299 [] [], 0⟩]
def tEs : List Ent := [⟨nI .i64 1, nI .u8 53, 0⟩, ⟨nI .i64 2, nI .u8 48, 0⟩, ⟨nI .i64 3, nI .u8 50, 0⟩, ⟨nI .i64 4, nI .u8 54, 0⟩]
structure GlobP (H : Heap) : Prop where
  nx : 100 ≤ H.nx
  ro : H.ro ≤ H.nx
  c : ∃ r, H.t.get 0 = some (.row r) ∧ 0 < r.size ∧ r.get 0 = .map 20
  cm : H.t.get 20 = some (.cmap cEs)
  t : ∃ r, H.t.get 1 = some (.row r) ∧ 0 < r.size ∧ r.get 0 = .map 21
  tm : H.t.get 21 = some (.cmap tEs)
theorem GlobP.keep {H H' : Heap} (g : GlobP H) (k : Keep H H' []) : GlobP H' := by
  obtain ⟨a, b, ⟨r, c1, c2, c3⟩, d, ⟨q, e1, e2, e3⟩, f⟩ := g
  have kk := fun x (hx : x < 100) => k.get x (by omega) (by simp)
  exact ⟨Nat.le_trans a k.nx, by rw [k.ro]; exact Nat.le_trans b k.nx, ⟨r, by rw [kk _ (by decide)]; exact c1, c2, c3⟩, by rw [kk _ (by decide)]; exact d, ⟨q, by rw [kk _ (by decide)]; exact e1, e2, e3⟩, by rw [kk _ (by decide)]; exact f⟩
theorem lkC (G : Heap) : lkO eqI .nilf false (some (.cmap cEs)) (nI .i64 1) G = .val (.func 297 [] []) G := rfl
theorem lkT (G : Heap) : lkO eqI (nI .u8 0) false (some (.cmap tEs)) (nI .i64 4) G = .val (nI .u8 54) G := rfl
/-- a Fifo of a path -/
def fifo (s : List UInt8) : List AV := [.str s, nI .i64 4, nI .u32 0, nI .u32 0, nI .u32 0, nI .i64 0, .nils, .nils, .str []]
theorem class__run {lib0 : Lib} {fs : T CF} {fuel : Nat} (E : Env lib0 fs fuel) {n : Nat} {s : List UInt8} {H : Heap} (h : Low s) (g : GlobP H) :
    ∃ H', callN (LK lib0 fs fuel 10) fs fuel (n + 2) 40 [.str s] H = .ret (.tup [nI .i64 1, .str s]) H' ∧ Keep H H' [] := by
  rw [callN_fn (libK_none E.n40 (.inl (by decide)) _ _) E.f40]
  have e1 := fun {j} => base (lib0 := lib0) (fs := fs) (fuel := fuel) E (k := 10) (n := j) (by decide) (H := H) h
  have e2 := fun {j} => last_ (lib0 := lib0) (fs := fs) (fuel := fuel) E (k := 10) (n := j) (by decide) (H := H) h
  have e3 := fun {j} => trimS (lib0 := lib0) (fs := fs) (fuel := fuel) E (k := 10) (n := j) (by decide) (H := H) h
  have e4 := fun {j} => pMay (lib0 := lib0) (fs := fs) (fuel := fuel) E (k := 10) (n := j) (by decide) (H := H) h g.ro
  have e5 := fun {j} => class1 (lib0 := lib0) (fs := fs) (fuel := fuel) E (k := 10) (n := j) (by decide) (H := H) h
  have n1 := h.ne (l := [46, 119, 104, 46, 46, 119, 104, 46, 116, 111, 99]) (.inl (by decide))
  have n2 : decide (([] : List UInt8) = [47]) = false := rfl
  have n3 := h.ne (l := []) (.inl (by decide))
  obtain ⟨r, g1, g2, g3⟩ := g.c
  have ld : ∀ G, ld1 (some (.row r)) 0 G = .val (.map 20) G := fun G => by rw [ld1_row g2, g3]
  have gm := g.cm
  simp (maxSteps := 4000000) (disch := first | assumption | omega | (simp -implicitDefEqProofs only [SideG, SideL] <;> first | assumption | omega) | decide) only [e1, e2, e3, e4, e5, n1, n2, n3, g1, ld, gm, lkC, oLookup_at, lookV_at, idxStr_at, cmpV_ge, cmpV_le, cmpV_lt, cmpV_gt, eqV_eq, eqV_ne, eqS_eq, eqS_ne, subV_i, addV_i, lenSV_str, slStr_drop, slStr_take, intV_u8, loopN_succ, Nat.reduceSub, Nat.reduceAdd, Nat.reduceLeDiff, Nat.zero_le, Nat.lt_irrefl, Nat.reduceEqDiff, decide_true, decide_false, neg_eq0, neg_lt, neg_add, idxSV_slice, Nat.add_zero, Nat.zero_add, lenV_slice, ld1_rG, oMkSlice_at, callV_func, List.nil_append, List.append_nil, c40, RunG, N8G, CoreG, CoreL, freeK_at, readK_at, freeN_at, Nat.reduceEqDiff, reduceCtorEq, TB0, TB1]
  exact ⟨_, rfl, Keep.refl _ _⟩
theorem class_ {lib0 : Lib} {fs : T CF} {fuel : Nat} (E : Env lib0 fs fuel) {k n : Nat} (hk : 11 ≤ k) {s : List UInt8} {H : Heap} (h : Low s) (g : GlobP H) :
    callN (LK lib0 fs fuel k) fs fuel (n + 1) 40 [.str s] H = .ret (.tup [nI .i64 1, .str s]) H := by
  obtain ⟨H', e, g⟩ := class__run E (n := 898) (H := H) h g
  exact keep_hit (r := 10) rfl rfl e g (rfl) hk
theorem mayAt_run {lib0 : Lib} {fs : T CF} {fuel : Nat} (E : Env lib0 fs fuel) {n : Nat}  {H : Heap}  :
    ∃ H', callN (LK lib0 fs fuel 0) fs fuel (n + 2) 74 [.nils] H = .ret (.bool true) H' ∧ Keep H H' [] := by
  rw [callN_fn (libK_none E.n74 (.inl (by decide)) _ _) E.f74]
  obtain ⟨m, rfl⟩ : ∃ m, fuel = m + 2 := ⟨fuel - 2, by have := E.big; omega⟩
  have z0 : decide (0 < 0) = false := rfl
  have z1 : decide (0 ≤ 16) = true := rfl
  simp (maxSteps := 4000000) (disch := first | assumption | omega | (simp -implicitDefEqProofs only [SideG, SideL] <;> first | assumption | omega) | decide) only [z0, z1, lenV_nil, idxStr_at, cmpV_ge, cmpV_le, cmpV_lt, cmpV_gt, eqV_eq, eqV_ne, eqS_eq, eqS_ne, subV_i, addV_i, lenSV_str, slStr_drop, slStr_take, intV_u8, loopN_succ, Nat.reduceSub, Nat.reduceAdd, Nat.reduceLeDiff, Nat.zero_le, Nat.lt_irrefl, Nat.reduceEqDiff, decide_true, decide_false, neg_eq0, neg_lt, neg_add, idxSV_slice, Nat.add_zero, Nat.zero_add, lenV_slice, ld1_rG, oMkSlice_at, callV_func, List.nil_append, List.append_nil, c74, c74_l0, RunG, N8G, CoreG, CoreL, freeK_at, readK_at, freeN_at, Nat.reducePow, Nat.reduceDiv, Nat.reduceMod, Nat.reduceEqDiff, reduceCtorEq, TB0, TB1]
  exact ⟨_, rfl, Keep.refl _ _⟩
theorem mayAt {lib0 : Lib} {fs : T CF} {fuel : Nat} (E : Env lib0 fs fuel) {k n : Nat} (hk : 1 ≤ k)  {H : Heap}  :
    callN (LK lib0 fs fuel k) fs fuel (n + 1) 74 [.nils] H = .ret (.bool true) H := by
  obtain ⟨H', e, g⟩ := mayAt_run E (n := 898) (H := H) 
  exact keep_hit (r := 0) rfl rfl e g (rfl) hk
theorem mayLi_run {lib0 : Lib} {fs : T CF} {fuel : Nat} (E : Env lib0 fs fuel) {n : Nat}  {H : Heap}  :
    ∃ H', callN (LK lib0 fs fuel 0) fs fuel (n + 2) 75 [.str [], .bool false] H = .ret (.bool true) H' ∧ Keep H H' [] := by
  rw [callN_fn (libK_none E.n75 (.inl (by decide)) _ _) E.f75]
  have z0 : decide (([] : List UInt8) = []) = true := rfl
  simp (maxSteps := 4000000) (disch := first | assumption | omega | (simp -implicitDefEqProofs only [SideG, SideL] <;> first | assumption | omega) | decide) only [z0, idxStr_at, cmpV_ge, cmpV_le, cmpV_lt, cmpV_gt, eqV_eq, eqV_ne, eqS_eq, eqS_ne, subV_i, addV_i, lenSV_str, slStr_drop, slStr_take, intV_u8, loopN_succ, Nat.reduceSub, Nat.reduceAdd, Nat.reduceLeDiff, Nat.zero_le, Nat.lt_irrefl, Nat.reduceEqDiff, decide_true, decide_false, neg_eq0, neg_lt, neg_add, idxSV_slice, Nat.add_zero, Nat.zero_add, lenV_slice, ld1_rG, oMkSlice_at, callV_func, List.nil_append, List.append_nil, c75, RunG, N8G, CoreG, CoreL, freeK_at, readK_at, freeN_at, Nat.reduceEqDiff, reduceCtorEq, TB0]
  exact ⟨_, rfl, Keep.refl _ _⟩
theorem mayLi {lib0 : Lib} {fs : T CF} {fuel : Nat} (E : Env lib0 fs fuel) {k n : Nat} (hk : 1 ≤ k)  {H : Heap}  :
    callN (LK lib0 fs fuel k) fs fuel (n + 1) 75 [.str [], .bool false] H = .ret (.bool true) H := by
  obtain ⟨H', e, g⟩ := mayLi_run E (n := 898) (H := H) 
  exact keep_hit (r := 0) rfl rfl e g (rfl) hk

theorem tMay_run {lib0 : Lib} {fs : T CF} {fuel : Nat} (E : Env lib0 fs fuel) {n : Nat} {s : List UInt8} {H : Heap} (h : Low s) (g : GlobP H) :
    ∃ H', callN (LK lib0 fs fuel 11) fs fuel (n + 2) 41 [.agg (fifo s)] H = .ret (.bool true) H' ∧ Keep H H' [] := by
  rw [callN_fn (libK_none E.n41 (.inl (by decide)) _ _) E.f41]
  have hnx := g.nx
  have hro := g.ro
  obtain ⟨H1, hH1⟩ : ∃ G, H.new (rG 40 1 [.str s, nI .i64 4, nI .u32 0, nI .u32 0, nI .u32 0, nI .i64 0, .nils, .nils, .str []] 0 false true true) = G := ⟨_, rfl⟩
  have k1 : Keep H H1 [] := by rw [← hH1]; exact Keep.new _ _ _
  have nx1 : H1.nx = H.nx + 1 := by rw [← hH1]; rfl
  have g1 : H1.t.get H.nx = some (rG 40 1 [.str s, nI .i64 4, nI .u32 0, nI .u32 0, nI .u32 0, nI .i64 0, .nils, .nils, .str []] 0 false true true) := by rw [← hH1, get_new_eq rfl]
  have e1 := fun {j} => class_ (lib0 := lib0) (fs := fs) (fuel := fuel) E (k := 11) (n := j) (by decide) (H := H1) h (g.keep k1)
  obtain ⟨H2, hH2⟩ : ∃ G, H1.new (rG 38 1 [nI .i64 4, nI .u32 0, nI .u32 0, nI .u32 0, nI .i64 0, .nils, .nils, .str []] 0 false true true) = G := ⟨_, rfl⟩
  have k2 : Keep H1 H2 [] := by rw [← hH2]; exact Keep.new _ _ _
  have g2 : H2.t.get H1.nx = some (rG 38 1 [nI .i64 4, nI .u32 0, nI .u32 0, nI .u32 0, nI .i64 0, .nils, .nils, .str []] 0 false true true) := by rw [← hH2, get_new_eq rfl]
  have sf : stN 8 (some (rG 38 1 [nI .i64 0, nI .u32 0, nI .u32 0, nI .u32 0, nI .i64 0, .nils, .nils, .str []] 0 false true true)) H1.nx 0 (.agg [nI .i64 4, nI .u32 0, nI .u32 0, nI .u32 0, nI .i64 0, .nils, .nils, .str []]) (H1.new (rG 38 1 [nI .i64 0, nI .u32 0, nI .u32 0, nI .u32 0, nI .i64 0, .nils, .nils, .str []] 0 false true true)) = .val undefA H2 := by
    have := stN_all (n := 8) (l := [nI .i64 0, nI .u32 0, nI .u32 0, nI .u32 0, nI .i64 0, .nils, .nils, .str []]) (vs := [nI .i64 4, nI .u32 0, nI .u32 0, nI .u32 0, nI .i64 0, .nils, .nils, .str []]) (b := H1.nx) (H := H1.new (rG 38 1 [nI .i64 0, nI .u32 0, nI .u32 0, nI .u32 0, nI .i64 0, .nils, .nils, .str []] 0 false true true)) (by rfl) rfl (by omega) (show H1.ro ≤ H1.nx by rw [k1.ro]; omega) 38 1 false true
    rw [new_put rfl, hH2] at this
    exact this
  rw [nx1] at sf g2
  have K2 := k1.trans k2 (by simp)
  obtain ⟨q, t1, t2, t3⟩ := (g.keep K2).t
  have ld : ∀ G, ld1 (some (.row q)) 0 G = .val (.map 21) G := fun G => by rw [ld1_row t2, t3]
  have tm := (g.keep K2).tm
  have e2 := fun {j} => mayAt (lib0 := lib0) (fs := fs) (fuel := fuel) E (k := 11) (n := j) (by decide) (H := H2)
  have e3 := fun {j} => mayLi (lib0 := lib0) (fs := fs) (fuel := fuel) E (k := 11) (n := j) (by decide) (H := H2)
  have z1 : decide (54 = 0) = false := rfl
  have z2 : decide (4095 < 0) = false := rfl
  have z3 : decide (4 = 3) = false := rfl
  have z4 : decide (0 ≤ 16777216) = true := rfl
  have z5 : decide (4 = 2) = false := rfl
  have z6 : decide (1 = 0) = false := rfl
  unfold fifo
  simp (maxSteps := 4000000) (disch := first | assumption | omega | (simp -implicitDefEqProofs only [SideG, SideL] <;> first | assumption | omega) | decide) only [hH1, nx1, g1, e1, sf, g2, t1, ld, tm, lkT, e2, e3, z1, z2, z3, z4, z5, z6, idxStr_at, cmpV_ge, cmpV_le, cmpV_lt, cmpV_gt, eqV_eq, eqV_ne, eqS_eq, eqS_ne, subV_i, addV_i, lenSV_str, slStr_drop, slStr_take, intV_u8, loopN_succ, Nat.reduceSub, Nat.reduceAdd, Nat.reduceLeDiff, Nat.zero_le, Nat.lt_irrefl, Nat.reduceEqDiff, decide_true, decide_false, neg_eq0, neg_lt, neg_add, idxSV_slice, Nat.add_zero, Nat.zero_add, lenV_slice, ld1_rG, oMkSlice_at, callV_func, List.nil_append, List.append_nil, lenV_nil, ldN_rG, stN_rG, lay_cons, lay_nil, List.drop_succ_cons, List.drop_zero, List.take_succ_cons, List.take_zero, List.take_nil, oLookup_at, lookV_at, offV_ptr, c41, RunG, N8G, CoreG, CoreL, freeK_at, readK_at, freeN_at, Nat.reduceEqDiff, reduceCtorEq, TB0, TB1]
  exact ⟨_, rfl, K2⟩
theorem tMay {lib0 : Lib} {fs : T CF} {fuel : Nat} (E : Env lib0 fs fuel) {k n : Nat} (hk : 12 ≤ k) {s : List UInt8} {H : Heap} (h : Low s) (g : GlobP H) :
    callN (LK lib0 fs fuel k) fs fuel (n + 1) 41 [.agg (fifo s)] H = .ret (.bool true) H := by
  obtain ⟨H', e, g⟩ := tMay_run E (n := 898) (H := H) h g
  exact keep_hit (r := 11) rfl rfl e g (rfl) hk
theorem cmay_run {lib0 : Lib} {fs : T CF} {fuel : Nat} (E : Env lib0 fs fuel) {n : Nat} {s : List UInt8} {H : Heap} (h : Low s) (g : GlobP H) :
    ∃ H', callN (LK lib0 fs fuel 12) fs fuel (n + 2) 26 [.agg (fifo s)] H = .ret (.bool true) H' ∧ Keep H H' [] := by
  rw [callN_fn (libK_none E.n26 (.inl (by decide)) _ _) E.f26]
  have hnx := g.nx
  have hro := g.ro
  obtain ⟨H1, hH1⟩ : ∃ G, H.new (rG 40 1 [.str s, nI .i64 4, nI .u32 0, nI .u32 0, nI .u32 0, nI .i64 0, .nils, .nils, .str []] 0 false true true) = G := ⟨_, rfl⟩
  have k1 : Keep H H1 [] := by rw [← hH1]; exact Keep.new _ _ _
  have nx1 : H1.nx = H.nx + 1 := by rw [← hH1]; rfl
  have g1 : H1.t.get H.nx = some (rG 40 1 [.str s, nI .i64 4, nI .u32 0, nI .u32 0, nI .u32 0, nI .i64 0, .nils, .nils, .str []] 0 false true true) := by rw [← hH1, get_new_eq rfl]
  have e1 := fun {j} => class_ (lib0 := lib0) (fs := fs) (fuel := fuel) E (k := 12) (n := j) (by decide) (H := H1) h (g.keep k1)
  have e2 := fun {j} => tMay (lib0 := lib0) (fs := fs) (fuel := fuel) E (k := 12) (n := j) (by decide) (H := H1) h (g.keep k1)
  unfold fifo at *
  have z1 : decide (1 ≤ 1) = true := rfl
  have z2 : decide (1 ≤ 3) = true := rfl
  simp (maxSteps := 4000000) (disch := first | assumption | omega | (simp -implicitDefEqProofs only [SideG, SideL] <;> first | assumption | omega) | decide) only [hH1, nx1, g1, e1, e2, z1, z2, idxStr_at, cmpV_ge, cmpV_le, cmpV_lt, cmpV_gt, eqV_eq, eqV_ne, eqS_eq, eqS_ne, subV_i, addV_i, lenSV_str, slStr_drop, slStr_take, intV_u8, loopN_succ, Nat.reduceSub, Nat.reduceAdd, Nat.reduceLeDiff, Nat.zero_le, Nat.lt_irrefl, Nat.reduceEqDiff, decide_true, decide_false, neg_eq0, neg_lt, neg_add, idxSV_slice, Nat.add_zero, Nat.zero_add, lenV_slice, ld1_rG, oMkSlice_at, callV_func, List.nil_append, List.append_nil, lenV_nil, ldN_rG, stN_rG, lay_cons, lay_nil, List.drop_succ_cons, List.drop_zero, List.take_succ_cons, List.take_zero, List.take_nil, oLookup_at, lookV_at, offV_ptr, c26, RunG, N8G, CoreG, CoreL, freeK_at, readK_at, freeN_at, Nat.reduceEqDiff, reduceCtorEq, TB0]
  exact ⟨_, rfl, k1⟩
theorem cmay {lib0 : Lib} {fs : T CF} {fuel : Nat} (E : Env lib0 fs fuel) {k n : Nat} (hk : 13 ≤ k) {s : List UInt8} {H : Heap} (h : Low s) (g : GlobP H) :
    callN (LK lib0 fs fuel k) fs fuel (n + 1) 26 [.agg (fifo s)] H = .ret (.bool true) H := by
  obtain ⟨H', e, g⟩ := cmay_run E (n := 898) (H := H) h g
  exact keep_hit (r := 12) rfl rfl e g (rfl) hk

/-- the path of a number -/
def pth (k : Nat) : List UInt8 := [97, UInt8.ofNat (97 + k / 676), UInt8.ofNat (97 + k / 26 % 26), UInt8.ofNat (97 + k % 26)]
theorem ofN {n : Nat} (h : n < 256) : (UInt8.ofNat n).toNat = n := by rw [UInt8.toNat_ofNat']; exact Nat.mod_eq_of_lt h
theorem pth_low {k : Nat} (h : k < 4097) : Low (pth k) := by
  refine ⟨rfl, fun i hi => ?_⟩
  have : i = 0 ∨ i = 1 ∨ i = 2 ∨ i = 3 := by omega
  rcases this with rfl | rfl | rfl | rfl
  · show 97 ≤ (97 : UInt8).toNat ∧ (97 : UInt8).toNat ≤ 122
    decide
  · show 97 ≤ (UInt8.ofNat (97 + k / 676)).toNat ∧ (UInt8.ofNat (97 + k / 676)).toNat ≤ 122
    rw [ofN (by omega)]; omega
  · show 97 ≤ (UInt8.ofNat (97 + k / 26 % 26)).toNat ∧ (UInt8.ofNat (97 + k / 26 % 26)).toNat ≤ 122
    rw [ofN (by omega)]; omega
  · show 97 ≤ (UInt8.ofNat (97 + k % 26)).toNat ∧ (UInt8.ofNat (97 + k % 26)).toNat ≤ 122
    rw [ofN (by omega)]; omega
theorem lt_step {a b : UInt8} {x y : List UInt8} (h : a.toNat < b.toNat ∨ (a.toNat = b.toNat ∧ strLt x y = true)) : strLt (a :: x) (b :: y) = true := by
  show cond (Nat.ble (Nat.succ a.toNat) b.toNat) true (cond (Nat.beq a.toNat b.toNat) (strLt x y) false) = true
  rcases h with h | ⟨h1, h2⟩
  · rw [Nat.ble_eq_true_of_le (show Nat.succ a.toNat ≤ b.toNat from h)]; rfl
  · rw [h1, Nat.beq_refl, h2]
    cases Nat.ble (Nat.succ b.toNat) b.toNat <;> rfl
theorem pth_lt {k : Nat} (h : k + 1 < 4097) : strGe (pth k) (pth (k + 1)) = false := by
  show (!strLt (pth k) (pth (k + 1))) = false
  have e : strLt (pth k) (pth (k + 1)) = true := by
    refine lt_step (.inr ⟨rfl, ?_⟩)
    by_cases h1 : k / 676 < (k + 1) / 676
    · exact lt_step (.inl (by rw [ofN (by omega), ofN (by omega)]; omega))
    refine lt_step (.inr ⟨by rw [ofN (by omega), ofN (by omega)]; omega, ?_⟩)
    by_cases h2 : k / 26 % 26 < (k + 1) / 26 % 26
    · exact lt_step (.inl (by rw [ofN (by omega), ofN (by omega)]; omega))
    exact lt_step (.inr ⟨by rw [ofN (by omega), ofN (by omega)]; omega, lt_step (.inl (by rw [ofN (by omega), ofN (by omega)]; omega))⟩)
  rw [e]; rfl
theorem geS (a b : List UInt8) (H : Heap) : cmpV igeF strGe (.str a) (.str b) H = .val (.bool (strGe a b)) H := by
  show vBool (strGe a b) H = _
  cases strGe a b <;> rfl
theorem fifo_same (s : List UInt8) : sameL (fifo s) (fifo s) = true := by
  have h := same_str s
  unfold fifo sameL
  rw [h]; rfl
theorem fifo_low (n : Nat) (s : List UInt8) : lowL n (fifo s) = true := rfl
/-- the row of many Members -/
structure Many (H : Heap) (b : Nat) : Prop where
  low : b < H.nx
  row : ∃ r, H.t.get b = some (.row r) ∧ r.sz = 9 ∧ r.size = 36873 ∧ (∀ i G, i < 4097 → ldN 9 (some (.row r)) (i * 9) G = .val (.agg (fifo (pth i))) G) ∧ ∀ i G, i < 4097 → ld1 (some (.row r)) (i * 9) G = .val (.str (pth i)) G
theorem slice_many {H : Heap} {b L : Nat} {r : Row} (g : H.t.get b = some (.row r)) (hz : r.sz = 9) (hs : r.size = 36873) : sliceV 9 (.slice b 0 L none) none (some (nI .i64 4096)) H = .val (.slice b 0 4096 none) H := by
  show onRow H b _ = _
  unfold onRow
  rw [g]
  have e1 : szOk r 9 none = true := by show Nat.beq r.sz 9 = true; rw [hz]; rfl
  have e2 : capOf r 0 none = 4097 := by show cond (Nat.beq r.sz 1) (r.size - 0) (Nat.div (Nat.sub r.size 0) r.sz) = _; rw [hz, hs]; rfl
  show onIf (szOk r 9 none) (boundV (some (nI .i64 4096)) L (capOf r 0 none) fun h => boundV none 0 h fun l => onIf (Nat.ble l (capOf r 0 none)) (cond (Nat.beq l (capOf r 0 none)) _ _)) = _
  rw [e1, e2]; rfl
structure MI (H0 : Heap) (b L : Nat) (m : Nat) (tm : TM) (H : Heap) : Prop where
  i : ∃ i, gt11 tm = nI .i64 i ∧ i ≤ 4096 ∧ m = 4096 - i
  t0 : gt0 tm = .slice b 0 L none
  t9 : gt9 tm = .slice b 0 4096 none
  t10 : gt10 tm = nI .i64 4096
  k : Keep H0 H []
theorem may_step {lib0 : Lib} {fs : T CF} {fuel : Nat} (E : Env lib0 fs fuel) {n : Nat} {H0 : Heap} {b L : Nat} (hL : 4096 ≤ L) (g : GlobP H0) (M : Many H0 b) (y f d r) (x : X) (m : Nat) (tm : TM) (H : Heap) (hI : MI H0 b L m tm H) :
    ∃ o tm' H', c9_l0 ⟨callN (LK lib0 fs fuel 13) fs fuel (n + 1), y, f, d, r⟩ tm H x = .ok o tm' H' x ∧ ((o = .normal ∧ ∃ q, q < m ∧ MI H0 b L q tm' H') ∨ (o ≠ .normal ∧ (Keep H0 H' [] ∧ o = .exit 0 ∧ gt0 tm' = .slice b 0 L none))) := by
  obtain ⟨⟨i, t11, hi, rfl⟩, t0, t9, t10, k0⟩ := hI
  have nx0 := k0.nx
  have hro := (g.keep k0).ro
  have t0' := t0; have t9' := t9; have t10' := t10
  simp only [gtr0] at t0
  simp only [gtr9] at t9
  simp only [gtr10] at t10
  simp only [gtr11] at t11
  obtain ⟨hb, rw_, g0, hz, hs, l9, l1⟩ := M
  have gb : H.t.get b = some (.row rw_) := by rw [k0.get b hb (by simp)]; exact g0
  by_cases hlt : i < 4096
  · have d1 : decide (i < 4096) = true := decide_eq_true hlt
    have ix := fun (G : Heap) => idxSV_rec (sz := 9) hlt b 0 none .i64 G
    have l9 := fun G => l9 i G (by omega)
    have hlow := pth_low (k := i) (by omega)
    obtain ⟨P, hP⟩ : ∃ P, pth i = P := ⟨_, rfl⟩
    rw [hP] at l9 hlow
    obtain ⟨H1, hH1⟩ : ∃ G, H.new (rG 40 1 [.str P, nI .i64 4, nI .u32 0, nI .u32 0, nI .u32 0, nI .i64 0, .nils, .nils, .str []] 0 false true true) = G := ⟨_, rfl⟩
    have k1 : Keep H H1 [] := by rw [← hH1]; exact Keep.new _ _ _
    have nx1 : H1.nx = H.nx + 1 := by rw [← hH1]; rfl
    have g1 : H1.t.get H.nx = some (rG 40 1 [.str P, nI .i64 4, nI .u32 0, nI .u32 0, nI .u32 0, nI .i64 0, .nils, .nils, .str []] 0 false true true) := by rw [← hH1, get_new_eq rfl]
    have sf := stN_all (n := 9) (l := [.str [], nI .i64 0, nI .u32 0, nI .u32 0, nI .u32 0, nI .i64 0, .nils, .nils, .str []]) (vs := fifo P) (b := H.nx) (H := H.new (rG 40 1 [.str [], nI .i64 0, nI .u32 0, nI .u32 0, nI .u32 0, nI .i64 0, .nils, .nils, .str []] 0 false true true)) (by rfl) rfl (by omega) (show H.ro ≤ H.nx by omega) 40 1 false true
    rw [new_put rfl] at sf
    have sf : stN 9 (some (rG 40 1 [.str [], nI .i64 0, nI .u32 0, nI .u32 0, nI .u32 0, nI .i64 0, .nils, .nils, .str []] 0 false true true)) H.nx 0 (.agg (fifo P)) (H.new (rG 40 1 [.str [], nI .i64 0, nI .u32 0, nI .u32 0, nI .u32 0, nI .i64 0, .nils, .nils, .str []] 0 false true true)) = .val undefA H1 := by rw [sf, ← hH1]; rfl
    have lf : ∀ G, ldN 9 (some (rG 40 1 [.str P, nI .i64 4, nI .u32 0, nI .u32 0, nI .u32 0, nI .i64 0, .nils, .nils, .str []] 0 false true true)) 0 G = .val (.agg (fifo P)) G := fun G => by rw [ldN_rG (by simp)]; rfl
    have K1 := k0.trans k1 (by simp)
    have e1 := fun {j} => cmay (lib0 := lib0) (fs := fs) (fuel := fuel) E (k := 13) (n := j) (by decide) (H := H1) hlow (g.keep K1)
    have ad := fun G => addV_i (a := i) (b := 1) (by omega) G
    have gb1 : H1.t.get b = some (.row rw_) := by rw [k1.get b (by omega) (by simp)]; exact gb
    have sc := isSame_agg (fifo_same P)
    have lo := fifo_low (s := P)
    have lw := fun o => lowV_ptr (n := H.nx + 1) (b := b) (by omega) o
    have lw0 := lowV_slice (n := H.nx + 1) (b := b) (by omega) 0 L none
    have lwp := fun o => lowV_ptr (n := H.nx + 1) (b := H.nx) (by omega) o
    by_cases h0 : i = 0
    · have dp : decide (0 < i) = false := decide_eq_false (by omega)
      simp (maxSteps := 4000000) (disch := first | assumption | omega | (simp -implicitDefEqProofs only [SideG, SideL] <;> first | assumption | omega) | decide) only [t0, t9, t10, t11, d1, ix, gb, l9, sf, hH1, g1, lf, e1, dp, ad, lwp, lw, lw0, geS, nx1, sc, lo, isSame_str, idxStr_at, cmpV_ge, cmpV_le, cmpV_lt, cmpV_gt, eqV_eq, eqV_ne, eqS_eq, eqS_ne, subV_i, addV_i, lenSV_str, slStr_drop, slStr_take, intV_u8, loopN_succ, Nat.reduceSub, Nat.reduceAdd, Nat.reduceLeDiff, Nat.zero_le, Nat.lt_irrefl, Nat.reduceEqDiff, decide_true, decide_false, neg_eq0, neg_lt, neg_add, idxSV_slice, Nat.add_zero, Nat.zero_add, lenV_slice, ld1_rG, oMkSlice_at, callV_func, List.nil_append, List.append_nil, lenV_nil, ldN_rG, stN_rG, lay_cons, lay_nil, List.drop_succ_cons, List.drop_zero, List.take_succ_cons, List.take_zero, List.take_nil, oLookup_at, lookV_at, offV_ptr, c9_l0, RunG, N8G, CoreG, CoreL, freeK_at, readK_at, freeN_at, Nat.reducePow, Nat.reduceDiv, Nat.reduceMod, Nat.reduceEqDiff, reduceCtorEq, TB0, TB1]
      refine ⟨_, _, _, rfl, ?_⟩
      exact .inl ⟨rfl, 4096 - (i + 1), by omega, ⟨⟨i + 1, (by simp only [TB0, N8G]), by omega, rfl⟩, (by simp only [TB0, N8G]; exact t0'), (by simp only [TB0, N8G]; exact t9'), (by simp only [TB0, N8G]; exact t10'), K1⟩⟩
    have dp : decide (0 < i) = true := decide_eq_true (by omega)
    have sb := fun G => subV_i (a := i) (b := 1) (by omega) (by omega) G
    have ix1 := fun (G : Heap) => idxSV_rec (sz := 9) (i := i - 1) (n := L) (by omega) b 0 none .i64 G
    have l1 := fun G => l1 (i - 1) G (by omega)
    have ge := fun G => geS (pth (i - 1)) P G
    have lt := pth_lt (k := i - 1) (by omega)
    rw [show i - 1 + 1 = i by omega, hP] at lt
    rw [lt] at ge
    have oz : ∀ x, x + 0 = x := Nat.add_zero
    simp (maxSteps := 4000000) (disch := first | assumption | omega | (simp -implicitDefEqProofs only [SideG, SideL] <;> first | assumption | omega) | decide) only [t0, t9, t10, t11, d1, ix, gb, l9, sf, hH1, g1, lf, e1, dp, ad, sb, ix1, gb1, l1, ge, lwp, lw, lw0, oz, nx1, sc, lo, isSame_str, idxStr_at, cmpV_ge, cmpV_le, cmpV_lt, cmpV_gt, eqV_eq, eqV_ne, eqS_eq, eqS_ne, subV_i, addV_i, lenSV_str, slStr_drop, slStr_take, intV_u8, loopN_succ, Nat.reduceSub, Nat.reduceAdd, Nat.reduceLeDiff, Nat.zero_le, Nat.lt_irrefl, Nat.reduceEqDiff, decide_true, decide_false, neg_eq0, neg_lt, neg_add, idxSV_slice, Nat.add_zero, Nat.zero_add, lenV_slice, ld1_rG, oMkSlice_at, callV_func, List.nil_append, List.append_nil, lenV_nil, ldN_rG, stN_rG, lay_cons, lay_nil, List.drop_succ_cons, List.drop_zero, List.take_succ_cons, List.take_zero, List.take_nil, oLookup_at, lookV_at, offV_ptr, c9_l0, RunG, N8G, CoreG, CoreL, freeK_at, readK_at, freeN_at, Nat.reducePow, Nat.reduceDiv, Nat.reduceMod, Nat.reduceEqDiff, reduceCtorEq, TB0, TB1]
    refine ⟨_, _, _, rfl, ?_⟩
    exact .inl ⟨rfl, 4096 - (i + 1), by omega, ⟨⟨i + 1, (by simp only [TB0, N8G]), by omega, rfl⟩, (by simp only [TB0, N8G]; exact t0'), (by simp only [TB0, N8G]; exact t9'), (by simp only [TB0, N8G]; exact t10'), K1⟩⟩
  · have d1 : decide (i < 4096) = false := decide_eq_false hlt
    simp (maxSteps := 4000000) (disch := first | assumption | omega | (simp -implicitDefEqProofs only [SideG, SideL] <;> first | assumption | omega) | decide) only [t0, t9, t10, t11, d1, idxStr_at, cmpV_ge, cmpV_le, cmpV_lt, cmpV_gt, eqV_eq, eqV_ne, eqS_eq, eqS_ne, subV_i, addV_i, lenSV_str, slStr_drop, slStr_take, intV_u8, loopN_succ, Nat.reduceSub, Nat.reduceAdd, Nat.reduceLeDiff, Nat.zero_le, Nat.lt_irrefl, Nat.reduceEqDiff, decide_true, decide_false, neg_eq0, neg_lt, neg_add, idxSV_slice, Nat.add_zero, Nat.zero_add, lenV_slice, ld1_rG, oMkSlice_at, callV_func, List.nil_append, List.append_nil, lenV_nil, ldN_rG, stN_rG, lay_cons, lay_nil, List.drop_succ_cons, List.drop_zero, List.take_succ_cons, List.take_zero, List.take_nil, oLookup_at, lookV_at, offV_ptr, c9_l0, RunG, N8G, CoreG, CoreL, freeK_at, readK_at, freeN_at, Nat.reducePow, Nat.reduceDiv, Nat.reduceMod, Nat.reduceEqDiff, reduceCtorEq, TB0, TB1]
    refine ⟨_, _, _, rfl, ?_⟩
    exact .inr ⟨by simp, k0, rfl, t0'⟩
theorem may__run {lib0 : Lib} {fs : T CF} {fuel : Nat} (E : Env lib0 fs fuel) {n : Nat} {b L : Nat} {H : Heap} (hL : L = 4097 ∨ L = 4096) (g : GlobP H) (M : Many H b) :
    ∃ H', callN (LK lib0 fs fuel 13) fs fuel (n + 2) 9 [.slice b 0 L none] H = .ret (nI .i64 (if 4096 < L then 42 else 0)) H' ∧ Keep H H' [] := by
  rw [callN_fn (libK_none E.n9 (.inl (by decide)) _ _) E.f9]
  have hM := M
  obtain ⟨hb, rw_, g0, hz, hs, _, _⟩ := M
  have sl := slice_many (L := L) g0 hz hs
  have mn : ∀ G, minV false [nI .i64 L, nI .i64 4096] G = .val (nI .i64 4096) G := fun G => by rw [minV_two]; congr 2; omega
  simp (maxSteps := 4000000) (disch := first | assumption | omega | (simp -implicitDefEqProofs only [SideG, SideL] <;> first | assumption | omega) | decide) only [sl, mn, idxStr_at, cmpV_ge, cmpV_le, cmpV_lt, cmpV_gt, eqV_eq, eqV_ne, eqS_eq, eqS_ne, subV_i, addV_i, lenSV_str, slStr_drop, slStr_take, intV_u8, loopN_succ, Nat.reduceSub, Nat.reduceAdd, Nat.reduceLeDiff, Nat.zero_le, Nat.lt_irrefl, Nat.reduceEqDiff, decide_true, decide_false, neg_eq0, neg_lt, neg_add, idxSV_slice, Nat.add_zero, Nat.zero_add, lenV_slice, ld1_rG, oMkSlice_at, callV_func, List.nil_append, List.append_nil, lenV_nil, ldN_rG, stN_rG, lay_cons, lay_nil, List.drop_succ_cons, List.drop_zero, List.take_succ_cons, List.take_zero, List.take_nil, oLookup_at, lookV_at, offV_ptr, c9, RunG, N8G, CoreG, CoreL, freeK_at, readK_at, freeN_at, Nat.reduceEqDiff, reduceCtorEq, TB0, TB1]
  generalize hLL : loopN (c9_l0 _) fuel _ _ _ = LL
  obtain ⟨o, tm1, H1, rfl, _, k1, rfl, t0⟩ := after_rule (P := fun T => MI H b L 4096 T H) (Q := fun o tm H' => Keep H H' [] ∧ o = .exit 0 ∧ gt0 tm = .slice b 0 L none)
    (fun T hi => loop_rule (MI H b L) (fun o tm H' => Keep H H' [] ∧ o = .exit 0 ∧ gt0 tm = .slice b 0 L none) (fun m tm H' h => may_step E (n := n) (by omega) g hM _ _ _ _ _ m tm H' h) fuel 4096 T H (by have := E.big; omega) hi) hLL
    ⟨⟨0, rfl, by omega, rfl⟩, rfl, rfl, rfl, Keep.refl _ _⟩
  simp only [gtr0] at t0
  rcases hL with rfl | rfl
  · have d1 : decide (4096 < 4097) = true := rfl
    rw [if_pos (by omega)]
    simp (maxSteps := 4000000) (disch := first | assumption | omega | (simp -implicitDefEqProofs only [SideG, SideL] <;> first | assumption | omega) | decide) only [t0, d1, leaveB_same, idxStr_at, cmpV_ge, cmpV_le, cmpV_lt, cmpV_gt, eqV_eq, eqV_ne, eqS_eq, eqS_ne, subV_i, addV_i, lenSV_str, slStr_drop, slStr_take, intV_u8, loopN_succ, Nat.reduceSub, Nat.reduceAdd, Nat.reduceLeDiff, Nat.zero_le, Nat.lt_irrefl, Nat.reduceEqDiff, decide_true, decide_false, neg_eq0, neg_lt, neg_add, idxSV_slice, Nat.add_zero, Nat.zero_add, lenV_slice, ld1_rG, oMkSlice_at, callV_func, List.nil_append, List.append_nil, lenV_nil, ldN_rG, stN_rG, lay_cons, lay_nil, List.drop_succ_cons, List.drop_zero, List.take_succ_cons, List.take_zero, List.take_nil, oLookup_at, lookV_at, offV_ptr, c9, RunG, N8G, CoreG, CoreL, freeK_at, readK_at, freeN_at, Nat.reduceEqDiff, reduceCtorEq, TB0, TB1]
    refine ⟨_, rfl, ?_⟩
    exact k1
  · have d1 : decide (4096 < 4096) = false := rfl
    rw [if_neg (by omega)]
    simp (maxSteps := 4000000) (disch := first | assumption | omega | (simp -implicitDefEqProofs only [SideG, SideL] <;> first | assumption | omega) | decide) only [t0, d1, leaveB_same, idxStr_at, cmpV_ge, cmpV_le, cmpV_lt, cmpV_gt, eqV_eq, eqV_ne, eqS_eq, eqS_ne, subV_i, addV_i, lenSV_str, slStr_drop, slStr_take, intV_u8, loopN_succ, Nat.reduceSub, Nat.reduceAdd, Nat.reduceLeDiff, Nat.zero_le, Nat.lt_irrefl, Nat.reduceEqDiff, decide_true, decide_false, neg_eq0, neg_lt, neg_add, idxSV_slice, Nat.add_zero, Nat.zero_add, lenV_slice, ld1_rG, oMkSlice_at, callV_func, List.nil_append, List.append_nil, lenV_nil, ldN_rG, stN_rG, lay_cons, lay_nil, List.drop_succ_cons, List.drop_zero, List.take_succ_cons, List.take_zero, List.take_nil, oLookup_at, lookV_at, offV_ptr, c9, RunG, N8G, CoreG, CoreL, freeK_at, readK_at, freeN_at, Nat.reduceEqDiff, reduceCtorEq, TB0, TB1]
    refine ⟨_, rfl, ?_⟩
    exact k1
/-- what the temporaries tell ahead of the loop -/
structure Told (v28 : AV) (tm : TM) : Prop where
  t7 : gt7 tm = nI .i64 1
  t9 : gt9 tm = nI .i64 1
  t11 : gt11 tm = nI .i64 1
  t13 : gt13 tm = nI .i64 1
  t15 : gt15 tm = nI .i64 1
  t17 : gt17 tm = nI .i64 1
  t19 : gt19 tm = nI .i64 1
  t21 : gt21 tm = nI .i64 0
  t23 : gt23 tm = nI .i64 1
  t25 : gt25 tm = nI .i64 1
  t27 : gt27 tm = nI .i64 1
  t28 : gt28 tm = v28
  t29 : gt29 tm = nI .i64 0
  t31 : gt31 tm = nI .i64 21
  t33 : gt33 tm = nI .i64 5
def zs9 : List AV := [.str [], nI .i64 0, nI .u32 0, nI .u32 0, nI .u32 0, nI .i64 0, .nils, .nils, .str []]
theorem flat_getD {sz : Nat} {ls : List (List AV)} (h : ∀ l ∈ ls, l.length = sz) {i j : Nat} (hi : i < ls.length) (hj : j < sz) : ls.flatten.getD (i * sz + j) .unk = (ls.getD i []).getD j .unk := by
  rw [← flat_at h hi, List.getD_eq_getElem?_getD, List.getD_eq_getElem?_getD, List.getElem?_take_of_lt hj, List.getElem?_drop]
/-- the row after so many rounds -/
def lst (i : Nat) : List (List AV) := ((List.range i).map fun j => fifo (pth j)) ++ List.replicate (4097 - i) zs9
theorem lst_each (i : Nat) : ∀ l ∈ lst i, l.length = 9 := by
  intro l hl
  rcases List.mem_append.1 hl with h | h
  · obtain ⟨j, _, rfl⟩ := List.mem_map.1 h; rfl
  · rw [List.eq_of_mem_replicate h]; rfl
theorem lst_len {i : Nat} (h : i ≤ 4097) : (lst i).length = 4097 := by
  unfold lst
  rw [List.length_append, List.length_map, List.length_range, List.length_replicate]; omega
theorem lst_flen {i : Nat} (h : i ≤ 4097) : (lst i).flatten.length = 36873 := by rw [flat_len (lst_each i), lst_len h]
theorem lay_flat (A : List (List AV)) (z vs : List AV) (B : List (List AV)) {o : Nat} (hA : A.flatten.length = o) (hz : z.length = vs.length) : lay (A ++ z :: B).flatten o vs = (A ++ vs :: B).flatten := by
  subst hA
  rw [lay_eq _ _ _ (by simp only [List.flatten_append, List.flatten_cons, List.length_append]; omega), List.flatten_append, List.flatten_append, List.flatten_cons, List.flatten_cons, List.take_left, ← hz, ← List.drop_drop, List.drop_left, List.drop_left]
theorem lst_lay {i : Nat} (h : i < 4097) : lay (lst i).flatten (i * 9) (fifo (pth i)) = (lst (i + 1)).flatten := by
  have e1 : lst i = ((List.range i).map fun j => fifo (pth j)) ++ zs9 :: List.replicate (4096 - i) zs9 := by
    unfold lst
    rw [show 4097 - i = (4096 - i) + 1 by omega]; rfl
  have e2 : lst (i + 1) = ((List.range i).map fun j => fifo (pth j)) ++ fifo (pth i) :: List.replicate (4096 - i) zs9 := by
    unfold lst
    rw [List.range_succ, List.map_append, List.append_assoc, show 4097 - (i + 1) = 4096 - i by omega]; rfl
  rw [e1, e2]
  refine lay_flat _ _ _ _ ?_ rfl
  rw [flat_len (sz := 9), List.length_map, List.length_range]
  intro l hl
  obtain ⟨j, _, rfl⟩ := List.mem_map.1 hl; rfl
theorem lst_at {i : Nat} (h : i < 4097) : (lst 4097).getD i [] = fifo (pth i) := by
  unfold lst
  rw [List.getD_eq_getElem?_getD, List.getElem?_append_left (by rw [List.length_map, List.length_range]; exact h), List.getElem?_map, List.getElem?_range h]; rfl
theorem many_of {H : Heap} {b : Nat} (hb : b < H.nx) (g : H.t.get b = some (rG 40 9 (lst 4097).flatten 0 false true true)) : Many H b := by
  have hl := lst_flen (i := 4097) (Nat.le_refl _)
  refine ⟨hb, _, g, rfl, by show lenL (lst 4097).flatten = 36873; rw [lenL_eq, hl], fun i G hi => ?_, fun i G hi => ?_⟩
  · have := ldN_rG (n := 9) (o := i * 9) (l := (lst 4097).flatten) (by rw [hl]; omega) 40 9 0 false true true G
    rw [flat_at (lst_each _) (by rw [lst_len (Nat.le_refl _)]; exact hi), lst_at hi] at this
    exact this
  · have := ld1_rG (o := i * 9) (l := (lst 4097).flatten) (by rw [hl]; omega) 40 9 0 false true true G
    have e : (lst 4097).flatten.getD (i * 9) .unk = .str (pth i) := by
      have h2 := flat_getD (lst_each 4097) (i := i) (j := 0) (by rw [lst_len (Nat.le_refl _)]; exact hi) (by omega)
      rw [Nat.add_zero] at h2
      rw [h2, lst_at hi]; rfl
    rw [e] at this
    exact this
theorem mk9 (H : Heap) : mkSV 40 9 112 [.str [], nI .i64 0, nI .u32 0, nI .u32 0, nI .u32 0, nI .i64 0, .nils, .nils, .str []] (nI .i64 4097) (nI .i64 4097) H = .val (.slice H.nx 0 4097 none) (H.new (rG 40 9 (List.replicate 4097 [.str [], nI .i64 0, nI .u32 0, nI .u32 0, nI .u32 0, nI .i64 0, .nils, .nils, .str []]).flatten 0 false true true)) := rfl
theorem law_mk {call : Nat → List AV → Heap → CR} {y f d r} {x : X} {tm : TM} {H : Heap} {v28 : AV} (T : Told v28 tm) :
    ∃ tm', c3_mk ⟨call, y, f, d, r⟩ tm H x = .ok .normal tm' (H.new (rG 40 9 (lst 0).flatten 0 false true true)) x ∧ Told v28 tm' ∧ gt34 tm' = .slice H.nx 0 4097 none := by
  obtain ⟨t7, t9, t11, t13, t15, t17, t19, t21, t23, t25, t27, t28, t29, t31, t33⟩ := T
  have e : (lst 0).flatten = (List.replicate 4097 [.str [], nI .i64 0, nI .u32 0, nI .u32 0, nI .u32 0, nI .i64 0, .nils, .nils, .str []]).flatten := rfl
  rw [e]
  simp (maxSteps := 4000000) (disch := first | assumption | omega | (simp -implicitDefEqProofs only [SideG, SideL] <;> first | assumption | omega) | decide) only [mk9, idxStr_at, cmpV_ge, cmpV_le, cmpV_lt, cmpV_gt, eqV_eq, eqV_ne, eqS_eq, eqS_ne, subV_i, addV_i, lenSV_str, slStr_drop, slStr_take, intV_u8, loopN_succ, Nat.reduceSub, Nat.reduceAdd, Nat.reduceLeDiff, Nat.zero_le, Nat.lt_irrefl, Nat.reduceEqDiff, decide_true, decide_false, neg_eq0, neg_lt, neg_add, idxSV_slice, Nat.add_zero, Nat.zero_add, lenV_slice, ld1_rG, oMkSlice_at, callV_func, List.nil_append, List.append_nil, lenV_nil, ldN_rG, stN_rG, lay_cons, lay_nil, List.drop_succ_cons, List.drop_zero, List.take_succ_cons, List.take_zero, List.take_nil, oLookup_at, lookV_at, offV_ptr, c3_mk, RunG, N8G, CoreG, CoreL, freeK_at, readK_at, freeN_at, Nat.reduceEqDiff, reduceCtorEq, TB1, TB5]
  refine ⟨_, rfl, ?_, (by simp only [TB1, N8G])⟩
  exact ⟨(by simp only [TB0, N8G]; exact t7), (by simp only [TB0, N8G]; exact t9), (by simp only [TB0, N8G]; exact t11), (by simp only [TB0, N8G]; exact t13), (by simp only [TB0, N8G]; exact t15), (by simp only [TB0, N8G]; exact t17), (by simp only [TB0, N8G]; exact t19), (by simp only [TB0, N8G]; exact t21), (by simp only [TB0, N8G]; exact t23), (by simp only [TB0, N8G]; exact t25), (by simp only [TB0, N8G]; exact t27), (by simp only [TB0, N8G]; exact t28), (by simp only [TB0, N8G]; exact t29), (by simp only [TB0, N8G]; exact t31), (by simp only [TB1, N8G]; exact t33)⟩
structure LI (v28 : AV) (H0 : Heap) (b : Nat) (m : Nat) (tm : TM) (H : Heap) : Prop where
  i : ∃ i, gt177 tm = nI .i64 i ∧ i ≤ 4097 ∧ m = 4097 - i ∧ H.nx = H0.nx + i ∧ H.t.get b = some (rG 40 9 (lst i).flatten 0 false true true)
  t176 : gt176 tm = nI .i64 4097
  t34 : gt34 tm = .slice b 0 4097 none
  T : Told v28 tm
  k : Keep H0 H [b]
theorem law_step {call : Nat → List AV → Heap → CR} {v28 : AV} {H0 : Heap} {b : Nat} (hb : b < H0.nx) (hro : H0.ro ≤ b) (y f d r) (x : X) (m : Nat) (tm : TM) (H : Heap) (hI : LI v28 H0 b m tm H) :
    ∃ o tm' H', c3_l0 ⟨call, y, f, d, r⟩ tm H x = .ok o tm' H' x ∧ ((o = .normal ∧ ∃ q, q < m ∧ LI v28 H0 b q tm' H') ∨ (o ≠ .normal ∧ (o = .exit 0 ∧ LI v28 H0 b 0 tm' H'))) := by
  have hI0 := hI
  obtain ⟨⟨i, t177, hi, rfl, hnx, gb⟩, t176, t34, ⟨t7, t9, t11, t13, t15, t17, t19, t21, t23, t25, t27, t28, t29, t31, t33⟩, k0⟩ := hI
  have t34' := t34; have t176' := t176; have t177' := t177
  simp only [gtr177] at t177
  simp only [gtr176] at t176
  simp only [gtr34] at t34
  have rok := k0.ro
  by_cases hlt : i < 4097
  · have d1 : decide (i < 4097) = true := decide_eq_true hlt
    obtain ⟨X1, hX1⟩ : ∃ q, 97 + i / 676 = q := ⟨_, rfl⟩
    obtain ⟨X2, hX2⟩ : ∃ q, 97 + i / 26 % 26 = q := ⟨_, rfl⟩
    obtain ⟨X3, hX3⟩ : ∃ q, 97 + i % 26 = q := ⟨_, rfl⟩
    have hP : pth i = [97, UInt8.ofNat X1, UInt8.ofNat X2, UInt8.ofNat X3] := by rw [← hX1, ← hX2, ← hX3]; rfl
    have a1 : ∀ G, addV (nI .i64 97) (nI .i64 (i / 676)) G = .val (nI .i64 X1) G := fun G => by rw [addV_i (by omega), hX1]
    have a2 : ∀ G, addV (nI .i64 97) (nI .i64 (i / 26 % 26)) G = .val (nI .i64 X2) G := fun G => by rw [addV_i (by omega), hX2]
    have a3 : ∀ G, addV (nI .i64 97) (nI .i64 (i % 26)) G = .val (nI .i64 X3) G := fun G => by rw [addV_i (by omega), hX3]
    have bs : ∀ G : Heap, bsliceV 5 1 3 (List.replicate 3 [nI .u8 0]).flatten [(0, 1, nI .u8 X1), (1, 1, nI .u8 X2), (2, 1, nI .u8 X3)] G = .val (.slice G.nx 0 3 none) (G.new (rG 5 1 [nI .u8 X1, nI .u8 X2, nI .u8 X3] 0 false true true)) := fun _ => rfl
    obtain ⟨H1, hH1⟩ : ∃ G, H.new (rG 5 1 [nI .u8 X1, nI .u8 X2, nI .u8 X3] 0 false true true) = G := ⟨_, rfl⟩
    have k1 : Keep H H1 [] := by rw [← hH1]; exact Keep.new _ _ _
    have nx1 : H1.nx = H.nx + 1 := by rw [← hH1]; rfl
    have g1 : H1.t.get H.nx = some (rG 5 1 [nI .u8 X1, nI .u8 X2, nI .u8 X3] 0 false true true) := by rw [← hH1, get_new_eq rfl]
    have u8 : ∀ q, q < 256 → nI .u8 q = u8V (UInt8.ofNat q) := fun q hq => by
      show AV.int .u8 (.ofNat q) = AV.int .u8 (.ofNat (UInt8.ofNat q).toNat)
      rw [ofN hq]
    have sw : strW (.slice H.nx 0 3 none) H1 = .val (.str [UInt8.ofNat X1, UInt8.ofNat X2, UInt8.ofNat X3]) H1 := by
      refine strV_row (r := ⟨5, 1, lenL [nI .u8 X1, nI .u8 X2, nI .u8 X3], T.ofList [nI .u8 X1, nI .u8 X2, nI .u8 X3], .unk, 0, false, true, true⟩) g1 rfl (by exact Nat.le_refl 3) fun j hj => ?_
      rw [Nat.zero_add, rG_get]
      have : j = 0 ∨ j = 1 ∨ j = 2 := by omega
      rcases this with rfl | rfl | rfl
      · exact u8 X1 (by omega)
      · exact u8 X2 (by omega)
      · exact u8 X3 (by omega)
    have ad : ∀ G, addV (.str [97]) (.str [UInt8.ofNat X1, UInt8.ofNat X2, UInt8.ofNat X3]) G = .val (.str (pth i)) G := fun G => by rw [addV_str (by simp), hP]; rfl
    have b1 : ∀ G, buildV [nI .i64 0, nI .u32 0, nI .u32 0, nI .u32 0, nI .i64 0, .nils, .nils, .str []] [(0, 1, nI .i64 4)] G = .val (.agg [nI .i64 4, nI .u32 0, nI .u32 0, nI .u32 0, nI .i64 0, .nils, .nils, .str []]) G := fun _ => rfl
    have b2 : ∀ G, buildV [.str [], nI .i64 0, nI .u32 0, nI .u32 0, nI .u32 0, nI .i64 0, .nils, .nils, .str []] [(0, 1, .str (pth i)), (1, 8, .agg [nI .i64 4, nI .u32 0, nI .u32 0, nI .u32 0, nI .i64 0, .nils, .nils, .str []])] G = .val (.agg (fifo (pth i))) G := fun _ => rfl
    have ix := fun (G : Heap) => idxSV_rec (sz := 9) hlt b 0 none .i64 G
    have gb1 : H1.t.get b = some (rG 40 9 (lst i).flatten 0 false true true) := by
      have := k0.nx
      rw [k1.get b (by omega) (by simp)]; exact gb
    have sf := stN_rG (n := 9) (b := b) (o := i * 9) (l := (lst i).flatten) (v := .agg (fifo (pth i))) (H := H1) (fz := 0) (by omega) rfl (by rw [lst_flen hi]; omega) (by rw [k1.ro]; omega) (Nat.zero_le _) 40 9 false true
    have cl : (AV.agg (fifo (pth i))).cells = fifo (pth i) := rfl
    rw [cl, lst_lay hlt] at sf
    have ac := fun G => addV_i (a := i) (b := 1) (by omega) G
    have i1 : ∀ G, intV .u8 (nI .i64 X1) G = .val (nI .u8 X1) G := fun G => intV_u8 (by omega) G
    have i2 : ∀ G, intV .u8 (nI .i64 X2) G = .val (nI .u8 X2) G := fun G => intV_u8 (by omega) G
    have i3 : ∀ G, intV .u8 (nI .i64 X3) G = .val (nI .u8 X3) G := fun G => intV_u8 (by omega) G
    simp (maxSteps := 4000000) (disch := first | assumption | omega | (simp -implicitDefEqProofs only [SideG, SideL] <;> first | assumption | omega) | decide) only [t177, t176, t34, d1, a1, a2, a3, i1, i2, i3, bs, hH1, sw, ad, b1, b2, ix, gb1, sf, ac, quoV_i, remV_i, idxStr_at, cmpV_ge, cmpV_le, cmpV_lt, cmpV_gt, eqV_eq, eqV_ne, eqS_eq, eqS_ne, subV_i, addV_i, lenSV_str, slStr_drop, slStr_take, loopN_succ, Nat.reduceSub, Nat.reduceAdd, Nat.reduceLeDiff, Nat.zero_le, Nat.lt_irrefl, Nat.reduceEqDiff, decide_true, decide_false, neg_eq0, neg_lt, neg_add, idxSV_slice, Nat.add_zero, Nat.zero_add, lenV_slice, ld1_rG, oMkSlice_at, callV_func, List.nil_append, List.append_nil, lenV_nil, ldN_rG, stN_rG, lay_cons, lay_nil, List.drop_succ_cons, List.drop_zero, List.take_succ_cons, List.take_zero, List.take_nil, oLookup_at, lookV_at, offV_ptr, c3_l0, RunG, N8G, CoreG, CoreL, freeK_at, readK_at, freeN_at, Nat.reducePow, Nat.reduceDiv, Nat.reduceMod, Nat.reduceEqDiff, reduceCtorEq, TB1, TB5, TB6]
    refine ⟨_, _, _, rfl, ?_⟩
    exact .inl ⟨rfl, 4097 - (i + 1), by omega, ⟨⟨i + 1, (by simp only [TB5, N8G]), by omega, rfl, by show H1.nx = _; omega, get_put_eq ..⟩, (by simp only [TB5, N8G]; exact t176'), (by simp only [TB1, N8G]; exact t34'), ⟨(by simp only [TB0, N8G]; exact t7), (by simp only [TB0, N8G]; exact t9), (by simp only [TB0, N8G]; exact t11), (by simp only [TB0, N8G]; exact t13), (by simp only [TB0, N8G]; exact t15), (by simp only [TB0, N8G]; exact t17), (by simp only [TB0, N8G]; exact t19), (by simp only [TB0, N8G]; exact t21), (by simp only [TB0, N8G]; exact t23), (by simp only [TB0, N8G]; exact t25), (by simp only [TB0, N8G]; exact t27), (by simp only [TB0, N8G]; exact t28), (by simp only [TB0, N8G]; exact t29), (by simp only [TB0, N8G]; exact t31), (by simp only [TB1, N8G]; exact t33)⟩, (k0.trans k1 (by simp)).then_put fun _ => by simp⟩⟩
  · have d1 : decide (i < 4097) = false := decide_eq_false hlt
    obtain rfl : i = 4097 := by omega
    simp (maxSteps := 4000000) (disch := first | assumption | omega | (simp -implicitDefEqProofs only [SideG, SideL] <;> first | assumption | omega) | decide) only [t177, t176, t34, d1, idxStr_at, cmpV_ge, cmpV_le, cmpV_lt, cmpV_gt, eqV_eq, eqV_ne, eqS_eq, eqS_ne, subV_i, addV_i, lenSV_str, slStr_drop, slStr_take, intV_u8, loopN_succ, Nat.reduceSub, Nat.reduceAdd, Nat.reduceLeDiff, Nat.zero_le, Nat.lt_irrefl, Nat.reduceEqDiff, decide_true, decide_false, neg_eq0, neg_lt, neg_add, idxSV_slice, Nat.add_zero, Nat.zero_add, lenV_slice, ld1_rG, oMkSlice_at, callV_func, List.nil_append, List.append_nil, lenV_nil, ldN_rG, stN_rG, lay_cons, lay_nil, List.drop_succ_cons, List.drop_zero, List.take_succ_cons, List.take_zero, List.take_nil, oLookup_at, lookV_at, offV_ptr, c3_l0, RunG, N8G, CoreG, CoreL, freeK_at, readK_at, freeN_at, Nat.reducePow, Nat.reduceDiv, Nat.reduceMod, Nat.reduceEqDiff, reduceCtorEq, TB1, TB5, TB6]
    refine ⟨_, _, _, rfl, ?_⟩
    exact .inr ⟨by simp, rfl, ⟨⟨4097, (by simp only [TB5, N8G]; exact t177'), by omega, rfl, hnx, gb⟩, (by simp only [TB5, N8G]; exact t176'), (by simp only [TB1, N8G]; exact t34'), ⟨(by simp only [TB0, N8G]; exact t7), (by simp only [TB0, N8G]; exact t9), (by simp only [TB0, N8G]; exact t11), (by simp only [TB0, N8G]; exact t13), (by simp only [TB0, N8G]; exact t15), (by simp only [TB0, N8G]; exact t17), (by simp only [TB0, N8G]; exact t19), (by simp only [TB0, N8G]; exact t21), (by simp only [TB0, N8G]; exact t23), (by simp only [TB0, N8G]; exact t25), (by simp only [TB0, N8G]; exact t27), (by simp only [TB0, N8G]; exact t28), (by simp only [TB0, N8G]; exact t29), (by simp only [TB0, N8G]; exact t31), (by simp only [TB1, N8G]; exact t33)⟩, k0⟩⟩
theorem law_lp {call : Nat → List AV → Heap → CR} {v28 : AV} {H0 : Heap} {b d : Nat} (hd : 5000 < d) (hb : b < H0.nx) (hro : H0.ro ≤ b) (y f r) (x : X) (tm : TM) (T : Told v28 tm) (t34 : gt34 tm = .slice b 0 4097 none) (g : H0.t.get b = some (rG 40 9 (lst 0).flatten 0 false true true)) :
    ∃ tm' H', c3_lp ⟨call, y, f, d, r⟩ tm H0 x = .ok .normal tm' H' x ∧ Told v28 tm' ∧ gt34 tm' = .slice b 0 4097 none ∧ H'.nx = H0.nx + 4097 ∧ Keep H0 H' [b] ∧ Many H' b := by
  obtain ⟨t7, t9, t11, t13, t15, t17, t19, t21, t23, t25, t27, t28, t29, t31, t33⟩ := T
  have t34' := t34
  simp only [gtr34] at t34
  simp (maxSteps := 4000000) (disch := first | assumption | omega | (simp -implicitDefEqProofs only [SideG, SideL] <;> first | assumption | omega) | decide) only [t34, idxStr_at, cmpV_ge, cmpV_le, cmpV_lt, cmpV_gt, eqV_eq, eqV_ne, eqS_eq, eqS_ne, subV_i, addV_i, lenSV_str, slStr_drop, slStr_take, intV_u8, loopN_succ, Nat.reduceSub, Nat.reduceAdd, Nat.reduceLeDiff, Nat.zero_le, Nat.lt_irrefl, Nat.reduceEqDiff, decide_true, decide_false, neg_eq0, neg_lt, neg_add, idxSV_slice, Nat.add_zero, Nat.zero_add, lenV_slice, ld1_rG, oMkSlice_at, callV_func, List.nil_append, List.append_nil, lenV_nil, ldN_rG, stN_rG, lay_cons, lay_nil, List.drop_succ_cons, List.drop_zero, List.take_succ_cons, List.take_zero, List.take_nil, oLookup_at, lookV_at, offV_ptr, c3_lp, RunG, N8G, CoreG, CoreL, freeK_at, readK_at, freeN_at, Nat.reduceEqDiff, reduceCtorEq, TB1, TB5]
  generalize hL : loopN (c3_l0 _) d _ _ _ = L
  obtain ⟨o, tm1, H1, rfl, _, rfl, hI⟩ := after_rule (P := fun T => LI v28 H0 b 4097 T H0) (Q := fun o tm H' => o = .exit 0 ∧ LI v28 H0 b 0 tm H')
    (fun T hi => loop_rule (LI v28 H0 b) (fun o tm H' => o = .exit 0 ∧ LI v28 H0 b 0 tm H') (fun m tm H' h => law_step hb hro y f d r x m tm H' h) d 4097 T H0 (by omega) hi) hL
    ⟨⟨0, (by simp only [TB5, N8G]), by omega, rfl, rfl, g⟩, (by simp only [TB5, N8G]), (by simp only [TB1, N8G]; exact t34'), ⟨(by simp only [TB0, N8G]; exact t7), (by simp only [TB0, N8G]; exact t9), (by simp only [TB0, N8G]; exact t11), (by simp only [TB0, N8G]; exact t13), (by simp only [TB0, N8G]; exact t15), (by simp only [TB0, N8G]; exact t17), (by simp only [TB0, N8G]; exact t19), (by simp only [TB0, N8G]; exact t21), (by simp only [TB0, N8G]; exact t23), (by simp only [TB0, N8G]; exact t25), (by simp only [TB0, N8G]; exact t27), (by simp only [TB0, N8G]; exact t28), (by simp only [TB0, N8G]; exact t29), (by simp only [TB0, N8G]; exact t31), (by simp only [TB1, N8G]; exact t33)⟩, Keep.refl _ _⟩
  obtain ⟨⟨i, _, hi, hz, hnx, gb⟩, _, t34, T, k⟩ := hI
  obtain rfl : i = 4097 := by omega
  have := k.nx
  exact ⟨tm1, H1, rfl, T, t34, hnx, k, many_of (by omega) gb⟩
theorem law_tl {call : Nat → List AV → Heap → CR} {v28 : AV} {H : Heap} {b : Nat} (y f d r) (tm : TM) (T : Told v28 tm) (t34 : gt34 tm = .slice b 0 4097 none) (M : Many H b) (s28 : strW v28 H = .val (.str [48, 49, 50, 51, 52, 53, 54, 55, 56, 57, 97, 98, 99, 100, 101, 102]) H)
    (m1 : call 9 [.slice b 0 4097 none] H = .ret (nI .i64 42) H) (m2 : call 9 [.slice b 0 4096 none] H = .ret (nI .i64 0) H) {H' : Heap} (w : call 10 [] H = .ret (.bool true) H') :
    ∃ tm', c3_tl ⟨call, y, f, d, r⟩ tm H ⟨[], none⟩ = .ok .ret tm' H' ⟨[], none⟩ ∧ gt0 tm' = .bool true := by
  obtain ⟨t7, t9, t11, t13, t15, t17, t19, t21, t23, t25, t27, t28, t29, t31, t33⟩ := T
  simp only [gtr34] at t34
  simp only [gtr7] at t7
  simp only [gtr9] at t9
  simp only [gtr11] at t11
  simp only [gtr13] at t13
  simp only [gtr15] at t15
  simp only [gtr17] at t17
  simp only [gtr19] at t19
  simp only [gtr21] at t21
  simp only [gtr23] at t23
  simp only [gtr25] at t25
  simp only [gtr27] at t27
  simp only [gtr28] at t28
  simp only [gtr29] at t29
  simp only [gtr31] at t31
  simp only [gtr33] at t33
  obtain ⟨hb, rw_, g0, hz, hs, _, _⟩ := M
  have sl := slice_many (L := 4097) g0 hz hs
  have dt : decide ([48, 49, 50, 51, 52, 53, 54, 55, 56, 57, 97, 98, 99, 100, 101, 102] = lit0) = true := decide_eq_true rfl
  simp (maxSteps := 4000000) (disch := first | assumption | omega | (simp -implicitDefEqProofs only [SideG, SideL] <;> first | assumption | omega) | decide) only [t7, t9, t11, t13, t15, t17, t19, t21, t23, t25, t27, t28, t29, t31, t33, t34, sl, s28, dt, m1, m2, w, idxStr_at, cmpV_ge, cmpV_le, cmpV_lt, cmpV_gt, eqV_eq, eqV_ne, eqS_eq, eqS_ne, subV_i, addV_i, lenSV_str, slStr_drop, slStr_take, intV_u8, loopN_succ, Nat.reduceSub, Nat.reduceAdd, Nat.reduceLeDiff, Nat.zero_le, Nat.lt_irrefl, Nat.reduceEqDiff, decide_true, decide_false, neg_eq0, neg_lt, neg_add, idxSV_slice, Nat.add_zero, Nat.zero_add, lenV_slice, ld1_rG, oMkSlice_at, callV_func, List.nil_append, List.append_nil, lenV_nil, ldN_rG, stN_rG, lay_cons, lay_nil, List.drop_succ_cons, List.drop_zero, List.take_succ_cons, List.take_zero, List.take_nil, oLookup_at, lookV_at, offV_ptr, c3_tl, RunG, N8G, CoreG, CoreL, freeK_at, readK_at, freeN_at, Nat.reduceEqDiff, reduceCtorEq, TB0, TB1, TB6, TB7, TB8]
  refine ⟨_, rfl, ?_⟩
  exact (by simp only [TB0, N8G])
end
end Go.AI
