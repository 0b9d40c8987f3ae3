/- The law TocTexts returns true: proved, under its row's condition. -/
import Derived.Test.YtikedecpnlbmbaaGreatDoorTT
import Derived.Test.YtikedecpnlbmbaaGreatDoorP6
set_option maxRecDepth 1000000
set_option linter.unusedVariables false
set_option linter.unusedSimpArgs false
set_option maxRecDepth 1000000
set_option maxHeartbeats 0
namespace Go.Proofs.YtikedecpnlbmbaaGreatDoor
open Go.ChangeShapes Go.WideShapes Go.ChangeAt Go.RowKit Go.AI
/-- a world in which the listed maps stand -/
noncomputable def mapWorld (os : Os) : World := let w := World.holding Tryz.prog os ⟨#[], #[], []⟩; let n := w.heap.size
  { w with heap := ⟨Lay.setRows w.heap.toList [(2, [.map (some (n + 0))]), (3, [.map (some (n + 1))])] ++ [.map #[⟨.int .i64 1, .func (.func 242) #[] #[], 0⟩, ⟨.int .i64 2, .func (.func 243) #[] #[], 1⟩, ⟨.int .i64 3, .func (.func 244) #[] #[], 2⟩] 3, .map #[⟨.int .i64 1, .int .u8 53, 0⟩, ⟨.int .i64 2, .int .u8 48, 1⟩, ⟨.int .i64 3, .int .u8 50, 2⟩, ⟨.int .i64 4, .int .u8 54, 3⟩] 4]⟩ }
noncomputable abbrev great : List String := ["math/bits.deBruijn32tab", "math/bits.deBruijn64tab", "internal/strconv.uint64pow10", "unicode/utf8.acceptRanges", "strconv.ErrRange", "strconv.ErrSyntax", "portolan/toc.kinds", "unicode/utf8.first"]
noncomputable def laidWorld (os : Os) : World := (mapWorld os).layVars Tryz.prog (Rows.tocTextsRow.laid.filter fun x => great.contains x.1)
theorem laid_met (os : Os) (args : Array Value) : laidMetH Tryz.prog Rows.tocTextsRow.laid ((laidWorld os).forCall (fun _ _ => 0) ⟨#[], args, []⟩).memory := by
  have hw : ((laidWorld os).forCall (fun _ _ => 0) ⟨#[], args, []⟩).memory.heap = (laidWorld os).heap := by simp [World.memory, World.forCall, Input.heap]
  refine laidMetH_of_parts3 (fuel := 12) ?_ (by kernel_rfl) (by kernel_rfl)
  refine (laidMet_layVars (P := Tryz.prog) (laid := (Rows.tocTextsRow.laid.filter fun x => x.2.handleName?.isNone)) (w0 := mapWorld os) (w' := laidWorld os) great [3, ((mapWorld os).heap.size - 1)] ?_ (by kernel_rfl) (by kernel_rfl) (LaidIn.of_run [3, ((mapWorld os).heap.size - 1)] 12 (by kernel_rfl) (by kernel_rfl) (by kernel_rfl) (by kernel_rfl))).of_heap hw.symm
  kernel_rfl
/-- a text of the world -/
theorem text_arg {W : World} {H : Type} {enc : TypeId × Value → H} {r : Reach} {base : Nat} {v : Value} {d : DataW H} {p : List MemPlace} (ht : Tryz.prog.underlying 9 = some .string) (hok : Value.okWide Tryz.prog W r base 9 v) (h : DataW.Trod enc Tryz.prog W 0 (fun _ => true) true 9 v d p) : ∃ l : List UInt8, ∀ σ, Rel σ (.str l) v := by
  have hk : Cell.ok Tryz.prog W r base 9 v := by
    unfold Value.okWide Cell.okWide at hok
    rw [ht] at hok
    simpa using hok
  unfold Cell.ok at hk
  rw [ht] at hk
  cases v with
  | string s => exact ⟨s.data.toList, fun σ => by simp only [Rel]⟩
  | _ => simp at hk
/-- the call -/
theorem law_calls {W : World} (hL : laidMetH Tryz.prog Rows.tocTextsRow.laid W) {H : Type} {enc : TypeId × Value → H} {base : Nat} {v0 v1 : Value} {d0 d1 : DataW H} {p0 p1 : List MemPlace}
    (k0 : Value.okWide Tryz.prog W .any base 9 v0) (k1 : Value.okWide Tryz.prog W .any base 9 v1) (t0 : DataW.Trod enc Tryz.prog W 0 (fun _ => true) true 9 v0 d0 p0) (t1 : DataW.Trod enc Tryz.prog W 0 (fun _ => true) true 9 v1 d1 p1) :
    Calls Tryz.prog 3 #[v0, v1] W fun e W' => e = .returned (.bool true) ∧ W'.os = W.os ∧ W'.output = W.output ∧ ∀ i, i < W.heap.size → W'.heap[i]? = W.heap[i]? := by
  obtain ⟨σ, e, hs⟩ := start_of hL
  obtain ⟨l0, b0⟩ := text_arg Tryz.underlying9 k0 t0
  obtain ⟨l1, b1⟩ := text_arg Tryz.underlying9 k1 t1
  obtain ⟨H', run⟩ := law_true e l0 l1
  obtain ⟨fn, h1, h2, h3, _⟩ := fs_get 3 c3 (by kernel_rfl)
  obtain ⟨c, hc⟩ := Option.isSome_iff_exists.1 h3
  exact open_true callA_ok h1 h2 hc hs (begin_shut hs) (vs := [v0, v1]) (relL_cons (b0 σ) (relL_one (b1 σ))) run
theorem own : ownKnob Tryz.prog.godebug = none := by kernel_rfl
theorem lifted (os : Os) (started : os.Started) (H : Type) (enc : TypeId × Value → H) :
    ReturnsInHanded {} Tryz.checked os 3 .any (fun w args => (Rows.tocTextsSpec.pre enc Tryz.prog Tryz.f3 [] false w args ∧ laidMetH Tryz.prog Rows.tocTextsRow.laid w) ∧ sizedMet enc Tryz.prog Tryz.f3 (OpenSpec.ofChange Rows.tocTextsSpec) false w args)
      (Rows.tocTextsSpec.post enc Tryz.prog Tryz.f3 false true false false) := by
  refine returnsInHanded_of_change_and (C := Tryz.checked) (X := fun w _ => laidMetH Tryz.prog Rows.tocTextsRow.laid w) (fun _ _ _ hh h => h.of_heap hh) own started (by kernel_rfl) Tryz.func3
    (ChangeSpec.witness_shaped (enc := enc) (C := Tryz.checked) (os := os) (X := fun w _ => laidMetH Tryz.prog Rows.tocTextsRow.laid w) false (laidWorld os) #[.string ⟨#[]⟩, .string ⟨#[]⟩] 8 rfl
      (World.shaped_of_ZipB (by kernel_rfl) (by kernel_rfl)) (by kernel_rfl) (by kernel_rfl) (by kernel_rfl)
      (laid_met os _)) ?_
  intro W base args ds gs before hval0 hW _ _ hL _
  have hval : ∀ (j : Nat) t v, Tryz.f3.params[j]? = some t → args[j]? = some v → Value.okWide Tryz.prog W .any base t v := hval0
  have hW' := hW
  obtain ⟨p, q, hA0, hV, rfl, _, _⟩ := hW
  have hA : DataW.TrodAll enc Tryz.prog W 0 (fun _ => true) true Tryz.f3.params.toList args.toList ds p := hA0
  rw [Tryz.params3] at hA hval
  obtain ⟨v0, v1, d0, d1, p0, p1, rfl, rfl, rfl, t0, t1⟩ := trodAll_two hA
  obtain ⟨rfl, rfl⟩ := trodVars_none hV
  refine (law_calls hL (hval 0 9 v0 rfl rfl) (hval 1 9 v1 rfl rfl) t0 t1).mono fun e W' ⟨he, h1, h2, h3⟩ => ?_
  subst he
  refine ⟨_, rfl, law_post (tb := 4) (by kernel_rfl) (fun t ht => ?_) rfl (by kernel_rfl) Tryz.underlying4 hW' rfl rfl rfl h1 h2 h3⟩
  have hp : ∀ t ∈ Tryz.f3.params.toList, t = 9 := by rw [Tryz.params3]; simp
  obtain rfl := hp t ht
  exact ⟨by kernel_rfl, of_decide_eq_true (by kernel_rfl)⟩
end Go.Proofs.YtikedecpnlbmbaaGreatDoor
