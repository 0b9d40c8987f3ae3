/- The law SeekFoot returns true: proved, under its row's condition. -/
import Derived.Test.YtlnelphabohehaaGreatDoorTS
import Derived.Test.YtlnelphabohehaaGreatDoorAiJoin
set_option maxRecDepth 1000000
set_option maxHeartbeats 0
set_option linter.unusedVariables false
set_option linter.unusedSimpArgs false
namespace Go.Proofs.YtlnelphabohehaaGreatDoor
open Go.ChangeShapes Go.WideShapes Go.ChangeAt Go.RowKit Go.AI
/-- the call -/
theorem law_calls {W : World} (hL : laidMetH Tryz.prog Rows.seekFootRow.laid W) {base : Nat} {v0 v1 v2 : Value}
    (k0 : Value.okWide Tryz.prog W .any base 52 v0) (k1 : Value.okWide Tryz.prog W .any base 5 v1) (k2 : Value.okWide Tryz.prog W .any base 5 v2) :
    Calls Tryz.prog 4 #[v0, v1, v2] W fun e W' => e = .returned (.bool true) ∧ W'.os = W.os ∧ W'.output = W.output ∧ ∀ i, i < W.heap.size → W'.heap[i]? = W.heap[i]? := by
  obtain ⟨σ, e, hs⟩ := start_of hL
  obtain ⟨z0, rfl, b0⟩ := int_arg Tryz.underlying52 k0
  obtain ⟨z1, rfl, b1⟩ := int_arg Tryz.underlying5 k1
  obtain ⟨z2, rfl, b2⟩ := int_arg Tryz.underlying5 k2
  obtain ⟨m0, rfl⟩ : ∃ m : Nat, z0 = m := ⟨z0.toNat, (Int.toNat_of_nonneg b0.1).symm⟩
  obtain ⟨m1, rfl⟩ : ∃ m : Nat, z1 = m := ⟨z1.toNat, (Int.toNat_of_nonneg b1.1).symm⟩
  obtain ⟨m2, rfl⟩ : ∃ m : Nat, z2 = m := ⟨z2.toNat, (Int.toNat_of_nonneg b2.1).symm⟩
  have c0 : (m0 : Int) ≤ 65535 := b0.2
  have c1 : (m1 : Int) ≤ 255 := b1.2
  have c2 : (m2 : Int) ≤ 255 := b2.2
  obtain ⟨H', run⟩ := law_true e (x := m0) (a := m1) (y := m2) (by omega) (by omega) (by omega)
  obtain ⟨fn, h1, h2, h3, _⟩ := fs_get 4 c4 (by kernel_rfl)
  obtain ⟨c, hc⟩ := Option.isSome_iff_exists.1 h3
  exact open_true known7 h1 h2 hc hs (shut_of hs (Nat.le_refl _)) (vs := [.int .u16 m0, .int .u8 m1, .int .u8 m2]) (relL_cons (by simp only [Rel, nI]; rfl) (relL_cons (by simp only [Rel, nI]; rfl) (relL_one (by simp only [Rel, nI]; rfl)))) run
theorem own : ownKnob Tryz.prog.godebug = none := by kernel_rfl
theorem lifted (os : Os) (started : os.Started) (H : Type) (enc : TypeId × Value → H) :
    ReturnsInHanded {} Tryz.checked os 4 .any (fun w args => (Rows.seekFootSpec.pre enc Tryz.prog Tryz.f4 [] false w args ∧ laidMetH Tryz.prog Rows.seekFootRow.laid w) ∧ sizedMet enc Tryz.prog Tryz.f4 (OpenSpec.ofChange Rows.seekFootSpec) false w args)
      (Rows.seekFootSpec.post enc Tryz.prog Tryz.f4 false true false false) := by
  refine returnsInHanded_of_change_and (C := Tryz.checked) (X := fun w _ => laidMetH Tryz.prog Rows.seekFootRow.laid w) (fun _ _ _ hh h => h.of_heap hh) own started (by kernel_rfl) Tryz.func4
    (ChangeSpec.witness_shaped (enc := enc) (C := Tryz.checked) (os := os) (X := fun w _ => laidMetH Tryz.prog Rows.seekFootRow.laid w) false (World.laidAll Tryz.prog os Rows.seekFootRow.laid) #[.int .u16 0, .int .u8 0, .int .u8 0] 8 (World.laidAll_os _ _ _)
      (World.shaped_of_ZipB (by kernel_rfl) (by kernel_rfl)) (by kernel_rfl) (by kernel_rfl) (by kernel_rfl)
      (by rw [MakeChecks.laidMetH_plain _ _ _ (by kernel_rfl)]; exact laidMet_laidAll _ (by kernel_rfl) (by kernel_rfl))) ?_
  intro W base args ds gs before hval0 hW _ _ hL _
  have hval : ∀ (j : Nat) t v, Tryz.f4.params[j]? = some t → args[j]? = some v → Value.okWide Tryz.prog W .any base t v := hval0
  have hW' := hW
  obtain ⟨p, q, hA0, hV, rfl, _, _⟩ := hW
  have hA : DataW.TrodAll enc Tryz.prog W 0 (fun _ => true) true Tryz.f4.params.toList args.toList ds p := hA0
  rw [Tryz.params4] at hA hval
  obtain ⟨v0, v1, v2, d0, d1, d2, p0, p1, p2, rfl, rfl, rfl, t0, t1, t2⟩ := Go.AI.trodAll_three hA
  obtain ⟨rfl, rfl⟩ := trodVars_none hV
  refine (law_calls hL (hval 0 52 v0 rfl rfl) (hval 1 5 v1 rfl rfl) (hval 2 5 v2 rfl rfl)).mono fun e W' ⟨he, h1, h2, h3⟩ => ?_
  subst he
  refine ⟨_, rfl, law_post (tb := 4) (by kernel_rfl) (fun t ht => ?_) rfl (by kernel_rfl) Tryz.underlying4 hW' rfl rfl rfl h1 h2 h3⟩
  have hp : ∀ t ∈ Tryz.f4.params.toList, t = 52 ∨ t = 5 := by rw [Tryz.params4]; simp
  rcases hp t ht with rfl | rfl
  · exact ⟨by kernel_rfl, of_decide_eq_true (by kernel_rfl)⟩
  · exact ⟨by kernel_rfl, of_decide_eq_true (by kernel_rfl)⟩
end Go.Proofs.YtlnelphabohehaaGreatDoor
