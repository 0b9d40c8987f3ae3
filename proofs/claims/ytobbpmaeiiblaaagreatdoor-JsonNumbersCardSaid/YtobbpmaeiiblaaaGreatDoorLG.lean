/- The law JsonNumbers returns true: proved, under its row's condition. -/
import Derived.Test.YtobbpmaeiiblaaaGreatDoorTG
import Derived.Test.YtobbpmaeiiblaaaGreatDoorP6
import Derived.Handed
import Derived.Shelf.Vars
set_option maxRecDepth 1000000
set_option maxHeartbeats 0
set_option linter.unusedVariables false
set_option linter.unusedSimpArgs false
namespace Go.Proofs.YtobbpmaeiiblaaaGreatDoor
open Go.ChangeShapes Go.WideShapes Go.ChangeAt Go.RowKit Go.AI
/-- the call -/
theorem law_calls {W : World} (hL : laidMetH Tryz.prog Rows.jsonNumbersRow.laid W) (hsh : W.ShapedOpen Tryz.prog) {base : Nat} {v0 : Value} (k0 : Value.okWide Tryz.prog W .any base 2 v0) :
    Calls Tryz.prog 8 #[v0] W fun e W' => e = .returned (.bool true) ∧ W'.os = W.os ∧ W'.output = W.output ∧ ∀ i, i < W.heap.size → W'.heap[i]? = W.heap[i]? := by
  obtain ⟨σ, e, hσ, hs⟩ := start_of hL
  obtain ⟨z, rfl, hz⟩ := int_arg Tryz.underlying2 k0
  obtain ⟨m, hm⟩ := cell_of_shapedOpen_int (P := Tryz.prog) (g := 2) (t := 3) (zero := #[.int .i64 0]) hsh (of_decide_eq_true (by kernel_rfl)) (by kernel_rfl) rfl (by kernel_rfl) (by kernel_rfl) Tryz.underlying3
  obtain ⟨cs, el, fr, hw, hc⟩ : ∃ cs el fr, W.heap[2]? = some (.cells cs el fr) ∧ cs[0]? = some (.int .i64 m) := by
    unfold World.cell? at hm
    split at hm
    · rename_i c el fr hh; exact ⟨c, el, fr, hh, hm⟩
    · cases hm
  have hfree : (H0 e).t.get 2 = none := by kernel_rfl
  have hs' := hs.addG (g := 2) (x := .int .i64 m) (show 2 < 100 by decide) hσ (fun b o h => (parts0 e b o h).2.2) hw hc (by simp only [Rel]) rfl
  have hnx : (H0 e).nx = 100 := rfl
  have hb : Bears 100 (H0 e).t ⟨(H0 e).nx, (H0 e).t.set 2 (varRow el (.int .i64 m)), (H0 e).nx⟩ := ⟨Nat.le_refl _, fun b o h => by
    show ((H0 e).t.set 2 _).get b = _
    rw [T.get_set, if_neg (fun hb => by rw [← hb, hfree] at h; cases h)]; exact h⟩
  obtain ⟨H', run⟩ := law_true (e := e) hb (Nat.le_refl _) ⟨_, m, by show ((H0 e).t.set 2 _).get 2 = _; rw [T.get_set, if_pos rfl]; rfl, Nat.le_refl _, varRow_get ..⟩ (z := z) hz.1 (Int.lt_of_le_of_lt hz.2 (by decide))
  obtain ⟨fn, h1, h2, h3, _⟩ := fs_get 8 c8 (by kernel_rfl)
  obtain ⟨c, hc⟩ := Option.isSome_iff_exists.1 h3
  exact open_true known7 h1 h2 hc hs' (shut_of hs' (Nat.le_refl _)) (vs := [.int .i64 z]) (relL_one (by simp only [Rel])) run
theorem own : ownKnob Tryz.prog.godebug = none := by kernel_rfl
theorem lifted (os : Os) (started : os.Started) (H : Type) (enc : TypeId × Value → H) :
    ReturnsInHanded {} Tryz.checked os 8 .any (fun w args => (Rows.jsonNumbersSpec.pre enc Tryz.prog Tryz.f8 [] false w args ∧ laidMetH Tryz.prog Rows.jsonNumbersRow.laid w) ∧ sizedMet enc Tryz.prog Tryz.f8 (OpenSpec.ofChange Rows.jsonNumbersSpec) false w args)
      (Rows.jsonNumbersSpec.post enc Tryz.prog Tryz.f8 false true false false) := by
  refine returnsInHanded_of_calls own started (by kernel_rfl)
    (ChangeSpec.witness_shaped (enc := enc) (C := Tryz.checked) (os := os) (X := fun w _ => laidMetH Tryz.prog Rows.jsonNumbersRow.laid w) false (World.laidAll Tryz.prog os Rows.jsonNumbersRow.laid) #[.int .i64 0] 8 (World.laidAll_os _ _ _)
      (World.shaped_of_ZipB (by kernel_rfl) (by kernel_rfl)) (by kernel_rfl) (by kernel_rfl) (by kernel_rfl)
      (by rw [MakeChecks.laidMetH_plain _ _ _ (by kernel_rfl)]; exact laidMet_laidAll _ (by kernel_rfl) (by kernel_rfl))) ?_
  intro w tape i _ hsh _ hok hpre _
  obtain ⟨_, _, _, fn, hfn, _, _, _, _, hv⟩ := hok
  obtain rfl : fn = Tryz.f8 := Option.some.inj (hfn.symm.trans Tryz.func8)
  obtain ⟨⟨⟨ds, gs, before, hW0, _⟩, hL⟩, _⟩ := hpre
  have hW := DataW.Whole.of_heap (w' := w.forCall tape i) (by rfl) hW0
  have hL' : laidMetH Tryz.prog Rows.jsonNumbersRow.laid (w.forCall tape i) := hL.of_heap (by rfl)
  have hval : ∀ (j : Nat) t v, Tryz.f8.params[j]? = some t → i.args[j]? = some v → Value.okWide Tryz.prog (w.forCall tape i) .any w.heap.size t v := hv
  clear hv hL hW0
  generalize w.forCall tape i = W at hW hL' hval hsh ⊢
  generalize i.args = args at hW hval ⊢
  have hW' := hW
  obtain ⟨p, q, hA0, hV, rfl, _, _⟩ := hW
  have hA : DataW.TrodAll enc Tryz.prog W 0 (fun _ => true) true Tryz.f8.params.toList args.toList ds p := hA0
  rw [Tryz.params8] at hA hval
  obtain ⟨v0, vs, d0, ds', p0, q0, ha, rfl, rfl, t0, hA⟩ := Go.ChangeShapes.trodAll_cons hA
  obtain ⟨rfl, rfl, rfl⟩ := Go.ChangeShapes.trodAll_nil hA
  obtain rfl : args = #[v0] := by cases args; simp_all
  obtain ⟨rfl, rfl⟩ := trodVars_none hV
  refine (law_calls hL' hsh (hval 0 2 v0 rfl rfl)).mono fun e W' ⟨he, h1, h2, h3⟩ => ?_
  subst he
  refine ChangeSpec.post_blind (law_post (tb := 4) (by kernel_rfl) (fun t ht => ?_) rfl (by kernel_rfl) Tryz.underlying4 hW' rfl rfl rfl h1 h2 h3)
  have hp : ∀ t ∈ Tryz.f8.params.toList, t = 2 := by rw [Tryz.params8]; simp
  obtain rfl := hp t ht
  exact ⟨by kernel_rfl, of_decide_eq_true (by kernel_rfl)⟩
end Go.Proofs.YtobbpmaeiiblaaaGreatDoor
