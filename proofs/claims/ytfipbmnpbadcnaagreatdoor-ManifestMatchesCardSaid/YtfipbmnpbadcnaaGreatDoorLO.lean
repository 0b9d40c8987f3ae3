/- The law ManifestMatches returns true: proved, under its row's condition. -/
import Derived.Test.YtfipbmnpbadcnaaGreatDoorTO
import Derived.Test.YtfipbmnpbadcnaaGreatDoorP6
set_option maxRecDepth 1000000
set_option linter.unusedVariables false
set_option linter.unusedSimpArgs false
set_option maxRecDepth 1000000
set_option maxHeartbeats 0
namespace Go.Proofs.YtfipbmnpbadcnaaGreatDoor
open Go.ChangeShapes Go.WideShapes Go.ChangeAt Go.RowKit Go.AI
/-- the call -/
theorem law_calls {W : World} (hL : laidMetH Tryz.prog Rows.manifestMatchesRow.laid W) {H : Type} {enc : TypeId × Value → H} {base : Nat} {v0 v1 : Value} {d0 d1 : DataW H} {p0 p1 : List MemPlace}
    (k0 : Value.okWide Tryz.prog W .any base 34 v0) (k1 : Value.okWide Tryz.prog W .any base 34 v1) (t0 : DataW.Trod enc Tryz.prog W 0 (fun _ => true) true 34 v0 d0 p0) (t1 : DataW.Trod enc Tryz.prog W 0 (fun _ => true) true 34 v1 d1 p1) :
    Calls Tryz.prog 5 #[v0, v1] W fun e W' => e = .returned (.bool true) ∧ W'.os = W.os ∧ W'.output = W.output ∧ ∀ i, i < W.heap.size → W'.heap[i]? = W.heap[i]? := by
  obtain ⟨e, hg⟩ := start_of hL
  have hc5 : Tryz.prog.cellsOf 5 = 1 := by kernel_rfl
  obtain ⟨a0, w0, l0, b0⟩ := bytes_arg 20 Tryz.underlying34 Tryz.underlying5 hc5 k0 t0
  obtain ⟨a1, w1, l1, b1⟩ := bytes_arg 21 Tryz.underlying34 Tryz.underlying5 hc5 k1 t1
  have hng : Tryz.prog.globals.size = 14 := by kernel_rfl
  have nd : ((gws e ++ (w0 ++ w1)).map (·.1)).Nodup := keys_two (n := 14) (show ([3, 4, 5, 7, 9, 10, 11] : List Nat).Nodup by decide) (fun b x h => (hg b x h).1.1) (by decide) (by decide) b0.few b0.ids b1.few b1.ids
  have mem : ∀ b x, (b, x) ∈ gws e ++ (w0 ++ w1) → (b, x) ∈ gws e ∨ (b, x) ∈ w0 ∨ (b, x) ∈ w1 := fun b x h => by
    rcases List.mem_append.1 h with h | h
    · exact .inl h
    · exact .inr (List.mem_append.1 h)
  have lt : ∀ b x, (b, x) ∈ gws e ++ (w0 ++ w1) → b < 22 := fun b x h => by
    rcases mem b x h with h | h | h
    · have := (hg b x h).1.1; omega
    · have := b0.ids b x h; omega
    · have := b1.ids b x h; omega
  have hs : Sim Tryz.prog (openM Tryz.prog.globals.size (gws e ++ (w0 ++ w1))) (openH 22 (gws e ++ (w0 ++ w1))) W := by
    refine open_sim (by rw [hng]; decide) nd lt (fun b x h hb => ?_) (fun b x h => ?_)
    · rcases mem b x h with h | h | h
      · exact (hg b x h).1.2
      · have := b0.ids b x h; omega
      · have := b1.ids b x h; omega
    · rcases mem b x h with h | h | h
      · exact (hg b x h).2 _
      · exact b0.win _ b x h
      · exact b1.win _ b x h
  have hr : ∀ b x, (b, x) ∈ gws e ++ (w0 ++ w1) → (openH 22 (gws e ++ (w0 ++ w1))).t.get b = some (.row x.row) := fun b x h => putW_at _ b x h nd
  have in0 : ∀ b x, (b, x) ∈ w0 → (b, x) ∈ gws e ++ (w0 ++ w1) := fun b x h => List.mem_append.2 (.inr (List.mem_append.2 (.inl h)))
  have in1 : ∀ b x, (b, x) ∈ w1 → (b, x) ∈ gws e ++ (w0 ++ w1) := fun b x h => List.mem_append.2 (.inr (List.mem_append.2 (.inr h)))
  have ing : ∀ b x, (b, x) ∈ gws e → (b, x) ∈ gws e ++ (w0 ++ w1) := fun b x h => List.mem_append.2 (.inl h)
  have s0 : ArgS (openH 22 (gws e ++ (w0 ++ w1))) a0 l0 := ⟨b0.bv _ fun b x h => ⟨hr b x (in0 b x h), lt b x (in0 b x h)⟩, b0.sl _ fun b x h => ⟨hr b x (in0 b x h), lt b x (in0 b x h)⟩⟩
  have s1 : ArgS (openH 22 (gws e ++ (w0 ++ w1))) a1 l1 := ⟨b1.bv _ fun b x h => ⟨hr b x (in1 b x h), lt b x (in1 b x h)⟩, b1.sl _ fun b x h => ⟨hr b x (in1 b x h), lt b x (in1 b x h)⟩⟩
  obtain ⟨H', run⟩ := law_run (lib := libA) (fs := fs) (fuel := 100000) (n := 995) (fun _ _ => rfl) (by kernel_rfl) (fun _ _ => rfl) (by kernel_rfl) (fun _ _ => rfl) (by kernel_rfl) (fun _ _ => rfl) (by kernel_rfl) (fun _ _ => rfl) (by kernel_rfl) (fun _ _ => rfl) (by kernel_rfl) (fun _ _ => rfl) (by kernel_rfl) (F := 99995) rfl (sh := shaF kk bb) (fun l => digs_length _ _) s0 s1 (Nat.le_refl _)
    (fun v l h hl H' k => sum_hit (e := e) (show 9 < 22 by decide) (Nat.le_refl _) (fun b x h => hr b x (ing b x h)) (fun b x h => lt b x (ing b x h)) h hl k)
    (fun H' k => tells_hit (e := e) (fun b x h => hr b x (ing b x h)) (fun b x h => lt b x (ing b x h)) k)
  obtain ⟨fn, h1, h2, h3, _⟩ := fs_get 5 c5 (by kernel_rfl)
  obtain ⟨c, hc⟩ := Option.isSome_iff_exists.1 h3
  exact open_true callA_ok h1 h2 hc hs (fun b => open_shut b) (vs := [v0, v1]) (relL_cons (b0.rel _ fun b x h => openM_at (in0 b x h) nd) (relL_one (b1.rel _ fun b x h => openM_at (in1 b x h) nd))) run
theorem own : ownKnob Tryz.prog.godebug = none := by kernel_rfl
theorem lifted (os : Os) (started : os.Started) (H : Type) (enc : TypeId × Value → H) :
    ReturnsInHanded {} Tryz.checked os 5 .any (fun w args => (Rows.manifestMatchesSpec.pre enc Tryz.prog Tryz.f5 [] false w args ∧ laidMetH Tryz.prog Rows.manifestMatchesRow.laid w) ∧ sizedMet enc Tryz.prog Tryz.f5 (OpenSpec.ofChange Rows.manifestMatchesSpec) false w args)
      (Rows.manifestMatchesSpec.post enc Tryz.prog Tryz.f5 false true false false) := by
  refine returnsInHanded_of_change_and (C := Tryz.checked) (X := fun w _ => laidMetH Tryz.prog Rows.manifestMatchesRow.laid w) (fun _ _ _ hh h => h.of_heap hh) own started (by kernel_rfl) Tryz.func5
    (ChangeSpec.witness_shaped (enc := enc) (C := Tryz.checked) (os := os) (X := fun w _ => laidMetH Tryz.prog Rows.manifestMatchesRow.laid w) false (World.laidAll Tryz.prog os Rows.manifestMatchesRow.laid) #[.slice none 0 0, .slice none 0 0] 8 (World.laidAll_os _ _ _)
      (World.shaped_of_ZipB (by kernel_rfl) (by kernel_rfl)) (by kernel_rfl) (by kernel_rfl) (by kernel_rfl)
      (by rw [MakeChecks.laidMetH_plain _ _ _ (by kernel_rfl)]; exact laidMet_laidAll _ (by kernel_rfl) (by kernel_rfl))) ?_
  intro W base args ds gs before hval0 hW _ _ hL _
  have hval : ∀ (j : Nat) t v, Tryz.f5.params[j]? = some t → args[j]? = some v → Value.okWide Tryz.prog W .any base t v := hval0
  have hW' := hW
  obtain ⟨p, q, hA0, hV, rfl, _, _⟩ := hW
  have hA : DataW.TrodAll enc Tryz.prog W 0 (fun _ => true) true Tryz.f5.params.toList args.toList ds p := hA0
  rw [Tryz.params5] at hA hval
  obtain ⟨v0, v1, d0, d1, p0, p1, rfl, rfl, rfl, t0, t1⟩ := trodAll_two hA
  obtain ⟨rfl, rfl⟩ := trodVars_none hV
  refine (law_calls hL (hval 0 34 v0 rfl rfl) (hval 1 34 v1 rfl rfl) t0 t1).mono fun e W' ⟨he, h1, h2, h3⟩ => ?_
  subst he
  refine ⟨_, rfl, law_post (tb := 4) (by kernel_rfl) (fun t ht => ?_) rfl (by kernel_rfl) Tryz.underlying4 hW' rfl rfl rfl h1 h2 h3⟩
  have hp : ∀ t ∈ Tryz.f5.params.toList, t = 34 := by rw [Tryz.params5]; simp
  obtain rfl := hp t ht
  exact ⟨by kernel_rfl, of_decide_eq_true (by kernel_rfl)⟩
end Go.Proofs.YtfipbmnpbadcnaaGreatDoor
