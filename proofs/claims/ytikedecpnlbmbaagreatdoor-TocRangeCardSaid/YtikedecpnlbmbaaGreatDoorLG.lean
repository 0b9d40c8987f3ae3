/- The law TocRange returns true: proved, under its row's condition. -/
import Derived.Test.YtikedecpnlbmbaaGreatDoorTG
import Derived.Test.YtikedecpnlbmbaaGreatDoorP6
set_option maxRecDepth 1000000
set_option linter.unusedVariables false
set_option linter.unusedSimpArgs false
set_option maxRecDepth 1000000
set_option maxHeartbeats 0
namespace Go.Proofs.YtikedecpnlbmbaaGreatDoor
open Go.ChangeShapes Go.WideShapes Go.ChangeAt Go.RowKit Go.AI
/-- a world in which the listed maps stand -/
noncomputable def mapWorld (os : Os) : World := let w := World.holding Tryz.prog os ⟨#[], #[], []⟩; let n := w.heap.size
  { w with heap := ⟨Lay.setRows w.heap.toList [(2, [.map (some (n + 0))]), (3, [.map (some (n + 1))])] ++ [.map #[⟨.int .i64 1, .func (.func 242) #[] #[], 0⟩, ⟨.int .i64 2, .func (.func 243) #[] #[], 1⟩, ⟨.int .i64 3, .func (.func 244) #[] #[], 2⟩] 3, .map #[⟨.int .i64 1, .int .u8 53, 0⟩, ⟨.int .i64 2, .int .u8 48, 1⟩, ⟨.int .i64 3, .int .u8 50, 2⟩, ⟨.int .i64 4, .int .u8 54, 3⟩] 4]⟩ }
noncomputable abbrev great : List String := ["math/bits.deBruijn32tab", "math/bits.deBruijn64tab", "internal/strconv.uint64pow10", "unicode/utf8.acceptRanges", "strconv.ErrRange", "strconv.ErrSyntax", "portolan/sha.constants", "portolan/sha.beginning", "portolan/toc.kinds", "unicode/utf8.first"]
noncomputable def laidWorld (os : Os) : World := (mapWorld os).layVars Tryz.prog (Rows.tocRangeRow.laid.filter fun x => great.contains x.1)
theorem laid_met (os : Os) (args : Array Value) : laidMetH Tryz.prog Rows.tocRangeRow.laid ((laidWorld os).forCall (fun _ _ => 0) ⟨#[], args, []⟩).memory := by
  have hw : ((laidWorld os).forCall (fun _ _ => 0) ⟨#[], args, []⟩).memory.heap = (laidWorld os).heap := by simp [World.memory, World.forCall, Input.heap]
  refine laidMetH_of_parts3 (fuel := 12) ?_ (by kernel_rfl) (by kernel_rfl)
  refine (laidMet_layVars (P := Tryz.prog) (laid := (Rows.tocRangeRow.laid.filter fun x => x.2.handleName?.isNone)) (w0 := mapWorld os) (w' := laidWorld os) great [3, ((mapWorld os).heap.size - 1)] ?_ (by kernel_rfl) (by kernel_rfl) (LaidIn.of_run [3, ((mapWorld os).heap.size - 1)] 12 (by kernel_rfl) (by kernel_rfl) (by kernel_rfl) (by kernel_rfl))).of_heap hw.symm
  kernel_rfl
/-- the call -/
theorem law_calls {W : World} (hL : laidMetH Tryz.prog Rows.tocRangeRow.laid W) {H : Type} {enc : TypeId × Value → H} {base : Nat} {v0 v1 v2 : Value} {d0 : DataW H} {p0 : List MemPlace}
    (k0 : Value.okWide Tryz.prog W .any base 29 v0) (k1 : Value.okWide Tryz.prog W .any base 5 v1) (k2 : Value.okWide Tryz.prog W .any base 31 v2) (t0 : DataW.Trod enc Tryz.prog W 0 (fun _ => true) true 29 v0 d0 p0) :
    Calls Tryz.prog 4 #[v0, v1, v2] W fun e W' => e = .returned (.bool true) ∧ W'.os = W.os ∧ W'.output = W.output ∧ ∀ i, i < W.heap.size → W'.heap[i]? = W.heap[i]? := by
  obtain ⟨σ, e, hs⟩ := start_of hL
  have hc5 : Tryz.prog.cellsOf 5 = 1 := by kernel_rfl
  obtain ⟨a0, w0, l0, b0⟩ := bytes_arg 100 Tryz.underlying29 Tryz.underlying5 hc5 k0 t0
  obtain ⟨s, rfl, hs1⟩ := int_arg Tryz.underlying5 k1
  obtain ⟨z1, z2, rfl, hz1, hz2⟩ := pair_arg Tryz.underlying31 Tryz.underlying30 (by kernel_rfl) (by kernel_rfl) k2
  obtain ⟨m, rfl⟩ : ∃ m : Nat, s = m := ⟨s.toNat, (Int.toNat_of_nonneg hs1.1).symm⟩
  have nd : (w0.map (·.1)).Nodup := by
    have hw := b0.few
    match w0, hw with
    | [], _ => exact List.nodup_nil
    | [x], _ => exact List.nodup_cons.2 ⟨by simp, List.nodup_nil⟩
    | _ :: _ :: _, h => simp at h
  have lt : ∀ b x, (b, x) ∈ w0 → 100 ≤ b ∧ b < 101 := fun b x h => by have := b0.ids b x h; omega
  have hs' : Sim Tryz.prog (addM σ w0) ⟨101, addT (H0 e).t w0, 101⟩ W := hs.add (show (100 : Nat) ≤ 101 from Nat.le_succ 100) nd lt (fun b o h => (parts0 e b o h).2.2) (fun b x h => b0.win _ b x h)
  have hr : ∀ b x, (b, x) ∈ w0 → (addT (H0 e).t w0).get b = some (.row x.row) ∧ b < 101 := fun b x h => ⟨addT_at _ _ b x h nd, (lt b x h).2⟩
  have s0 : ArgS ⟨101, addT (H0 e).t w0, 101⟩ a0 l0 := ⟨b0.bv _ hr, b0.sl _ hr⟩
  have hb : Bears 100 (H0 e).t ⟨101, addT (H0 e).t w0, 101⟩ := ⟨Nat.le_succ 100, fun b o h => by
    show (addT (H0 e).t w0).get b = _
    rw [addT_old _ _ b fun x hx => by have := lt b x hx; have := (parts0 e b o h).1; omega]; exact h⟩
  obtain ⟨H', run⟩ := law_true (e := e) hb (Nat.le_refl _) s0 (s := m) (z1 := z1) (z2 := z2) hz1.1 (Int.lt_of_le_of_lt hz1.2 (by decide)) hz2.1 (Int.lt_of_le_of_lt hz2.2 (by decide))
  obtain ⟨fn, h1, h2, h3, _⟩ := fs_get 4 c4 (by kernel_rfl)
  obtain ⟨c, hc⟩ := Option.isSome_iff_exists.1 h3
  exact open_true callA_ok h1 h2 hc hs' (shut_of hs' (Nat.le_refl _)) (vs := [v0, .int .u8 m, .agg #[.int .i16 z1, .int .i16 z2]]) (relL_cons (b0.rel _ fun b x h => by unfold addM; rw [findW_at h nd]) (relL_cons (by simp only [Rel, nI]; rfl) (relL_one (rel_pair _ .i16 z1 z2)))) run
theorem own : ownKnob Tryz.prog.godebug = none := by kernel_rfl
theorem lifted (os : Os) (started : os.Started) (H : Type) (enc : TypeId × Value → H) :
    ReturnsInHanded {} Tryz.checked os 4 .any (fun w args => (Rows.tocRangeSpec.pre enc Tryz.prog Tryz.f4 [] false w args ∧ laidMetH Tryz.prog Rows.tocRangeRow.laid w) ∧ sizedMet enc Tryz.prog Tryz.f4 (OpenSpec.ofChange Rows.tocRangeSpec) false w args)
      (Rows.tocRangeSpec.post enc Tryz.prog Tryz.f4 false true false false) := by
  refine returnsInHanded_of_change_and (C := Tryz.checked) (X := fun w _ => laidMetH Tryz.prog Rows.tocRangeRow.laid w) (fun _ _ _ hh h => h.of_heap hh) own started (by kernel_rfl) Tryz.func4
    (ChangeSpec.witness_shaped (enc := enc) (C := Tryz.checked) (os := os) (X := fun w _ => laidMetH Tryz.prog Rows.tocRangeRow.laid w) false (laidWorld os) #[.slice none 0 0, .int .u8 0, .agg #[.int .i16 0, .int .i16 0]] 8 rfl
      (World.shaped_of_ZipB (by kernel_rfl) (by kernel_rfl)) (by kernel_rfl) (by kernel_rfl) (by kernel_rfl)
      (laid_met os _)) ?_
  intro W base args ds gs before hval0 hW _ _ hL _
  have hval : ∀ (j : Nat) t v, Tryz.f4.params[j]? = some t → args[j]? = some v → Value.okWide Tryz.prog W .any base t v := hval0
  have hW' := hW
  obtain ⟨p, q, hA0, hV, rfl, _, _⟩ := hW
  have hA : DataW.TrodAll enc Tryz.prog W 0 (fun _ => true) true Tryz.f4.params.toList args.toList ds p := hA0
  rw [Tryz.params4] at hA hval
  obtain ⟨v0, v1, v2, d0, d1, d2, p0, p1, p2, rfl, rfl, rfl, t0, t1, t2⟩ := Go.AI.trodAll_three hA
  obtain ⟨rfl, rfl⟩ := trodVars_none hV
  refine (law_calls hL (hval 0 29 v0 rfl rfl) (hval 1 5 v1 rfl rfl) (hval 2 31 v2 rfl rfl) t0).mono fun e W' ⟨he, h1, h2, h3⟩ => ?_
  subst he
  refine ⟨_, rfl, law_post (tb := 4) (by kernel_rfl) (fun t ht => ?_) rfl (by kernel_rfl) Tryz.underlying4 hW' rfl rfl rfl h1 h2 h3⟩
  have hp : ∀ t ∈ Tryz.f4.params.toList, t = 29 ∨ t = 5 ∨ t = 31 := by rw [Tryz.params4]; simp
  rcases hp t ht with rfl | rfl | rfl
  · exact ⟨by kernel_rfl, of_decide_eq_true (by kernel_rfl)⟩
  · exact ⟨by kernel_rfl, of_decide_eq_true (by kernel_rfl)⟩
  · exact ⟨by kernel_rfl, of_decide_eq_true (by kernel_rfl)⟩
end Go.Proofs.YtikedecpnlbmbaaGreatDoor
