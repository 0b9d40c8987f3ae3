/- What is looked up in TocTexts: a text escaped, a text unescaped, a text without odd bytes, and the closed call of the chapter's rows: proved; no conditions. -/
import Derived.Test.YtikedecpnlbmbaaGreatDoorST
import Derived.Test.YtikedecpnlbmbaaGreatDoorP9
set_option maxRecDepth 1000000
set_option linter.unusedVariables false
set_option linter.unusedSimpArgs false
set_option maxRecDepth 1000000
set_option maxHeartbeats 0
namespace Go.AI
open Go Go.Proofs Go.Proofs.YtikedecpnlbmbaaGreatDoor
noncomputable section
def libW (f : Nat) (args : List AV) (H : Heap) : Option CR := cond (Nat.beq f 9) (some (callN (libT gs0 lib0 tab8) fs 100000 1000 9 args H)) (lib0 f args H)
theorem libW_ok : LibOk Tryz.prog libW := by
  intro f args H r h σ w vs hs hv
  unfold libW at h
  cases e : Nat.beq f 9 with
  | false => rw [e] at h; exact lib0_ok f args H r h σ w vs hs hv
  | true =>
    rw [e] at h
    have := Nat.eq_of_beq_eq_true e
    subst this
    cases h
    exact known_ok _ args H σ w vs hs hv
theorem noEscape_hit (x : AV) (H : Heap) : lib0 49 [x] H = some (.ret x H) := rfl
theorem indexByte_hit (s : List UInt8) (x : UInt8) (H : Heap) : lib0 50 [.str s, u8V x] H = some (.ret (.int .i64 (idxByte x.toNat s 0)) H) := by
  have h : Nat.ble x.toNat 255 = true := Nat.ble_eq_true_of_le (by have := x.toNat_lt; omega)
  show cond (Nat.ble x.toNat 255) (some (CR.ret (.int .i64 (idxByte x.toNat s 0)) H)) none = _
  rw [h]; rfl
def lowS (s : List UInt8) : Bool := s.all fun x => decide (32 ≤ x.toNat) && decide (x.toNat ≤ 126)
def libE (f : Nat) (args : List AV) (H : Heap) : Option CR := cond (Nat.beq f 5) (match args with | [.str s] => cond (Nat.ble s.length 90000) (some (.ret (.str (esc s)) H)) none | _ => none) (libW f args H)
def libU (f : Nat) (args : List AV) (H : Heap) : Option CR := cond (Nat.beq f 6) (match args with | [.str s] => cond (Nat.ble s.length 90000) (some (.ret (uneV (unesc s)) H)) none | _ => none) (libE f args H)
def libA (f : Nat) (args : List AV) (H : Heap) : Option CR := cond (Nat.beq f 7) (match args with | [.str s, .func g [] []] => cond (Nat.beq g 8) (cond (Nat.ble s.length 90000) (cond (lowS s) (some (.ret (.bool false) H)) none) none) none | _ => none) (libU f args H)
theorem uneV_low (r : Option (List UInt8)) : lowV 0 (uneV r) = true := by cases r <;> rfl
theorem libE_ok : LibOk Tryz.prog libE := by
  intro f args H r h σ w vs hs hv
  unfold libE at h
  cases e : Nat.beq f 5 with
  | false => rw [e] at h; exact libW_ok f args H r h σ w vs hs hv
  | true =>
    rw [e] at h
    have := Nat.eq_of_beq_eq_true e
    subst this
    rw [cond_true] at h
    split at h
    · rename_i s
      cases hl : Nat.ble s.length 90000 with
      | false => rw [hl] at h; cases h
      | true =>
        rw [hl] at h; cases h
        have hl := Nat.le_of_ble_eq_true hl
        obtain ⟨H', e2, k⟩ := esc_run (lib := lib0) (fs := fs) (fuel := 100000) (n := 996) (fun _ _ => rfl) (by kernel_rfl) (fun _ _ => rfl) (by kernel_rfl) (fun _ _ => rfl) (by kernel_rfl) (fun _ _ => rfl) (by kernel_rfl) (fun _ _ => rfl) (by kernel_rfl)  noEscape_hit (s := s) (by omega) (by omega) hs.ro
        exact keep_ok call0_ok e2 k rfl hs hv
    · cases h
theorem libU_ok : LibOk Tryz.prog libU := by
  intro f args H r h σ w vs hs hv
  unfold libU at h
  cases e : Nat.beq f 6 with
  | false => rw [e] at h; exact libE_ok f args H r h σ w vs hs hv
  | true =>
    rw [e] at h
    have := Nat.eq_of_beq_eq_true e
    subst this
    rw [cond_true] at h
    split at h
    · rename_i s
      cases hl : Nat.ble s.length 90000 with
      | false => rw [hl] at h; cases h
      | true =>
        rw [hl] at h; cases h
        have hl := Nat.le_of_ble_eq_true hl
        obtain ⟨H', e2, k⟩ := une_run (lib := lib0) (fs := fs) (fuel := 100000) (n := 996) (fun _ _ => rfl) (by kernel_rfl) (fun _ _ => rfl) (by kernel_rfl) (fun _ _ => rfl) (by kernel_rfl) (fun _ _ => rfl) (by kernel_rfl) (fun _ _ => rfl) (by kernel_rfl) (fun _ _ => rfl) (by kernel_rfl) (fun _ _ => rfl) (by kernel_rfl)  noEscape_hit indexByte_hit (s := s) (by omega) (by omega) hs.ro
        exact keep_ok call0_ok e2 k (uneV_low _) hs hv
    · cases h
theorem libA_ok : LibOk Tryz.prog libA := by
  intro f args H r h σ w vs hs hv
  unfold libA at h
  cases e : Nat.beq f 7 with
  | false => rw [e] at h; exact libU_ok f args H r h σ w vs hs hv
  | true =>
    rw [e] at h
    have := Nat.eq_of_beq_eq_true e
    subst this
    rw [cond_true] at h
    split at h
    · rename_i s g
      cases hg : Nat.beq g 8 with
      | false => rw [hg] at h; cases h
      | true =>
      cases hl : Nat.ble s.length 90000 with
      | false => rw [hg, hl] at h; cases h
      | true =>
      cases hp : lowS s with
      | false => rw [hg, hl, hp] at h; cases h
      | true =>
        rw [hg, hl, hp] at h; cases h
        have := Nat.eq_of_beq_eq_true hg
        subst this
        have hl := Nat.le_of_ble_eq_true hl
        have hp : ∀ x ∈ s, 32 ≤ x.toNat ∧ x.toNat ≤ 126 := fun x hx => by
          have := List.all_eq_true.1 hp x hx
          simpa using this
        obtain ⟨H', e2, k⟩ := con_run (lib := lib0) (fs := fs) (fuel := 100000) (n := 996) (fun _ _ => rfl) (by kernel_rfl) (fun _ _ => rfl) (by kernel_rfl) (fun _ _ => rfl) (by kernel_rfl) (fun _ _ => rfl) (by kernel_rfl)  (s := s) hp (by omega) hs.ro
        exact keep_ok call0_ok e2 k rfl hs hv
    · cases h
theorem callA_ok : CallOk Tryz.prog (callN libA fs 100000 1000) := calls_ok mixed libA_ok fs_get 100000 1000
theorem law_true (e : Nat → Nat) (s u : List UInt8) : ∃ H', callN libA fs 100000 1000 3 [.str s, .str u] (H0 e) = .ret (.bool true) H' := by
  refine law_run (lib := libA) (fs := fs) (fuel := 100000) (n := 998) (fun _ _ => rfl) (by kernel_rfl) (fun s hl => ?_) (fun s hl => ?_) (fun s hl hp => ?_) ?_
  · show cond (Nat.ble s.length 90000) (some (CR.ret (.str (esc s)) (H0 e))) none = _
    rw [Nat.ble_eq_true_of_le hl]; rfl
  · show cond (Nat.ble s.length 90000) (some (CR.ret (uneV (unesc s)) (H0 e))) none = _
    rw [Nat.ble_eq_true_of_le hl]; rfl
  · have h : lowS s = true := List.all_eq_true.2 fun x hx => by have := hp x hx; simp [this]
    show cond (Nat.ble s.length 90000) (cond (lowS s) (some (CR.ret (.bool false) (H0 e))) none) none = _
    rw [Nat.ble_eq_true_of_le hl, h]; rfl
  · obtain ⟨H', h⟩ := isTrue_ret (known e)
    refine ⟨H', ?_⟩
    show some (callN (libT gs0 lib0 tab8) fs 100000 1000 9 [] (H0 e)) = _
    rw [h]
end
end Go.AI
