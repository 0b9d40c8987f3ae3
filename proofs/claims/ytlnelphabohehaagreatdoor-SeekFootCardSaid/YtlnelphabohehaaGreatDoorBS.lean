/- The functions without a body, and what is told of the variables at the beginning; no conditions. -/
import Derived.Test.YtlnelphabohehaaGreatDoorES
import Derived.Test.YtlnelphabohehaaGreatDoorP6
import Derived.Test.YtlnelphabohehaaGreatDoorRows
set_option maxRecDepth 1000000
set_option maxHeartbeats 0
set_option linter.unusedVariables false
set_option linter.unusedSimpArgs false
namespace Go.AI
open Go Go.Proofs Go.Proofs.YtlnelphabohehaaGreatDoor
noncomputable section
def lib0 (f : Nat) (args : List AV) (H : Heap) : Option CR :=
  (cond (Nat.beq f 172) (match args with | [.str s, .int .u8 (.ofNat c)] => cond (Nat.ble c 255) (some (.ret (.int .i64 (idxByte c s 0)) H)) none | _ => none)
  (cond (Nat.beq f 134) (match args with | [x] => some (.ret x H) | _ => none)
  (cond (Nat.beq f 135) (match args with | [.int .i64 (.ofNat n)] => cond (Nat.ble n 281474976710656) (some (.ret (.slice H.nx 0 n none) (H.new (.row ⟨5, 1, n, .leaf, .unk, 0, false, true, false⟩)))) none | _ => none)
  (cond (Nat.beq f 252) (match args with | [.str s, .int .u8 (.ofNat c)] => cond (Nat.ble c 255) (some (.ret (.int .i64 (.ofNat (cntByte c s 0))) H)) none | _ => none)
  none))))
theorem mixed : Tryz.prog.follows .mixedOrders = true := by kernel_rfl
theorem lib0_ok : LibOk Tryz.prog lib0 := by
  intro f args H r h σ w vs hs hv
  unfold lib0 at h
  cases h0 : Nat.beq f 172 with
  | true =>
    rw [h0] at h
    have := Nat.eq_of_beq_eq_true h0
    subst this
    simp only [cond_true] at h
    split at h
    · rename_i s c
      cases hc : Nat.ble c 255 with
      | false => rw [hc] at h; cases h
      | true =>
        rw [hc] at h; cases h
        exact lib_index Tryz.func172 (by kernel_rfl) (by kernel_rfl) (by kernel_rfl) (by kernel_rfl) hc hs hv
    · cases h
  | false =>
  rw [h0] at h
  simp only [cond_false] at h
  cases h1 : Nat.beq f 134 with
  | true =>
    rw [h1] at h
    have := Nat.eq_of_beq_eq_true h1
    subst this
    simp only [cond_true] at h
    split at h
    · cases h
      exact lib_noEscape Tryz.func134 (by kernel_rfl) (by kernel_rfl) (by kernel_rfl) (by kernel_rfl) hs hv
    · cases h
  | false =>
  rw [h1] at h
  simp only [cond_false] at h
  cases h2 : Nat.beq f 135 with
  | true =>
    rw [h2] at h
    have := Nat.eq_of_beq_eq_true h2
    subst this
    simp only [cond_true] at h
    split at h
    · rename_i n
      cases hn : Nat.ble n 281474976710656 with
      | false => rw [hn] at h; cases h
      | true =>
        rw [hn] at h; cases h
        exact lib_makeNoZero (ps := Tryz.f135.params) (t := 36) (e := 5) Tryz.func135 (by kernel_rfl) (by kernel_rfl) (by kernel_rfl) (by kernel_rfl) Tryz.underlying36 hn hs hv
    · cases h
  | false =>
  rw [h2] at h
  simp only [cond_false] at h
  cases h3 : Nat.beq f 252 with
  | true =>
    rw [h3] at h
    have := Nat.eq_of_beq_eq_true h3
    subst this
    simp only [cond_true] at h
    split at h
    · rename_i s c
      cases hc : Nat.ble c 255 with
      | false => rw [hc] at h; cases h
      | true =>
        rw [hc] at h; cases h
        exact lib_count Tryz.func252 (by kernel_rfl) (by kernel_rfl) (by kernel_rfl) (by kernel_rfl) hc hs hv
    · cases h
  | false =>
  rw [h3] at h
  simp only [cond_false] at h
  cases h
def rows0 (e : Nat → Nat) : List (Nat × Nat × List AV) := [(3, e 3, litAV Rows.laid_internal_strconv_uint64pow10),
  (4, e 4, [.iface 286 (.ptr 20 0)]),
  (5, e 5, [.iface 286 (.ptr 21 0)]),
  (9, e 9, litAV Rows.laid_math_bits_deBruijn32tab),
  (10, e 10, litAV Rows.laid_math_bits_deBruijn64tab),
  (11, e 11, litAV Rows.laid_portolan_deflate_order),
  (12, e 12, litAV Rows.laid_portolan_crc_table),
  (14, e 14, litAV Rows.laid_portolan_inflate_order)]
def gs0 : List (Nat × List AV) := [(3, litAV Rows.laid_internal_strconv_uint64pow10),
  (4, [.iface 286 (.ptr 20 0)]),
  (5, [.iface 286 (.ptr 21 0)]),
  (9, litAV Rows.laid_math_bits_deBruijn32tab),
  (10, litAV Rows.laid_math_bits_deBruijn64tab),
  (11, litAV Rows.laid_portolan_deflate_order),
  (12, litAV Rows.laid_portolan_crc_table),
  (14, litAV Rows.laid_portolan_inflate_order)]
def maps0 : List (Nat × List Ent) := []
def H0 (e : Nat → Nat) : Heap := beginH 100 (rows0 e) maps0
theorem none_ok : ∀ x ∈ ([] : List (Nat × CE)), EntOk Tryz.prog gs0 x := fun x h => by cases h
theorem ent_ok {tab : List (Nat × CE)} (ht : ∀ x ∈ tab, EntOk Tryz.prog gs0 x) {x : Nat × CE} (h1 : x.2.wf = true) (h2 : ∀ e, x.2.out (callN (libT gs0 lib0 tab) fs 100000 1000 x.1 x.2.args (x.2.heap gs0 e)) = true) : EntOk Tryz.prog gs0 x :=
  ⟨_, calls_ok mixed (libT_ok lib0_ok tab ht) fs_get 100000 1000, h1, h2⟩
end
end Go.AI
