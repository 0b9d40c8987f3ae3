/- The functions without a body, and what is told of the variables at the beginning; no conditions. -/
import Derived.Test.YtlnelphabohehaaGreatDoorEQ
import Derived.Test.YtlnelphabohehaaGreatDoorP6
import Derived.Test.YtlnelphabohehaaGreatDoorRows
set_option maxRecDepth 1000000
set_option maxHeartbeats 0
set_option linter.unusedVariables false
set_option linter.unusedSimpArgs false
namespace Go.AI
open Go Go.Proofs Go.Proofs.YtlnelphabohehaaGreatDoor
noncomputable section
def lib0 (f : Nat) (args : List AV) (H : Heap) : Option CR :=
  (cond (Nat.beq f 172) (match args with | [.str s, .int .u8 (.ofNat c)] => cond (Nat.ble c 255) (some (.ret (.int .i64 (idxByte c s 0)) H)) none | _ => none)
  (cond (Nat.beq f 134) (match args with | [x] => some (.ret x H) | _ => none)
  (cond (Nat.beq f 135) (match args with | [.int .i64 (.ofNat n)] => cond (Nat.ble n 281474976710656) (some (.ret (.slice H.nx 0 n none) (H.new (.row ⟨5, 1, n, .leaf, .unk, 0, false, true, false⟩)))) none | _ => none)
  (cond (Nat.beq f 252) (match args with | [.str s, .int .u8 (.ofNat c)] => cond (Nat.ble c 255) (some (.ret (.int .i64 (.ofNat (cntByte c s 0))) H)) none | _ => none)
  none))))
theorem mixed : Tryz.prog.follows .mixedOrders = true := by kernel_rfl
theorem lib0_ok : LibOk Tryz.prog lib0 := by
  intro f args H r h σ w vs hs hv
  unfold lib0 at h
  cases h0 : Nat.beq f 172 with
  | true =>
    rw [h0] at h
    have := Nat.eq_of_beq_eq_true h0
    subst this
    simp only [cond_true] at h
    split at h
    · rename_i s c
      cases hc : Nat.ble c 255 with
      | false => rw [hc] at h; cases h
      | true =>
        rw [hc] at h; cases h
        exact lib_index Tryz.func172 (by kernel_rfl) (by kernel_rfl) (by kernel_rfl) (by kernel_rfl) hc hs hv
    · cases h
  | false =>
  rw [h0] at h
  simp only [cond_false] at h
  cases h1 : Nat.beq f 134 with
  | true =>
    rw [h1] at h
    have := Nat.eq_of_beq_eq_true h1
    subst this
    simp only [cond_true] at h
    split at h
    · cases h
      exact lib_noEscape Tryz.func134 (by kernel_rfl) (by kernel_rfl) (by kernel_rfl) (by kernel_rfl) hs hv
    · cases h
  | false =>
  rw [h1] at h
  simp only [cond_false] at h
  cases h2 : Nat.beq f 135 with
  | true =>
    rw [h2] at h
    have := Nat.eq_of_beq_eq_true h2
    subst this
    simp only [cond_true] at h
    split at h
    · rename_i n
      cases hn : Nat.ble n 281474976710656 with
      | false => rw [hn] at h; cases h
      | true =>
        rw [hn] at h; cases h
        exact lib_makeNoZero (ps := Tryz.f135.params) (t := 36) (e := 5) Tryz.func135 (by kernel_rfl) (by kernel_rfl) (by kernel_rfl) (by kernel_rfl) Tryz.underlying36 hn hs hv
    · cases h
  | false =>
  rw [h2] at h
  simp only [cond_false] at h
  cases h3 : Nat.beq f 252 with
  | true =>
    rw [h3] at h
    have := Nat.eq_of_beq_eq_true h3
    subst this
    simp only [cond_true] at h
    split at h
    · rename_i s c
      cases hc : Nat.ble c 255 with
      | false => rw [hc] at h; cases h
      | true =>
        rw [hc] at h; cases h
        exact lib_count Tryz.func252 (by kernel_rfl) (by kernel_rfl) (by kernel_rfl) (by kernel_rfl) hc hs hv
    · cases h
  | false =>
  rw [h3] at h
  simp only [cond_false] at h
  cases h
def mapEs (d : DataW Unit) : List Ent := match d with | .map l => l.map fun q => ⟨litK q.1, litV q.2, 0⟩ | _ => []
def rows0 (e : Nat → Nat) : List (Nat × Nat × List AV) := [(0, e 0, [.map 20]),
  (1, e 1, [.map 21]),
  (2, e 2, litAV Rows.laid_portolan_sha_beginning),
  (3, e 3, litAV Rows.laid_internal_strconv_uint64pow10),
  (6, e 6, litAV Rows.laid_portolan_sha_constants),
  (8, e 8, [.map 22]),
  (9, e 9, litAV Rows.laid_math_bits_deBruijn32tab),
  (10, e 10, litAV Rows.laid_math_bits_deBruijn64tab),
  (18, e 18, litAV Rows.laid_unicode_utf8_first),
  (19, e 19, litAV Rows.laid_unicode_utf8_acceptRanges)]
def gs0 : List (Nat × List AV) := [(0, [.map 20]),
  (1, [.map 21]),
  (2, litAV Rows.laid_portolan_sha_beginning),
  (3, litAV Rows.laid_internal_strconv_uint64pow10),
  (6, litAV Rows.laid_portolan_sha_constants),
  (8, [.map 22]),
  (9, litAV Rows.laid_math_bits_deBruijn32tab),
  (10, litAV Rows.laid_math_bits_deBruijn64tab),
  (18, litAV Rows.laid_unicode_utf8_first),
  (19, litAV Rows.laid_unicode_utf8_acceptRanges)]
def maps0 : List (Nat × List Ent) := [(20, [⟨.int .i64 1, .func 297 [] [], 0⟩, ⟨.int .i64 2, .func 298 [] [], 0⟩, ⟨.int .i64 3, .func 299 [] [], 0⟩]), (21, mapEs Rows.laid_portolan_tar_types), (22, mapEs Rows.laid_portolan_field_fields)]
def H0 (e : Nat → Nat) : Heap := beginH 100 (rows0 e) maps0
def pre0 : List (Nat × LO) := [(20, (.cmap [⟨(nI .i64 1), (.func 297 [] []), 0⟩, ⟨(nI .i64 2), (.func 298 [] []), 0⟩, ⟨(nI .i64 3), (.func 299 [] []), 0⟩])), (21, (.cmap [⟨(nI .i64 1), (nI .u8 53), 0⟩, ⟨(nI .i64 2), (nI .u8 48), 0⟩, ⟨(nI .i64 3), (nI .u8 50), 0⟩, ⟨(nI .i64 4), (nI .u8 54), 0⟩])), (22, (.cmap [⟨(.str [99, 104, 107, 115, 117, 109]), (.agg [(nI .i64 148), (nI .i64 8)]), 0⟩, ⟨(.str [100, 101, 118, 109, 97, 106, 111, 114]), (.agg [(nI .i64 329), (nI .i64 8)]), 0⟩, ⟨(.str [100, 101, 118, 109, 105, 110, 111, 114]), (.agg [(nI .i64 337), (nI .i64 8)]), 0⟩, ⟨(.str [103, 105, 100]), (.agg [(nI .i64 116), (nI .i64 8)]), 0⟩, ⟨(.str [103, 110, 97, 109, 101]), (.agg [(nI .i64 297), (nI .i64 32)]), 0⟩, ⟨(.str [108, 105, 110, 107, 110, 97, 109, 101]), (.agg [(nI .i64 157), (nI .i64 100)]), 0⟩, ⟨(.str [109, 97, 103, 105, 99]), (.agg [(nI .i64 257), (nI .i64 6)]), 0⟩, ⟨(.str [109, 111, 100, 101]), (.agg [(nI .i64 100), (nI .i64 8)]), 0⟩, ⟨(.str [109, 116, 105, 109, 101]), (.agg [(nI .i64 136), (nI .i64 12)]), 0⟩, ⟨(.str [110, 97, 109, 101]), (.agg [(nI .i64 0), (nI .i64 100)]), 0⟩, ⟨(.str [112, 114, 101, 102, 105, 120]), (.agg [(nI .i64 345), (nI .i64 155)]), 0⟩, ⟨(.str [115, 105, 122, 101]), (.agg [(nI .i64 124), (nI .i64 12)]), 0⟩, ⟨(.str [116, 121, 112, 101]), (.agg [(nI .i64 156), (nI .i64 1)]), 0⟩, ⟨(.str [117, 105, 100]), (.agg [(nI .i64 108), (nI .i64 8)]), 0⟩, ⟨(.str [117, 110, 97, 109, 101]), (.agg [(nI .i64 265), (nI .i64 32)]), 0⟩, ⟨(.str [118, 101, 114, 115, 105, 111, 110]), (.agg [(nI .i64 263), (nI .i64 2)]), 0⟩]))]
theorem none_ok : ∀ x ∈ ([] : List (Nat × CE)), EntOk Tryz.prog gs0 x := fun x h => by cases h
theorem ent_ok {tab : List (Nat × CE)} (ht : ∀ x ∈ tab, EntOk Tryz.prog gs0 x) {x : Nat × CE} (h1 : x.2.wf = true) (h2 : ∀ e, x.2.out (callN (libT gs0 lib0 tab) fs 100000 1000 x.1 x.2.args (x.2.heap gs0 e)) = true) : EntOk Tryz.prog gs0 x :=
  ⟨_, calls_ok mixed (libT_ok lib0_ok tab ht) fs_get 100000 1000, h1, h2⟩
end
end Go.AI
