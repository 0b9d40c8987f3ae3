/- What the condition of ManifestMatches says of the world: proved; the package-level variables that its row lists hold what the program's text lays. -/
import Derived.Test.YtfipbmnpbadcnaaGreatDoorBO
import Derived.Test.YtfipbmnpbadcnaaGreatDoorP6
import Derived.Test.YtfipbmnpbadcnaaGreatDoorTie
import Derived.Test.YtfipbmnpbadcnaaGreatDoorCards
import Derived.ProofKit
import Derived.OpenShut
import Derived.LaidMore
import Derived.Lay
import Derived.LaidHandle
import Derived.SevenTiedAt
import Derived.Stop.Joined
set_option maxRecDepth 1000000
set_option linter.unusedVariables false
set_option linter.unusedSimpArgs false
set_option maxRecDepth 1000000
set_option maxHeartbeats 0
namespace Go.AI
open Go Go.Proofs Go.Proofs.YtfipbmnpbadcnaaGreatDoor
noncomputable section
noncomputable abbrev Tz := Tryz.prog
theorem rd5 {W : World} : ReadsAs Tz W 5 1 := reads_int Tryz.underlying5
theorem rd315 {W : World} : ReadsAs Tz W 315 (256 * 1) := reads_array Tryz.underlying315 (by kernel_rfl) (by kernel_rfl) rd5
theorem rd317 {W : World} : ReadsAs Tz W 317 2 := reads_pair Tryz.underlying317 rfl rfl rfl rfl (by kernel_rfl) (by kernel_rfl) rd5
theorem rd318 {W : World} : ReadsAs Tz W 318 (16 * 2) := reads_array Tryz.underlying318 (by kernel_rfl) (by kernel_rfl) rd317
theorem rd136 {W : World} : ReadsAs Tz W 136 1 := reads_int Tryz.underlying136
theorem rd326 {W : World} : ReadsAs Tz W 326 (20 * 1) := reads_array Tryz.underlying326 (by kernel_rfl) (by kernel_rfl) rd136
theorem rd32 {W : World} : ReadsAs Tz W 32 1 := reads_int Tryz.underlying32
theorem rd140 {W : World} : ReadsAs Tz W 140 (8 * 1) := reads_array Tryz.underlying140 (by kernel_rfl) (by kernel_rfl) rd32
theorem rd138 {W : World} : ReadsAs Tz W 138 (64 * 1) := reads_array Tryz.underlying138 (by kernel_rfl) (by kernel_rfl) rd32
theorem rd42 {W : World} : ReadsAs Tz W 42 (32 * 1) := reads_array Tryz.underlying42 (by kernel_rfl) (by kernel_rfl) rd5
theorem rd390 {W : World} : ReadsAs Tz W 390 (64 * 1) := reads_array Tryz.underlying390 (by kernel_rfl) (by kernel_rfl) rd5
def gws (e : Nat → Nat) : List (Nat × Win) := [(3, ⟨⟨3, 0, (litAV Rows.laid_unicode_utf8_first).length, 1⟩, e 3, litAV Rows.laid_unicode_utf8_first⟩), (4, ⟨⟨4, 0, (litAV Rows.laid_unicode_utf8_acceptRanges).length, 1⟩, e 4, litAV Rows.laid_unicode_utf8_acceptRanges⟩), (5, ⟨⟨5, 0, (litAV Rows.laid_internal_strconv_uint64pow10).length, 1⟩, e 5, litAV Rows.laid_internal_strconv_uint64pow10⟩), (7, ⟨⟨7, 0, (litAV Rows.laid_portolan_sha_beginning).length, 1⟩, e 7, litAV Rows.laid_portolan_sha_beginning⟩), (9, ⟨⟨9, 0, (litAV Rows.laid_portolan_sha_constants).length, 1⟩, e 9, litAV Rows.laid_portolan_sha_constants⟩), (10, ⟨⟨10, 0, (litAV Rows.laid_math_bits_deBruijn32tab).length, 1⟩, e 10, litAV Rows.laid_math_bits_deBruijn32tab⟩), (11, ⟨⟨11, 0, (litAV Rows.laid_math_bits_deBruijn64tab).length, 1⟩, e 11, litAV Rows.laid_math_bits_deBruijn64tab⟩)]
/-- what the row's condition says of the world -/
theorem start_of {W : World} (hH : laidMetH Tz Rows.manifestMatchesRow.laid W) : ∃ e : Nat → Nat, ∀ b x, (b, x) ∈ gws e → (b < 14 ∧ x.loc.blk = b ∧ x.loc.base = 0) ∧ ∀ σ, WinOk W σ x := by
  have hL := laidMetH_data hH
  obtain ⟨ps, hlv, hnd, hcell⟩ := hL
  obtain ⟨pf, hpf, _, hap⟩ := laid_places hlv
  have hap := hap hnd
  have hlen : (Rows.manifestMatchesRow.laid.filter fun x => x.2.handleName?.isNone).length = 7 := by kernel_rfl
  have tab : ∀ {i : Nat} {n : String} {d : DataW Unit} {g t c : Nat}, (Rows.manifestMatchesRow.laid.filter fun x => x.2.handleName?.isNone)[i]? = some (n, d) → Tz.globalNamed n = some g → (Tz.globals[g]?).map (·.type) = some t → ReadsAs Tz W t c →
      ∃ cs e fr, W.heap[g]? = some (.cells cs e fr) ∧ RelL (fun _ => none) (litAV d) cs.toList ∧ ∀ v ∈ cs, v.oneCell' = true := by
    intro i n d g t c hm hg ht hr
    obtain ⟨g', t', cs, fuel, h1, h2, h3, h4, _⟩ := hpf i n d hm
    obtain rfl := Option.some.inj (hg.symm.trans h1)
    obtain rfl := Option.some.inj (ht.symm.trans h2)
    obtain ⟨_, h5, h6⟩ := hr fuel cs.toList (d, pf i) h4
    obtain ⟨e, fr, h7⟩ := var_block h1 h3
    exact ⟨cs, e, fr, h7, h5, fun v hv => h6 v (Array.mem_toList_iff.2 hv)⟩
  obtain ⟨cs3, e3, fr3, h3, l3, o3⟩ := tab (i := 6) (n := "unicode/utf8.first") (d := Rows.laid_unicode_utf8_first) (g := 3) (t := 315) (by kernel_rfl) (by kernel_rfl) (by kernel_rfl) rd315
  obtain ⟨cs4, e4, fr4, h4, l4, o4⟩ := tab (i := 3) (n := "unicode/utf8.acceptRanges") (d := Rows.laid_unicode_utf8_acceptRanges) (g := 4) (t := 318) (by kernel_rfl) (by kernel_rfl) (by kernel_rfl) rd318
  obtain ⟨cs5, e5, fr5, h5, l5, o5⟩ := tab (i := 2) (n := "internal/strconv.uint64pow10") (d := Rows.laid_internal_strconv_uint64pow10) (g := 5) (t := 326) (by kernel_rfl) (by kernel_rfl) (by kernel_rfl) rd326
  obtain ⟨cs7, e7, fr7, h7, l7, o7⟩ := tab (i := 5) (n := "portolan/sha.beginning") (d := Rows.laid_portolan_sha_beginning) (g := 7) (t := 140) (by kernel_rfl) (by kernel_rfl) (by kernel_rfl) rd140
  obtain ⟨cs9, e9, fr9, h9, l9, o9⟩ := tab (i := 4) (n := "portolan/sha.constants") (d := Rows.laid_portolan_sha_constants) (g := 9) (t := 138) (by kernel_rfl) (by kernel_rfl) (by kernel_rfl) rd138
  obtain ⟨cs10, e10, fr10, h10, l10, o10⟩ := tab (i := 0) (n := "math/bits.deBruijn32tab") (d := Rows.laid_math_bits_deBruijn32tab) (g := 10) (t := 42) (by kernel_rfl) (by kernel_rfl) (by kernel_rfl) rd42
  obtain ⟨cs11, e11, fr11, h11, l11, o11⟩ := tab (i := 1) (n := "math/bits.deBruijn64tab") (d := Rows.laid_math_bits_deBruijn64tab) (g := 11) (t := 390) (by kernel_rfl) (by kernel_rfl) (by kernel_rfl) rd390
  let e : Nat → Nat := fun g => if g = 3 then e3 else if g = 4 then e4 else if g = 5 then e5 else if g = 7 then e7 else if g = 9 then e9 else if g = 10 then e10 else if g = 11 then e11 else 0
  refine ⟨e, fun b x hm => ?_⟩
  unfold gws at hm
  simp only [List.mem_cons, Prod.mk.injEq, List.not_mem_nil, or_false] at hm
  rcases hm with ⟨rfl, rfl⟩ | ⟨rfl, rfl⟩ | ⟨rfl, rfl⟩ | ⟨rfl, rfl⟩ | ⟨rfl, rfl⟩ | ⟨rfl, rfl⟩ | ⟨rfl, rfl⟩
  · exact ⟨⟨by decide, rfl, rfl⟩, fun σ => win_var h3 l3 o3⟩
  · exact ⟨⟨by decide, rfl, rfl⟩, fun σ => win_var h4 l4 o4⟩
  · exact ⟨⟨by decide, rfl, rfl⟩, fun σ => win_var h5 l5 o5⟩
  · exact ⟨⟨by decide, rfl, rfl⟩, fun σ => win_var h7 l7 o7⟩
  · exact ⟨⟨by decide, rfl, rfl⟩, fun σ => win_var h9 l9 o9⟩
  · exact ⟨⟨by decide, rfl, rfl⟩, fun σ => win_var h10 l10 o10⟩
  · exact ⟨⟨by decide, rfl, rfl⟩, fun σ => win_var h11 l11 o11⟩
end
end Go.AI
