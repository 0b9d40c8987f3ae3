/- What the condition of ManifestKnown says of the world: proved; the package-level variables that its row lists hold what the program's text lays. -/
import Derived.Test.YtfipbmnpbadcnaaGreatDoorKM
import Derived.Test.YtfipbmnpbadcnaaGreatDoorTie
import Derived.Test.YtfipbmnpbadcnaaGreatDoorCards
import Derived.ProofKit
import Derived.OpenShut
import Derived.LaidMore
import Derived.Lay
import Derived.LaidHandle
import Derived.SevenTiedAt
import Derived.Stop.Joined
set_option linter.unusedVariables false
set_option linter.unusedSimpArgs false
set_option maxRecDepth 1000000
set_option maxHeartbeats 0
namespace Go.AI
open Go Go.Proofs Go.Proofs.YtfipbmnpbadcnaaGreatDoor
noncomputable section
noncomputable abbrev Tz := Tryz.prog
theorem rd5 {W : World} : ReadsAs Tz W 5 1 := reads_int Tryz.underlying5
theorem rd315 {W : World} : ReadsAs Tz W 315 (256 * 1) := reads_array Tryz.underlying315 (by kernel_rfl) (by kernel_rfl) rd5
theorem rd317 {W : World} : ReadsAs Tz W 317 2 := reads_pair Tryz.underlying317 rfl rfl rfl rfl (by kernel_rfl) (by kernel_rfl) rd5
theorem rd318 {W : World} : ReadsAs Tz W 318 (16 * 2) := reads_array Tryz.underlying318 (by kernel_rfl) (by kernel_rfl) rd317
theorem rd136 {W : World} : ReadsAs Tz W 136 1 := reads_int Tryz.underlying136
theorem rd326 {W : World} : ReadsAs Tz W 326 (20 * 1) := reads_array Tryz.underlying326 (by kernel_rfl) (by kernel_rfl) rd136
theorem rd32 {W : World} : ReadsAs Tz W 32 1 := reads_int Tryz.underlying32
theorem rd140 {W : World} : ReadsAs Tz W 140 (8 * 1) := reads_array Tryz.underlying140 (by kernel_rfl) (by kernel_rfl) rd32
theorem rd138 {W : World} : ReadsAs Tz W 138 (64 * 1) := reads_array Tryz.underlying138 (by kernel_rfl) (by kernel_rfl) rd32
theorem rd42 {W : World} : ReadsAs Tz W 42 (32 * 1) := reads_array Tryz.underlying42 (by kernel_rfl) (by kernel_rfl) rd5
theorem rd390 {W : World} : ReadsAs Tz W 390 (64 * 1) := reads_array Tryz.underlying390 (by kernel_rfl) (by kernel_rfl) rd5
theorem cellErr : 1 ≤ Tz.cellsOf 430 := of_decide_eq_true (by kernel_rfl)
theorem err_name (u : TypeId) (h : Tz.typeName? 3 u = some "*errors.errorString") : u = 428 := by
  have hlt := named_pointer (P := Tz) (name := "*errors.errorString") (inner := "errors.errorString") (by decide) (fun m h => by
    have h2 : "errors.errorString".toList = ("*" ++ m).toList := by rw [← h]
    rw [String.toList_append] at h2
    cases h2) (by kernel_rfl) h
  have hall : ((List.range Tz.types.size).all fun u => Tz.typeName? 3 u != some "*errors.errorString" || u == 428) = true := by kernel_rfl
  have h3 := List.all_eq_true.1 hall u (List.mem_range.2 hlt)
  rw [h] at h3
  simpa using h3
/-- what the row's condition says of the world -/
theorem start_of {W : World} (hH : laidMetH Tz Rows.manifestKnownRow.laid W) : ∃ (σ : Mp) (e : Nat → Nat), Sim Tz σ (H0 e) W := by
  have hL := laidMetH_data hH
  obtain ⟨ps, hlv, hnd, hcell⟩ := hL
  obtain ⟨pf, hpf, _, hap⟩ := laid_places hlv
  have hap := hap hnd
  have hlen : (Rows.manifestKnownRow.laid.filter fun x => x.2.handleName?.isNone).length = 9 := by kernel_rfl
  have tab : ∀ {i : Nat} {n : String} {d : DataW Unit} {g t c : Nat}, (Rows.manifestKnownRow.laid.filter fun x => x.2.handleName?.isNone)[i]? = some (n, d) → Tz.globalNamed n = some g → (Tz.globals[g]?).map (·.type) = some t → ReadsAs Tz W t c →
      ∃ cs e fr, W.heap[g]? = some (.cells cs e fr) ∧ RelL (fun _ => none) (litAV d) cs.toList ∧ ∀ v ∈ cs, v.oneCell' = true := by
    intro i n d g t c hm hg ht hr
    obtain ⟨g', t', cs, fuel, h1, h2, h3, h4, _⟩ := hpf i n d hm
    obtain rfl := Option.some.inj (hg.symm.trans h1)
    obtain rfl := Option.some.inj (ht.symm.trans h2)
    obtain ⟨_, h5, h6⟩ := hr fuel cs.toList (d, pf i) h4
    obtain ⟨e, fr, h7⟩ := var_block h1 h3
    exact ⟨cs, e, fr, h7, h5, fun v hv => h6 v (Array.mem_toList_iff.2 hv)⟩
  have err : ∀ {i : Nat} {n : String} {D : DataW Unit} {g : Nat}, (Rows.manifestKnownRow.laid.filter fun x => x.2.handleName?.isNone)[i]? = some (n, DataW.iface "*errors.errorString" (.ptr D)) → Tz.globalNamed n = some g → (Tz.globals[g]?).map (·.type) = some 190 →
      ∃ (cs : Array Value) (e : Nat) (fr : Nat × Nat) (a : Addr), W.heap[g]? = some (.cells cs e fr) ∧ a.spot = none ∧ cs.toList = [.iface 428 (.pointer (some a))] := by
    intro i n D g hm hg ht
    obtain ⟨g', t', cs, fuel, h1, h2, h3, h4, h5⟩ := hpf i n _ hm
    obtain rfl := Option.some.inj (hg.symm.trans h1)
    obtain rfl := Option.some.inj (ht.symm.trans h2)
    obtain ⟨e, fr, h7⟩ := var_block h1 h3
    obtain ⟨a, h8, h9⟩ := reads_err Tryz.underlying190 h4 err_name Tryz.underlying428 cellErr (fun u v hcs => by
      have hsz : cs.size = 1 := by rw [← Array.length_toList, hcs]; rfl
      have hin := h5 (.cell g 0) (by rw [hsz]; exact List.mem_cons_self ..)
      refine (hcell g 0 hin).2 u v ?_
      rw [World.var?_cell h1 h3 0, ← Array.getElem?_toList, hcs]; rfl)
    exact ⟨cs, e, fr, a, h7, h8, h9⟩
  obtain ⟨cs3, e3, fr3, h3, l3, o3⟩ := tab (i := 8) (n := "unicode/utf8.first") (d := Rows.laid_unicode_utf8_first) (g := 3) (t := 315) (by kernel_rfl) (by kernel_rfl) (by kernel_rfl) rd315
  obtain ⟨cs4, e4, fr4, h4, l4, o4⟩ := tab (i := 3) (n := "unicode/utf8.acceptRanges") (d := Rows.laid_unicode_utf8_acceptRanges) (g := 4) (t := 318) (by kernel_rfl) (by kernel_rfl) (by kernel_rfl) rd318
  obtain ⟨cs5, e5, fr5, h5, l5, o5⟩ := tab (i := 2) (n := "internal/strconv.uint64pow10") (d := Rows.laid_internal_strconv_uint64pow10) (g := 5) (t := 326) (by kernel_rfl) (by kernel_rfl) (by kernel_rfl) rd326
  obtain ⟨cs7, e7, fr7, h7, l7, o7⟩ := tab (i := 7) (n := "portolan/sha.beginning") (d := Rows.laid_portolan_sha_beginning) (g := 7) (t := 140) (by kernel_rfl) (by kernel_rfl) (by kernel_rfl) rd140
  obtain ⟨cs9, e9, fr9, h9, l9, o9⟩ := tab (i := 6) (n := "portolan/sha.constants") (d := Rows.laid_portolan_sha_constants) (g := 9) (t := 138) (by kernel_rfl) (by kernel_rfl) (by kernel_rfl) rd138
  obtain ⟨cs10, e10, fr10, h10, l10, o10⟩ := tab (i := 0) (n := "math/bits.deBruijn32tab") (d := Rows.laid_math_bits_deBruijn32tab) (g := 10) (t := 42) (by kernel_rfl) (by kernel_rfl) (by kernel_rfl) rd42
  obtain ⟨cs11, e11, fr11, h11, l11, o11⟩ := tab (i := 1) (n := "math/bits.deBruijn64tab") (d := Rows.laid_math_bits_deBruijn64tab) (g := 11) (t := 390) (by kernel_rfl) (by kernel_rfl) (by kernel_rfl) rd390
  obtain ⟨cs12, e12, fr12, a12, h12, s12, l12⟩ := err (i := 5) (n := "strconv.ErrSyntax") (D := (match Rows.laid_strconv_ErrSyntax with | .iface _ (.ptr d) => d | _ => (.nil : DataW Unit))) (g := 12) (by kernel_rfl) (by kernel_rfl) (by kernel_rfl)
  obtain ⟨cs13, e13, fr13, a13, h13, s13, l13⟩ := err (i := 4) (n := "strconv.ErrRange") (D := (match Rows.laid_strconv_ErrRange with | .iface _ (.ptr d) => d | _ => (.nil : DataW Unit))) (g := 13) (by kernel_rfl) (by kernel_rfl) (by kernel_rfl)
  let tot : Nat → Nat := fun g => if g = 3 then lenL (litAV Rows.laid_unicode_utf8_first) else if g = 4 then lenL (litAV Rows.laid_unicode_utf8_acceptRanges) else if g = 5 then lenL (litAV Rows.laid_internal_strconv_uint64pow10) else if g = 7 then lenL (litAV Rows.laid_portolan_sha_beginning) else if g = 9 then lenL (litAV Rows.laid_portolan_sha_constants) else if g = 10 then lenL (litAV Rows.laid_math_bits_deBruijn32tab) else if g = 11 then lenL (litAV Rows.laid_math_bits_deBruijn64tab) else 1
  let σ : Mp := fun b => if b < 14 then some ⟨b, 0, tot b, 1⟩ else if b = 14 then some ⟨a12.block, a12.off, 0, 0⟩ else if b = 15 then some ⟨a13.block, a13.off, 0, 0⟩ else none
  let e : Nat → Nat := fun g => if g = 3 then e3 else if g = 4 then e4 else if g = 5 then e5 else if g = 7 then e7 else if g = 9 then e9 else if g = 10 then e10 else if g = 11 then e11 else if g = 12 then e12 else if g = 13 then e13 else 0
  have hx : Ext (fun _ => none) σ := fun b l h => by cases h
  have hgs : Tz.globals.size = 14 := by kernel_rfl
  have hp : ∀ (b : Nat) (a : Addr), a.spot = none → σ b = some ⟨a.block, a.off, 0, 0⟩ → Rel σ (.iface 428 (.ptr b 0)) (.iface 428 (.pointer (some a))) := by
    intro b a ha hb
    simp only [Rel]
    refine ⟨.pointer (some a), ⟨_, hb, ?_⟩, rfl⟩
    obtain ⟨x, y, z⟩ := a
    have ha : z = none := ha
    subst ha
    rfl
  refine ⟨σ, e, begin_sim (rs := rows0 e) (ms := maps0) (fun g hg => ?_) (fun b l h => ?_) (fun b ee l hm => ?_) (fun b es hm => ?_) (fun b es b' es' l l' hm hm' hl hl' he => ?_)⟩
  · rw [hgs] at hg
    exact ⟨⟨g, 0, tot g, 1⟩, if_pos hg, rfl, rfl⟩
  · have h : (if b < 14 then some (⟨b, 0, tot b, 1⟩ : Loc) else if b = 14 then some ⟨a12.block, a12.off, 0, 0⟩ else if b = 15 then some ⟨a13.block, a13.off, 0, 0⟩ else none) = some l := h
    repeat' (split at h)
    all_goals first | omega | cases h
  · unfold rows0 at hm
    simp only [List.mem_cons, Prod.mk.injEq, List.not_mem_nil, or_false] at hm
    rcases hm with ⟨rfl, rfl, rfl⟩ | ⟨rfl, rfl, rfl⟩ | ⟨rfl, rfl, rfl⟩ | ⟨rfl, rfl, rfl⟩ | ⟨rfl, rfl, rfl⟩ | ⟨rfl, rfl, rfl⟩ | ⟨rfl, rfl, rfl⟩ | ⟨rfl, rfl, rfl⟩ | ⟨rfl, rfl, rfl⟩
    · exact ⟨cs3, fr3, rfl, h3, RelL.mono hx l3, o3⟩
    · exact ⟨cs4, fr4, rfl, h4, RelL.mono hx l4, o4⟩
    · exact ⟨cs5, fr5, rfl, h5, RelL.mono hx l5, o5⟩
    · exact ⟨cs7, fr7, rfl, h7, RelL.mono hx l7, o7⟩
    · exact ⟨cs9, fr9, rfl, h9, RelL.mono hx l9, o9⟩
    · exact ⟨cs10, fr10, rfl, h10, RelL.mono hx l10, o10⟩
    · exact ⟨cs11, fr11, rfl, h11, RelL.mono hx l11, o11⟩
    · refine ⟨cs12, fr12, rfl, h12, by rw [l12]; exact relL_one (hp 14 a12 s12 rfl), fun v hv => ?_⟩
      have := Array.mem_toList_iff.2 hv
      rw [l12] at this
      have : v = .iface 428 (.pointer (some a12)) := by simpa using this
      subst this; rfl
    · refine ⟨cs13, fr13, rfl, h13, by rw [l13]; exact relL_one (hp 15 a13 s13 rfl), fun v hv => ?_⟩
      have := Array.mem_toList_iff.2 hv
      rw [l13] at this
      have : v = .iface 428 (.pointer (some a13)) := by simpa using this
      subst this; rfl
  · cases hm
  · cases hm
end
end Go.AI
