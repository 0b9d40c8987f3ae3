/- What the condition of SeekFoot says of the world: proved; the package-level variables that its row lists hold what the program's text lays. -/
import Derived.Test.YtlnelphabohehaaGreatDoorKS
import Derived.Test.YtlnelphabohehaaGreatDoorTie
import Derived.Test.YtlnelphabohehaaGreatDoorCards
import Derived.ProofKit
import Derived.OpenShut
import Derived.LaidMore
import Derived.Lay
import Derived.LaidHandle
import Derived.SevenTiedAt
import Derived.Stop.Joined
set_option maxRecDepth 1000000
set_option maxHeartbeats 0
set_option linter.unusedVariables false
set_option linter.unusedSimpArgs false
namespace Go.AI
open Go Go.Proofs Go.Proofs.YtlnelphabohehaaGreatDoor
noncomputable section
noncomputable abbrev Tz := Tryz.prog
theorem rd150 {W : World} : ReadsAs Tz W 150 1 := reads_int Tryz.underlying150
theorem rd215 {W : World} : ReadsAs Tz W 215 (20 * 1) := reads_array Tryz.underlying215 (by kernel_rfl) (by kernel_rfl) rd150
theorem rd5 {W : World} : ReadsAs Tz W 5 1 := reads_int Tryz.underlying5
theorem rd46 {W : World} : ReadsAs Tz W 46 (32 * 1) := reads_array Tryz.underlying46 (by kernel_rfl) (by kernel_rfl) rd5
theorem rd299 {W : World} : ReadsAs Tz W 299 (64 * 1) := reads_array Tryz.underlying299 (by kernel_rfl) (by kernel_rfl) rd5
theorem rd3 {W : World} : ReadsAs Tz W 3 1 := reads_int Tryz.underlying3
theorem rd316 {W : World} : ReadsAs Tz W 316 (19 * 1) := reads_array Tryz.underlying316 (by kernel_rfl) (by kernel_rfl) rd3
theorem rd34 {W : World} : ReadsAs Tz W 34 1 := reads_int Tryz.underlying34
theorem rd318 {W : World} : ReadsAs Tz W 318 (16 * 1) := reads_array Tryz.underlying318 (by kernel_rfl) (by kernel_rfl) rd34
theorem cellErr : 1 ≤ Tz.cellsOf 288 := of_decide_eq_true (by kernel_rfl)
theorem err_name (u : TypeId) (h : Tz.typeName? 3 u = some "*errors.errorString") : u = 286 := by
  have hlt := named_pointer (P := Tz) (name := "*errors.errorString") (inner := "errors.errorString") (by decide) (fun m h => by
    have h2 : "errors.errorString".toList = ("*" ++ m).toList := by rw [← h]
    rw [String.toList_append] at h2
    cases h2) (by kernel_rfl) h
  have hall : ((List.range Tz.types.size).all fun u => Tz.typeName? 3 u != some "*errors.errorString" || u == 286) = true := by kernel_rfl
  have h3 := List.all_eq_true.1 hall u (List.mem_range.2 hlt)
  rw [h] at h3
  simpa using h3
/-- what the row's condition says of the world -/
theorem start_of {W : World} (hH : laidMetH Tz Rows.seekFootRow.laid W) : ∃ (σ : Mp) (e : Nat → Nat), Sim Tz σ (H0 e) W := by
  have hL := laidMetH_data hH
  obtain ⟨ps, hlv, hnd, hcell⟩ := hL
  obtain ⟨pf, hpf, _, hap⟩ := laid_places hlv
  have hap := hap hnd
  have hlen : (Rows.seekFootRow.laid.filter fun x => x.2.handleName?.isNone).length = 12 := by kernel_rfl
  have tab : ∀ {i : Nat} {n : String} {d : DataW Unit} {g t c : Nat}, (Rows.seekFootRow.laid.filter fun x => x.2.handleName?.isNone)[i]? = some (n, d) → Tz.globalNamed n = some g → (Tz.globals[g]?).map (·.type) = some t → ReadsAs Tz W t c →
      ∃ cs e fr, W.heap[g]? = some (.cells cs e fr) ∧ RelL (fun _ => none) (litAV d) cs.toList ∧ ∀ v ∈ cs, v.oneCell' = true := by
    intro i n d g t c hm hg ht hr
    obtain ⟨g', t', cs, fuel, h1, h2, h3, h4, _⟩ := hpf i n d hm
    obtain rfl := Option.some.inj (hg.symm.trans h1)
    obtain rfl := Option.some.inj (ht.symm.trans h2)
    obtain ⟨_, h5, h6⟩ := hr fuel cs.toList (d, pf i) h4
    obtain ⟨e, fr, h7⟩ := var_block h1 h3
    exact ⟨cs, e, fr, h7, h5, fun v hv => h6 v (Array.mem_toList_iff.2 hv)⟩
  have err : ∀ {i : Nat} {n : String} {D : DataW Unit} {g : Nat}, (Rows.seekFootRow.laid.filter fun x => x.2.handleName?.isNone)[i]? = some (n, DataW.iface "*errors.errorString" (.ptr D)) → Tz.globalNamed n = some g → (Tz.globals[g]?).map (·.type) = some 84 →
      ∃ (cs : Array Value) (e : Nat) (fr : Nat × Nat) (a : Addr), W.heap[g]? = some (.cells cs e fr) ∧ a.spot = none ∧ cs.toList = [.iface 286 (.pointer (some a))] := by
    intro i n D g hm hg ht
    obtain ⟨g', t', cs, fuel, h1, h2, h3, h4, h5⟩ := hpf i n _ hm
    obtain rfl := Option.some.inj (hg.symm.trans h1)
    obtain rfl := Option.some.inj (ht.symm.trans h2)
    obtain ⟨e, fr, h7⟩ := var_block h1 h3
    obtain ⟨a, h8, h9⟩ := reads_err Tryz.underlying84 h4 err_name Tryz.underlying286 cellErr (fun u v hcs => by
      have hsz : cs.size = 1 := by rw [← Array.length_toList, hcs]; rfl
      have hin := h5 (.cell g 0) (by rw [hsz]; exact List.mem_cons_self ..)
      refine (hcell g 0 hin).2 u v ?_
      rw [World.var?_cell h1 h3 0, ← Array.getElem?_toList, hcs]; rfl)
    exact ⟨cs, e, fr, a, h7, h8, h9⟩
  obtain ⟨cs3, e3, fr3, h3, l3, o3⟩ := tab (i := 2) (n := "internal/strconv.uint64pow10") (d := Rows.laid_internal_strconv_uint64pow10) (g := 3) (t := 215) (by kernel_rfl) (by kernel_rfl) (by kernel_rfl) rd215
  obtain ⟨cs4, e4, fr4, a4, h4, s4, l4⟩ := err (i := 5) (n := "strconv.ErrSyntax") (D := (match Rows.laid_strconv_ErrSyntax with | .iface _ (.ptr d) => d | _ => (.nil : DataW Unit))) (g := 4) (by kernel_rfl) (by kernel_rfl) (by kernel_rfl)
  obtain ⟨cs5, e5, fr5, a5, h5, s5, l5⟩ := err (i := 4) (n := "strconv.ErrRange") (D := (match Rows.laid_strconv_ErrRange with | .iface _ (.ptr d) => d | _ => (.nil : DataW Unit))) (g := 5) (by kernel_rfl) (by kernel_rfl) (by kernel_rfl)
  obtain ⟨cs9, e9, fr9, h9, l9, o9⟩ := tab (i := 0) (n := "math/bits.deBruijn32tab") (d := Rows.laid_math_bits_deBruijn32tab) (g := 9) (t := 46) (by kernel_rfl) (by kernel_rfl) (by kernel_rfl) rd46
  obtain ⟨cs10, e10, fr10, h10, l10, o10⟩ := tab (i := 1) (n := "math/bits.deBruijn64tab") (d := Rows.laid_math_bits_deBruijn64tab) (g := 10) (t := 299) (by kernel_rfl) (by kernel_rfl) (by kernel_rfl) rd299
  obtain ⟨cs11, e11, fr11, h11, l11, o11⟩ := tab (i := 6) (n := "portolan/deflate.order") (d := Rows.laid_portolan_deflate_order) (g := 11) (t := 316) (by kernel_rfl) (by kernel_rfl) (by kernel_rfl) rd316
  obtain ⟨cs12, e12, fr12, h12, l12, o12⟩ := tab (i := 3) (n := "portolan/crc.table") (d := Rows.laid_portolan_crc_table) (g := 12) (t := 318) (by kernel_rfl) (by kernel_rfl) (by kernel_rfl) rd318
  obtain ⟨cs14, e14, fr14, h14, l14, o14⟩ := tab (i := 9) (n := "portolan/inflate.order") (d := Rows.laid_portolan_inflate_order) (g := 14) (t := 316) (by kernel_rfl) (by kernel_rfl) (by kernel_rfl) rd316
  let tot : Nat → Nat := fun g => if g = 3 then lenL (litAV Rows.laid_internal_strconv_uint64pow10) else if g = 9 then lenL (litAV Rows.laid_math_bits_deBruijn32tab) else if g = 10 then lenL (litAV Rows.laid_math_bits_deBruijn64tab) else if g = 11 then lenL (litAV Rows.laid_portolan_deflate_order) else if g = 12 then lenL (litAV Rows.laid_portolan_crc_table) else if g = 14 then lenL (litAV Rows.laid_portolan_inflate_order) else 1
  let σ : Mp := fun b => if b < 20 then some ⟨b, 0, tot b, 1⟩ else if b = 20 then some ⟨a4.block, a4.off, 0, 0⟩ else if b = 21 then some ⟨a5.block, a5.off, 0, 0⟩ else none
  let e : Nat → Nat := fun g => if g = 3 then e3 else if g = 4 then e4 else if g = 5 then e5 else if g = 9 then e9 else if g = 10 then e10 else if g = 11 then e11 else if g = 12 then e12 else if g = 14 then e14 else 0
  have hx : Ext (fun _ => none) σ := fun b l h => by cases h
  have hgs : Tz.globals.size = 20 := by kernel_rfl
  have hp : ∀ (b : Nat) (a : Addr), a.spot = none → σ b = some ⟨a.block, a.off, 0, 0⟩ → Rel σ (.iface 286 (.ptr b 0)) (.iface 286 (.pointer (some a))) := by
    intro b a ha hb
    simp only [Rel]
    refine ⟨.pointer (some a), ⟨_, hb, ?_⟩, rfl⟩
    obtain ⟨x, y, z⟩ := a
    have ha : z = none := ha
    subst ha
    rfl
  refine ⟨σ, e, begin_sim (rs := rows0 e) (ms := maps0) (fun g hg => ?_) (fun b l h => ?_) (fun b ee l hm => ?_) (fun b es hm => ?_) (fun b es b' es' l l' hm hm' hl hl' he => ?_)⟩
  · rw [hgs] at hg
    exact ⟨⟨g, 0, tot g, 1⟩, if_pos hg, rfl, rfl⟩
  · have h : (if b < 20 then some (⟨b, 0, tot b, 1⟩ : Loc) else if b = 20 then some ⟨a4.block, a4.off, 0, 0⟩ else if b = 21 then some ⟨a5.block, a5.off, 0, 0⟩ else none) = some l := h
    repeat' (split at h)
    all_goals first | omega | cases h
  · unfold rows0 at hm
    simp only [List.mem_cons, Prod.mk.injEq, List.not_mem_nil, or_false] at hm
    rcases hm with ⟨rfl, rfl, rfl⟩ | ⟨rfl, rfl, rfl⟩ | ⟨rfl, rfl, rfl⟩ | ⟨rfl, rfl, rfl⟩ | ⟨rfl, rfl, rfl⟩ | ⟨rfl, rfl, rfl⟩ | ⟨rfl, rfl, rfl⟩ | ⟨rfl, rfl, rfl⟩
    · exact ⟨cs3, fr3, rfl, h3, RelL.mono hx l3, o3⟩
    · refine ⟨cs4, fr4, rfl, h4, by rw [l4]; exact relL_one (hp 20 a4 s4 rfl), fun v hv => ?_⟩
      have := Array.mem_toList_iff.2 hv
      rw [l4] at this
      have : v = .iface 286 (.pointer (some a4)) := by simpa using this
      subst this; rfl
    · refine ⟨cs5, fr5, rfl, h5, by rw [l5]; exact relL_one (hp 21 a5 s5 rfl), fun v hv => ?_⟩
      have := Array.mem_toList_iff.2 hv
      rw [l5] at this
      have : v = .iface 286 (.pointer (some a5)) := by simpa using this
      subst this; rfl
    · exact ⟨cs9, fr9, rfl, h9, RelL.mono hx l9, o9⟩
    · exact ⟨cs10, fr10, rfl, h10, RelL.mono hx l10, o10⟩
    · exact ⟨cs11, fr11, rfl, h11, RelL.mono hx l11, o11⟩
    · exact ⟨cs12, fr12, rfl, h12, RelL.mono hx l12, o12⟩
    · exact ⟨cs14, fr14, rfl, h14, RelL.mono hx l14, o14⟩
  · cases hm
  · cases hm
end
end Go.AI
