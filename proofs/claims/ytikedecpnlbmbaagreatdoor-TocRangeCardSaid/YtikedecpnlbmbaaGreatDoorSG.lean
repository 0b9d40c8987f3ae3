/- What the condition of TocRange says of the world: proved; the package-level variables that its row lists hold what the program's text lays. -/
import Derived.Test.YtikedecpnlbmbaaGreatDoorKG
import Derived.Test.YtikedecpnlbmbaaGreatDoorTie
import Derived.Test.YtikedecpnlbmbaaGreatDoorCards
import Derived.ProofKit
import Derived.OpenShut
import Derived.LaidMore
import Derived.Lay
import Derived.LaidHandle
import Derived.SevenTiedAt
import Derived.Stop.Joined
set_option maxRecDepth 1000000
set_option linter.unusedVariables false
set_option linter.unusedSimpArgs false
set_option maxRecDepth 1000000
set_option maxHeartbeats 0
namespace Go.AI
open Go Go.Proofs Go.Proofs.YtikedecpnlbmbaaGreatDoor
noncomputable section
noncomputable abbrev Tz := Tryz.prog
theorem rd9 {W : World} : ReadsAs Tz W 9 1 := reads_str Tryz.underlying9
theorem rd111 {W : World} : ReadsAs Tz W 111 (5 * 1) := reads_array Tryz.underlying111 (by kernel_rfl) (by kernel_rfl) rd9
theorem rd32 {W : World} : ReadsAs Tz W 32 1 := reads_int Tryz.underlying32
theorem rd131 {W : World} : ReadsAs Tz W 131 (8 * 1) := reads_array Tryz.underlying131 (by kernel_rfl) (by kernel_rfl) rd32
theorem rd163 {W : World} : ReadsAs Tz W 163 (64 * 1) := reads_array Tryz.underlying163 (by kernel_rfl) (by kernel_rfl) rd32
theorem rd5 {W : World} : ReadsAs Tz W 5 1 := reads_int Tryz.underlying5
theorem rd198 {W : World} : ReadsAs Tz W 198 (256 * 1) := reads_array Tryz.underlying198 (by kernel_rfl) (by kernel_rfl) rd5
theorem rd200 {W : World} : ReadsAs Tz W 200 2 := reads_pair Tryz.underlying200 rfl rfl rfl rfl (by kernel_rfl) (by kernel_rfl) rd5
theorem rd201 {W : World} : ReadsAs Tz W 201 (16 * 2) := reads_array Tryz.underlying201 (by kernel_rfl) (by kernel_rfl) rd200
theorem rd132 {W : World} : ReadsAs Tz W 132 1 := reads_int Tryz.underlying132
theorem rd226 {W : World} : ReadsAs Tz W 226 (20 * 1) := reads_array Tryz.underlying226 (by kernel_rfl) (by kernel_rfl) rd132
theorem rd41 {W : World} : ReadsAs Tz W 41 (32 * 1) := reads_array Tryz.underlying41 (by kernel_rfl) (by kernel_rfl) rd5
theorem rd250 {W : World} : ReadsAs Tz W 250 (64 * 1) := reads_array Tryz.underlying250 (by kernel_rfl) (by kernel_rfl) rd5
theorem cellErr : 1 ≤ Tz.cellsOf 254 := of_decide_eq_true (by kernel_rfl)
theorem err_name (u : TypeId) (h : Tz.typeName? 3 u = some "*errors.errorString") : u = 252 := by
  have hlt := named_pointer (P := Tz) (name := "*errors.errorString") (inner := "errors.errorString") (by decide) (fun m h => by
    have h2 : "errors.errorString".toList = ("*" ++ m).toList := by rw [← h]
    rw [String.toList_append] at h2
    cases h2) (by kernel_rfl) h
  have hall : ((List.range Tz.types.size).all fun u => Tz.typeName? 3 u != some "*errors.errorString" || u == 252) = true := by kernel_rfl
  have h3 := List.all_eq_true.1 hall u (List.mem_range.2 hlt)
  rw [h] at h3
  simpa using h3
noncomputable def funV (d : DataW (List UInt8)) : AV := match d with | .held n => cond (n == Tryz.f242.name.toUTF8.data.toList) (.func 242 [] []) (cond (n == Tryz.f243.name.toUTF8.data.toList) (.func 243 [] []) (cond (n == Tryz.f244.name.toUTF8.data.toList) (.func 244 [] []) (.unk))) | _ => .unk
noncomputable def funL : List (DataW (List UInt8)) := [.held Tryz.f242.name.toUTF8.data.toList, .held Tryz.f243.name.toUTF8.data.toList, .held Tryz.f244.name.toUTF8.data.toList]
noncomputable def funD : DataW Unit := match Rows.laid_portolan_path_classes with | .iface _ d => d | _ => .nil
noncomputable def funT : List (Lit × DataW (List UInt8)) := match funD.funcsOut with | .map l => l | _ => []
theorem funV_in (d : DataW (List UInt8)) {key : Lit} (h : (key, d) ∈ funT) : d ∈ funL := by
  have e : funT.map Prod.snd = funL := by kernel_rfl
  rw [← e]
  exact List.mem_map.2 ⟨_, h, rfl⟩
theorem funV_rel {σ : Mp} {W : World} (x : Value) (n : Nat) (y : DataW (List UInt8) × List MemPlace) (hf : x.formed Tz 138 = true) (h : DataW.trod (funcToken Tz) Tz W 0 (fun _ => true) true n 138 x.cells.toList = some y) (hy : y.1 ∈ funL) : Rel σ (funV y.1) x := by
  unfold funL at hy
  simp only [List.mem_cons, List.not_mem_nil, or_false] at hy
  rcases hy with hy | hy | hy
  · rw [hy, show funV (.held Tryz.f242.name.toUTF8.data.toList) = .func 242 [] [] by kernel_rfl]
    exact val_func (name := Tryz.f242.name) Tryz.underlying138 (by kernel_rfl) (by decide +kernel) x n y hf h hy
  · rw [hy, show funV (.held Tryz.f243.name.toUTF8.data.toList) = .func 243 [] [] by kernel_rfl]
    exact val_func (name := Tryz.f243.name) Tryz.underlying138 (by kernel_rfl) (by decide +kernel) x n y hf h hy
  · rw [hy, show funV (.held Tryz.f244.name.toUTF8.data.toList) = .func 244 [] [] by kernel_rfl]
    exact val_func (name := Tryz.f244.name) Tryz.underlying138 (by kernel_rfl) (by decide +kernel) x n y hf h hy
/-- what the row's condition says of the world -/
theorem start_of {W : World} (hH : laidMetH Tz Rows.tocRangeRow.laid W) : ∃ (σ : Mp) (e : Nat → Nat), Sim Tz σ (H0 e) W := by
  have hL := laidMetH_data hH
  obtain ⟨ps, hlv, hnd, hcell⟩ := hL
  obtain ⟨pf, hpf, _, hap⟩ := laid_places hlv
  have hap := hap hnd
  have hlen : (Rows.tocRangeRow.laid.filter fun x => x.2.handleName?.isNone).length = 11 := by kernel_rfl
  have tab : ∀ {i : Nat} {n : String} {d : DataW Unit} {g t c : Nat}, (Rows.tocRangeRow.laid.filter fun x => x.2.handleName?.isNone)[i]? = some (n, d) → Tz.globalNamed n = some g → (Tz.globals[g]?).map (·.type) = some t → ReadsAs Tz W t c →
      ∃ cs e fr, W.heap[g]? = some (.cells cs e fr) ∧ RelL (fun _ => none) (litAV d) cs.toList ∧ ∀ v ∈ cs, v.oneCell' = true := by
    intro i n d g t c hm hg ht hr
    obtain ⟨g', t', cs, fuel, h1, h2, h3, h4, _⟩ := hpf i n d hm
    obtain rfl := Option.some.inj (hg.symm.trans h1)
    obtain rfl := Option.some.inj (ht.symm.trans h2)
    obtain ⟨_, h5, h6⟩ := hr fuel cs.toList (d, pf i) h4
    obtain ⟨e, fr, h7⟩ := var_block h1 h3
    exact ⟨cs, e, fr, h7, h5, fun v hv => h6 v (Array.mem_toList_iff.2 hv)⟩
  have err : ∀ {i : Nat} {n : String} {D : DataW Unit} {g : Nat}, (Rows.tocRangeRow.laid.filter fun x => x.2.handleName?.isNone)[i]? = some (n, DataW.iface "*errors.errorString" (.ptr D)) → Tz.globalNamed n = some g → (Tz.globals[g]?).map (·.type) = some 59 →
      ∃ (cs : Array Value) (e : Nat) (fr : Nat × Nat) (a : Addr), W.heap[g]? = some (.cells cs e fr) ∧ a.spot = none ∧ cs.toList = [.iface 252 (.pointer (some a))] := by
    intro i n D g hm hg ht
    obtain ⟨g', t', cs, fuel, h1, h2, h3, h4, h5⟩ := hpf i n _ hm
    obtain rfl := Option.some.inj (hg.symm.trans h1)
    obtain rfl := Option.some.inj (ht.symm.trans h2)
    obtain ⟨e, fr, h7⟩ := var_block h1 h3
    obtain ⟨a, h8, h9⟩ := reads_err Tryz.underlying59 h4 err_name Tryz.underlying252 cellErr (fun u v hcs => by
      have hsz : cs.size = 1 := by rw [← Array.length_toList, hcs]; rfl
      have hin := h5 (.cell g 0) (by rw [hsz]; exact List.mem_cons_self ..)
      refine (hcell g 0 hin).2 u v ?_
      rw [World.var?_cell h1 h3 0, ← Array.getElem?_toList, hcs]; rfl)
    exact ⟨cs, e, fr, a, h7, h8, h9⟩
  obtain ⟨cs0, e0, fr0, h0, l0, o0⟩ := tab (i := 9) (n := "portolan/toc.kinds") (d := Rows.laid_portolan_toc_kinds) (g := 0) (t := 111) (by kernel_rfl) (by kernel_rfl) (by kernel_rfl) rd111
  obtain ⟨cs1, e1, fr1, h1, l1, o1⟩ := tab (i := 7) (n := "portolan/sha.beginning") (d := Rows.laid_portolan_sha_beginning) (g := 1) (t := 131) (by kernel_rfl) (by kernel_rfl) (by kernel_rfl) rd131
  obtain ⟨g', t', cs2, fuel2, p2, q1, q2, q3, q4⟩ := laidMetH.funcs hH (n := "portolan/path.classes") (d := funD) (List.mem_of_getElem? (i := 6) (by kernel_rfl))
  have q5 : DataW.funcsOut funD = .map funT := by kernel_rfl
  rw [q5] at q4
  obtain rfl : 2 = g' := Option.some.inj ((show Tz.globalNamed "portolan/path.classes" = some 2 by kernel_rfl).symm.trans q1)
  obtain rfl : 139 = t' := Option.some.inj ((show (Tz.globals[2]?).map (·.type) = some 139 by kernel_rfl).symm.trans q2)
  obtain ⟨e2, fr2, h2⟩ := var_block q1 q3
  have rm2 := fun σ : Mp => reads_map (P := Tz) (σ := σ) (fk := litK) (fv := funV) Tryz.underlying139 q4 (keyK_int Tryz.underlying3)
    (fun x n y hf hy hk => by
      obtain ⟨key, hk⟩ := hk
      have hk := funV_in _ hk
      exact funV_rel x n y hf hy hk)
  clear q1 q2 q3 q4
  obtain ⟨g', t', cs3, fuel3, q1, q2, q3, q4, _⟩ := hpf 8 "portolan/tar.types" Rows.laid_portolan_tar_types (by kernel_rfl)
  obtain rfl : 3 = g' := Option.some.inj ((show Tz.globalNamed "portolan/tar.types" = some 3 by kernel_rfl).symm.trans q1)
  obtain rfl : 141 = t' := Option.some.inj ((show (Tz.globals[3]?).map (·.type) = some 141 by kernel_rfl).symm.trans q2)
  obtain ⟨e3, fr3, h3⟩ := var_block q1 q3
  have rm3 := fun σ : Mp => reads_map (P := Tz) (σ := σ) (fk := litK) (fv := litV) Tryz.underlying141 q4 (keyK_int Tryz.underlying3)
    (fun x n y hf hy _ => val_int Tryz.underlying5 x n y hf hy)
  clear q1 q2 q3 q4
  obtain ⟨cs5, e5, fr5, h5, l5, o5⟩ := tab (i := 6) (n := "portolan/sha.constants") (d := Rows.laid_portolan_sha_constants) (g := 5) (t := 163) (by kernel_rfl) (by kernel_rfl) (by kernel_rfl) rd163
  obtain ⟨cs6, e6, fr6, h6, l6, o6⟩ := tab (i := 10) (n := "unicode/utf8.first") (d := Rows.laid_unicode_utf8_first) (g := 6) (t := 198) (by kernel_rfl) (by kernel_rfl) (by kernel_rfl) rd198
  obtain ⟨cs7, e7, fr7, h7, l7, o7⟩ := tab (i := 3) (n := "unicode/utf8.acceptRanges") (d := Rows.laid_unicode_utf8_acceptRanges) (g := 7) (t := 201) (by kernel_rfl) (by kernel_rfl) (by kernel_rfl) rd201
  obtain ⟨cs8, e8, fr8, h8, l8, o8⟩ := tab (i := 2) (n := "internal/strconv.uint64pow10") (d := Rows.laid_internal_strconv_uint64pow10) (g := 8) (t := 226) (by kernel_rfl) (by kernel_rfl) (by kernel_rfl) rd226
  obtain ⟨cs9, e9, fr9, a9, h9, s9, l9⟩ := err (i := 5) (n := "strconv.ErrSyntax") (D := (match Rows.laid_strconv_ErrSyntax with | .iface _ (.ptr d) => d | _ => (.nil : DataW Unit))) (g := 9) (by kernel_rfl) (by kernel_rfl) (by kernel_rfl)
  obtain ⟨cs10, e10, fr10, a10, h10, s10, l10⟩ := err (i := 4) (n := "strconv.ErrRange") (D := (match Rows.laid_strconv_ErrRange with | .iface _ (.ptr d) => d | _ => (.nil : DataW Unit))) (g := 10) (by kernel_rfl) (by kernel_rfl) (by kernel_rfl)
  obtain ⟨cs11, e11, fr11, h11, l11, o11⟩ := tab (i := 0) (n := "math/bits.deBruijn32tab") (d := Rows.laid_math_bits_deBruijn32tab) (g := 11) (t := 41) (by kernel_rfl) (by kernel_rfl) (by kernel_rfl) rd41
  obtain ⟨cs12, e12, fr12, h12, l12, o12⟩ := tab (i := 1) (n := "math/bits.deBruijn64tab") (d := Rows.laid_math_bits_deBruijn64tab) (g := 12) (t := 250) (by kernel_rfl) (by kernel_rfl) (by kernel_rfl) rd250
  obtain ⟨b3, ents3, ck3, _, ms3, mp3, mh3, _, _⟩ := rm3 (fun _ => none)
  obtain ⟨b2, ents2, ck2, _, ms2, mp2, mh2, _, _⟩ := rm2 (fun _ => none)
  let tot : Nat → Nat := fun g => if g = 0 then lenL (litAV Rows.laid_portolan_toc_kinds) else if g = 1 then lenL (litAV Rows.laid_portolan_sha_beginning) else if g = 5 then lenL (litAV Rows.laid_portolan_sha_constants) else if g = 6 then lenL (litAV Rows.laid_unicode_utf8_first) else if g = 7 then lenL (litAV Rows.laid_unicode_utf8_acceptRanges) else if g = 8 then lenL (litAV Rows.laid_internal_strconv_uint64pow10) else if g = 11 then lenL (litAV Rows.laid_math_bits_deBruijn32tab) else if g = 12 then lenL (litAV Rows.laid_math_bits_deBruijn64tab) else 1
  let σ : Mp := fun b => if b < 13 then some ⟨b, 0, tot b, 1⟩ else if b = 15 then some ⟨a9.block, a9.off, 0, 0⟩ else if b = 16 then some ⟨a10.block, a10.off, 0, 0⟩ else if b = 14 then some ⟨b3, 0, 0, 0⟩ else if b = 13 then some ⟨b2, 0, 0, 0⟩ else none
  let e : Nat → Nat := fun g => if g = 0 then e0 else if g = 1 then e1 else if g = 2 then e2 else if g = 3 then e3 else if g = 5 then e5 else if g = 6 then e6 else if g = 7 then e7 else if g = 8 then e8 else if g = 9 then e9 else if g = 10 then e10 else if g = 11 then e11 else if g = 12 then e12 else 0
  have hx : Ext (fun _ => none) σ := fun b l h => by cases h
  have hgs : Tz.globals.size = 13 := by kernel_rfl
  have hp : ∀ (b : Nat) (a : Addr), a.spot = none → σ b = some ⟨a.block, a.off, 0, 0⟩ → Rel σ (.iface 252 (.ptr b 0)) (.iface 252 (.pointer (some a))) := by
    intro b a ha hb
    simp only [Rel]
    refine ⟨.pointer (some a), ⟨_, hb, ?_⟩, rfl⟩
    obtain ⟨x, y, z⟩ := a
    have ha : z = none := ha
    subst ha
    rfl
  refine ⟨σ, e, begin_sim (rs := rows0 e) (ms := maps0) (fun g hg => ?_) (fun b l h => ?_) (fun b ee l hm => ?_) (fun b es hm => ?_) (fun b es b' es' l l' hm hm' hl hl' he => ?_)⟩
  · rw [hgs] at hg
    exact ⟨⟨g, 0, tot g, 1⟩, if_pos hg, rfl, rfl⟩
  · have h : (if b < 13 then some (⟨b, 0, tot b, 1⟩ : Loc) else if b = 15 then some ⟨a9.block, a9.off, 0, 0⟩ else if b = 16 then some ⟨a10.block, a10.off, 0, 0⟩ else if b = 14 then some ⟨b3, 0, 0, 0⟩ else if b = 13 then some ⟨b2, 0, 0, 0⟩ else none) = some l := h
    repeat' (split at h)
    all_goals first | omega | cases h
  · unfold rows0 at hm
    simp only [List.mem_cons, Prod.mk.injEq, List.not_mem_nil, or_false] at hm
    rcases hm with ⟨rfl, rfl, rfl⟩ | ⟨rfl, rfl, rfl⟩ | ⟨rfl, rfl, rfl⟩ | ⟨rfl, rfl, rfl⟩ | ⟨rfl, rfl, rfl⟩ | ⟨rfl, rfl, rfl⟩ | ⟨rfl, rfl, rfl⟩ | ⟨rfl, rfl, rfl⟩ | ⟨rfl, rfl, rfl⟩ | ⟨rfl, rfl, rfl⟩ | ⟨rfl, rfl, rfl⟩ | ⟨rfl, rfl, rfl⟩
    · exact ⟨cs0, fr0, rfl, h0, RelL.mono hx l0, o0⟩
    · exact ⟨cs1, fr1, rfl, h1, RelL.mono hx l1, o1⟩
    · refine ⟨cs2, fr2, rfl, h2, by rw [ms2]; exact relL_one (by simp only [Rel]; exact ⟨⟨b2, 0, 0, 0⟩, rfl, rfl⟩), fun v hv => ?_⟩
      have := Array.mem_toList_iff.2 hv
      rw [ms2] at this
      have : v = .map (some b2) := by simpa using this
      subst this; rfl
    · refine ⟨cs3, fr3, rfl, h3, by rw [ms3]; exact relL_one (by simp only [Rel]; exact ⟨⟨b3, 0, 0, 0⟩, rfl, rfl⟩), fun v hv => ?_⟩
      have := Array.mem_toList_iff.2 hv
      rw [ms3] at this
      have : v = .map (some b3) := by simpa using this
      subst this; rfl
    · exact ⟨cs5, fr5, rfl, h5, RelL.mono hx l5, o5⟩
    · exact ⟨cs6, fr6, rfl, h6, RelL.mono hx l6, o6⟩
    · exact ⟨cs7, fr7, rfl, h7, RelL.mono hx l7, o7⟩
    · exact ⟨cs8, fr8, rfl, h8, RelL.mono hx l8, o8⟩
    · refine ⟨cs9, fr9, rfl, h9, by rw [l9]; exact relL_one (hp 15 a9 s9 rfl), fun v hv => ?_⟩
      have := Array.mem_toList_iff.2 hv
      rw [l9] at this
      have : v = .iface 252 (.pointer (some a9)) := by simpa using this
      subst this; rfl
    · refine ⟨cs10, fr10, rfl, h10, by rw [l10]; exact relL_one (hp 16 a10 s10 rfl), fun v hv => ?_⟩
      have := Array.mem_toList_iff.2 hv
      rw [l10] at this
      have : v = .iface 252 (.pointer (some a10)) := by simpa using this
      subst this; rfl
    · exact ⟨cs11, fr11, rfl, h11, RelL.mono hx l11, o11⟩
    · exact ⟨cs12, fr12, rfl, h12, RelL.mono hx l12, o12⟩
  · unfold maps0 at hm
    simp only [List.mem_cons, Prod.mk.injEq, List.not_mem_nil, or_false] at hm
    rcases hm with ⟨rfl, rfl⟩ | ⟨rfl, rfl⟩
    · obtain ⟨b', ents, clock, fs, m1, _, m3, m4, m5⟩ := rm2 σ
      rw [ms2] at m1
      cases m1
      exact ⟨⟨b2, 0, 0, 0⟩, ents, clock, fs, rfl, m3, m4, m5.trans (List.Perm.of_eq (by kernel_rfl)), apartAll_pw (by kernel_rfl)⟩
    · obtain ⟨b', ents, clock, fs, m1, _, m3, m4, m5⟩ := rm3 σ
      rw [ms3] at m1
      cases m1
      exact ⟨⟨b3, 0, 0, 0⟩, ents, clock, fs, rfl, m3, m4, m5.trans (List.Perm.of_eq (by kernel_rfl)), apartAll_pw (by kernel_rfl)⟩
  · unfold maps0 at hm hm'
    simp only [List.mem_cons, Prod.mk.injEq, List.not_mem_nil, or_false] at hm hm'
    rcases hm with ⟨rfl, rfl⟩ | ⟨rfl, rfl⟩ <;> rcases hm' with ⟨rfl, rfl⟩ | ⟨rfl, rfl⟩ <;> cases hl <;> cases hl' <;> simp only at he <;> first | rfl | skip
    · exfalso
      have he := he
      obtain ⟨b1, en1, ck1, fs1, k1, _, k3, k4, k5⟩ := rm2 σ
      obtain ⟨b2, en2, ck2, fs2, j1, _, j3, j4, j5⟩ := rm3 σ
      rw [ms2] at k1; cases k1
      rw [ms3] at j1; cases j1
      rw [he, j3] at k3; cases k3
      exact ents_apart k4 j4 (es := [⟨.int .i64 1, .func 242 [] [], 0⟩, ⟨.int .i64 2, .func 243 [] [], 0⟩, ⟨.int .i64 3, .func 244 [] [], 0⟩]) (es' := mapEs Rows.laid_portolan_tar_types) (k5.trans (List.Perm.of_eq (by kernel_rfl))) (j5.trans (List.Perm.of_eq (by kernel_rfl))) (by kernel_rfl) (by kernel_rfl) (by simp)
    · exfalso
      have he := he.symm
      obtain ⟨b1, en1, ck1, fs1, k1, _, k3, k4, k5⟩ := rm2 σ
      obtain ⟨b2, en2, ck2, fs2, j1, _, j3, j4, j5⟩ := rm3 σ
      rw [ms2] at k1; cases k1
      rw [ms3] at j1; cases j1
      rw [he, j3] at k3; cases k3
      exact ents_apart k4 j4 (es := [⟨.int .i64 1, .func 242 [] [], 0⟩, ⟨.int .i64 2, .func 243 [] [], 0⟩, ⟨.int .i64 3, .func 244 [] [], 0⟩]) (es' := mapEs Rows.laid_portolan_tar_types) (k5.trans (List.Perm.of_eq (by kernel_rfl))) (j5.trans (List.Perm.of_eq (by kernel_rfl))) (by kernel_rfl) (by kernel_rfl) (by simp)
end
end Go.AI
