/- What the condition of ChunkKnown says of the world: proved; the package-level variables that its row lists hold what the program's text lays. -/
import Derived.Test.YtlnelphabohehaaGreatDoorKQ
import Derived.Test.YtlnelphabohehaaGreatDoorTie
import Derived.Test.YtlnelphabohehaaGreatDoorCards
import Derived.ProofKit
import Derived.OpenShut
import Derived.LaidMore
import Derived.Lay
import Derived.LaidHandle
import Derived.SevenTiedAt
import Derived.Stop.Joined
set_option maxRecDepth 1000000
set_option maxHeartbeats 0
set_option linter.unusedVariables false
set_option linter.unusedSimpArgs false
namespace Go.AI
open Go Go.Proofs Go.Proofs.YtlnelphabohehaaGreatDoor
noncomputable section
noncomputable abbrev Tz := Tryz.prog
theorem rd34 {W : World} : ReadsAs Tz W 34 1 := reads_int Tryz.underlying34
theorem rd206 {W : World} : ReadsAs Tz W 206 (8 * 1) := reads_array Tryz.underlying206 (by kernel_rfl) (by kernel_rfl) rd34
theorem rd150 {W : World} : ReadsAs Tz W 150 1 := reads_int Tryz.underlying150
theorem rd215 {W : World} : ReadsAs Tz W 215 (20 * 1) := reads_array Tryz.underlying215 (by kernel_rfl) (by kernel_rfl) rd150
theorem rd246 {W : World} : ReadsAs Tz W 246 (64 * 1) := reads_array Tryz.underlying246 (by kernel_rfl) (by kernel_rfl) rd34
theorem rd3 {W : World} : ReadsAs Tz W 3 1 := reads_int Tryz.underlying3
theorem rd290 {W : World} : ReadsAs Tz W 290 (2 * 1) := reads_array Tryz.underlying290 (by kernel_rfl) (by kernel_rfl) rd3
theorem rd5 {W : World} : ReadsAs Tz W 5 1 := reads_int Tryz.underlying5
theorem rd46 {W : World} : ReadsAs Tz W 46 (32 * 1) := reads_array Tryz.underlying46 (by kernel_rfl) (by kernel_rfl) rd5
theorem rd299 {W : World} : ReadsAs Tz W 299 (64 * 1) := reads_array Tryz.underlying299 (by kernel_rfl) (by kernel_rfl) rd5
theorem rd375 {W : World} : ReadsAs Tz W 375 (256 * 1) := reads_array Tryz.underlying375 (by kernel_rfl) (by kernel_rfl) rd5
theorem rd377 {W : World} : ReadsAs Tz W 377 2 := reads_pair Tryz.underlying377 rfl rfl rfl rfl (by kernel_rfl) (by kernel_rfl) rd5
theorem rd378 {W : World} : ReadsAs Tz W 378 (16 * 2) := reads_array Tryz.underlying378 (by kernel_rfl) (by kernel_rfl) rd377
theorem laid_portolan_field_fields_agg (d : DataW Unit) {key : Lit} (h : (key, d) ∈ (match Rows.laid_portolan_field_fields with | .map l => l | _ => ([] : List (Lit × DataW Unit)))) : ∃ ds, d = .agg ds := by
  unfold Rows.laid_portolan_field_fields at h
  simp only [List.mem_cons, Prod.mk.injEq, List.not_mem_nil, or_false] at h
  rcases h with ⟨_, rfl⟩ | ⟨_, rfl⟩ | ⟨_, rfl⟩ | ⟨_, rfl⟩ | ⟨_, rfl⟩ | ⟨_, rfl⟩ | ⟨_, rfl⟩ | ⟨_, rfl⟩ | ⟨_, rfl⟩ | ⟨_, rfl⟩ | ⟨_, rfl⟩ | ⟨_, rfl⟩ | ⟨_, rfl⟩ | ⟨_, rfl⟩ | ⟨_, rfl⟩ | ⟨_, rfl⟩ <;> exact ⟨_, rfl⟩
noncomputable def funV (d : DataW (List UInt8)) : AV := match d with | .held n => cond (n == Tryz.f297.name.toUTF8.data.toList) (.func 297 [] []) (cond (n == Tryz.f298.name.toUTF8.data.toList) (.func 298 [] []) (cond (n == Tryz.f299.name.toUTF8.data.toList) (.func 299 [] []) (.unk))) | _ => .unk
noncomputable def funL : List (DataW (List UInt8)) := [.held Tryz.f297.name.toUTF8.data.toList, .held Tryz.f298.name.toUTF8.data.toList, .held Tryz.f299.name.toUTF8.data.toList]
noncomputable def funD : DataW Unit := match Rows.laid_portolan_path_classes with | .iface _ d => d | _ => .nil
noncomputable def funT : List (Lit × DataW (List UInt8)) := match funD.funcsOut with | .map l => l | _ => []
theorem funV_in (d : DataW (List UInt8)) {key : Lit} (h : (key, d) ∈ funT) : d ∈ funL := by
  have e : funT.map Prod.snd = funL := by kernel_rfl
  rw [← e]
  exact List.mem_map.2 ⟨_, h, rfl⟩
theorem funV_rel {σ : Mp} {W : World} (x : Value) (n : Nat) (y : DataW (List UInt8) × List MemPlace) (hf : x.formed Tz 142 = true) (h : DataW.trod (funcToken Tz) Tz W 0 (fun _ => true) true n 142 x.cells.toList = some y) (hy : y.1 ∈ funL) : Rel σ (funV y.1) x := by
  unfold funL at hy
  simp only [List.mem_cons, List.not_mem_nil, or_false] at hy
  rcases hy with hy | hy | hy
  · rw [hy, show funV (.held Tryz.f297.name.toUTF8.data.toList) = .func 297 [] [] by kernel_rfl]
    exact val_func (name := Tryz.f297.name) Tryz.underlying142 (by kernel_rfl) (by decide +kernel) x n y hf h hy
  · rw [hy, show funV (.held Tryz.f298.name.toUTF8.data.toList) = .func 298 [] [] by kernel_rfl]
    exact val_func (name := Tryz.f298.name) Tryz.underlying142 (by kernel_rfl) (by decide +kernel) x n y hf h hy
  · rw [hy, show funV (.held Tryz.f299.name.toUTF8.data.toList) = .func 299 [] [] by kernel_rfl]
    exact val_func (name := Tryz.f299.name) Tryz.underlying142 (by kernel_rfl) (by decide +kernel) x n y hf h hy
/-- what the row's condition says of the world -/
theorem start_of {W : World} (hH : laidMetH Tz Rows.chunkKnownRow.laid W) : ∃ (σ : Mp) (e : Nat → Nat), Sim Tz σ (H0 e) W := by
  have hL := laidMetH_data hH
  obtain ⟨ps, hlv, hnd, hcell⟩ := hL
  obtain ⟨pf, hpf, _, hap⟩ := laid_places hlv
  have hap := hap hnd
  have hlen : (Rows.chunkKnownRow.laid.filter fun x => x.2.handleName?.isNone).length = 9 := by kernel_rfl
  have tab : ∀ {i : Nat} {n : String} {d : DataW Unit} {g t c : Nat}, (Rows.chunkKnownRow.laid.filter fun x => x.2.handleName?.isNone)[i]? = some (n, d) → Tz.globalNamed n = some g → (Tz.globals[g]?).map (·.type) = some t → ReadsAs Tz W t c →
      ∃ cs e fr, W.heap[g]? = some (.cells cs e fr) ∧ RelL (fun _ => none) (litAV d) cs.toList ∧ ∀ v ∈ cs, v.oneCell' = true := by
    intro i n d g t c hm hg ht hr
    obtain ⟨g', t', cs, fuel, h1, h2, h3, h4, _⟩ := hpf i n d hm
    obtain rfl := Option.some.inj (hg.symm.trans h1)
    obtain rfl := Option.some.inj (ht.symm.trans h2)
    obtain ⟨_, h5, h6⟩ := hr fuel cs.toList (d, pf i) h4
    obtain ⟨e, fr, h7⟩ := var_block h1 h3
    exact ⟨cs, e, fr, h7, h5, fun v hv => h6 v (Array.mem_toList_iff.2 hv)⟩
  obtain ⟨g', t', cs0, fuel0, p0, q1, q2, q3, q4⟩ := laidMetH.funcs hH (n := "portolan/path.classes") (d := funD) (List.mem_of_getElem? (i := 5) (by kernel_rfl))
  have q5 : DataW.funcsOut funD = .map funT := by kernel_rfl
  rw [q5] at q4
  obtain rfl : 0 = g' := Option.some.inj ((show Tz.globalNamed "portolan/path.classes" = some 0 by kernel_rfl).symm.trans q1)
  obtain rfl : 143 = t' := Option.some.inj ((show (Tz.globals[0]?).map (·.type) = some 143 by kernel_rfl).symm.trans q2)
  obtain ⟨e0, fr0, h0⟩ := var_block q1 q3
  have rm0 := fun σ : Mp => reads_map (P := Tz) (σ := σ) (fk := litK) (fv := funV) Tryz.underlying143 q4 (keyK_int Tryz.underlying3)
    (fun x n y hf hy hk => by
      obtain ⟨key, hk⟩ := hk
      have hk := funV_in _ hk
      exact funV_rel x n y hf hy hk)
  clear q1 q2 q3 q4
  obtain ⟨g', t', cs1, fuel1, q1, q2, q3, q4, _⟩ := hpf 7 "portolan/tar.types" Rows.laid_portolan_tar_types (by kernel_rfl)
  obtain rfl : 1 = g' := Option.some.inj ((show Tz.globalNamed "portolan/tar.types" = some 1 by kernel_rfl).symm.trans q1)
  obtain rfl : 145 = t' := Option.some.inj ((show (Tz.globals[1]?).map (·.type) = some 145 by kernel_rfl).symm.trans q2)
  obtain ⟨e1, fr1, h1⟩ := var_block q1 q3
  have rm1 := fun σ : Mp => reads_map (P := Tz) (σ := σ) (fk := litK) (fv := litV) Tryz.underlying145 q4 (keyK_int Tryz.underlying3)
    (fun x n y hf hy _ => val_int Tryz.underlying5 x n y hf hy)
  clear q1 q2 q3 q4
  obtain ⟨cs2, e2, fr2, h2, l2, o2⟩ := tab (i := 6) (n := "portolan/sha.beginning") (d := Rows.laid_portolan_sha_beginning) (g := 2) (t := 206) (by kernel_rfl) (by kernel_rfl) (by kernel_rfl) rd206
  obtain ⟨cs3, e3, fr3, h3, l3, o3⟩ := tab (i := 2) (n := "internal/strconv.uint64pow10") (d := Rows.laid_internal_strconv_uint64pow10) (g := 3) (t := 215) (by kernel_rfl) (by kernel_rfl) (by kernel_rfl) rd215
  obtain ⟨cs6, e6, fr6, h6, l6, o6⟩ := tab (i := 5) (n := "portolan/sha.constants") (d := Rows.laid_portolan_sha_constants) (g := 6) (t := 246) (by kernel_rfl) (by kernel_rfl) (by kernel_rfl) rd246
  obtain ⟨g', t', cs8, fuel8, q1, q2, q3, q4, _⟩ := hpf 4 "portolan/field.fields" Rows.laid_portolan_field_fields (by kernel_rfl)
  obtain rfl : 8 = g' := Option.some.inj ((show Tz.globalNamed "portolan/field.fields" = some 8 by kernel_rfl).symm.trans q1)
  obtain rfl : 292 = t' := Option.some.inj ((show (Tz.globals[8]?).map (·.type) = some 292 by kernel_rfl).symm.trans q2)
  obtain ⟨e8, fr8, h8⟩ := var_block q1 q3
  have rm8 := fun σ : Mp => reads_map (P := Tz) (σ := σ) (fk := litK) (fv := litV) Tryz.underlying292 q4 (keyK_str Tryz.underlying9)
    (fun x n y hf hy hk => val_agg rd290 ⟨_, _, Tryz.underlying290⟩ x n y hf hy (by
      obtain ⟨key, hk⟩ := hk
      exact laid_portolan_field_fields_agg _ hk))
  clear q1 q2 q3 q4
  obtain ⟨cs9, e9, fr9, h9, l9, o9⟩ := tab (i := 0) (n := "math/bits.deBruijn32tab") (d := Rows.laid_math_bits_deBruijn32tab) (g := 9) (t := 46) (by kernel_rfl) (by kernel_rfl) (by kernel_rfl) rd46
  obtain ⟨cs10, e10, fr10, h10, l10, o10⟩ := tab (i := 1) (n := "math/bits.deBruijn64tab") (d := Rows.laid_math_bits_deBruijn64tab) (g := 10) (t := 299) (by kernel_rfl) (by kernel_rfl) (by kernel_rfl) rd299
  obtain ⟨cs18, e18, fr18, h18, l18, o18⟩ := tab (i := 8) (n := "unicode/utf8.first") (d := Rows.laid_unicode_utf8_first) (g := 18) (t := 375) (by kernel_rfl) (by kernel_rfl) (by kernel_rfl) rd375
  obtain ⟨cs19, e19, fr19, h19, l19, o19⟩ := tab (i := 3) (n := "unicode/utf8.acceptRanges") (d := Rows.laid_unicode_utf8_acceptRanges) (g := 19) (t := 378) (by kernel_rfl) (by kernel_rfl) (by kernel_rfl) rd378
  obtain ⟨b1, ents1, ck1, _, ms1, mp1, mh1, _, _⟩ := rm1 (fun _ => none)
  obtain ⟨b8, ents8, ck8, _, ms8, mp8, mh8, _, _⟩ := rm8 (fun _ => none)
  obtain ⟨b0, ents0, ck0, _, ms0, mp0, mh0, _, _⟩ := rm0 (fun _ => none)
  let tot : Nat → Nat := fun g => if g = 2 then lenL (litAV Rows.laid_portolan_sha_beginning) else if g = 3 then lenL (litAV Rows.laid_internal_strconv_uint64pow10) else if g = 6 then lenL (litAV Rows.laid_portolan_sha_constants) else if g = 9 then lenL (litAV Rows.laid_math_bits_deBruijn32tab) else if g = 10 then lenL (litAV Rows.laid_math_bits_deBruijn64tab) else if g = 18 then lenL (litAV Rows.laid_unicode_utf8_first) else if g = 19 then lenL (litAV Rows.laid_unicode_utf8_acceptRanges) else 1
  let σ : Mp := fun b => if b < 20 then some ⟨b, 0, tot b, 1⟩ else if b = 21 then some ⟨b1, 0, 0, 0⟩ else if b = 22 then some ⟨b8, 0, 0, 0⟩ else if b = 20 then some ⟨b0, 0, 0, 0⟩ else none
  let e : Nat → Nat := fun g => if g = 0 then e0 else if g = 1 then e1 else if g = 2 then e2 else if g = 3 then e3 else if g = 6 then e6 else if g = 8 then e8 else if g = 9 then e9 else if g = 10 then e10 else if g = 18 then e18 else if g = 19 then e19 else 0
  have hx : Ext (fun _ => none) σ := fun b l h => by cases h
  have hgs : Tz.globals.size = 20 := by kernel_rfl
  refine ⟨σ, e, begin_sim (rs := rows0 e) (ms := maps0) (fun g hg => ?_) (fun b l h => ?_) (fun b ee l hm => ?_) (fun b es hm => ?_) (fun b es b' es' l l' hm hm' hl hl' he => ?_)⟩
  · rw [hgs] at hg
    exact ⟨⟨g, 0, tot g, 1⟩, if_pos hg, rfl, rfl⟩
  · have h : (if b < 20 then some (⟨b, 0, tot b, 1⟩ : Loc) else if b = 21 then some ⟨b1, 0, 0, 0⟩ else if b = 22 then some ⟨b8, 0, 0, 0⟩ else if b = 20 then some ⟨b0, 0, 0, 0⟩ else none) = some l := h
    repeat' (split at h)
    all_goals first | omega | cases h
  · unfold rows0 at hm
    simp only [List.mem_cons, Prod.mk.injEq, List.not_mem_nil, or_false] at hm
    rcases hm with ⟨rfl, rfl, rfl⟩ | ⟨rfl, rfl, rfl⟩ | ⟨rfl, rfl, rfl⟩ | ⟨rfl, rfl, rfl⟩ | ⟨rfl, rfl, rfl⟩ | ⟨rfl, rfl, rfl⟩ | ⟨rfl, rfl, rfl⟩ | ⟨rfl, rfl, rfl⟩ | ⟨rfl, rfl, rfl⟩ | ⟨rfl, rfl, rfl⟩
    · refine ⟨cs0, fr0, rfl, h0, by rw [ms0]; exact relL_one (by simp only [Rel]; exact ⟨⟨b0, 0, 0, 0⟩, rfl, rfl⟩), fun v hv => ?_⟩
      have := Array.mem_toList_iff.2 hv
      rw [ms0] at this
      have : v = .map (some b0) := by simpa using this
      subst this; rfl
    · refine ⟨cs1, fr1, rfl, h1, by rw [ms1]; exact relL_one (by simp only [Rel]; exact ⟨⟨b1, 0, 0, 0⟩, rfl, rfl⟩), fun v hv => ?_⟩
      have := Array.mem_toList_iff.2 hv
      rw [ms1] at this
      have : v = .map (some b1) := by simpa using this
      subst this; rfl
    · exact ⟨cs2, fr2, rfl, h2, RelL.mono hx l2, o2⟩
    · exact ⟨cs3, fr3, rfl, h3, RelL.mono hx l3, o3⟩
    · exact ⟨cs6, fr6, rfl, h6, RelL.mono hx l6, o6⟩
    · refine ⟨cs8, fr8, rfl, h8, by rw [ms8]; exact relL_one (by simp only [Rel]; exact ⟨⟨b8, 0, 0, 0⟩, rfl, rfl⟩), fun v hv => ?_⟩
      have := Array.mem_toList_iff.2 hv
      rw [ms8] at this
      have : v = .map (some b8) := by simpa using this
      subst this; rfl
    · exact ⟨cs9, fr9, rfl, h9, RelL.mono hx l9, o9⟩
    · exact ⟨cs10, fr10, rfl, h10, RelL.mono hx l10, o10⟩
    · exact ⟨cs18, fr18, rfl, h18, RelL.mono hx l18, o18⟩
    · exact ⟨cs19, fr19, rfl, h19, RelL.mono hx l19, o19⟩
  · unfold maps0 at hm
    simp only [List.mem_cons, Prod.mk.injEq, List.not_mem_nil, or_false] at hm
    rcases hm with ⟨rfl, rfl⟩ | ⟨rfl, rfl⟩ | ⟨rfl, rfl⟩
    · obtain ⟨b', ents, clock, fs, m1, _, m3, m4, m5⟩ := rm0 σ
      rw [ms0] at m1
      cases m1
      exact ⟨⟨b0, 0, 0, 0⟩, ents, clock, fs, rfl, m3, m4, m5.trans (List.Perm.of_eq (by kernel_rfl)), apartAll_pw (by kernel_rfl)⟩
    · obtain ⟨b', ents, clock, fs, m1, _, m3, m4, m5⟩ := rm1 σ
      rw [ms1] at m1
      cases m1
      exact ⟨⟨b1, 0, 0, 0⟩, ents, clock, fs, rfl, m3, m4, m5.trans (List.Perm.of_eq (by kernel_rfl)), apartAll_pw (by kernel_rfl)⟩
    · obtain ⟨b', ents, clock, fs, m1, _, m3, m4, m5⟩ := rm8 σ
      rw [ms8] at m1
      cases m1
      exact ⟨⟨b8, 0, 0, 0⟩, ents, clock, fs, rfl, m3, m4, m5.trans (List.Perm.of_eq (by kernel_rfl)), apartAll_pw (by kernel_rfl)⟩
  · unfold maps0 at hm hm'
    simp only [List.mem_cons, Prod.mk.injEq, List.not_mem_nil, or_false] at hm hm'
    rcases hm with ⟨rfl, rfl⟩ | ⟨rfl, rfl⟩ | ⟨rfl, rfl⟩ <;> rcases hm' with ⟨rfl, rfl⟩ | ⟨rfl, rfl⟩ | ⟨rfl, rfl⟩ <;> cases hl <;> cases hl' <;> simp only at he <;> first | rfl | skip
    · exfalso
      have he := he
      obtain ⟨b1, en1, ck1, fs1, k1, _, k3, k4, k5⟩ := rm0 σ
      obtain ⟨b2, en2, ck2, fs2, j1, _, j3, j4, j5⟩ := rm1 σ
      rw [ms0] at k1; cases k1
      rw [ms1] at j1; cases j1
      rw [he, j3] at k3; cases k3
      exact ents_apart k4 j4 (es := [⟨.int .i64 1, .func 297 [] [], 0⟩, ⟨.int .i64 2, .func 298 [] [], 0⟩, ⟨.int .i64 3, .func 299 [] [], 0⟩]) (es' := mapEs Rows.laid_portolan_tar_types) (k5.trans (List.Perm.of_eq (by kernel_rfl))) (j5.trans (List.Perm.of_eq (by kernel_rfl))) (by kernel_rfl) (by kernel_rfl) (by simp)
    · exfalso
      have he := he
      obtain ⟨b1, en1, ck1, fs1, k1, _, k3, k4, k5⟩ := rm0 σ
      obtain ⟨b2, en2, ck2, fs2, j1, _, j3, j4, j5⟩ := rm8 σ
      rw [ms0] at k1; cases k1
      rw [ms8] at j1; cases j1
      rw [he, j3] at k3; cases k3
      exact ents_apart k4 j4 (es := [⟨.int .i64 1, .func 297 [] [], 0⟩, ⟨.int .i64 2, .func 298 [] [], 0⟩, ⟨.int .i64 3, .func 299 [] [], 0⟩]) (es' := mapEs Rows.laid_portolan_field_fields) (k5.trans (List.Perm.of_eq (by kernel_rfl))) (j5.trans (List.Perm.of_eq (by kernel_rfl))) (by kernel_rfl) (by kernel_rfl) (by simp)
    · exfalso
      have he := he.symm
      obtain ⟨b1, en1, ck1, fs1, k1, _, k3, k4, k5⟩ := rm0 σ
      obtain ⟨b2, en2, ck2, fs2, j1, _, j3, j4, j5⟩ := rm1 σ
      rw [ms0] at k1; cases k1
      rw [ms1] at j1; cases j1
      rw [he, j3] at k3; cases k3
      exact ents_apart k4 j4 (es := [⟨.int .i64 1, .func 297 [] [], 0⟩, ⟨.int .i64 2, .func 298 [] [], 0⟩, ⟨.int .i64 3, .func 299 [] [], 0⟩]) (es' := mapEs Rows.laid_portolan_tar_types) (k5.trans (List.Perm.of_eq (by kernel_rfl))) (j5.trans (List.Perm.of_eq (by kernel_rfl))) (by kernel_rfl) (by kernel_rfl) (by simp)
    · exact (hap 4 7 _ (by omega) (by rw [hlen]; omega) mp8 (by rw [← he]; exact mp1)).elim
    · exfalso
      have he := he.symm
      obtain ⟨b1, en1, ck1, fs1, k1, _, k3, k4, k5⟩ := rm0 σ
      obtain ⟨b2, en2, ck2, fs2, j1, _, j3, j4, j5⟩ := rm8 σ
      rw [ms0] at k1; cases k1
      rw [ms8] at j1; cases j1
      rw [he, j3] at k3; cases k3
      exact ents_apart k4 j4 (es := [⟨.int .i64 1, .func 297 [] [], 0⟩, ⟨.int .i64 2, .func 298 [] [], 0⟩, ⟨.int .i64 3, .func 299 [] [], 0⟩]) (es' := mapEs Rows.laid_portolan_field_fields) (k5.trans (List.Perm.of_eq (by kernel_rfl))) (j5.trans (List.Perm.of_eq (by kernel_rfl))) (by kernel_rfl) (by kernel_rfl) (by simp)
    · exact (hap 4 7 _ (by omega) (by rw [hlen]; omega) mp8 (by rw [he]; exact mp1)).elim
end
end Go.AI
