/- The law JsonKnown returns true, and its card holds: proved; the package-level variables that its row lists hold what the program's text lays. -/
import Derived.Test.YtjippcoifkobfaaGreatDoorJ4
import Derived.Test.YtjippcoifkobfaaGreatDoorTie
import Derived.Test.YtjippcoifkobfaaGreatDoorCards
import Derived.ProofKit
import Derived.OpenShut
import Derived.LaidMore
import Derived.Lay
import Derived.SevenTiedAt
import Derived.Stop.Joined
/- The law JsonKnown of package portolanlaw13 returns true; the package-level variables that its row lists hold what the program's text lays; no other condition. -/
set_option maxRecDepth 1000000
namespace Go.AI
open Go Go.Proofs Go.Proofs.YtjippcoifkobfaaGreatDoor
noncomputable section
theorem mixed : Tryz.prog.follows .mixedOrders = true := by kernel_rfl
theorem lib_ok : LibOk Tryz.prog lib := by
  intro f args H r h σ w vs hs hv
  unfold lib at h
  cases h1 : Nat.beq f 137 with
  | true =>
    rw [h1] at h
    have := Nat.eq_of_beq_eq_true h1
    subst this
    simp only [cond_true] at h
    split at h
    · rename_i s c
      cases hc : Nat.ble c 255 with
      | false => rw [hc] at h; cases h
      | true =>
        rw [hc] at h; cases h
        exact lib_index Tryz.func137 (by kernel_rfl) (by kernel_rfl) (by kernel_rfl) (by kernel_rfl) hc hs hv
    · cases h
  | false =>
    rw [h1] at h
    cases h2 : Nat.beq f 106 with
    | true =>
      rw [h2] at h
      have := Nat.eq_of_beq_eq_true h2
      subst this
      simp only [cond_true, cond_false] at h
      split at h
      · cases h
        exact lib_noEscape Tryz.func106 (by kernel_rfl) (by kernel_rfl) (by kernel_rfl) (by kernel_rfl) hs hv
      · cases h
    | false =>
      rw [h2] at h
      cases h3 : Nat.beq f 107 with
      | false => rw [h3] at h; cases h
      | true =>
        rw [h3] at h
        have := Nat.eq_of_beq_eq_true h3
        subst this
        simp only [cond_true, cond_false] at h
        split at h
        · rename_i n
          cases hn : Nat.ble n 281474976710656 with
          | false => rw [hn] at h; cases h
          | true =>
            rw [hn] at h; cases h
            exact lib_makeNoZero (ps := Tryz.f107.params) (t := 30) (e := 5) Tryz.func107 (by kernel_rfl) (by kernel_rfl) (by kernel_rfl) (by kernel_rfl) Tryz.underlying30 hn hs hv
        · cases h
theorem call_ok : CallOk Tryz.prog (callN lib fs 100000 1000) := calls_ok mixed lib_ok fs_get 100000 1000
/-! ### The variables -/
abbrev Tz := Tryz.prog
theorem cell5 : Tz.cellsOf 5 = 1 := by kernel_rfl
theorem cell111 : Tz.cellsOf 111 = 1 := by kernel_rfl
theorem cell182 : Tz.cellsOf 182 = 2 := by kernel_rfl
theorem cell180 : Tz.cellsOf 180 = 256 * 1 := by kernel_rfl
theorem cell183 : Tz.cellsOf 183 = 16 * 2 := by kernel_rfl
theorem cell214 : Tz.cellsOf 214 = 20 * 1 := by kernel_rfl
theorem cell247 : 1 ≤ Tz.cellsOf 247 := of_decide_eq_true (by kernel_rfl)
theorem err_name (u : TypeId) (h : Tz.typeName? 3 u = some "*errors.errorString") : u = 245 := by
  have hlt := named_pointer (P := Tz) (name := "*errors.errorString") (inner := "errors.errorString") (by decide) (fun m h => by
    have h2 : "errors.errorString".toList = ("*" ++ m).toList := by rw [← h]
    rw [String.toList_append] at h2
    cases h2) (by kernel_rfl) h
  have hall : ((List.range Tz.types.size).all fun u => Tz.typeName? 3 u != some "*errors.errorString" || u == 245) = true := by kernel_rfl
  have h3 := List.all_eq_true.1 hall u (List.mem_range.2 hlt)
  rw [h] at h3
  simpa using h3

/-- what the row's condition says of the world -/
theorem start_of {W : World} (hL : laidMetH Tz Rows.jsonKnownRow.laid W) : ∃ (σ : Mp) (e : Nat → Nat), Sim Tz σ (H0 e) W := by
  rw [MakeChecks.laidMetH_plain _ _ _ (by kernel_rfl)] at hL
  obtain ⟨ps, hlv, _, hcell⟩ := hL
  have far {A : Type} {x : A} {l : List A} (h : x ∈ l) (y : A) : x ∈ y :: l := List.mem_cons_of_mem y h
  -- the tables
  have tab : ∀ {n : String} {d : DataW Unit} {g t c : Nat}, (n, d) ∈ Rows.jsonKnownRow.laid → Tz.globalNamed n = some g → (Tz.globals[g]?).map (·.type) = some t → ReadsAs Tz W t c →
      ∃ cs e fr, W.heap[g]? = some (.cells cs e fr) ∧ RelL (fun _ => none) (litAV d) cs.toList ∧ ∀ v ∈ cs, v.oneCell' = true := by
    intro n d g t c hm hg ht hr
    obtain ⟨g', t', cs, fuel, p, h1, h2, h3, h4, _⟩ := laid_mem hlv n d hm
    obtain rfl := Option.some.inj (hg.symm.trans h1)
    obtain rfl := Option.some.inj (ht.symm.trans h2)
    obtain ⟨_, h5, h6⟩ := hr fuel cs.toList (d, p) h4
    obtain ⟨e, fr, h7⟩ := var_block h1 h3
    exact ⟨cs, e, fr, h7, h5, fun v hv => h6 v (Array.mem_toList_iff.2 hv)⟩
  have err : ∀ {n : String} {D : DataW Unit} {g : Nat}, (n, DataW.iface "*errors.errorString" (.ptr D)) ∈ Rows.jsonKnownRow.laid → Tz.globalNamed n = some g → (Tz.globals[g]?).map (·.type) = some 79 →
      ∃ (cs : Array Value) (e : Nat) (fr : Nat × Nat) (a : Addr), W.heap[g]? = some (.cells cs e fr) ∧ a.spot = none ∧ cs.toList = [.iface 245 (.pointer (some a))] := by
    intro n D g hm hg ht
    obtain ⟨g', t', cs, fuel, p, h1, h2, h3, h4, h5⟩ := laid_mem hlv n _ hm
    obtain rfl := Option.some.inj (hg.symm.trans h1)
    obtain rfl := Option.some.inj (ht.symm.trans h2)
    obtain ⟨e, fr, h7⟩ := var_block h1 h3
    obtain ⟨a, h8, h9⟩ := reads_err Tryz.underlying79 h4 err_name Tryz.underlying245 cell247 (fun u v hcs => by
      have hsz : cs.size = 1 := by rw [← Array.length_toList, hcs]; rfl
      have hin := h5 (.cell g 0) (by rw [hsz]; exact List.mem_cons_self ..)
      refine (hcell g 0 hin).2 u v ?_
      rw [World.var?_cell h1 h3 0, ← Array.getElem?_toList, hcs]; rfl)
    exact ⟨cs, e, fr, a, h7, h8, h9⟩
  have r5 : ReadsAs Tz W 5 1 := reads_int Tryz.underlying5
  have r111 : ReadsAs Tz W 111 1 := reads_int Tryz.underlying111
  have r182 : ReadsAs Tz W 182 2 := reads_pair Tryz.underlying182 rfl rfl rfl rfl cell5 cell182 r5
  obtain ⟨cs0, e0, fr0, h0, l0, o0⟩ := tab (n := "unicode/utf8.first") (d := Rows.laid_unicode_utf8_first) (g := 0) (t := 180) (far (far (far (far (far (far (List.mem_cons_self ..) _) _) _) _) _) _) (by kernel_rfl) (by kernel_rfl) (reads_array Tryz.underlying180 cell5 cell180 r5)
  obtain ⟨cs1, e1, fr1, h1, l1, o1⟩ := tab (n := "unicode/utf8.acceptRanges") (d := Rows.laid_unicode_utf8_acceptRanges) (g := 1) (t := 183) (far (far (far (List.mem_cons_self ..) _) _) _) (by kernel_rfl) (by kernel_rfl) (reads_array Tryz.underlying183 cell182 cell183 r182)
  obtain ⟨cs4, e4, fr4, h4, l4, o4⟩ := tab (n := "internal/strconv.uint64pow10") (d := Rows.laid_internal_strconv_uint64pow10) (g := 4) (t := 214) (far (far (List.mem_cons_self ..) _) _) (by kernel_rfl) (by kernel_rfl) (reads_array Tryz.underlying214 cell111 cell214 r111)
  obtain ⟨cs6, e6, fr6, a6, h6, s6, l6⟩ := err (n := "strconv.ErrSyntax") (g := 6) (far (far (far (far (far (List.mem_cons_self ..) _) _) _) _) _) (by kernel_rfl) (by kernel_rfl)
  obtain ⟨cs7, e7, fr7, a7, h7, s7, l7⟩ := err (n := "strconv.ErrRange") (g := 7) (far (far (far (far (List.mem_cons_self ..) _) _) _) _) (by kernel_rfl) (by kernel_rfl)
  let tot : Nat → Nat := fun g => if g = 0 then lenL (litAV Rows.laid_unicode_utf8_first) else if g = 1 then lenL (litAV Rows.laid_unicode_utf8_acceptRanges) else if g = 4 then lenL (litAV Rows.laid_internal_strconv_uint64pow10) else 1
  let σ : Mp := fun b => if b < 10 then some ⟨b, 0, tot b, 1⟩ else if b = 10 then some ⟨a6.block, a6.off, 0, 0⟩ else if b = 11 then some ⟨a7.block, a7.off, 0, 0⟩ else none
  let e : Nat → Nat := fun g => if g = 0 then e0 else if g = 1 then e1 else if g = 4 then e4 else if g = 6 then e6 else e7
  have hx : Ext (fun _ => none) σ := fun b l h => by cases h
  have hgs : Tz.globals.size = 10 := by kernel_rfl
  have hp : ∀ (b : Nat) (a : Addr), a.spot = none → σ b = some ⟨a.block, a.off, 0, 0⟩ → Rel σ (.iface 245 (.ptr b 0)) (.iface 245 (.pointer (some a))) := by
    intro b a ha hb
    simp only [Rel]
    refine ⟨.pointer (some a), ⟨_, hb, ?_⟩, rfl⟩
    obtain ⟨x, y, z⟩ := a
    have ha : z = none := ha
    subst ha
    rfl
  refine ⟨σ, e, start_sim (rs := rows0 e) (fun g hg => ?_) (fun b l h => ?_) (fun b ee l hm => ?_)⟩
  · rw [hgs] at hg
    exact ⟨⟨g, 0, tot g, 1⟩, if_pos hg, rfl, rfl⟩
  · have h : (if b < 10 then some (⟨b, 0, tot b, 1⟩ : Loc) else if b = 10 then some ⟨a6.block, a6.off, 0, 0⟩ else if b = 11 then some ⟨a7.block, a7.off, 0, 0⟩ else none) = some l := h
    split at h
    · omega
    · split at h
      · omega
      · split at h
        · omega
        · cases h
  · unfold rows0 at hm
    simp only [List.mem_cons, Prod.mk.injEq, List.not_mem_nil, or_false] at hm
    rcases hm with ⟨rfl, rfl, rfl⟩ | ⟨rfl, rfl, rfl⟩ | ⟨rfl, rfl, rfl⟩ | ⟨rfl, rfl, rfl⟩ | ⟨rfl, rfl, rfl⟩
    · exact ⟨cs0, fr0, rfl, h0, RelL.mono hx l0, o0⟩
    · exact ⟨cs1, fr1, rfl, h1, RelL.mono hx l1, o1⟩
    · exact ⟨cs4, fr4, rfl, h4, RelL.mono hx l4, o4⟩
    · refine ⟨cs6, fr6, rfl, h6, by rw [l6]; exact relL_one (hp 10 a6 s6 rfl), fun v hv => ?_⟩
      have := Array.mem_toList_iff.2 hv
      rw [l6] at this
      have : v = .iface 245 (.pointer (some a6)) := by simpa using this
      subst this; rfl
    · refine ⟨cs7, fr7, rfl, h7, by rw [l7]; exact relL_one (hp 11 a7 s7 rfl), fun v hv => ?_⟩
      have := Array.mem_toList_iff.2 hv
      rw [l7] at this
      have : v = .iface 245 (.pointer (some a7)) := by simpa using this
      subst this; rfl
end
end Go.AI
namespace Go.Proofs.YtjippcoifkobfaaGreatDoor
open Go.ChangeShapes Go.WideShapes Go.ChangeAt Go.RowKit Go.AI
/-- the call -/
theorem json_calls {W : World} (hL : laidMetH Tryz.prog Rows.jsonKnownRow.laid W) :
    Calls Tryz.prog 3 #[] W fun e W' => e = .returned (.bool true) ∧ W'.os = W.os ∧ W'.output = W.output ∧ ∀ i, i < W.heap.size → W'.heap[i]? = W.heap[i]? := by
  obtain ⟨σ, e, hs⟩ := start_of hL
  obtain ⟨fn, h1, h2, h3, _⟩ := fs_get 3 c3 (by kernel_rfl)
  obtain ⟨c, hc⟩ := Option.isSome_iff_exists.1 h3
  exact closed_true call_ok h1 h2 hc hs (fun b => wr_rows) (known e)
theorem own : ownKnob Tryz.prog.godebug = none := by kernel_rfl
theorem lifted (os : Os) (started : os.Started) (H : Type) (enc : TypeId × Value → H) :
    ReturnsInHanded {} Tryz.checked os 3 .any (fun w args => (Rows.jsonKnownSpec.pre enc Tryz.prog Tryz.f3 [] false w args ∧ laidMetH Tryz.prog Rows.jsonKnownRow.laid w) ∧ sizedMet enc Tryz.prog Tryz.f3 (OpenSpec.ofChange Rows.jsonKnownSpec) false w args)
      (Rows.jsonKnownSpec.post enc Tryz.prog Tryz.f3 false true false false) := by
  refine returnsInHanded_of_change_and (C := Tryz.checked) (X := fun w _ => laidMetH Tryz.prog Rows.jsonKnownRow.laid w) (fun _ _ _ hh h => h.of_heap hh) own started (by kernel_rfl) Tryz.func3
    (ChangeSpec.witness_shaped (enc := enc) (C := Tryz.checked) (os := os) (X := fun w _ => laidMetH Tryz.prog Rows.jsonKnownRow.laid w) false (World.laidAll Tryz.prog os Rows.jsonKnownRow.laid) #[] 8 (World.laidAll_os _ _ _)
      (World.shaped_of_ZipB (by kernel_rfl) (by kernel_rfl)) (by kernel_rfl) (by kernel_rfl) (by kernel_rfl)
      (by rw [MakeChecks.laidMetH_plain _ _ _ (by kernel_rfl)]; exact laidMet_laidAll _ (by kernel_rfl) (by kernel_rfl))) ?_
  intro W base args ds gs before _ hW _ _ hL _
  have hW' := hW
  obtain ⟨p, q, hA0, hV, rfl, _, _⟩ := hW
  have hA : DataW.TrodAll enc Tryz.prog W 0 (fun _ => true) true Tryz.f3.params.toList args.toList ds p := hA0
  rw [Tryz.params3] at hA
  obtain ⟨rfl, rfl, rfl⟩ := trodAll_none hA
  obtain ⟨rfl, rfl⟩ := trodVars_none hV
  refine (json_calls hL).mono fun e W' ⟨he, h1, h2, h3⟩ => ?_
  subst he
  refine ⟨_, rfl, [], [], _, [], [], [], hW', trodAll_mk1 (shut_bool Tryz.underlying4 _), ?_, rfl, kept_of_same h1 h2 h3, fun h => by cases h⟩
  show DataW.TrodAll enc Tryz.prog W' 0 _ true Tryz.f3.params.toList [] [] []
  rw [Tryz.params3]
  exact trodAll_mk0
theorem jsonKnown_holds : Rows.JsonKnownSaid :=
  OpenClaim.holds_of_wide 3 Tryz.f3 rfl rfl rfl rfl rfl rfl rfl ⟨rfl, rfl, rfl, rfl, rfl⟩ rfl rfl rfl rfl rfl (by kernel_rfl) Tryz.func3 (by kernel_rfl)
    (of_decide_eq_true (by kernel_rfl)) (by unfold Func.isWrapper; first | (rw [if_pos (by decide +kernel)]; kernel_rfl) | (rw [if_neg (by decide +kernel)]; exact ⟨rfl, rfl⟩))
    (fun os started H enc _ => lifted os started H enc)
theorem jsonKnown_card : Rows.JsonKnownCardSaid :=
  Claim7.holds_tied_plain_at .later [] [.data, .data, .data, .data, .sentinel, .sentinel, .pinned] true (true, "71ad87de063f82b458e47dfdcc6a8e321496c2af68f0538d7aebfec3b8ae071a") true
    jsonKnown_holds (fun _ h => by cases h) (by kernel_rfl) (fun _ h => by cases h) jsonKnown_row_tie rfl ⟨rfl, rfl⟩ (by kernel_rfl) rfl
    (fun f fn hf hfn => by
      obtain rfl : f = 3 := Option.some.inj ((show Tryz.prog.funcNamed "portolan/portolanlaw13.JsonKnown" = some 3 by kernel_rfl).symm.trans hf) |>.symm
      obtain rfl : fn = Tryz.f3 := (Option.some.inj (Tryz.func3.symm.trans hfn)).symm
      exact ⟨by kernel_rfl, fun j t ht => by
        rw [Tryz.params3] at ht
        simp at ht⟩)
    (by kernel_rfl)
#print axioms jsonKnown_card
end Go.Proofs.YtjippcoifkobfaaGreatDoor
