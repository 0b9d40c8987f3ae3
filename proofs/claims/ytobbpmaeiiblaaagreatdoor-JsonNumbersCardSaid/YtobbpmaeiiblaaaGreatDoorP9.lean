/- The reader of numbers and the law, walked on any number: proved for any argument that is told. -/
import Derived.Test.YtobbpmaeiiblaaaGreatDoorP8
import Derived.Lib.Replace
set_option maxRecDepth 1000000
set_option maxHeartbeats 0
set_option linter.unusedVariables false
set_option linter.unusedSimpArgs false
/- A reader's small steps: walked. -/
namespace Go.AI
open Go
noncomputable section

theorem lowX_rG {n e sz : Nat} {l : List AV} {fz : Nat} {sm own ex : Bool} (h : ∀ v ∈ l, lowV n v = true) : lowX n (rG e sz l fz sm own ex) := by
  intro i hi
  have hi : i < lenL l := hi
  rw [lenL_eq] at hi
  rw [rG_get, List.getD_eq_getElem?_getD, List.getElem?_eq_getElem hi]
  exact h _ (List.getElem_mem hi)
theorem lowX_rd (n : Nat) (s : List UInt8) (i : Nat) : lowX n (rd s i) := lowX_rG fun v hv => by
  simp at hv; rcases hv with rfl | rfl <;> rfl
theorem blkV (x : Nat) (H : Heap) : cmpV igeF strGe (.int .i64 (idxByte x [32, 9, 10, 13] 0)) (nI .i64 0) H = .val (.bool (x == 32 || x == 9 || x == 10 || x == 13)) H := by
  by_cases h1 : x = 32
  · subst h1; rfl
  · by_cases h2 : x = 9
    · subst h2; rfl
    · by_cases h3 : x = 10
      · subst h3; rfl
      · by_cases h4 : x = 13
        · subst h4; rfl
        · have e : idxByte x [32, 9, 10, 13] 0 = -1 := by
            have b1 : Nat.beq 32 x = false := by rw [beq_nat]; exact decide_eq_false (by omega)
            have b2 : Nat.beq 9 x = false := by rw [beq_nat]; exact decide_eq_false (by omega)
            have b3 : Nat.beq 10 x = false := by rw [beq_nat]; exact decide_eq_false (by omega)
            have b4 : Nat.beq 13 x = false := by rw [beq_nat]; exact decide_eq_false (by omega)
            simp only [idxByte, UInt8.reduceToNat, b1, b2, b3, b4, cond_false]
          rw [e]
          have b1 : (x == 32) = false := by simpa using h1
          have b2 : (x == 9) = false := by simpa using h2
          have b3 : (x == 10) = false := by simpa using h3
          have b4 : (x == 13) = false := by simpa using h4
          rw [b1, b2, b3, b4]; rfl
theorem skip_at {s : List UInt8} {i : Nat} (h : s.length ≤ i) : skipB s i = i := by
  unfold skipB; rw [List.drop_eq_nil_of_le h]; rfl
theorem skip_on {s : List UInt8} {i : Nat} (h : i < s.length) (hb : blk (s.getD i 0) = true) : skipB s (i + 1) = skipB s i := by
  unfold skipB
  have e : s.getD i 0 = s[i] := by rw [List.getD_eq_getElem?_getD, List.getElem?_eq_getElem h]; rfl
  rw [e] at hb
  rw [List.drop_eq_getElem_cons h, List.takeWhile_cons_of_pos hb, List.length_cons]; omega
theorem skip_no {s : List UInt8} {i : Nat} (hb : blk (s.getD i 0) = false) : skipB s i = i := by
  by_cases h : i < s.length
  · unfold skipB
    have e : s.getD i 0 = s[i] := by rw [List.getD_eq_getElem?_getD, List.getElem?_eq_getElem h]; rfl
    rw [e] at hb
    rw [List.drop_eq_getElem_cons h, List.takeWhile_cons_of_neg (by rw [hb]; simp)]; rfl
  · exact skip_at (by omega)
theorem skip_len (s : List UInt8) (i : Nat) (h : i ≤ s.length) : skipB s i ≤ s.length := by
  unfold skipB
  have := (List.takeWhile_sublist blk (l := s.drop i)).length_le
  rw [List.length_drop] at this; omega
theorem blk_is (c : UInt8) : (c.toNat == 32 || c.toNat == 9 || c.toNat == 10 || c.toNat == 13) = blk c := rfl
theorem getD_lt (s : List UInt8) (i : Nat) : (s.getD i 0).toNat < 256 := (s.getD i 0).toNat_lt
theorem getD_end {s : List UInt8} {i : Nat} (h : s.length ≤ i) : s.getD i 0 = 0 := by rw [List.getD_eq_getElem?_getD, List.getElem?_eq_none h]; rfl
theorem rNext_run {lib0 : Lib} {fs : T CF} {fuel : Nat} (E : Env lib0 fs fuel) {n : Nat} {s : List UInt8} {i b : Nat} {H : Heap} (gr : H.t.get b = some (rd s i)) (hb : b < H.nx) (hro : H.ro ≤ b) :
    ∃ H', callN (LK lib0 fs fuel 0) fs fuel (n + 2) 129 [.ptr b 0] H = .ret (nI .u8 (s.getD i 0).toNat) H' ∧ Keep H H' [] := by
  rw [callN_fn (libK_none E.n129 (.inl (by decide)) _ _) E.f129]
  have gr' : H.t.get b = some (rG 144 1 [.str s, nI .i64 i] 0 false true true) := gr
  by_cases h : i < s.length
  · have d1 : decide (i < s.length) = true := decide_eq_true h
    simp (disch := first | assumption | omega | (simp -implicitDefEqProofs only [SideG, List.length_cons, List.length_nil, List.length_set, List.length_map] <;> first | assumption | omega) | decide) only [d1, gr', ld1_rG, lowV_ptr, idxStr_at, cmpV_lt, Nat.add_zero, c129, RunG, N8G, CoreG, Bool.not_true, Bool.not_false, freeK_at, readK_at, freeN_at, List.nil_append, List.append_nil, Option.map_none, Option.map_some, List.map_cons, List.map_nil, cond_true, cond_false, Nat.testBit_eq_decide_div_mod_eq, Nat.reducePow, Nat.reduceDiv, Nat.reduceMod, decide_true, Nat.reduceEqDiff, decide_false, reduceCtorEq, Nat.zero_ne_one, Nat.zero_add, List.getD_cons_zero, List.getD_cons_succ, List.set_cons_zero, List.set_cons_succ, gtr0, gtr2, gtr3, gtr4, gtr5, gtr6, gtr7, gtr8, gtr9, gtr10, gtr11, gtr12, gtr13, gtr14, gtr15, gtr16, gtr17, gtr18, gtr19, gtr20, gtr21, str0, str2, str3, str4, str5, str6, str7, str8, str9, str10, str11, str12, str13, str14, str15, str16, str17, str18, str19, str20, str21]
    exact ⟨_, rfl, Keep.refl _ _⟩
  · have d1 : decide (i < s.length) = false := decide_eq_false h
    rw [getD_end (by omega)]
    simp (disch := first | assumption | omega | (simp -implicitDefEqProofs only [SideG, List.length_cons, List.length_nil, List.length_set, List.length_map] <;> first | assumption | omega) | decide) only [d1, gr', ld1_rG, lowV_ptr, idxStr_at, cmpV_lt, Nat.add_zero, c129, RunG, N8G, CoreG, Bool.not_true, Bool.not_false, freeK_at, readK_at, freeN_at, List.nil_append, List.append_nil, Option.map_none, Option.map_some, List.map_cons, List.map_nil, cond_true, cond_false, Nat.testBit_eq_decide_div_mod_eq, Nat.reducePow, Nat.reduceDiv, Nat.reduceMod, decide_true, Nat.reduceEqDiff, decide_false, reduceCtorEq, Nat.zero_ne_one, Nat.zero_add, List.getD_cons_zero, List.getD_cons_succ, List.set_cons_zero, List.set_cons_succ, gtr0, gtr2, gtr3, gtr4, gtr5, gtr6, gtr7, gtr8, gtr9, gtr10, gtr11, gtr12, gtr13, gtr14, gtr15, gtr16, gtr17, gtr18, gtr19, gtr20, gtr21, str0, str2, str3, str4, str5, str6, str7, str8, str9, str10, str11, str12, str13, str14, str15, str16, str17, str18, str19, str20, str21]
    exact ⟨_, rfl, Keep.refl _ _⟩
theorem rNext {lib0 : Lib} {fs : T CF} {fuel : Nat} (E : Env lib0 fs fuel) {k n : Nat} (hk : 1 ≤ k) {s : List UInt8} {i b : Nat} {H : Heap} (gr : H.t.get b = some (rd s i)) (hb : b < H.nx) (hro : H.ro ≤ b) :
    callN (LK lib0 fs fuel k) fs fuel (n + 1) 129 [.ptr b 0] H = .ret (nI .u8 (s.getD i 0).toNat) H := by
  obtain ⟨H', e, g⟩ := rNext_run E (n := 898) (H := H) gr hb hro
  exact keep_hit (r := 0) rfl rfl e g (rfl) hk
theorem idxB0_run {lib0 : Lib} {fs : T CF} {fuel : Nat} (E : Env lib0 fs fuel) {n : Nat} {s : List UInt8} {x : Nat} {H : Heap} (hx : x < 256) :
    ∃ H', callN (LK lib0 fs fuel 0) fs fuel (n + 2) 75 [.str s, nI .u8 x] H = .ret (.int .i64 (idxByte x s 0)) H' ∧ Keep H H' [] := by
  rw [callN_fn (libK_none E.n75 (.inl (by decide)) _ _) E.f75]
  have ex := fun {j} => base_hit (lib0 := lib0) (fs := fs) (fuel := fuel) (rank := rank) (spec := spec) (k := 0) (n := j) (f := 127) rfl (E.ix s x H hx)
  simp (disch := first | assumption | omega | (simp -implicitDefEqProofs only [SideG, List.length_cons, List.length_nil, List.length_set, List.length_map] <;> first | assumption | omega) | decide) only [ex, c75, RunG, N8G, CoreG, Bool.not_true, Bool.not_false, freeK_at, readK_at, freeN_at, List.nil_append, List.append_nil, Option.map_none, Option.map_some, List.map_cons, List.map_nil, cond_true, cond_false, Nat.testBit_eq_decide_div_mod_eq, Nat.reducePow, Nat.reduceDiv, Nat.reduceMod, decide_true, Nat.reduceEqDiff, decide_false, reduceCtorEq, Nat.zero_ne_one, Nat.zero_add, List.getD_cons_zero, List.getD_cons_succ, List.set_cons_zero, List.set_cons_succ, gtr0, gtr1, gtr4, gtr5, gtr6, gtr7, str0, str1, str4, str5, str6, str7]
  exact ⟨_, rfl, Keep.refl _ _⟩
theorem idxB0 {lib0 : Lib} {fs : T CF} {fuel : Nat} (E : Env lib0 fs fuel) {k n : Nat} (hk : 1 ≤ k) {s : List UInt8} {x : Nat} {H : Heap} (hx : x < 256) :
    callN (LK lib0 fs fuel k) fs fuel (n + 1) 75 [.str s, nI .u8 x] H = .ret (.int .i64 (idxByte x s 0)) H := by
  obtain ⟨H', e, g⟩ := idxB0_run E (n := 898) (H := H) hx
  exact keep_hit (r := 0) rfl rfl e g (rfl) hk
theorem idxB_run {lib0 : Lib} {fs : T CF} {fuel : Nat} (E : Env lib0 fs fuel) {n : Nat} {s : List UInt8} {x : Nat} {H : Heap} (hx : x < 256) :
    ∃ H', callN (LK lib0 fs fuel 1) fs fuel (n + 2) 36 [.str s, nI .u8 x] H = .ret (.int .i64 (idxByte x s 0)) H' ∧ Keep H H' [] := by
  rw [callN_fn (libK_none E.n36 (.inl (by decide)) _ _) E.f36]
  have ex := fun {j} => idxB0 (lib0 := lib0) (fs := fs) (fuel := fuel) E (k := 1) (n := j) (by decide) (s := s) (H := H) hx
  simp (disch := first | assumption | omega | (simp -implicitDefEqProofs only [SideG, List.length_cons, List.length_nil, List.length_set, List.length_map] <;> first | assumption | omega) | decide) only [ex, c36, RunG, N8G, CoreG, Bool.not_true, Bool.not_false, freeK_at, readK_at, freeN_at, List.nil_append, List.append_nil, Option.map_none, Option.map_some, List.map_cons, List.map_nil, cond_true, cond_false, Nat.testBit_eq_decide_div_mod_eq, Nat.reducePow, Nat.reduceDiv, Nat.reduceMod, decide_true, Nat.reduceEqDiff, decide_false, reduceCtorEq, Nat.zero_ne_one, Nat.zero_add, List.getD_cons_zero, List.getD_cons_succ, List.set_cons_zero, List.set_cons_succ, gtr0, gtr1, gtr4, gtr5, gtr6, gtr7, str0, str1, str4, str5, str6, str7]
  exact ⟨_, rfl, Keep.refl _ _⟩
theorem idxB {lib0 : Lib} {fs : T CF} {fuel : Nat} (E : Env lib0 fs fuel) {k n : Nat} (hk : 2 ≤ k) {s : List UInt8} {x : Nat} {H : Heap} (hx : x < 256) :
    callN (LK lib0 fs fuel k) fs fuel (n + 1) 36 [.str s, nI .u8 x] H = .ret (.int .i64 (idxByte x s 0)) H := by
  obtain ⟨H', e, g⟩ := idxB_run E (n := 898) (H := H) hx
  exact keep_hit (r := 1) rfl rfl e g (rfl) hk
structure BL (H0 : Heap) (b : Nat) (s : List UInt8) (i m : Nat) (tm : TM) (H : Heap) : Prop where
  t0 : gt0 tm = .ptr b 0
  j : ∃ j, H = H0.put b (rd s j) ∧ skipB s j = skipB s i ∧ m = s.length - j ∧ j ≤ s.length + i
theorem bl_step {lib0 : Lib} {fs : T CF} {fuel : Nat} (E : Env lib0 fs fuel) {n : Nat} {H0 : Heap} {b i : Nat} {s : List UInt8} (hb : b < H0.nx) (hro : H0.ro ≤ b) (hl : s.length < 100000) (hi : i < 100000) (y f d r) (x : X) (m : Nat) (tm : TM) (H : Heap) (h : BL H0 b s i m tm H) :
    ∃ o tm' H', c79_l0 ⟨callN (LK lib0 fs fuel 2) fs fuel (n + 1), y, f, d, r⟩ tm H x = .ok o tm' H' x ∧ ((o = .normal ∧ ∃ k, k < m ∧ BL H0 b s i k tm' H') ∨ (o ≠ .normal ∧ o = .exit 0 ∧ H' = H0.put b (rd s (skipB s i)))) := by
  obtain ⟨t0, j, rfl, hj, hm, hj2⟩ := h
  simp only [gtr0] at t0
  have gr : (H0.put b (rd s j)).t.get b = some (rG 144 1 [.str s, nI .i64 j] 0 false true true) := get_put_eq ..
  have hx := getD_lt s j
  have ei := fun {m} => idxB (lib0 := lib0) (fs := fs) (fuel := fuel) E (k := 2) (n := m) (by decide) (s := [32, 9, 10, 13]) (H := H0.put b (rd s j)) hx
  by_cases h : j < s.length
  · have d1 : decide (j < s.length) = true := decide_eq_true h
    by_cases hk : blk (s.getD j 0) = true
    · simp (disch := first | assumption | omega | (simp -implicitDefEqProofs only [SideG, List.length_cons, List.length_nil, List.length_set, List.length_map] <;> first | assumption | omega) | decide) only [c79_l0, t0, d1, gr, ei, ld1_rG, lowV_ptr, idxStr_at, cmpV_lt, Nat.add_zero, blkV, blk_is, hk, addV_i, stN_one, c79_l0, RunG, N8G, CoreG, Bool.not_true, Bool.not_false, freeK_at, readK_at, freeN_at, List.nil_append, List.append_nil, Option.map_none, Option.map_some, List.map_cons, List.map_nil, cond_true, cond_false, Nat.testBit_eq_decide_div_mod_eq, Nat.reducePow, Nat.reduceDiv, Nat.reduceMod, decide_true, Nat.reduceEqDiff, decide_false, reduceCtorEq, Nat.zero_ne_one, Nat.zero_add, List.getD_cons_zero, List.getD_cons_succ, List.set_cons_zero, List.set_cons_succ, gtr0, gtr2, gtr3, gtr4, gtr5, gtr6, gtr7, gtr8, gtr9, gtr10, gtr11, gtr12, gtr13, gtr14, gtr15, gtr16, gtr17, gtr18, gtr19, gtr20, gtr21, gtr22, gtr23, gtr24, gtr25, gtr26, gtr27, gtr28, gtr29, gtr30, gtr31, str0, str2, str3, str4, str5, str6, str7, str8, str9, str10, str11, str12, str13, str14, str15, str16, str17, str18, str19, str20, str21, str22, str23, str24, str25, str26, str27, str28, str29, str30, str31]
      exact ⟨_, _, _, rfl, .inl ⟨rfl, s.length - (j + 1), by omega, t0, j + 1, rfl, by rw [skip_on h hk, hj], rfl, by omega⟩⟩
    · have hk : blk (s.getD j 0) = false := by simpa using hk
      simp (disch := first | assumption | omega | (simp -implicitDefEqProofs only [SideG, List.length_cons, List.length_nil, List.length_set, List.length_map] <;> first | assumption | omega) | decide) only [c79_l0, t0, d1, gr, ei, ld1_rG, lowV_ptr, idxStr_at, cmpV_lt, Nat.add_zero, blkV, blk_is, hk, c79_l0, RunG, N8G, CoreG, Bool.not_true, Bool.not_false, freeK_at, readK_at, freeN_at, List.nil_append, List.append_nil, Option.map_none, Option.map_some, List.map_cons, List.map_nil, cond_true, cond_false, Nat.testBit_eq_decide_div_mod_eq, Nat.reducePow, Nat.reduceDiv, Nat.reduceMod, decide_true, Nat.reduceEqDiff, decide_false, reduceCtorEq, Nat.zero_ne_one, Nat.zero_add, List.getD_cons_zero, List.getD_cons_succ, List.set_cons_zero, List.set_cons_succ, gtr0, gtr2, gtr3, gtr4, gtr5, gtr6, gtr7, gtr8, gtr9, gtr10, gtr11, gtr12, gtr13, gtr14, gtr15, gtr16, gtr17, gtr18, gtr19, gtr20, gtr21, gtr22, gtr23, gtr24, gtr25, gtr26, gtr27, gtr28, gtr29, gtr30, gtr31, str0, str2, str3, str4, str5, str6, str7, str8, str9, str10, str11, str12, str13, str14, str15, str16, str17, str18, str19, str20, str21, str22, str23, str24, str25, str26, str27, str28, str29, str30, str31]
      exact ⟨_, _, _, rfl, .inr ⟨by simp, rfl, by rw [← hj, skip_no hk]⟩⟩
  · have d1 : decide (j < s.length) = false := decide_eq_false h
    simp (disch := first | assumption | omega | (simp -implicitDefEqProofs only [SideG, List.length_cons, List.length_nil, List.length_set, List.length_map] <;> first | assumption | omega) | decide) only [c79_l0, t0, d1, gr, ld1_rG, lowV_ptr, cmpV_lt, Nat.add_zero, c79_l0, RunG, N8G, CoreG, Bool.not_true, Bool.not_false, freeK_at, readK_at, freeN_at, List.nil_append, List.append_nil, Option.map_none, Option.map_some, List.map_cons, List.map_nil, cond_true, cond_false, Nat.testBit_eq_decide_div_mod_eq, Nat.reducePow, Nat.reduceDiv, Nat.reduceMod, decide_true, Nat.reduceEqDiff, decide_false, reduceCtorEq, Nat.zero_ne_one, Nat.zero_add, List.getD_cons_zero, List.getD_cons_succ, List.set_cons_zero, List.set_cons_succ, gtr0, gtr2, gtr3, gtr4, gtr5, gtr6, gtr7, gtr8, gtr9, gtr10, gtr11, gtr12, gtr13, gtr14, gtr15, gtr16, gtr17, gtr18, gtr19, gtr20, gtr21, gtr22, gtr23, gtr24, gtr25, gtr26, gtr27, gtr28, gtr29, gtr30, gtr31, str0, str2, str3, str4, str5, str6, str7, str8, str9, str10, str11, str12, str13, str14, str15, str16, str17, str18, str19, str20, str21, str22, str23, str24, str25, str26, str27, str28, str29, str30, str31]
    exact ⟨_, _, _, rfl, .inr ⟨by simp, rfl, by rw [← hj, skip_at (by omega)]⟩⟩
theorem rBlank_run {lib0 : Lib} {fs : T CF} {fuel : Nat} (E : Env lib0 fs fuel) {n : Nat} {s : List UInt8} {i b : Nat} {H : Heap} (gr : H.t.get b = some (rd s i)) (hb : b < H.nx) (hro : H.ro ≤ b) (hl : s.length < 100000) (hi : i < 100000) :
    LessR H (callN (LK lib0 fs fuel 2) fs fuel (n + 2) 79 [.ptr b 0] H) (.ret (.tup []) (H.put b (rd s (skipB s i)))) := by
  rw [callN_fn (libK_none E.n79 (.inl (by decide)) _ _) E.f79]
  simp (disch := first | assumption | omega | (simp -implicitDefEqProofs only [SideG, List.length_cons, List.length_nil, List.length_set, List.length_map] <;> first | assumption | omega) | decide) only [c79, RunG, N8G, CoreG, Bool.not_true, Bool.not_false, freeK_at, readK_at, freeN_at, List.nil_append, List.append_nil, Option.map_none, Option.map_some, List.map_cons, List.map_nil, cond_true, cond_false, Nat.testBit_eq_decide_div_mod_eq, Nat.reducePow, Nat.reduceDiv, Nat.reduceMod, decide_true, Nat.reduceEqDiff, decide_false, reduceCtorEq, Nat.zero_ne_one, Nat.zero_add, List.getD_cons_zero, List.getD_cons_succ, List.set_cons_zero, List.set_cons_succ, gtr0, str0]
  generalize hL : loopN (c79_l0 _) fuel _ _ _ = L
  obtain ⟨o, tm1, H1, rfl, _, rfl, rfl⟩ := after_rule (P := fun T => BL H b s i (s.length - i) T H) (Q := fun o tm H' => o = .exit 0 ∧ H' = H.put b (rd s (skipB s i)))
    (fun T hi' => loop_rule (BL H b s i) (fun o tm H' => o = .exit 0 ∧ H' = H.put b (rd s (skipB s i))) (fun m tm H' h => bl_step E hb hro hl hi _ _ _ _ _ m tm H' h) fuel (s.length - i) T H (by have := E.big; omega) hi') hL
    ⟨rfl, i, (put_self gr).symm, rfl, rfl, by omega⟩
  simp (disch := first | assumption | omega | (simp -implicitDefEqProofs only [SideG, List.length_cons, List.length_nil, List.length_set, List.length_map] <;> first | assumption | omega) | decide) only [c79, RunG, N8G, CoreG, Bool.not_true, Bool.not_false, freeK_at, readK_at, freeN_at, List.nil_append, List.append_nil, Option.map_none, Option.map_some, List.map_cons, List.map_nil, cond_true, cond_false, Nat.testBit_eq_decide_div_mod_eq, Nat.reducePow, Nat.reduceDiv, Nat.reduceMod, decide_true, Nat.reduceEqDiff, decide_false, reduceCtorEq, Nat.zero_ne_one, Nat.zero_add, List.getD_cons_zero, List.getD_cons_succ, List.set_cons_zero, List.set_cons_succ, gtr0, str0]
  exact ⟨rfl, Less.put hb (lowX_rd _ _ _) fun _ _ => rfl, rfl⟩
theorem rBlank {lib0 : Lib} {fs : T CF} {fuel : Nat} (E : Env lib0 fs fuel) {k n : Nat} (hk : 3 ≤ k) {s : List UInt8} {i b : Nat} {H : Heap} (gr : H.t.get b = some (rd s i)) (hb : b < H.nx) (hro : H.ro ≤ b) (hl : s.length < 100000) (hi : i < 100000) :
    callN (LK lib0 fs fuel k) fs fuel (n + 1) 79 [.ptr b 0] H = .ret (.tup []) (H.put b (rd s (skipB s i))) :=
  spec_hit (r := 2) rfl (by show (rdOf (H.t.get b)).map _ = _; rw [gr, rdOf_rd]; rfl) (rBlank_run E (n := 898) (H := H) gr hb hro hl hi) hk
theorem rFail_run {lib0 : Lib} {fs : T CF} {fuel : Nat} (E : Env lib0 fs fuel) {n : Nat} {s : List UInt8} {i b : Nat} {H : Heap} (gr : H.t.get b = some (rd s i)) (hb : b < H.nx) (hro : H.ro ≤ b) :
    LessR H (callN (LK lib0 fs fuel 0) fs fuel (n + 2) 80 [.ptr b 0] H) (.pan (fltV 5 i) H) := by
  rw [callN_fn (libK_none E.n80 (.inl (by decide)) _ _) E.f80]
  have gr' : H.t.get b = some (rG 144 1 [.str s, nI .i64 i] 0 false true true) := gr
  simp (disch := first | assumption | omega | (simp -implicitDefEqProofs only [SideG, List.length_cons, List.length_nil, List.length_set, List.length_map] <;> first | assumption | omega) | decide) only [gr', ld1_rG, lowV_ptr, idxStr_at, cmpV_lt, Nat.add_zero, fltV, c80, RunG, N8G, CoreG, Bool.not_true, Bool.not_false, freeK_at, readK_at, freeN_at, List.nil_append, List.append_nil, Option.map_none, Option.map_some, List.map_cons, List.map_nil, cond_true, cond_false, Nat.testBit_eq_decide_div_mod_eq, Nat.reducePow, Nat.reduceDiv, Nat.reduceMod, decide_true, Nat.reduceEqDiff, decide_false, reduceCtorEq, Nat.zero_ne_one, Nat.zero_add, List.getD_cons_zero, List.getD_cons_succ, List.set_cons_zero, List.set_cons_succ, gtr0, gtr2, gtr3, gtr4, gtr5, gtr6, gtr7, str0, str2, str3, str4, str5, str6, str7]
  exact ⟨rfl, Less.same fun _ _ => rfl, rfl⟩
theorem rFail {lib0 : Lib} {fs : T CF} {fuel : Nat} (E : Env lib0 fs fuel) {k n : Nat} (hk : 1 ≤ k) {s : List UInt8} {i b : Nat} {H : Heap} (gr : H.t.get b = some (rd s i)) (hb : b < H.nx) (hro : H.ro ≤ b) :
    callN (LK lib0 fs fuel k) fs fuel (n + 1) 80 [.ptr b 0] H = .pan (fltV 5 i) H :=
  spec_hit (r := 0) rfl (by show (rdOf (H.t.get b)).map _ = _; rw [gr, rdOf_rd]; rfl) (rFail_run E (n := 898) (H := H) gr hb hro) hk
theorem rDigit_run {lib0 : Lib} {fs : T CF} {fuel : Nat} (E : Env lib0 fs fuel) {n : Nat} {s : List UInt8} {i b e : Nat} {H : Heap} (gr : H.t.get b = some (rd s i)) (hb : b < H.nx) (hro : H.ro ≤ b) (ge : H.t.get e = some (rG 142 1 [.ptr b 0] 0 false true true)) :
    ∃ H', callN (LK lib0 fs fuel 1) fs fuel (n + 2) 167 [.ptr e 0] H = .ret (.bool (dg (s.getD i 0))) H' ∧ Keep H H' [] := by
  rw [callN_fn (libK_none E.n167 (.inl (by decide)) _ _) E.f167]
  have en := fun {j} => rNext (lib0 := lib0) (fs := fs) (fuel := fuel) E (k := 1) (n := j) (by decide) gr hb hro
  unfold dg
  generalize (s.getD i 0).toNat = y at en
  by_cases h : 48 ≤ y
  · have d1 : decide (48 ≤ y) = true := decide_eq_true h
    simp (disch := first | assumption | omega | (simp -implicitDefEqProofs only [SideG, List.length_cons, List.length_nil, List.length_set, List.length_map] <;> first | assumption | omega) | decide) only [ge, ld1_rG, en, d1, cmpV_ge, cmpV_le, Bool.true_and, c167, RunG, N8G, CoreG, Bool.not_true, Bool.not_false, freeK_at, readK_at, freeN_at, List.nil_append, List.append_nil, Option.map_none, Option.map_some, List.map_cons, List.map_nil, cond_true, cond_false, Nat.testBit_eq_decide_div_mod_eq, Nat.reducePow, Nat.reduceDiv, Nat.reduceMod, decide_true, Nat.reduceEqDiff, decide_false, reduceCtorEq, Nat.zero_ne_one, Nat.zero_add, List.getD_cons_zero, List.getD_cons_succ, List.set_cons_zero, List.set_cons_succ, gtr0, gtr1, gtr2, gtr3, gtr4, gtr5, gtr6, gtr7, gtr8, gtr9, str0, str1, str2, str3, str4, str5, str6, str7, str8, str9]
    exact ⟨_, rfl, Keep.refl _ _⟩
  · have d1 : decide (48 ≤ y) = false := decide_eq_false h
    simp (disch := first | assumption | omega | (simp -implicitDefEqProofs only [SideG, List.length_cons, List.length_nil, List.length_set, List.length_map] <;> first | assumption | omega) | decide) only [ge, ld1_rG, en, d1, cmpV_ge, cmpV_le, Bool.false_and, c167, RunG, N8G, CoreG, Bool.not_true, Bool.not_false, freeK_at, readK_at, freeN_at, List.nil_append, List.append_nil, Option.map_none, Option.map_some, List.map_cons, List.map_nil, cond_true, cond_false, Nat.testBit_eq_decide_div_mod_eq, Nat.reducePow, Nat.reduceDiv, Nat.reduceMod, decide_true, Nat.reduceEqDiff, decide_false, reduceCtorEq, Nat.zero_ne_one, Nat.zero_add, List.getD_cons_zero, List.getD_cons_succ, List.set_cons_zero, List.set_cons_succ, gtr0, gtr1, gtr2, gtr3, gtr4, gtr5, gtr6, gtr7, gtr8, gtr9, str0, str1, str2, str3, str4, str5, str6, str7, str8, str9]
    exact ⟨_, rfl, Keep.refl _ _⟩
theorem rDigit {lib0 : Lib} {fs : T CF} {fuel : Nat} (E : Env lib0 fs fuel) {k n : Nat} (hk : 2 ≤ k) {s : List UInt8} {i b e : Nat} {H : Heap} (gr : H.t.get b = some (rd s i)) (hb : b < H.nx) (hro : H.ro ≤ b) (ge : H.t.get e = some (rG 142 1 [.ptr b 0] 0 false true true)) :
    callN (LK lib0 fs fuel k) fs fuel (n + 1) 167 [.ptr e 0] H = .ret (.bool (dg (s.getD i 0))) H := by
  obtain ⟨H', e, g⟩ := rDigit_run E (n := 898) (H := H) gr hb hro ge
  exact keep_hit (r := 1) rfl rfl e g (rfl) hk
end
end Go.AI

/- A number read: walked. -/
namespace Go.AI
open Go
noncomputable section

theorem Less.nnp {H H' : Heap} {b : Nat} {o o1 o2 : Obj} (hb : b < H.nx) (ho : lowX H.nx o) (k : ∀ c, c < H.nx → H'.t.get c = (((H.new o1).new o2).put b o).t.get c) : Less H H' (H.put b o) :=
  Less.put hb ho fun c hc => by
    rw [k c hc, put_get, put_get]
    split
    · rfl
    · rw [get_new_ne (by show ¬ H.nx + 1 = c; omega), get_new_ne (by omega)]
theorem span_on {s : List UInt8} {i : Nat} (h : i < s.length) (hb : dg (s.getD i 0) = true) : spanD s (i + 1) = spanD s i := by
  unfold spanD
  have e : s.getD i 0 = s[i] := by rw [List.getD_eq_getElem?_getD, List.getElem?_eq_getElem h]; rfl
  rw [e] at hb
  rw [List.drop_eq_getElem_cons h, List.takeWhile_cons_of_pos hb, List.length_cons]; omega
theorem span_no {s : List UInt8} {i : Nat} (hb : dg (s.getD i 0) = false) : spanD s i = i := by
  unfold spanD
  by_cases h : i < s.length
  · have e : s.getD i 0 = s[i] := by rw [List.getD_eq_getElem?_getD, List.getElem?_eq_getElem h]; rfl
    rw [e] at hb
    rw [List.drop_eq_getElem_cons h, List.takeWhile_cons_of_neg (by rw [hb]; simp)]; rfl
  · rw [List.drop_eq_nil_of_le (by omega)]; rfl
theorem dg_lt {s : List UInt8} {i : Nat} (hb : dg (s.getD i 0) = true) : i < s.length := by
  by_cases h : i < s.length
  · exact h
  · rw [getD_end (by omega)] at hb; cases hb
theorem span_len (s : List UInt8) (i : Nat) (h : i ≤ s.length) : spanD s i ≤ s.length := by
  unfold spanD
  have := (List.takeWhile_sublist dg (l := s.drop i)).length_le
  rw [List.length_drop] at this; omega
theorem span_ge (s : List UInt8) (i : Nat) : i ≤ spanD s i := by unfold spanD; omega
theorem span_all {s : List UInt8} : ∀ {i j : Nat}, i ≤ j → j < spanD s i → dg (s.getD j 0) = true := by
  have : ∀ (k i j : Nat), j - i = k → i ≤ j → j < spanD s i → dg (s.getD j 0) = true := by
    intro k
    induction k with
    | zero =>
      intro i j h1 h2 h3
      obtain rfl : i = j := by omega
      cases hb : dg (s.getD i 0) with
      | true => rfl
      | false => rw [span_no hb] at h3; omega
    | succ k ih =>
      intro i j h1 h2 h3
      cases hb : dg (s.getD i 0) with
      | false => rw [span_no hb] at h3; omega
      | true => exact ih (i + 1) j (by omega) (by omega) (by rw [span_on (dg_lt hb) hb]; exact h3)
  intro i j; exact this _ i j rfl
theorem numTo_on {s : List UInt8} {p : Nat} (hb : dg (s.getD p 0) = true) (h : (s.getD p 0).toNat ≠ 48) : numTo s p = spanD s (p + 1) := by
  unfold numTo; rw [if_neg h, span_on (dg_lt hb) hb]
theorem numTo_gt {s : List UInt8} {p : Nat} (hb : dg (s.getD p 0) = true) : p < numTo s p := by
  unfold numTo
  split
  · omega
  · rw [← span_on (dg_lt hb) hb]; have := span_ge s (p + 1); omega
theorem numTo_le {s : List UInt8} {p : Nat} (hb : dg (s.getD p 0) = true) : numTo s p ≤ s.length := by
  have := dg_lt hb
  unfold numTo
  split
  · omega
  · exact span_len s p (by omega)
theorem getD_cut {s : List UInt8} {p q j : Nat} (hj : j < q - p) : ((s.take q).drop p).getD j 0 = s.getD (p + j) 0 := by
  rw [List.getD_eq_getElem?_getD, List.getElem?_drop, List.getElem?_take_of_lt (by omega), List.getD_eq_getElem?_getD]
theorem num_allD {s : List UInt8} {p : Nat} (hb : dg (s.getD p 0) = true) : allD ((s.take (numTo s p)).drop p) := by
  intro j hj
  have hle := numTo_le hb
  rw [List.length_drop, List.length_take] at hj
  rw [getD_cut (by omega)]
  have : dg (s.getD (p + j) 0) = true := by
    by_cases h : (s.getD p 0).toNat = 48
    · unfold numTo at hj
      rw [if_pos h] at hj
      obtain rfl : j = 0 := by omega
      exact hb
    · unfold numTo at hj
      rw [if_neg h] at hj
      exact span_all (i := p) (by omega) (by omega)
  unfold dg at this
  rw [Bool.and_eq_true, decide_eq_true_eq, decide_eq_true_eq] at this
  exact this
theorem cut_cons {s : List UInt8} {i q : Nat} (h : i < q) (hq : q ≤ s.length) : (s.take q).drop i = s.getD i 0 :: (s.take q).drop (i + 1) := by
  rw [List.drop_eq_getElem_cons (by rw [List.length_take]; omega), List.getElem_take, List.getD_eq_getElem?_getD, List.getElem?_eq_getElem (by omega)]; rfl
theorem ofWhole_run {lib0 : Lib} {fs : T CF} {fuel : Nat} (E : Env lib0 fs fuel) {n : Nat} {z : Int} {H : Heap} (hro : H.ro ≤ H.nx) :
    ∃ H', callN (LK lib0 fs fuel 0) fs fuel (n + 2) 43 [.iface 2 (.int .i64 z)] H = .ret (wholeV z) H' ∧ Keep H H' [] := by
  rw [callN_fn (libK_none E.n43 (.inl (by decide)) _ _) E.f43]
  simp (disch := first | assumption | omega | (simp -implicitDefEqProofs only [SideG, List.length_cons, List.length_nil, List.length_set, List.length_map] <;> first | assumption | omega) | decide) only [assert_no, stN_rG, lay_cons, lay_nil, rV_agg, c43, RunG, N8G, CoreG, Bool.not_true, Bool.not_false, freeK_at, readK_at, freeN_at, List.nil_append, List.append_nil, Option.map_none, Option.map_some, List.map_cons, List.map_nil, cond_true, cond_false, Nat.testBit_eq_decide_div_mod_eq, Nat.reducePow, Nat.reduceDiv, Nat.reduceMod, decide_true, Nat.reduceEqDiff, decide_false, reduceCtorEq, Nat.zero_ne_one, Nat.zero_add, List.getD_cons_zero, List.getD_cons_succ, List.set_cons_zero, List.set_cons_succ, gtr0, gtr2, gtr4, gtr5, gtr6, gtr7, gtr8, gtr9, gtr10, gtr11, gtr12, gtr13, gtr14, gtr15, gtr16, gtr17, gtr18, gtr19, gtr20, gtr21, gtr22, gtr23, gtr24, gtr25, gtr26, gtr27, gtr28, gtr29, gtr30, gtr31, gtr32, gtr33, gtr34, gtr35, gtr36, gtr37, gtr38, gtr39, gtr40, gtr41, gtr42, gtr43, str0, str2, str3, str4, str5, str6, str7, str8, str9, str10, str11, str12, str13, str14, str15, str16, str17, str18, str19, str20, str21, str22, str23, str24, str25, str26, str27, str28, str29, str30, str31, str32, str33, str34, str35, str36, str37, str38, str39, str40, str41, str42, str43]
  exact ⟨_, rfl, Keep.new H _ []⟩
theorem ofWhole {lib0 : Lib} {fs : T CF} {fuel : Nat} (E : Env lib0 fs fuel) {k n : Nat} (hk : 1 ≤ k) {z : Int} {H : Heap} (hro : H.ro ≤ H.nx) :
    callN (LK lib0 fs fuel k) fs fuel (n + 1) 43 [.iface 2 (.int .i64 z)] H = .ret (wholeV z) H := by
  obtain ⟨H', e, g⟩ := ofWhole_run E (n := 898) (H := H) hro
  exact keep_hit (r := 0) rfl rfl e g (rfl) hk
structure NL (H2 : Heap) (b e : Nat) (s : List UInt8) (i q : Nat) (z : Bool) (m : Nat) (tm : TM) (H : Heap) : Prop where
  t1 : gt1 tm = .ptr e 0
  t2 : gt2 tm = .ptr (e + 1) 0
  t3 : gt3 tm = nI .i64 i
  t4 : gt4 tm = .func 167 [] [.ptr e 0]
  t5 : gt5 tm = .bool z
  j : ∃ j, H = H2.put b (rd s j) ∧ j + m = q ∧ ((z = true ∧ m = 0) ∨ (z = false ∧ spanD s j = q))
theorem nl_step {lib0 : Lib} {fs : T CF} {fuel : Nat} (E : Env lib0 fs fuel) {n : Nat} {H2 : Heap} {b e i q : Nat} {z : Bool} {s : List UInt8} (hb : b < H2.nx) (hbe : b < e) (hro : H2.ro ≤ b) (hq : q ≤ s.length) (hl : s.length < 100000) (ge : H2.t.get e = some (rG 142 1 [.ptr b 0] 0 false true true)) (y f d r) (x : X) (m : Nat) (tm : TM) (H : Heap) (h : NL H2 b e s i q z m tm H) :
    ∃ o tm' H', c134_l0 ⟨callN (LK lib0 fs fuel 4) fs fuel (n + 1), y, f, d, r⟩ tm H x = .ok o tm' H' x ∧ ((o = .normal ∧ ∃ k, k < m ∧ NL H2 b e s i q z k tm' H') ∨ (o ≠ .normal ∧ o = .exit 0 ∧ NL H2 b e s i q z 0 tm' H')) := by
  obtain ⟨t1, t2, t3, t4, t5, j, rfl, hj, hz⟩ := h
  simp only [gtr1, gtr2, gtr3, gtr4, gtr5] at t1 t2 t3 t4 t5
  have gr : (H2.put b (rd s j)).t.get b = some (rd s j) := get_put_eq ..
  have gr' : (H2.put b (rd s j)).t.get b = some (rG 144 1 [.str s, nI .i64 j] 0 false true true) := gr
  have ge' : (H2.put b (rd s j)).t.get e = some (rG 142 1 [.ptr b 0] 0 false true true) := by rw [get_put_ne (by omega)]; exact ge
  have ed := fun {m} => rDigit (lib0 := lib0) (fs := fs) (fuel := fuel) E (k := 4) (n := m) (by decide) gr hb hro ge'
  rcases hz with ⟨rfl, rfl⟩ | ⟨rfl, hz⟩
  · simp (disch := first | assumption | omega | (simp -implicitDefEqProofs only [SideG, List.length_cons, List.length_nil, List.length_set, List.length_map] <;> first | assumption | omega) | decide) only [c134_l0, t5, c134_l0, RunG, N8G, CoreG, Bool.not_true, Bool.not_false, freeK_at, readK_at, freeN_at, List.nil_append, List.append_nil, Option.map_none, Option.map_some, List.map_cons, List.map_nil, cond_true, cond_false, Nat.testBit_eq_decide_div_mod_eq, Nat.reducePow, Nat.reduceDiv, Nat.reduceMod, decide_true, Nat.reduceEqDiff, decide_false, reduceCtorEq, Nat.zero_ne_one, Nat.zero_add, List.getD_cons_zero, List.getD_cons_succ, List.set_cons_zero, List.set_cons_succ, gtr0, gtr1, gtr4, gtr5, gtr38, gtr39, gtr40, gtr41, gtr42, gtr43, gtr44, gtr45, gtr46, gtr47, gtr48, gtr49, gtr50, str0, str38, str39, str40, str41, str42, str43, str44, str45, str46, str47, str48, str49, str50]
    exact ⟨_, _, _, rfl, .inr ⟨by simp, rfl, t1, t2, t3, t4, t5, j, rfl, hj, .inl ⟨rfl, rfl⟩⟩⟩
  · cases hd : dg (s.getD j 0) with
    | false =>
      rw [span_no hd] at hz
      rw [hd] at ed
      simp (disch := first | assumption | omega | (simp -implicitDefEqProofs only [SideG, List.length_cons, List.length_nil, List.length_set, List.length_map] <;> first | assumption | omega) | decide) only [c134_l0, t1, t4, t5, ed, c134_l0, RunG, N8G, CoreG, Bool.not_true, Bool.not_false, freeK_at, readK_at, freeN_at, List.nil_append, List.append_nil, Option.map_none, Option.map_some, List.map_cons, List.map_nil, cond_true, cond_false, Nat.testBit_eq_decide_div_mod_eq, Nat.reducePow, Nat.reduceDiv, Nat.reduceMod, decide_true, Nat.reduceEqDiff, decide_false, reduceCtorEq, Nat.zero_ne_one, Nat.zero_add, List.getD_cons_zero, List.getD_cons_succ, List.set_cons_zero, List.set_cons_succ, gtr0, gtr1, gtr4, gtr5, gtr38, gtr39, gtr40, gtr41, gtr42, gtr43, gtr44, gtr45, gtr46, gtr47, gtr48, gtr49, gtr50, str0, str38, str39, str40, str41, str42, str43, str44, str45, str46, str47, str48, str49, str50]
      exact ⟨_, _, _, rfl, .inr ⟨by simp, rfl, t1, t2, t3, t4, t5, j, rfl, by omega, .inr ⟨rfl, by rw [span_no hd]; exact hz⟩⟩⟩
    | true =>
      have hlt := dg_lt hd
      rw [← span_on hlt hd] at hz
      have hge := span_ge s (j + 1)
      rw [hd] at ed
      simp (disch := first | assumption | omega | (simp -implicitDefEqProofs only [SideG, List.length_cons, List.length_nil, List.length_set, List.length_map] <;> first | assumption | omega) | decide) only [c134_l0, t1, t4, t5, ed, gr', ge', ld1_rG, addV_i, stN_one, c134_l0, RunG, N8G, CoreG, Bool.not_true, Bool.not_false, freeK_at, readK_at, freeN_at, List.nil_append, List.append_nil, Option.map_none, Option.map_some, List.map_cons, List.map_nil, cond_true, cond_false, Nat.testBit_eq_decide_div_mod_eq, Nat.reducePow, Nat.reduceDiv, Nat.reduceMod, decide_true, Nat.reduceEqDiff, decide_false, reduceCtorEq, Nat.zero_ne_one, Nat.zero_add, List.getD_cons_zero, List.getD_cons_succ, List.set_cons_zero, List.set_cons_succ, gtr0, gtr1, gtr4, gtr5, gtr38, gtr39, gtr40, gtr41, gtr42, gtr43, gtr44, gtr45, gtr46, gtr47, gtr48, gtr49, gtr50, str0, str38, str39, str40, str41, str42, str43, str44, str45, str46, str47, str48, str49, str50]
      exact ⟨_, _, _, rfl, .inl ⟨rfl, m - 1, by omega, t1, t2, t3, t4, t5, j + 1, rfl, by omega, .inr ⟨rfl, hz⟩⟩⟩
theorem rNumber_run {lib0 : Lib} {fs : T CF} {fuel : Nat} (E : Env lib0 fs fuel) {n : Nat} {s : List UInt8} {i b : Nat} {H : Heap} (g : Glob H) (gr : H.t.get b = some (rd s i)) (hb : b < H.nx) (hb2 : 100 ≤ b) (hro : H.ro ≤ b) (hl : s.length < 99998) (hi : i < s.length) :
    LessR H (callN (LK lib0 fs fuel 4) fs fuel (n + 6) 134 [.ptr b 0] H) (match numOut s i with | .ok z q => .ret (wholeV z) (H.put b (rd s q)) | .bad p q => .pan (fltV 5 p) (H.put b (rd s q))) := by
  rw [callN_fn (libK_none E.n134 (.inl (by decide)) _ _) E.f134]
  have gr' : H.t.get b = some (rG 144 1 [.str s, nI .i64 i] 0 false true true) := gr
  obtain ⟨H1, hH1⟩ : ∃ H1, H.new (rG 142 1 [.ptr b 0] 0 false true true) = H1 := ⟨_, rfl⟩
  obtain ⟨H2, hH2⟩ : ∃ H2, H1.new (rG 72 1 [nI .i64 0, .bool false, nI .i64 0, .str [], .nils, .nils] 0 false true true) = H2 := ⟨_, rfl⟩
  have nx1 : H1.nx = H.nx + 1 := by rw [← hH1]; rfl
  have nx2 : H2.nx = H.nx + 1 + 1 := by rw [← hH2, new_nx, nx1]
  have ro2 : H2.ro = H.ro := by rw [← hH2, ← hH1]; rfl
  have ge : H2.t.get H.nx = some (rG 142 1 [.ptr b 0] 0 false true true) := by rw [← hH2, get_new_ne (by omega), ← hH1, get_new_eq rfl]
  have gv : H2.t.get (H.nx + 1) = some (rG 72 1 [nI .i64 0, .bool false, nI .i64 0, .str [], .nils, .nils] 0 false true true) := by rw [← hH2, get_new_eq nx1]
  have gb2 : H2.t.get b = some (rd s i) := by rw [← hH2, get_new_ne (by omega), ← hH1, get_new_ne (by omega)]; exact gr
  have gb2' : H2.t.get b = some (rG 144 1 [.str s, nI .i64 i] 0 false true true) := gb2
  have g2 : Glob H2 := by rw [← hH2, ← hH1]; exact (g.new _).new _
  have hp2 : H2.put b (rd s i) = H2 := put_self gb2
  have en := fun {m} => rNext (lib0 := lib0) (fs := fs) (fuel := fuel) E (k := 4) (n := m) (by decide) gb2 (by omega) (by rw [ro2]; exact hro)
  -- from the sign on
  have key : ∀ (T : TM) (p : Nat) (neg : Bool), (s.take (numTo s p)).drop i = (if neg then 45 :: (s.take (numTo s p)).drop p else (s.take (numTo s p)).drop p) ∨ dg (s.getD p 0) = false →
      (p = i ∧ neg = false ∨ p = i + 1 ∧ neg = true) → p = numFrom s i → gt1 T = .ptr H.nx 0 → gt2 T = .ptr (H.nx + 1) 0 → gt3 T = nI .i64 i →
      LessR H (outF (fun pn g xs H => onCF .fail fs g fun cg => outD pn cg.rs (cg.body ⟨callN (LK lib0 fs fuel 4) fs fuel (n + 5), noYield, noRange, fuel, false⟩ (argsT xs) H ⟨[], pn⟩)) [(gt2, some (6, true))]
        (c134_t0 ⟨callN (LK lib0 fs fuel 4) fs fuel (n + 5), noYield, rangeK fs fuel (callN (LK lib0 fs fuel 4) fs fuel (n + 5)), fuel, false⟩ T (H2.put b (rd s p)) ⟨[], none⟩))
        (match numOut s i with | .ok z q => .ret (wholeV z) (H.put b (rd s q)) | .bad p q => .pan (fltV 5 p) (H.put b (rd s q))) := by
    intro T p neg hw hpn hpf t1 t2 t3
    simp only [gtr1, gtr2, gtr3] at t1 t2 t3
    have gp : (H2.put b (rd s p)).t.get b = some (rd s p) := get_put_eq ..
    have gp' : (H2.put b (rd s p)).t.get b = some (rG 144 1 [.str s, nI .i64 p] 0 false true true) := gp
    have gep : (H2.put b (rd s p)).t.get H.nx = some (rG 142 1 [.ptr b 0] 0 false true true) := by rw [get_put_ne (by omega)]; exact ge
    have ed := fun {m} => rDigit (lib0 := lib0) (fs := fs) (fuel := fuel) E (k := 4) (n := m) (by decide) gp (by rw [put_nx]; omega) (by rw [put_ro, ro2]; exact hro) gep
    have enp := fun {m} => rNext (lib0 := lib0) (fs := fs) (fuel := fuel) E (k := 4) (n := m) (by decide) gp (by rw [put_nx]; omega) (by rw [put_ro, ro2]; exact hro)
    have ef := fun {m} => rFail (lib0 := lib0) (fs := fs) (fuel := fuel) E (k := 4) (n := m) (by decide) gp (by rw [put_nx]; omega) (by rw [put_ro, ro2]; exact hro)
    have no : numOut s i = (if dg (s.getD p 0) = false then .bad p p else (if p = i then (if undec ((s.take (numTo s p)).drop p) < 9223372036854775808 then .ok (undec ((s.take (numTo s p)).drop p)) (numTo s p) else .bad i (numTo s p)) else (if undec ((s.take (numTo s p)).drop p) ≤ 9223372036854775808 then .ok (-(undec ((s.take (numTo s p)).drop p) : Int)) (numTo s p) else .bad i (numTo s p)))) := by
      unfold numOut; rw [← hpf]
    rw [no]
    cases hd : dg (s.getD p 0) with
    | false =>
      rw [if_pos rfl]
      rw [hd] at ed
      simp (disch := first | assumption | omega | (simp -implicitDefEqProofs only [SideG, List.length_cons, List.length_nil, List.length_set, List.length_map] <;> first | assumption | omega) | decide) only [c134_t0, t1, t2, t3, ed, gep, ld1_rG, ef, c134_t0, RunG, N8G, CoreG, Bool.not_true, Bool.not_false, freeK_at, readK_at, freeN_at, List.nil_append, List.append_nil, Option.map_none, Option.map_some, List.map_cons, List.map_nil, cond_true, cond_false, Nat.testBit_eq_decide_div_mod_eq, Nat.reducePow, Nat.reduceDiv, Nat.reduceMod, decide_true, Nat.reduceEqDiff, decide_false, reduceCtorEq, Nat.zero_ne_one, Nat.zero_add, List.getD_cons_zero, List.getD_cons_succ, List.set_cons_zero, List.set_cons_succ, gtr0, gtr1, gtr2, gtr3, gtr4, gtr6, gtr7, gtr22, gtr23, gtr24, gtr25, gtr26, gtr28, gtr29, gtr30, gtr31, gtr32, gtr33, gtr34, gtr35, gtr36, gtr37, gtr51, gtr52, gtr53, gtr54, gtr55, gtr56, gtr57, gtr58, gtr59, gtr60, gtr61, gtr62, gtr63, gtr64, gtr65, gtr66, gtr67, gtr68, gtr69, gtr70, gtr71, gtr72, str0, str1, str3, str4, str5, str6, str7, str22, str23, str24, str25, str26, str27, str28, str29, str30, str31, str32, str33, str34, str35, str36, str37, str51, str52, str53, str54, str55, str56, str57, str58, str59, str60, str61, str62, str63, str64, str65, str66, str67, str68, str69, str70, str71, str72]
      refine ⟨rfl, ?_, rfl⟩
      exact Less.nnp hb (lowX_rd _ _ _) (fun c _ => by rw [hH1, hH2])
    | true =>
      rw [if_neg (by simp)]
      have hw := hw.resolve_right (by rw [hd]; simp)
      rw [hd] at ed
      have hq1 := numTo_gt hd
      have hq2 := numTo_le hd
      have hal := num_allD hd
      have hne : (s.take (numTo s p)).drop p ≠ [] := by
        intro e
        have := congrArg List.length e
        rw [List.length_drop, List.length_take] at this
        simp at this; omega
      have hls : ((s.take (numTo s p)).drop p).length < 99999 := by rw [List.length_drop, List.length_take]; omega
      generalize hqq : numTo s p = q at hq1 hq2 hal hne hls hw ⊢
      have hz : ∀ zz, zz = decide ((s.getD p 0).toNat = 48) → ((zz = true ∧ q - (p + 1) = 0) ∨ (zz = false ∧ spanD s (p + 1) = q)) := by
        intro zz hzz
        by_cases h48 : (s.getD p 0).toNat = 48
        · left
          refine ⟨by rw [hzz]; exact decide_eq_true h48, ?_⟩
          rw [← hqq]; unfold numTo; rw [if_pos h48]; omega
        · right
          exact ⟨by rw [hzz]; exact decide_eq_false h48, by rw [← hqq, numTo_on hd h48]⟩
      have hdec : ∀ H, eqV eqI false (nI .u8 (s.getD p 0).toNat) (nI .u8 48) H = .val (.bool (decide ((s.getD p 0).toNat = 48))) H := fun H => eqV_eq ..
      simp (disch := first | assumption | omega | (simp -implicitDefEqProofs only [SideG, List.length_cons, List.length_nil, List.length_set, List.length_map] <;> first | assumption | omega) | decide) only [c134_t0, t1, t2, t3, ed, enp, gep, gp', ld1_rG, addV_i, stN_one, hdec, c134_t0, RunG, N8G, CoreG, Bool.not_true, Bool.not_false, freeK_at, readK_at, freeN_at, List.nil_append, List.append_nil, Option.map_none, Option.map_some, List.map_cons, List.map_nil, cond_true, cond_false, Nat.testBit_eq_decide_div_mod_eq, Nat.reducePow, Nat.reduceDiv, Nat.reduceMod, decide_true, Nat.reduceEqDiff, decide_false, reduceCtorEq, Nat.zero_ne_one, Nat.zero_add, List.getD_cons_zero, List.getD_cons_succ, List.set_cons_zero, List.set_cons_succ, gtr0, gtr1, gtr2, gtr3, gtr4, gtr6, gtr7, gtr22, gtr23, gtr24, gtr25, gtr26, gtr28, gtr29, gtr30, gtr31, gtr32, gtr33, gtr34, gtr35, gtr36, gtr37, gtr51, gtr52, gtr53, gtr54, gtr55, gtr56, gtr57, gtr58, gtr59, gtr60, gtr61, gtr62, gtr63, gtr64, gtr65, gtr66, gtr67, gtr68, gtr69, gtr70, gtr71, gtr72, str0, str1, str3, str4, str5, str6, str7, str22, str23, str24, str25, str26, str27, str28, str29, str30, str31, str32, str33, str34, str35, str36, str37, str51, str52, str53, str54, str55, str56, str57, str58, str59, str60, str61, str62, str63, str64, str65, str66, str67, str68, str69, str70, str71, str72]
      generalize hL : loopN (c134_l0 _) fuel _ _ _ = L
      obtain ⟨o, tm1, H3, rfl, _, rfl, zz⟩ := after_rule (P := fun T => NL H2 b H.nx s i q (decide ((s.getD p 0).toNat = 48)) (q - (p + 1)) T (H2.put b (rd s (p + 1)))) (Q := fun o tm H' => o = .exit 0 ∧ NL H2 b H.nx s i q (decide ((s.getD p 0).toNat = 48)) 0 tm H')
        (fun T hi' => loop_rule (NL H2 b H.nx s i q (decide ((s.getD p 0).toNat = 48))) (fun o tm H' => o = .exit 0 ∧ NL H2 b H.nx s i q (decide ((s.getD p 0).toNat = 48)) 0 tm H') (fun m tm H' h => nl_step E (by omega) hb (by rw [ro2]; exact hro) hq2 (by omega) ge _ _ _ _ _ m tm H' h) fuel _ T _ (by have := E.big; omega) hi') hL
        ⟨t1, t2, t3, rfl, rfl, p + 1, rfl, by omega, hz _ rfl⟩
      obtain ⟨z1, z2, z3, _, _, j, rfl, hj, _⟩ := zz
      obtain rfl : j = q := by omega
      simp only [gtr1, gtr2, gtr3] at z1 z2 z3
      have gq' : (H2.put b (rd s j)).t.get b = some (rG 144 1 [.str s, nI .i64 j] 0 false true true) := get_put_eq ..
      have geq : (H2.put b (rd s j)).t.get H.nx = some (rG 142 1 [.ptr b 0] 0 false true true) := by rw [get_put_ne (by omega)]; exact ge
      have gvq : (H2.put b (rd s j)).t.get (H.nx + 1) = some (rG 72 1 [nI .i64 0, .bool false, nI .i64 0, .str [], .nils, .nils] 0 false true true) := by rw [get_put_ne (by omega)]; exact gv
      have gq : Glob (H2.put b (rd s j)) := g2.put (by omega) _
      have roq : (H2.put b (rd s j)).ro ≤ (H2.put b (rd s j)).nx := by rw [put_ro, put_nx, ro2]; omega
      generalize hds : (s.take j).drop p = ds at hw hal hne hls ⊢
      generalize hHq : H2.put b (rd s j) = Hq at gq' geq gvq gq roq
      have nxq : Hq.nx = H.nx + 1 + 1 := by rw [← hHq, put_nx, nx2]
      have roqe : Hq.ro = H.ro := by rw [← hHq, put_ro, ro2]
      have hkq : ∀ c, c < H.nx → Hq.t.get c = (((H.new (rG 142 1 [.ptr b 0] 0 false true true)).new (rG 72 1 [nI .i64 0, .bool false, nI .i64 0, .str [], .nils, .nils] 0 false true true)).put b (rd s j)).t.get c := fun c _ => by rw [hH1, hH2, hHq]
      have sl : ∀ H, slStrV (.str s) (some (nI .i64 i)) (some (nI .i64 j)) H = .val (.str (if neg = true then 45 :: ds else ds)) H := fun H => by
        rw [slStr_mid (by rcases hpn with ⟨h, _⟩ | ⟨h, _⟩ <;> omega) hq2, hw]
      rcases hpn with ⟨hpi, hng⟩ | ⟨hpi, hng⟩
      · rw [if_pos hpi]
        by_cases hu : undec ds < 9223372036854775808
        · rw [if_pos hu]
          have hpz : piV neg (undec ds) = .tup [.int .i64 ((undec ds : Int)), .nili] := by unfold piV; rw [hng, if_neg (by simp), if_pos hu]; rfl
          have po := parseOk (lib0 := lib0) (fs := fs) (fuel := fuel) E (k := 4) (n := n + 3) (by decide) (neg := neg) (H := Hq) hal hne hls hpz
          have ow := fun {m} => ofWhole (lib0 := lib0) (fs := fs) (fuel := fuel) E (k := 4) (n := m) (by decide) (z := (undec ds : Int)) (H := Hq) roq
          unfold wholeV at ow
          simp (disch := first | assumption | omega | (simp -implicitDefEqProofs only [SideG, List.length_cons, List.length_nil, List.length_set, List.length_map] <;> first | assumption | omega) | decide) only [z1, z2, z3, geq, gq', gvq, ld1_rG, sl, po, ow, lowV_ptr, stN_rG, lay_cons, lay_nil, rV_agg, c134_t0, RunG, N8G, CoreG, Bool.not_true, Bool.not_false, freeK_at, readK_at, freeN_at, List.nil_append, List.append_nil, Option.map_none, Option.map_some, List.map_cons, List.map_nil, cond_true, cond_false, Nat.testBit_eq_decide_div_mod_eq, Nat.reducePow, Nat.reduceDiv, Nat.reduceMod, decide_true, Nat.reduceEqDiff, decide_false, reduceCtorEq, Nat.zero_ne_one, Nat.zero_add, List.getD_cons_zero, List.getD_cons_succ, List.set_cons_zero, List.set_cons_succ, gtr0, gtr1, gtr2, gtr3, gtr4, gtr6, gtr7, gtr22, gtr23, gtr24, gtr25, gtr26, gtr28, gtr29, gtr30, gtr31, gtr32, gtr33, gtr34, gtr35, gtr36, gtr37, gtr51, gtr52, gtr53, gtr54, gtr55, gtr56, gtr57, gtr58, gtr59, gtr60, gtr61, gtr62, gtr63, gtr64, gtr65, gtr66, gtr67, gtr68, gtr69, gtr70, gtr71, gtr72, str0, str1, str3, str4, str5, str6, str7, str22, str23, str24, str25, str26, str27, str28, str29, str30, str31, str32, str33, str34, str35, str36, str37, str51, str52, str53, str54, str55, str56, str57, str58, str59, str60, str61, str62, str63, str64, str65, str66, str67, str68, str69, str70, str71, str72]
          exact ⟨rfl, Less.nnp hb (lowX_rd _ _ _) (fun c hc => by rw [get_put_ne (by omega)]; exact hkq c hc), rfl⟩
        · rw [if_neg hu]
          have hpz : piV neg (undec ds) = .tup [.int .i64 (9223372036854775807), errV 1] := by unfold piV; rw [hng, if_neg (by simp), if_neg hu]; rfl
          obtain ⟨H4, po, k4, n4⟩ := parseBad (lib0 := lib0) (fs := fs) (fuel := fuel) E (k := 4) (n := n + 1) (by decide) (neg := neg) (H := Hq) gq roq hal hne hls hpz
          simp (disch := first | assumption | omega | (simp -implicitDefEqProofs only [SideG, List.length_cons, List.length_nil, List.length_set, List.length_map] <;> first | assumption | omega) | decide) only [z1, z2, z3, geq, gq', gvq, ld1_rG, sl, po, lowV_ptr, fltV, c134_t0, RunG, N8G, CoreG, Bool.not_true, Bool.not_false, freeK_at, readK_at, freeN_at, List.nil_append, List.append_nil, Option.map_none, Option.map_some, List.map_cons, List.map_nil, cond_true, cond_false, Nat.testBit_eq_decide_div_mod_eq, Nat.reducePow, Nat.reduceDiv, Nat.reduceMod, decide_true, Nat.reduceEqDiff, decide_false, reduceCtorEq, Nat.zero_ne_one, Nat.zero_add, List.getD_cons_zero, List.getD_cons_succ, List.set_cons_zero, List.set_cons_succ, gtr0, gtr1, gtr2, gtr3, gtr4, gtr6, gtr7, gtr22, gtr23, gtr24, gtr25, gtr26, gtr28, gtr29, gtr30, gtr31, gtr32, gtr33, gtr34, gtr35, gtr36, gtr37, gtr51, gtr52, gtr53, gtr54, gtr55, gtr56, gtr57, gtr58, gtr59, gtr60, gtr61, gtr62, gtr63, gtr64, gtr65, gtr66, gtr67, gtr68, gtr69, gtr70, gtr71, gtr72, str0, str1, str3, str4, str5, str6, str7, str22, str23, str24, str25, str26, str27, str28, str29, str30, str31, str32, str33, str34, str35, str36, str37, str51, str52, str53, str54, str55, str56, str57, str58, str59, str60, str61, str62, str63, str64, str65, str66, str67, str68, str69, str70, str71, str72]
          exact ⟨rfl, Less.nnp hb (lowX_rd _ _ _) (fun c hc => by rw [k4.get c (by omega) (by simp)]; exact hkq c hc), rfl⟩
      · rw [if_neg (by omega)]
        by_cases hu : undec ds ≤ 9223372036854775808
        · rw [if_pos hu]
          have hpz : piV neg (undec ds) = .tup [.int .i64 (-(undec ds : Int)), .nili] := by unfold piV; rw [hng, if_pos rfl, if_pos hu]
          have po := parseOk (lib0 := lib0) (fs := fs) (fuel := fuel) E (k := 4) (n := n + 3) (by decide) (neg := neg) (H := Hq) hal hne hls hpz
          have ow := fun {m} => ofWhole (lib0 := lib0) (fs := fs) (fuel := fuel) E (k := 4) (n := m) (by decide) (z := -(undec ds : Int)) (H := Hq) roq
          unfold wholeV at ow
          simp (disch := first | assumption | omega | (simp -implicitDefEqProofs only [SideG, List.length_cons, List.length_nil, List.length_set, List.length_map] <;> first | assumption | omega) | decide) only [z1, z2, z3, geq, gq', gvq, ld1_rG, sl, po, ow, lowV_ptr, stN_rG, lay_cons, lay_nil, rV_agg, c134_t0, RunG, N8G, CoreG, Bool.not_true, Bool.not_false, freeK_at, readK_at, freeN_at, List.nil_append, List.append_nil, Option.map_none, Option.map_some, List.map_cons, List.map_nil, cond_true, cond_false, Nat.testBit_eq_decide_div_mod_eq, Nat.reducePow, Nat.reduceDiv, Nat.reduceMod, decide_true, Nat.reduceEqDiff, decide_false, reduceCtorEq, Nat.zero_ne_one, Nat.zero_add, List.getD_cons_zero, List.getD_cons_succ, List.set_cons_zero, List.set_cons_succ, gtr0, gtr1, gtr2, gtr3, gtr4, gtr6, gtr7, gtr22, gtr23, gtr24, gtr25, gtr26, gtr28, gtr29, gtr30, gtr31, gtr32, gtr33, gtr34, gtr35, gtr36, gtr37, gtr51, gtr52, gtr53, gtr54, gtr55, gtr56, gtr57, gtr58, gtr59, gtr60, gtr61, gtr62, gtr63, gtr64, gtr65, gtr66, gtr67, gtr68, gtr69, gtr70, gtr71, gtr72, str0, str1, str3, str4, str5, str6, str7, str22, str23, str24, str25, str26, str27, str28, str29, str30, str31, str32, str33, str34, str35, str36, str37, str51, str52, str53, str54, str55, str56, str57, str58, str59, str60, str61, str62, str63, str64, str65, str66, str67, str68, str69, str70, str71, str72]
          exact ⟨rfl, Less.nnp hb (lowX_rd _ _ _) (fun c hc => by rw [get_put_ne (by omega)]; exact hkq c hc), rfl⟩
        · rw [if_neg hu]
          have hpz : piV neg (undec ds) = .tup [.int .i64 (.negSucc 9223372036854775807), errV 1] := by unfold piV; rw [hng, if_pos rfl, if_neg hu]
          obtain ⟨H4, po, k4, n4⟩ := parseBad (lib0 := lib0) (fs := fs) (fuel := fuel) E (k := 4) (n := n + 1) (by decide) (neg := neg) (H := Hq) gq roq hal hne hls hpz
          simp (disch := first | assumption | omega | (simp -implicitDefEqProofs only [SideG, List.length_cons, List.length_nil, List.length_set, List.length_map] <;> first | assumption | omega) | decide) only [z1, z2, z3, geq, gq', gvq, ld1_rG, sl, po, lowV_ptr, fltV, c134_t0, RunG, N8G, CoreG, Bool.not_true, Bool.not_false, freeK_at, readK_at, freeN_at, List.nil_append, List.append_nil, Option.map_none, Option.map_some, List.map_cons, List.map_nil, cond_true, cond_false, Nat.testBit_eq_decide_div_mod_eq, Nat.reducePow, Nat.reduceDiv, Nat.reduceMod, decide_true, Nat.reduceEqDiff, decide_false, reduceCtorEq, Nat.zero_ne_one, Nat.zero_add, List.getD_cons_zero, List.getD_cons_succ, List.set_cons_zero, List.set_cons_succ, gtr0, gtr1, gtr2, gtr3, gtr4, gtr6, gtr7, gtr22, gtr23, gtr24, gtr25, gtr26, gtr28, gtr29, gtr30, gtr31, gtr32, gtr33, gtr34, gtr35, gtr36, gtr37, gtr51, gtr52, gtr53, gtr54, gtr55, gtr56, gtr57, gtr58, gtr59, gtr60, gtr61, gtr62, gtr63, gtr64, gtr65, gtr66, gtr67, gtr68, gtr69, gtr70, gtr71, gtr72, str0, str1, str3, str4, str5, str6, str7, str22, str23, str24, str25, str26, str27, str28, str29, str30, str31, str32, str33, str34, str35, str36, str37, str51, str52, str53, str54, str55, str56, str57, str58, str59, str60, str61, str62, str63, str64, str65, str66, str67, str68, str69, str70, str71, str72]
          exact ⟨rfl, Less.nnp hb (lowX_rd _ _ _) (fun c hc => by rw [k4.get c (by omega) (by simp)]; exact hkq c hc), rfl⟩
  have hpf : numFrom s i = if (s.getD i 0).toNat = 45 then i + 1 else i := rfl
  by_cases h45 : (s.getD i 0).toNat = 45
  · rw [if_pos h45] at hpf
    have d1 : decide ((s.getD i 0).toNat = 45) = true := decide_eq_true h45
    simp (disch := first | assumption | omega | (simp -implicitDefEqProofs only [SideG, List.length_cons, List.length_nil, List.length_set, List.length_map] <;> first | assumption | omega) | decide) only [hH1, hH2, nx1, nx2, en, d1, gb2', ge, ld1_rG, eqV_eq, addV_i, stN_one, c134, RunG, N8G, CoreG, Bool.not_true, Bool.not_false, freeK_at, readK_at, freeN_at, List.nil_append, List.append_nil, Option.map_none, Option.map_some, List.map_cons, List.map_nil, cond_true, cond_false, Nat.testBit_eq_decide_div_mod_eq, Nat.reducePow, Nat.reduceDiv, Nat.reduceMod, decide_true, Nat.reduceEqDiff, decide_false, reduceCtorEq, Nat.zero_ne_one, Nat.zero_add, List.getD_cons_zero, List.getD_cons_succ, List.set_cons_zero, List.set_cons_succ, gtr0, gtr1, gtr2, gtr8, gtr9, gtr10, gtr11, gtr12, gtr13, gtr14, gtr15, gtr16, gtr17, gtr18, gtr19, gtr20, gtr21, str0, str1, str2, str3, str8, str9, str10, str11, str12, str13, str14, str15, str16, str17, str18, str19, str20, str21]
    refine key _ (i + 1) true ?_ (.inr ⟨rfl, rfl⟩) hpf.symm ?_ ?_ ?_
    rotate_left
    · rfl
    · rfl
    · rfl
    cases hd : dg (s.getD (i + 1) 0) with
    | false => exact .inr rfl
    | true =>
      left
      have := numTo_gt hd
      rw [if_pos rfl, cut_cons (by omega) (numTo_le hd)]
      congr 1
      exact UInt8.toNat_inj.1 h45
  · rw [if_neg h45] at hpf
    have d1 : decide ((s.getD i 0).toNat = 45) = false := decide_eq_false h45
    simp (disch := first | assumption | omega | (simp -implicitDefEqProofs only [SideG, List.length_cons, List.length_nil, List.length_set, List.length_map] <;> first | assumption | omega) | decide) only [hH1, hH2, nx1, nx2, en, d1, gb2', ge, ld1_rG, eqV_eq, c134, RunG, N8G, CoreG, Bool.not_true, Bool.not_false, freeK_at, readK_at, freeN_at, List.nil_append, List.append_nil, Option.map_none, Option.map_some, List.map_cons, List.map_nil, cond_true, cond_false, Nat.testBit_eq_decide_div_mod_eq, Nat.reducePow, Nat.reduceDiv, Nat.reduceMod, decide_true, Nat.reduceEqDiff, decide_false, reduceCtorEq, Nat.zero_ne_one, Nat.zero_add, List.getD_cons_zero, List.getD_cons_succ, List.set_cons_zero, List.set_cons_succ, gtr0, gtr1, gtr2, gtr8, gtr9, gtr10, gtr11, gtr12, gtr13, gtr14, gtr15, gtr16, gtr17, gtr18, gtr19, gtr20, gtr21, str0, str1, str2, str3, str8, str9, str10, str11, str12, str13, str14, str15, str16, str17, str18, str19, str20, str21]
    have key2 := fun T => key T i false (.inl (by rw [if_neg (by simp)])) (.inl ⟨rfl, rfl⟩) hpf.symm
    rw [hp2] at key2
    refine key2 _ ?_ ?_ ?_
    · rfl
    · rfl
    · rfl
theorem rNumber {lib0 : Lib} {fs : T CF} {fuel : Nat} (E : Env lib0 fs fuel) {k n : Nat} (hk : 5 ≤ k) {s : List UInt8} {i b : Nat} {H : Heap} (g : Glob H) (gr : H.t.get b = some (rd s i)) (hb : b < H.nx) (hb2 : 100 ≤ b) (hro : H.ro ≤ b) (hl : s.length < 99998) (hi : i < s.length) :
    callN (LK lib0 fs fuel k) fs fuel (n + 1) 134 [.ptr b 0] H = match numOut s i with | .ok z q => .ret (wholeV z) (H.put b (rd s q)) | .bad p q => .pan (fltV 5 p) (H.put b (rd s q)) :=
  spec_hit (r := 4) rfl (by show (rdOf (H.t.get b)).map _ = _; rw [gr, rdOf_rd]; rfl) (rNumber_run E (n := 894) (H := H) g gr hb hb2 hro hl hi) hk
end
end Go.AI

/- A text that is a number, read: walked. -/
namespace Go.AI
open Go
noncomputable section

/-- a text whose first byte lets a number be read -/
structure NumS (s : List UInt8) (i : Nat) : Prop where
  lt : i < s.length
  blk : blk (s.getD i 0) = false
  n1 : (s.getD i 0).toNat ≠ 110
  n2 : (s.getD i 0).toNat ≠ 116
  n3 : (s.getD i 0).toNat ≠ 102
  n4 : (s.getD i 0).toNat ≠ 34
  n5 : (s.getD i 0).toNat ≠ 91
  n6 : (s.getD i 0).toNat ≠ 123
def zVal : List AV := [nI .i64 0, .bool false, nI .i64 0, .str [], .nils, .nils]
theorem valueNum {lib0 : Lib} {fs : T CF} {fuel : Nat} (E : Env lib0 fs fuel) {k n : Nat} (hk : 5 ≤ k) {s : List UInt8} {i b : Nat} {H : Heap} (g : Glob H) (gr : H.t.get b = some (rd s i)) (hb : b < H.nx) (hb2 : 100 ≤ b) (hro : H.ro ≤ b) (hl : s.length < 99998) (hs : NumS s i) :
    match numOut s i with
    | .ok z q => ∃ H', callN (LK lib0 fs fuel k) fs fuel (n + 3) 78 [.ptr b 0, nI .i64 32] H = .ret (wholeV z) H' ∧ H'.t.get b = some (rd s q) ∧ Keep H H' [b]
    | .bad p q => ∃ H', callN (LK lib0 fs fuel k) fs fuel (n + 3) 78 [.ptr b 0, nI .i64 32] H = .pan (fltV 5 p) H' ∧ H'.t.get b = some (rd s q) ∧ Keep H H' [b] := by
  have nn : libK lib0 fs fuel rank spec k 78 [.ptr b 0, nI .i64 32] H = none := libK_none E.n78 (.inr rfl) _ _
  rw [callN_fn nn E.f78]
  obtain ⟨H1, hH1⟩ : ∃ H1, H.new (rG 72 1 zVal 0 false true true) = H1 := ⟨_, rfl⟩
  have nx1 : H1.nx = H.nx + 1 := by rw [← hH1]; rfl
  have ro1 : H1.ro = H.ro := by rw [← hH1]; rfl
  have gb1 : H1.t.get b = some (rd s i) := by rw [← hH1, get_new_ne (by omega)]; exact gr
  have gv1 : H1.t.get H.nx = some (rG 72 1 zVal 0 false true true) := by rw [← hH1, get_new_eq rfl]
  have g1 : Glob H1 := by rw [← hH1]; exact g.new _
  have k1 : Keep H H1 [b] := by rw [← hH1]; exact Keep.new H _ _
  unfold zVal at hH1 gv1
  have hi : i < s.length := hs.lt
  have eb := fun {m} => rBlank (lib0 := lib0) (fs := fs) (fuel := fuel) E (k := k) (n := m) (by omega) gb1 (by omega) (by omega) (by omega) (by omega)
  rw [skip_no hs.blk, put_self gb1] at eb
  have en := fun {m} => rNext (lib0 := lib0) (fs := fs) (fuel := fuel) E (k := k) (n := m) (by omega) gb1 (by omega) (by omega)
  have e5 := fun {m} => rNumber (lib0 := lib0) (fs := fs) (fuel := fuel) E (k := k) (n := m) hk g1 gb1 (by omega) hb2 (by omega) hl hi
  have d1 := decide_eq_false hs.n1; have d2 := decide_eq_false hs.n2; have d3 := decide_eq_false hs.n3; have d4 := decide_eq_false hs.n4; have d5 := decide_eq_false hs.n5; have d6 := decide_eq_false hs.n6
  have z0 : decide (32 = 0) = false := rfl
  cases hn : numOut s i with
  | ok z q =>
    rw [hn] at e5
    unfold wholeV at e5 ⊢
    have gvq : (H1.put b (rd s q)).t.get H.nx = some (rG 72 1 [nI .i64 0, .bool false, nI .i64 0, .str [], .nils, .nils] 0 false true true) := by rw [get_put_ne (by omega)]; exact gv1
    simp (disch := first | assumption | omega | (simp -implicitDefEqProofs only [SideG, List.length_cons, List.length_nil, List.length_set, List.length_map] <;> first | assumption | omega) | decide) only [hH1, eb, en, e5, gvq, z0, d1, d2, d3, d4, d5, d6, eqV_eq, stN_rG, lay_cons, lay_nil, rV_agg, c78, RunG, N8G, CoreG, Bool.not_true, Bool.not_false, freeK_at, readK_at, freeN_at, List.nil_append, List.append_nil, Option.map_none, Option.map_some, List.map_cons, List.map_nil, cond_true, cond_false, Nat.testBit_eq_decide_div_mod_eq, Nat.reducePow, Nat.reduceDiv, Nat.reduceMod, decide_true, Nat.reduceEqDiff, decide_false, reduceCtorEq, Nat.zero_ne_one, Nat.zero_add, List.getD_cons_zero, List.getD_cons_succ, List.set_cons_zero, List.set_cons_succ, gtr0, gtr1, gtr4, gtr5, gtr6, gtr7, gtr9, gtr10, gtr11, gtr12, gtr13, gtr14, gtr15, gtr16, gtr17, gtr18, gtr19, gtr20, gtr21, gtr22, gtr23, gtr24, gtr25, gtr26, gtr27, gtr28, gtr29, gtr30, gtr31, gtr32, gtr33, gtr34, gtr35, gtr36, gtr37, gtr38, gtr39, gtr40, gtr41, gtr42, gtr43, gtr44, gtr45, gtr46, gtr47, gtr48, gtr49, gtr50, gtr51, gtr52, gtr53, gtr54, gtr55, gtr56, gtr57, gtr58, gtr59, gtr60, gtr61, gtr62, gtr63, gtr64, str0, str1, str4, str5, str6, str7, str8, str9, str10, str11, str12, str13, str14, str15, str16, str17, str18, str19, str20, str21, str22, str23, str24, str25, str26, str27, str28, str29, str30, str31, str32, str33, str34, str35, str36, str37, str38, str39, str40, str41, str42, str43, str44, str45, str46, str47, str48, str49, str50, str51, str52, str53, str54, str55, str56, str57, str58, str59, str60, str61, str62, str63, str64]
    refine ⟨_, rfl, ?_, ?_⟩
    · rw [get_put_ne (by omega), get_put_eq]
    · exact (k1.then_put fun _ => by simp).then_put fun h => absurd h (Nat.lt_irrefl _)
  | bad p q =>
    rw [hn] at e5
    simp (disch := first | assumption | omega | (simp -implicitDefEqProofs only [SideG, List.length_cons, List.length_nil, List.length_set, List.length_map] <;> first | assumption | omega) | decide) only [hH1, eb, en, e5, z0, d1, d2, d3, d4, d5, d6, eqV_eq, c78, RunG, N8G, CoreG, Bool.not_true, Bool.not_false, freeK_at, readK_at, freeN_at, List.nil_append, List.append_nil, Option.map_none, Option.map_some, List.map_cons, List.map_nil, cond_true, cond_false, Nat.testBit_eq_decide_div_mod_eq, Nat.reducePow, Nat.reduceDiv, Nat.reduceMod, decide_true, Nat.reduceEqDiff, decide_false, reduceCtorEq, Nat.zero_ne_one, Nat.zero_add, List.getD_cons_zero, List.getD_cons_succ, List.set_cons_zero, List.set_cons_succ, gtr0, gtr1, gtr4, gtr5, gtr6, gtr7, gtr9, gtr10, gtr11, gtr12, gtr13, gtr14, gtr15, gtr16, gtr17, gtr18, gtr19, gtr20, gtr21, gtr22, gtr23, gtr24, gtr25, gtr26, gtr27, gtr28, gtr29, gtr30, gtr31, gtr32, gtr33, gtr34, gtr35, gtr36, gtr37, gtr38, gtr39, gtr40, gtr41, gtr42, gtr43, gtr44, gtr45, gtr46, gtr47, gtr48, gtr49, gtr50, gtr51, gtr52, gtr53, gtr54, gtr55, gtr56, gtr57, gtr58, gtr59, gtr60, gtr61, gtr62, gtr63, gtr64, str0, str1, str4, str5, str6, str7, str8, str9, str10, str11, str12, str13, str14, str15, str16, str17, str18, str19, str20, str21, str22, str23, str24, str25, str26, str27, str28, str29, str30, str31, str32, str33, str34, str35, str36, str37, str38, str39, str40, str41, str42, str43, str44, str45, str46, str47, str48, str49, str50, str51, str52, str53, str54, str55, str56, str57, str58, str59, str60, str61, str62, str63, str64]
    exact ⟨_, rfl, get_put_eq _ _ _, k1.then_put fun _ => by simp⟩
/-- what is told of a text that begins as a number does -/
def parseN (s : List UInt8) : AV := match numOut s 0 with
  | .ok z q => if skipB s q < s.length then .tup [.agg zVal, nI .i64 (skipB s q), nI .i64 5] else .tup [wholeV z, nI .i64 0, nI .i64 0]
  | .bad p _ => .tup [.agg zVal, nI .i64 p, nI .i64 5]
theorem numOut_le {s : List UInt8} {i : Nat} {z : Int} {q : Nat} (h : numOut s i = .ok z q) : q ≤ s.length := by
  unfold numOut at h
  simp only at h
  split at h
  · cases h
  · rename_i hd
    have hd : dg (s.getD (numFrom s i) 0) = true := by simpa using hd
    have := numTo_le hd
    split at h
    · split at h
      · cases h; exact this
      · cases h
    · split at h
      · cases h; exact this
      · cases h
theorem parseNum_run {lib0 : Lib} {fs : T CF} {fuel : Nat} (E : Env lib0 fs fuel) {n : Nat} {v : AV} {s : List UInt8} {H : Heap} (g : Glob H) (hro : H.ro ≤ H.nx) (hv1 : ∀ G, Keep H G [] → strW v G = .val (.str s) G) (hv2 : ∀ G, lenV v G = .val (nI .i64 s.length) G) (hl : s.length < 99998) (hs : NumS s 0) :
    ∃ H', callN (LK lib0 fs fuel 6) fs fuel (n + 5) 40 [v] H = .ret (parseN s) H' ∧ Keep H H' [] := by
  rw [callN_fn (libK_none E.n40 (.inl (by decide)) _ _) E.f40]
  obtain ⟨H1, hH1⟩ : ∃ H1, H.new (rG 72 1 [nI .i64 0, .bool false, nI .i64 0, .str [], .nils, .nils] 0 false true true) = H1 := ⟨_, rfl⟩
  obtain ⟨H2, hH2⟩ : ∃ H2, H1.new (rG 3 1 [nI .i64 0] 0 false true true) = H2 := ⟨_, rfl⟩
  obtain ⟨H3, hH3⟩ : ∃ H3, H2.new (rG 34 1 [nI .i64 0] 0 false true true) = H3 := ⟨_, rfl⟩
  obtain ⟨H4, hH4⟩ : ∃ H4, H3.new (rG 144 1 [.str s, nI .i64 0] 0 false true true) = H4 := ⟨_, rfl⟩
  have nx1 : H1.nx = H.nx + 1 := by rw [← hH1]; rfl
  have nx2 : H2.nx = H.nx + 1 + 1 := by rw [← hH2, new_nx, nx1]
  have nx3 : H3.nx = H.nx + 1 + 1 + 1 := by rw [← hH3, new_nx, nx2]
  have nx4 : H4.nx = H.nx + 1 + 1 + 1 + 1 := by rw [← hH4, new_nx, nx3]
  have ro4 : H4.ro = H.ro := by rw [← hH4, ← hH3, ← hH2, ← hH1]; rfl
  have k3 : Keep H H3 [] := by rw [← hH3, ← hH2, ← hH1]; exact ((Keep.new H _ _).then_new _).then_new _
  have k4 : Keep H H4 [] := by rw [← hH4]; exact k3.then_new _
  have g4 : Glob H4 := g.keep k4 (by simp)
  have a1 : H4.t.get H.nx = some (rG 72 1 [nI .i64 0, .bool false, nI .i64 0, .str [], .nils, .nils] 0 false true true) := by rw [← hH4, get_new_ne (by omega), ← hH3, get_new_ne (by omega), ← hH2, get_new_ne (by omega), ← hH1, get_new_eq rfl]
  have a2 : H4.t.get (H.nx + 1) = some (rG 3 1 [nI .i64 0] 0 false true true) := by rw [← hH4, get_new_ne (by omega), ← hH3, get_new_ne (by omega), ← hH2, get_new_eq nx1]
  have a3 : H4.t.get (H.nx + 1 + 1) = some (rG 34 1 [nI .i64 0] 0 false true true) := by rw [← hH4, get_new_ne (by omega), ← hH3, get_new_eq nx2]
  have a4 : H4.t.get (H.nx + 1 + 1 + 1) = some (rd s 0) := by rw [← hH4, get_new_eq nx3]; rfl
  have eS := hv1 H3 k3
  have h100 : 100 ≤ H.nx := g.1
  have dl : decide (16777216 < s.length) = false := decide_eq_false (by omega)
  have vn := valueNum (lib0 := lib0) (fs := fs) (fuel := fuel) E (k := 6) (n := n + 1) (by decide) g4 a4 (by omega) (by omega) (by omega) hl hs
  unfold parseN
  cases hn : numOut s 0 with
  | bad p q =>
    rw [hn] at vn
    obtain ⟨H5, ev, gr5, k5⟩ := vn
    have b1 : H5.t.get H.nx = some (rG 72 1 [nI .i64 0, .bool false, nI .i64 0, .str [], .nils, .nils] 0 false true true) := by rw [k5.get _ (by omega) (by rw [List.mem_singleton]; omega), a1]
    have b2 : H5.t.get (H.nx + 1) = some (rG 3 1 [nI .i64 0] 0 false true true) := by rw [k5.get _ (by omega) (by rw [List.mem_singleton]; omega), a2]
    have b3 : H5.t.get (H.nx + 1 + 1) = some (rG 34 1 [nI .i64 0] 0 false true true) := by rw [k5.get _ (by omega) (by rw [List.mem_singleton]; omega), a3]
    have n5 : H4.nx ≤ H5.nx := k5.nx
    have r5 : H5.ro = H.ro := by rw [k5.ro, ro4]
    unfold fltV at ev
    simp (disch := first | assumption | omega | (simp -implicitDefEqProofs only [SideG, List.length_cons, List.length_nil, List.length_set, List.length_map] <;> first | assumption | omega) | decide) only [hH1, hH2, hH3, hH4, nx1, nx2, nx3, eS, hv2, dl, ev, b1, b2, b3, E.f77, onCF_at, cmpV_gt, ld1_rG, ldN_rG, stN_rG, stN_one, lay_cons, lay_nil, lowV_ptr, rV_agg, rV_one, c40, c77, RunG, N8G, CoreG, Bool.not_true, Bool.not_false, freeK_at, readK_at, freeN_at, List.nil_append, List.append_nil, Option.map_none, Option.map_some, List.map_cons, List.map_nil, cond_true, cond_false, Nat.testBit_eq_decide_div_mod_eq, Nat.reducePow, Nat.reduceDiv, Nat.reduceMod, decide_true, Nat.reduceEqDiff, decide_false, reduceCtorEq, Nat.zero_ne_one, Nat.zero_add, List.getD_cons_zero, List.getD_cons_succ, List.set_cons_zero, List.set_cons_succ, gtr0, gtr1, gtr2, gtr3, gtr4, gtr5, gtr6, gtr7, gtr8, gtr9, gtr10, gtr11, gtr12, gtr13, gtr14, gtr15, gtr16, gtr17, gtr19, gtr20, gtr21, gtr22, gtr23, gtr24, gtr25, gtr26, gtr27, gtr28, gtr29, gtr31, str0, str1, str2, str3, str4, str5, str6, str7, str8, str9, str10, str11, str12, str13, str14, str15, str16, str17, str18, str19, str20, str21, str22, str23, str24, str25, str26, str27, str28, str29, str30, str31]
    have k6 : Keep H H5 [] := k4.trans k5 (fun c hc hl => by rw [List.mem_singleton] at hc; omega)
    exact ⟨_, rfl, (((k6.then_new _).then_put fun h => absurd h (Nat.lt_irrefl _)).then_put fun h => by omega).then_put fun h => by omega⟩
  | ok z q =>
    rw [hn] at vn
    obtain ⟨H5, ev, gr5, k5⟩ := vn
    have hq := numOut_le hn
    have b1 : H5.t.get H.nx = some (rG 72 1 [nI .i64 0, .bool false, nI .i64 0, .str [], .nils, .nils] 0 false true true) := by rw [k5.get _ (by omega) (by rw [List.mem_singleton]; omega), a1]
    have b2 : H5.t.get (H.nx + 1) = some (rG 3 1 [nI .i64 0] 0 false true true) := by rw [k5.get _ (by omega) (by rw [List.mem_singleton]; omega), a2]
    have b3 : H5.t.get (H.nx + 1 + 1) = some (rG 34 1 [nI .i64 0] 0 false true true) := by rw [k5.get _ (by omega) (by rw [List.mem_singleton]; omega), a3]
    have n5 : H4.nx ≤ H5.nx := k5.nx
    have r5 : H5.ro = H.ro := by rw [k5.ro, ro4]
    have k6 : Keep H H5 [] := k4.trans k5 (fun c hc hl => by rw [List.mem_singleton] at hc; omega)
    -- the value is laid
    obtain ⟨H6, hH6⟩ : ∃ H6, H5.put H.nx (rG 72 1 [nI .i64 3, .bool false, .int .i64 z, .str [], .nils, .nils] 0 false true true) = H6 := ⟨_, rfl⟩
    have n6 : H6.nx = H5.nx := by rw [← hH6]; rfl
    have r6 : H6.ro = H.ro := by rw [← hH6, put_ro, r5]
    have k7 : Keep H H6 [] := by rw [← hH6]; exact k6.then_put fun h => absurd h (Nat.lt_irrefl _)
    have c1 : H6.t.get H.nx = some (rG 72 1 [nI .i64 3, .bool false, .int .i64 z, .str [], .nils, .nils] 0 false true true) := by rw [← hH6, get_put_eq]
    have c2 : H6.t.get (H.nx + 1) = some (rG 3 1 [nI .i64 0] 0 false true true) := by rw [← hH6, get_put_ne (by omega), b2]
    have c3 : H6.t.get (H.nx + 1 + 1) = some (rG 34 1 [nI .i64 0] 0 false true true) := by rw [← hH6, get_put_ne (by omega), b3]
    have c4 : H6.t.get (H.nx + 1 + 1 + 1) = some (rd s q) := by rw [← hH6, get_put_ne (by omega), gr5]
    have eb := fun {m} => rBlank (lib0 := lib0) (fs := fs) (fuel := fuel) E (k := 6) (n := m) (by decide) c4 (by omega) (by omega) (by omega) (by omega)
    have hsk := skip_len s q hq
    dsimp only
    generalize hw : skipB s q = w at eb hsk ⊢
    obtain ⟨H7, hH7⟩ : ∃ H7, H6.put (H.nx + 1 + 1 + 1) (rd s w) = H7 := ⟨_, rfl⟩
    rw [hH7] at eb
    have n7 : H7.nx = H5.nx := by rw [← hH7, put_nx, n6]
    have r7 : H7.ro = H.ro := by rw [← hH7, put_ro, r6]
    have k8 : Keep H H7 [] := by rw [← hH7]; exact k7.then_put fun h => by omega
    have e1 : H7.t.get H.nx = some (rG 72 1 [nI .i64 3, .bool false, .int .i64 z, .str [], .nils, .nils] 0 false true true) := by rw [← hH7, get_put_ne (by omega), c1]
    have e2 : H7.t.get (H.nx + 1) = some (rG 3 1 [nI .i64 0] 0 false true true) := by rw [← hH7, get_put_ne (by omega), c2]
    have e3 : H7.t.get (H.nx + 1 + 1) = some (rG 34 1 [nI .i64 0] 0 false true true) := by rw [← hH7, get_put_ne (by omega), c3]
    have e4 : H7.t.get (H.nx + 1 + 1 + 1) = some (rd s w) := by rw [← hH7, get_put_eq]
    have e4' : H7.t.get (H.nx + 1 + 1 + 1) = some (rG 144 1 [.str s, nI .i64 w] 0 false true true) := e4
    have ef := fun {m} => rFail (lib0 := lib0) (fs := fs) (fuel := fuel) E (k := 6) (n := m) (by decide) e4 (by omega) (by omega)
    unfold wholeV at ev ⊢
    by_cases hlt : w < s.length
    · have d1 : decide (w < s.length) = true := decide_eq_true hlt
      rw [if_pos hlt]
      unfold fltV at ef
      simp (disch := first | assumption | omega | (simp -implicitDefEqProofs only [SideG, List.length_cons, List.length_nil, List.length_set, List.length_map] <;> first | assumption | omega) | decide) only [hH1, hH2, hH3, hH4, nx1, nx2, nx3, eS, hv2, dl, ev, hH6, eb, d1, ef, b1, e1, e2, e3, e4', E.f77, onCF_at, cmpV_gt, cmpV_lt, ld1_rG, ldN_rG, stN_rG, stN_one, lay_cons, lay_nil, lowV_ptr, rV_agg, rV_one, c40, c77, RunG, N8G, CoreG, Bool.not_true, Bool.not_false, freeK_at, readK_at, freeN_at, List.nil_append, List.append_nil, Option.map_none, Option.map_some, List.map_cons, List.map_nil, cond_true, cond_false, Nat.testBit_eq_decide_div_mod_eq, Nat.reducePow, Nat.reduceDiv, Nat.reduceMod, decide_true, Nat.reduceEqDiff, decide_false, reduceCtorEq, Nat.zero_ne_one, Nat.zero_add, List.getD_cons_zero, List.getD_cons_succ, List.set_cons_zero, List.set_cons_succ, gtr0, gtr1, gtr2, gtr3, gtr4, gtr5, gtr6, gtr7, gtr8, gtr9, gtr10, gtr11, gtr12, gtr13, gtr14, gtr15, gtr16, gtr17, gtr19, gtr20, gtr21, gtr22, gtr23, gtr24, gtr25, gtr26, gtr27, gtr28, gtr29, gtr31, str0, str1, str2, str3, str4, str5, str6, str7, str8, str9, str10, str11, str12, str13, str14, str15, str16, str17, str18, str19, str20, str21, str22, str23, str24, str25, str26, str27, str28, str29, str30, str31]
      exact ⟨_, rfl, (((k8.then_new _).then_put fun h => absurd h (Nat.lt_irrefl _)).then_put fun h => by omega).then_put fun h => by omega⟩
    · have d1 : decide (w < s.length) = false := decide_eq_false hlt
      rw [if_neg hlt]
      simp (disch := first | assumption | omega | (simp -implicitDefEqProofs only [SideG, List.length_cons, List.length_nil, List.length_set, List.length_map] <;> first | assumption | omega) | decide) only [hH1, hH2, hH3, hH4, nx1, nx2, nx3, eS, hv2, dl, ev, hH6, eb, d1, b1, e1, e2, e3, e4', E.f77, onCF_at, cmpV_gt, cmpV_lt, ld1_rG, ldN_rG, stN_rG, stN_one, lay_cons, lay_nil, lowV_ptr, rV_agg, rV_one, List.drop_zero, List.take_succ_cons, List.take_zero, c40, c77, RunG, N8G, CoreG, Bool.not_true, Bool.not_false, freeK_at, readK_at, freeN_at, List.nil_append, List.append_nil, Option.map_none, Option.map_some, List.map_cons, List.map_nil, cond_true, cond_false, Nat.testBit_eq_decide_div_mod_eq, Nat.reducePow, Nat.reduceDiv, Nat.reduceMod, decide_true, Nat.reduceEqDiff, decide_false, reduceCtorEq, Nat.zero_ne_one, Nat.zero_add, List.getD_cons_zero, List.getD_cons_succ, List.set_cons_zero, List.set_cons_succ, gtr0, gtr1, gtr2, gtr3, gtr4, gtr5, gtr6, gtr7, gtr8, gtr9, gtr10, gtr11, gtr12, gtr13, gtr14, gtr15, gtr16, gtr17, gtr19, gtr20, gtr21, gtr22, gtr23, gtr24, gtr25, gtr26, gtr27, gtr28, gtr29, gtr31, str0, str1, str2, str3, str4, str5, str6, str7, str8, str9, str10, str11, str12, str13, str14, str15, str16, str17, str18, str19, str20, str21, str22, str23, str24, str25, str26, str27, str28, str29, str30, str31]
      exact ⟨_, rfl, ((k8.then_put fun h => absurd h (Nat.lt_irrefl _)).then_put fun h => by omega).then_put fun h => by omega⟩
theorem parseNum {lib0 : Lib} {fs : T CF} {fuel : Nat} (E : Env lib0 fs fuel) {k n : Nat} (hk : 7 ≤ k) {v : AV} {s : List UInt8} {H : Heap} (g : Glob H) (hro : H.ro ≤ H.nx) (hv1 : ∀ G, Keep H G [] → strW v G = .val (.str s) G) (hv2 : ∀ G, lenV v G = .val (nI .i64 s.length) G) (hl : s.length < 99998) (hs : NumS s 0) :
    callN (LK lib0 fs fuel k) fs fuel (n + 1) 40 [v] H = .ret (parseN s) H := by
  obtain ⟨H', e, g⟩ := parseNum_run E (n := 895) (H := H) g hro hv1 hv2 hl hs
  exact keep_hit (r := 6) rfl rfl e g (by unfold parseN; split <;> (try split) <;> rfl) hk
end
end Go.AI

/- Numbers that are texts, and texts that are none: plain laws. -/
namespace Go.AI
open Go
theorem tw_le {p : UInt8 → Bool} : ∀ {l : List UInt8} {j : Nat}, j < l.length → p (l.getD j 0) = false → (l.takeWhile p).length ≤ j
  | [], j, h, _ => absurd h (Nat.not_lt_zero _)
  | c :: l, 0, _, h => by
    have h : p c = false := h
    rw [List.takeWhile_cons_of_neg (by rw [h]; simp)]; exact Nat.le_refl _
  | c :: l, j + 1, hj, h => by
    have h : p (l.getD j 0) = false := h
    by_cases hc : p c = true
    · rw [List.takeWhile_cons_of_pos hc, List.length_cons]
      have := tw_le (l := l) (j := j) (by simpa using hj) h
      omega
    · rw [List.takeWhile_cons_of_neg hc]; simp
theorem getD_drop' (l : List UInt8) (i j : Nat) : (l.drop i).getD j 0 = l.getD (i + j) 0 := by
  rw [List.getD_eq_getElem?_getD, List.getElem?_drop, List.getD_eq_getElem?_getD]
theorem skip_le {t : List UInt8} {q j : Nat} (hq : q ≤ j) (hj : j < t.length) (hb : blk (t.getD j 0) = false) : skipB t q ≤ j := by
  unfold skipB
  have := tw_le (p := blk) (l := t.drop q) (j := j - q) (by rw [List.length_drop]; omega) (by rw [getD_drop', show q + (j - q) = j by omega]; exact hb)
  omega
theorem span_le {t : List UInt8} {q j : Nat} (hq : q ≤ j) (hj : j < t.length) (hb : dg (t.getD j 0) = false) : spanD t q ≤ j := by
  unfold spanD
  have := tw_le (p := dg) (l := t.drop q) (j := j - q) (by rw [List.length_drop]; omega) (by rw [getD_drop', show q + (j - q) = j by omega]; exact hb)
  omega
theorem numOut_ok {t : List UInt8} {i : Nat} {z : Int} {q : Nat} (h : numOut t i = .ok z q) : dg (t.getD (numFrom t i) 0) = true ∧ q = numTo t (numFrom t i) := by
  unfold numOut at h
  simp only at h
  split at h
  · cases h
  · rename_i hd
    have hd : dg (t.getD (numFrom t i) 0) = true := by simpa using hd
    split at h
    · split at h
      · cases h; exact ⟨hd, rfl⟩
      · cases h
    · split at h
      · cases h; exact ⟨hd, rfl⟩
      · cases h
/-- told as no number -/
def BadN (t : List UInt8) : Prop := ∃ i : Nat, parseN t = .tup [.agg zVal, nI .i64 i, nI .i64 5]
theorem badN_of {t : List UInt8} (h : ∀ z q, numOut t 0 = .ok z q → skipB t q < t.length) : BadN t := by
  unfold BadN parseN
  cases hn : numOut t 0 with
  | bad p q => exact ⟨p, rfl⟩
  | ok z q => exact ⟨skipB t q, by simp only; rw [if_pos (h z q hn)]⟩
/-- something that is no digit and no blank stands in it -/
theorem bad_at {t : List UInt8} {j : Nat} (hj : j < t.length) (hp : numFrom t 0 ≤ j) (hd : dg (t.getD j 0) = false) (hb : blk (t.getD j 0) = false) : BadN t := badN_of fun z q h => by
  obtain ⟨h1, rfl⟩ := numOut_ok h
  have hne : numFrom t 0 ≠ j := fun e => by rw [e, hd] at h1; cases h1
  have hq : numTo t (numFrom t 0) ≤ j := by
    unfold numTo
    split
    · omega
    · exact span_le hp hj hd
  exact Nat.lt_of_le_of_lt (skip_le hq hj hb) hj
/-- a nought in front -/
theorem bad_zero {t : List UInt8} (h0 : (t.getD (numFrom t 0) 0).toNat = 48) (h1 : numFrom t 0 + 1 < t.length) (hb : blk (t.getD (numFrom t 0 + 1) 0) = false) : BadN t := badN_of fun z q h => by
  obtain ⟨_, rfl⟩ := numOut_ok h
  have hq : numTo t (numFrom t 0) = numFrom t 0 + 1 := by unfold numTo; rw [if_pos h0]
  rw [hq, skip_no hb]; exact h1
theorem undec_ge (b : List UInt8) : ∀ n : Nat, n * 10 ^ b.length ≤ b.foldl (fun n c => 10 * n + (c.toNat - 48)) n := by
  induction b with
  | nil => intro n; rw [List.length_nil, Nat.pow_zero, Nat.mul_one]; exact Nat.le_refl _
  | cons c b ih =>
    intro n
    refine Nat.le_trans ?_ (ih (10 * n + (c.toNat - 48)))
    rw [List.length_cons, Nat.pow_succ, Nat.mul_comm (10 ^ b.length) 10, ← Nat.mul_assoc, Nat.mul_comm n 10]
    exact Nat.mul_le_mul_right _ (Nat.le_add_right ..)
theorem undec_appL (a b : List UInt8) : undec a * 10 ^ b.length ≤ undec (a ++ b) := by
  unfold undec; rw [List.foldl_append]; exact undec_ge b _
theorem tw_all {p : UInt8 → Bool} : ∀ {l : List UInt8}, (∀ c ∈ l, p c = true) → l.takeWhile p = l
  | [], _ => rfl
  | c :: l, h => by rw [List.takeWhile_cons_of_pos (h c (by simp)), tw_all fun x hx => h x (by simp [hx])]
/-- digits that are a number -/
structure DS (ds : List UInt8) : Prop where
  pos : 1 ≤ ds.length
  all : ∀ c ∈ ds, dg c = true
  hd : (ds.getD 0 0).toNat ≠ 48 ∨ ds.length = 1
theorem DS.at {ds : List UInt8} (h : DS ds) : dg (ds.getD 0 0) = true := by
  cases ds with
  | nil => exact absurd h.pos (Nat.not_succ_le_zero _)
  | cons c l => exact h.all c (by simp)
theorem dg_45 {c : UInt8} (h : dg c = true) : c.toNat ≠ 45 := fun e => by
  unfold dg at h
  rw [e] at h
  revert h; decide
theorem numTo_dig {pre ds : List UInt8} (h : DS ds) : numTo (pre ++ ds) pre.length = pre.length + ds.length := by
  have e0 : (pre ++ ds).getD pre.length 0 = ds.getD 0 0 := by
    rw [List.getD_eq_getElem?_getD, List.getElem?_append_right (Nat.le_refl _), Nat.sub_self, ← List.getD_eq_getElem?_getD]
  unfold numTo
  rw [e0]
  split
  · rename_i hh
    rcases h.hd with h1 | h1
    · exact absurd hh h1
    · rw [h1]
  · unfold spanD; rw [List.drop_left, tw_all h.all]
theorem numOut_pos {ds : List UInt8} (h : DS ds) : numOut ds 0 = if undec ds < 9223372036854775808 then .ok (undec ds) ds.length else .bad 0 ds.length := by
  have hf : numFrom ds 0 = 0 := by unfold numFrom; rw [if_neg (dg_45 h.at)]
  have ht : numTo ds 0 = ds.length := by have := numTo_dig (pre := []) h; simpa using this
  unfold numOut
  simp only
  rw [hf, h.at, ht, List.take_length, List.drop_zero, if_neg (by simp), if_pos rfl]
theorem numOut_neg {ds : List UInt8} (h : DS ds) : numOut (45 :: ds) 0 = if undec ds ≤ 9223372036854775808 then .ok (-(undec ds : Int)) (1 + ds.length) else .bad 0 (1 + ds.length) := by
  have hf : numFrom (45 :: ds) 0 = 1 := rfl
  have ht : numTo (45 :: ds) 1 = 1 + ds.length := numTo_dig (pre := [45]) h
  have e1 : (45 :: ds).getD 1 0 = ds.getD 0 0 := rfl
  have e2 : ((45 :: ds).take (1 + ds.length)).drop 1 = ds := by rw [Nat.add_comm, List.take_succ_cons, List.take_length]; rfl
  unfold numOut
  simp only
  rw [hf, e1, h.at, ht, e2, if_neg (by simp), if_neg (by simp)]
theorem dec_dg {m : Nat} : ∀ c ∈ dec m, dg c = true := fun c h => by
  have := dec_digit h
  unfold dg
  rw [decide_eq_true this.1, decide_eq_true this.2]; rfl
theorem ne48 {c : UInt8} (h : c ≠ 48) : c.toNat ≠ 48 := fun e => h (UInt8.toNat_inj.1 (by rw [e]; rfl))
theorem dec_DS (m : Nat) : DS (dec m) where
  pos := by rw [dec_len]; exact nd10_pos m
  all := dec_dg
  hd := by
    by_cases h : m = 0
    · subst h; rw [dec_zero]; exact .inr rfl
    · exact .inl (ne48 (dec_head m h))
theorem fmt_cases (n : Int) : ∃ m : Nat, (fmtI n = dec m ∧ n = m) ∨ (fmtI n = 45 :: dec m ∧ n = -(m : Int) ∧ m ≠ 0) := by
  refine ⟨n.natAbs, ?_⟩
  unfold fmtI
  by_cases h : n < 0
  · rw [if_pos h]; exact .inr ⟨rfl, by omega, by omega⟩
  · rw [if_neg h]; exact .inl ⟨rfl, by omega⟩
theorem skip_end (s : List UInt8) (q : Nat) (h : s.length ≤ q) : skipB s q = q := skip_at h
/-- a number's own text is read as the number -/
theorem parse_fmt {n : Int} (h1 : -9223372036854775808 ≤ n) (h2 : n < 9223372036854775808) : parseN (fmtI n) = .tup [wholeV n, nI .i64 0, nI .i64 0] := by
  obtain ⟨m, ⟨e, rfl⟩ | ⟨e, rfl, h0⟩⟩ := fmt_cases n
  · rw [e]
    unfold parseN
    rw [numOut_pos (dec_DS m), undec_dec, if_pos (by omega)]
    simp only
    rw [skip_end _ _ (Nat.le_refl _), if_neg (Nat.lt_irrefl _)]
  · rw [e]
    unfold parseN
    rw [numOut_neg (dec_DS m), undec_dec, if_pos (by omega)]
    simp only
    rw [skip_end _ _ (by rw [List.length_cons]; omega), if_neg (by rw [List.length_cons]; omega)]
theorem from_lt (n : Int) (r : List UInt8) : numFrom (fmtI n ++ r) 0 < (fmtI n).length := by
  obtain ⟨m, ⟨e, _⟩ | ⟨e, _, h0⟩⟩ := fmt_cases n
  · have h := dec_DS m
    have e1 : (dec m ++ r).getD 0 0 = (dec m).getD 0 0 := by rw [List.getD_eq_getElem?_getD, List.getElem?_append_left (by have := h.pos; omega), ← List.getD_eq_getElem?_getD]
    rw [e]; unfold numFrom
    rw [e1, if_neg (dg_45 h.at)]; have := h.pos; omega
  · have := (dec_DS m).pos
    rw [e]
    show 1 < (dec m).length + 1
    omega
theorem getD_mid (s : List UInt8) (c : UInt8) (r : List UInt8) : (s ++ c :: r).getD s.length 0 = c := by
  rw [List.getD_eq_getElem?_getD, List.getElem?_append_right (Nat.le_refl _), Nat.sub_self]; rfl
theorem bad_tail (n : Int) {c : UInt8} (r : List UInt8) (hd : dg c = false) (hb : blk c = false) : BadN (fmtI n ++ c :: r) :=
  bad_at (j := (fmtI n).length) (by rw [List.length_append, List.length_cons]; omega) (Nat.le_of_lt (from_lt n _)) (by rw [getD_mid]; exact hd) (by rw [getD_mid]; exact hb)
theorem bad_plus (s : List UInt8) : BadN (43 :: s) := bad_at (j := 0) (by simp) (Nat.le_refl _) rfl rfl
theorem bad_minus (s : List UInt8) : BadN (45 :: 45 :: s) := bad_at (j := 1) (by simp) (Nat.le_refl _) rfl rfl
/-- a nought put in front of the digits -/
def rplF (n : Int) : List UInt8 := if n < 0 then 45 :: 48 :: dec n.natAbs else 48 :: dec n.natAbs
theorem dg_blk {c : UInt8} (h : dg c = true) : blk c = false := by
  unfold dg at h
  have h1 : 48 ≤ c.toNat := by simp at h; exact h.1
  unfold blk
  rw [show (c.toNat == 32) = false by simp; omega, show (c.toNat == 9) = false by simp; omega, show (c.toNat == 10) = false by simp; omega, show (c.toNat == 13) = false by simp; omega]; rfl
theorem bad_rpl (n : Int) : BadN (rplF n) := by
  have h := dec_DS n.natAbs
  have hp := h.pos
  unfold rplF
  by_cases hn : n < 0
  · rw [if_pos hn]
    exact bad_zero (t := 45 :: 48 :: dec n.natAbs) rfl (by show 1 + 1 < (dec n.natAbs).length + 1 + 1; omega) (dg_blk h.at)
  · rw [if_neg hn]
    exact bad_zero (t := 48 :: dec n.natAbs) rfl (by show 0 + 1 < (dec n.natAbs).length + 1; omega) (dg_blk h.at)
def tail21 : List UInt8 := List.replicate 20 48 ++ [49]
theorem bad_great (n : Int) : BadN (fmtI n ++ tail21) := by
  have hz : ∀ c ∈ tail21, dg c = true := by decide
  have lz : tail21.length = 21 := rfl
  have hds : ∀ m, m ≠ 0 → DS (dec m ++ tail21) ∧ 1000000000000000000000 ≤ undec (dec m ++ tail21) := fun m h0 => by
    have h := dec_DS m
    refine ⟨⟨by rw [List.length_append]; have := h.pos; omega, fun c hc => ?_, .inl ?_⟩, ?_⟩
    · rcases List.mem_append.1 hc with hc | hc
      · exact h.all c hc
      · exact hz c hc
    · rw [List.getD_eq_getElem?_getD, List.getElem?_append_left (by have := h.pos; omega), ← List.getD_eq_getElem?_getD]
      exact ne48 (dec_head m h0)
    · have := undec_appL (dec m) tail21
      rw [undec_dec, lz] at this
      refine Nat.le_trans ?_ this
      exact Nat.le_trans (by decide) (Nat.mul_le_mul_right _ (show 1 ≤ m by omega))
  obtain ⟨m, ⟨e, _⟩ | ⟨e, _, h0⟩⟩ := fmt_cases n
  · by_cases h0 : m = 0
    · subst h0
      rw [e, dec_zero]
      exact bad_zero rfl (by decide) rfl
    · obtain ⟨h1, h2⟩ := hds m h0
      rw [e]
      refine badN_of fun z q hq => ?_
      rw [numOut_pos h1, if_neg (by omega)] at hq
      cases hq
  · obtain ⟨h1, h2⟩ := hds m h0
    rw [e]
    refine badN_of fun z q hq => ?_
    rw [List.cons_append, numOut_neg h1, if_neg (by omega)] at hq
    cases hq
/-! each begins as a number may -/
theorem num_digit {c : UInt8} (h : 48 ≤ c.toNat ∧ c.toNat ≤ 57 ∨ c.toNat = 45 ∨ c.toNat = 43) (l : List UInt8) : NumS (c :: l) 0 := by
  have e : (c :: l).getD 0 0 = c := rfl
  refine ⟨by simp, ?_, ?_, ?_, ?_, ?_, ?_, ?_⟩
  · rw [e]; unfold blk
    rw [show (c.toNat == 32) = false by simp; omega, show (c.toNat == 9) = false by simp; omega, show (c.toNat == 10) = false by simp; omega, show (c.toNat == 13) = false by simp; omega]; rfl
  all_goals (rw [e]; omega)
theorem fmt_cons (n : Int) : ∃ c l, fmtI n = c :: l ∧ (48 ≤ c.toNat ∧ c.toNat ≤ 57 ∨ c.toNat = 45 ∨ c.toNat = 43) := by
  obtain ⟨m, ⟨e, _⟩ | ⟨e, _, _⟩⟩ := fmt_cases n
  · have h := dec_DS m
    cases hd : dec m with
    | nil => have := h.pos; rw [hd] at this; exact absurd this (by decide)
    | cons c l => exact ⟨c, l, by rw [e, hd], .inl (dec_digit (n := m) (by rw [hd]; simp))⟩
  · exact ⟨45, dec m, e, .inr (.inl rfl)⟩
theorem fmt_num (n : Int) (r : List UInt8) : NumS (fmtI n ++ r) 0 := by
  obtain ⟨c, l, e, h⟩ := fmt_cons n
  rw [e]; exact num_digit h _
theorem rpl_num (n : Int) : NumS (rplF n) 0 := by
  unfold rplF
  split
  · exact num_digit (.inr (.inl rfl)) _
  · exact num_digit (.inl (by decide)) _
theorem dec_len20 {m : Nat} (h : m ≤ 9223372036854775808) : (dec m).length ≤ 20 := by
  rw [dec_len]; exact nd10_le (by decide) (Nat.lt_of_le_of_lt h (by decide))
theorem fmt_len {n : Int} (h1 : -9223372036854775808 ≤ n) (h2 : n < 9223372036854775808) : (fmtI n).length ≤ 21 := by
  obtain ⟨m, ⟨e, rfl⟩ | ⟨e, rfl, _⟩⟩ := fmt_cases n
  · rw [e]; have := dec_len20 (m := m) (by omega); omega
  · rw [e, List.length_cons]; have := dec_len20 (m := m) (by omega); omega
theorem rpl_len {n : Int} (h1 : -9223372036854775808 ≤ n) (h2 : n < 9223372036854775808) : (rplF n).length ≤ 22 := by
  have := dec_len20 (m := n.natAbs) (by omega)
  unfold rplF
  split
  · simp only [List.length_cons]; omega
  · simp only [List.length_cons]; omega
end Go.AI

/- A whole number put: walked. -/
namespace Go.AI
open Go
noncomputable section

theorem cmpV_geneg (k : IntKind) (m : Nat) (H : Heap) : cmpV igeF strGe (.int k (.negSucc m)) (nI k 0) H = .val (.bool false) H := by
  show onIf (kEq k k) _ = _
  rw [kEq_self]; rfl
theorem eqV_ss (neg : Bool) (s : List UInt8) (H : Heap) : eqV eqS neg (.str s) (.str s) H = .val (.bool (!neg)) H := by
  have e : strEq s s = true := by rw [strEq_eq]; simp
  show onSome (some (strEq s s)) _ = _
  rw [e]; cases neg <;> rfl
theorem lenSV_nil (H : Heap) : lenSV (.str []) H = .val (nI .i64 0) H := rfl
theorem eqV_zn (k : IntKind) (z : Int) (b : Nat) (H : Heap) : eqV eqI false (.int k z) (nI k b) H = .val (.bool (decide (z = (b : Int)))) H := eqV_zz k z b H
theorem oMkMap_at (tm : TM) (H : Heap) : oMkMap tm H = .val (.map H.nx) (H.new (.map [] 0)) := rfl
theorem lenV_nils (H : Heap) : lenV .nils H = .val (nI .i64 0) H := rfl
theorem vs0_run {lib0 : Lib} {fs : T CF} {fuel : Nat} (E : Env lib0 fs fuel) {n : Nat}  {H : Heap}  :
    ∃ H', callN (LK lib0 fs fuel 0) fs fuel (n + 2) 107 [.str []] H = .ret (.bool true) H' ∧ Keep H H' [] := by
  rw [callN_fn (libK_none E.n107 (.inl (by decide)) _ _) E.f107]
  obtain ⟨F, rfl⟩ : ∃ F, fuel = F + 1 := ⟨fuel - 1, by have := E.big; omega⟩
  have l0 : decide (0 < 0) = false := rfl
  have l1 : decide (0 > 0) = false := rfl
  simp (maxSteps := 2000000) (disch := first | assumption | omega | (simp -implicitDefEqProofs only [SideG, List.length_cons, List.length_nil, List.length_set, List.length_map] <;> first | assumption | omega) | decide) only [loopN_succ, thenR_exit, lenV_nils, cmpV_lt, cmpV_gt, cmpV_ge, l0, l1, lenSV_nil, List.drop_zero, List.take_succ_cons, List.take_zero, c107, c107_l1, RunG, N8G, CoreG, Bool.not_true, Bool.not_false, freeK_at, readK_at, freeN_at, List.nil_append, List.append_nil, Option.map_none, Option.map_some, List.map_cons, List.map_nil, cond_true, cond_false, Nat.testBit_eq_decide_div_mod_eq, Nat.reducePow, Nat.reduceDiv, Nat.reduceMod, decide_true, Nat.reduceEqDiff, decide_false, reduceCtorEq, Nat.zero_ne_one, Nat.zero_add, List.getD_cons_zero, List.getD_cons_succ, List.set_cons_zero, List.set_cons_succ, gtr0, gtr2, gtr3, gtr4, gtr5, gtr6, gtr7, gtr8, gtr9, gtr10, gtr11, gtr12, gtr13, gtr14, gtr15, gtr16, gtr17, gtr18, gtr19, gtr20, gtr21, gtr22, gtr23, gtr24, gtr25, gtr26, gtr27, gtr28, gtr29, gtr30, gtr31, gtr32, gtr33, gtr34, gtr35, gtr36, gtr37, gtr38, gtr39, gtr40, gtr41, gtr65, gtr66, gtr67, gtr68, gtr69, gtr70, gtr71, gtr72, gtr73, gtr74, gtr75, gtr76, gtr77, gtr78, gtr79, gtr80, gtr81, gtr82, gtr83, gtr84, gtr85, gtr86, gtr87, gtr88, gtr89, gtr90, gtr91, gtr92, gtr93, gtr94, gtr95, gtr96, gtr97, gtr98, gtr99, gtr100, gtr101, gtr102, gtr103, gtr104, gtr105, gtr106, gtr107, gtr108, gtr109, gtr110, gtr111, gtr112, gtr113, gtr114, gtr115, gtr116, gtr117, gtr118, gtr119, gtr120, gtr121, gtr122, gtr123, gtr124, gtr125, gtr126, gtr127, gtr128, gtr129, gtr130, gtr131, gtr132, gtr133, gtr134, gtr135, gtr136, gtr137, gtr138, gtr139, gtr140, gtr141, gtr142, gtr143, gtr144, gtr145, gtr146, gtr147, gtr148, gtr149, gtr150, gtr151, gtr152, gtr153, gtr154, gtr155, gtr156, gtr157, gtr158, gtr159, gtr160, gtr161, gtr162, gtr163, gtr164, gtr165, gtr166, gtr167, gtr168, str0, str2, str3, str4, str5, str6, str7, str8, str9, str10, str11, str12, str13, str14, str15, str16, str17, str18, str19, str20, str21, str22, str23, str24, str25, str26, str27, str28, str29, str30, str31, str32, str33, str34, str35, str36, str37, str38, str39, str40, str41, str65, str66, str67, str68, str69, str70, str71, str72, str73, str74, str75, str76, str77, str78, str79, str80, str81, str82, str83, str84, str85, str86, str87, str88, str89, str90, str91, str92, str93, str94, str95, str96, str97, str98, str99, str100, str101, str102, str103, str104, str105, str106, str107, str108, str109, str110, str111, str112, str113, str114, str115, str116, str117, str118, str119, str120, str121, str122, str123, str124, str125, str126, str127, str128, str129, str130, str131, str132, str133, str134, str135, str136, str137, str138, str139, str140, str141, str142, str143, str144, str145, str146, str147, str148, str149, str150, str151, str152, str153, str154, str155, str156, str157, str158, str159, str160, str161, str162, str163, str164, str165, str166, str167, str168]
  exact ⟨_, rfl, Keep.refl _ _⟩
theorem vs0 {lib0 : Lib} {fs : T CF} {fuel : Nat} (E : Env lib0 fs fuel) {k n : Nat} (hk : 1 ≤ k)  {H : Heap}  :
    callN (LK lib0 fs fuel k) fs fuel (n + 1) 107 [.str []] H = .ret (.bool true) H := by
  obtain ⟨H', e, g⟩ := vs0_run E (n := 898) (H := H) 
  exact keep_hit (r := 0) rfl rfl e g (rfl) hk
theorem icV_run {lib0 : Lib} {fs : T CF} {fuel : Nat} (E : Env lib0 fs fuel) {n : Nat} {p : AV} {H : Heap}  :
    ∃ H', callN (LK lib0 fs fuel 0) fs fuel (n + 2) 160 [.nils, p] H = .ret (.int .i64 (.negSucc 0)) H' ∧ Keep H H' [] := by
  rw [callN_fn (libK_none E.n160 (.inl (by decide)) _ _) E.f160]
  obtain ⟨F, rfl⟩ : ∃ F, fuel = F + 1 := ⟨fuel - 1, by have := E.big; omega⟩
  have l0 : decide (0 < 0) = false := rfl
  have l1 : decide (0 > 0) = false := rfl
  simp (maxSteps := 2000000) (disch := first | assumption | omega | (simp -implicitDefEqProofs only [SideG, List.length_cons, List.length_nil, List.length_set, List.length_map] <;> first | assumption | omega) | decide) only [loopN_succ, thenR_exit, lenV_nils, cmpV_lt, cmpV_gt, cmpV_ge, l0, l1, List.drop_zero, List.take_succ_cons, List.take_zero, c160, c160_l0, RunG, N8G, CoreG, Bool.not_true, Bool.not_false, freeK_at, readK_at, freeN_at, List.nil_append, List.append_nil, Option.map_none, Option.map_some, List.map_cons, List.map_nil, cond_true, cond_false, Nat.testBit_eq_decide_div_mod_eq, Nat.reducePow, Nat.reduceDiv, Nat.reduceMod, decide_true, Nat.reduceEqDiff, decide_false, reduceCtorEq, Nat.zero_ne_one, Nat.zero_add, List.getD_cons_zero, List.getD_cons_succ, List.set_cons_zero, List.set_cons_succ, gtr0, gtr1, gtr4, gtr5, gtr6, gtr7, gtr8, gtr9, gtr10, gtr11, gtr12, gtr13, gtr14, gtr15, gtr16, gtr17, gtr18, str0, str1, str4, str5, str6, str7, str8, str9, str10, str11, str12, str13, str14, str15, str16, str17, str18]
  exact ⟨_, rfl, Keep.refl _ _⟩
theorem icV {lib0 : Lib} {fs : T CF} {fuel : Nat} (E : Env lib0 fs fuel) {k n : Nat} (hk : 1 ≤ k) {p : AV} {H : Heap}  :
    callN (LK lib0 fs fuel k) fs fuel (n + 1) 160 [.nils, p] H = .ret (.int .i64 (.negSucc 0)) H := by
  obtain ⟨H', e, g⟩ := icV_run E (n := 898) (H := H) 
  exact keep_hit (r := 0) rfl rfl e g (rfl) hk
theorem icE_run {lib0 : Lib} {fs : T CF} {fuel : Nat} (E : Env lib0 fs fuel) {n : Nat} {p : AV} {H : Heap}  :
    ∃ H', callN (LK lib0 fs fuel 0) fs fuel (n + 2) 88 [.nils, p] H = .ret (.int .i64 (.negSucc 0)) H' ∧ Keep H H' [] := by
  rw [callN_fn (libK_none E.n88 (.inl (by decide)) _ _) E.f88]
  obtain ⟨F, rfl⟩ : ∃ F, fuel = F + 1 := ⟨fuel - 1, by have := E.big; omega⟩
  have l0 : decide (0 < 0) = false := rfl
  have l1 : decide (0 > 0) = false := rfl
  simp (maxSteps := 2000000) (disch := first | assumption | omega | (simp -implicitDefEqProofs only [SideG, List.length_cons, List.length_nil, List.length_set, List.length_map] <;> first | assumption | omega) | decide) only [loopN_succ, thenR_exit, lenV_nils, cmpV_lt, cmpV_gt, cmpV_ge, l0, l1, List.drop_zero, List.take_succ_cons, List.take_zero, c88, c88_l0, RunG, N8G, CoreG, Bool.not_true, Bool.not_false, freeK_at, readK_at, freeN_at, List.nil_append, List.append_nil, Option.map_none, Option.map_some, List.map_cons, List.map_nil, cond_true, cond_false, Nat.testBit_eq_decide_div_mod_eq, Nat.reducePow, Nat.reduceDiv, Nat.reduceMod, decide_true, Nat.reduceEqDiff, decide_false, reduceCtorEq, Nat.zero_ne_one, Nat.zero_add, List.getD_cons_zero, List.getD_cons_succ, List.set_cons_zero, List.set_cons_succ, gtr0, gtr1, gtr4, gtr5, gtr6, gtr7, gtr8, gtr9, gtr10, gtr11, gtr12, gtr13, gtr14, gtr15, gtr16, gtr17, gtr18, str0, str1, str4, str5, str6, str7, str8, str9, str10, str11, str12, str13, str14, str15, str16, str17, str18]
  exact ⟨_, rfl, Keep.refl _ _⟩
theorem icE {lib0 : Lib} {fs : T CF} {fuel : Nat} (E : Env lib0 fs fuel) {k n : Nat} (hk : 1 ≤ k) {p : AV} {H : Heap}  :
    callN (LK lib0 fs fuel k) fs fuel (n + 1) 88 [.nils, p] H = .ret (.int .i64 (.negSucc 0)) H := by
  obtain ⟨H', e, g⟩ := icE_run E (n := 898) (H := H) 
  exact keep_hit (r := 0) rfl rfl e g (rfl) hk
theorem cfV_run {lib0 : Lib} {fs : T CF} {fuel : Nat} (E : Env lib0 fs fuel) {n : Nat} {p : AV} {H : Heap}  :
    ∃ H', callN (LK lib0 fs fuel 1) fs fuel (n + 2) 121 [.nils, p] H = .ret (.bool false) H' ∧ Keep H H' [] := by
  rw [callN_fn (libK_none E.n121 (.inl (by decide)) _ _) E.f121]
  have e1 := fun {j} => icV (lib0 := lib0) (fs := fs) (fuel := fuel) E (k := 1) (n := j) (by decide) (p := p) (H := H)
  simp (maxSteps := 2000000) (disch := first | assumption | omega | (simp -implicitDefEqProofs only [SideG, List.length_cons, List.length_nil, List.length_set, List.length_map] <;> first | assumption | omega) | decide) only [e1, cmpV_geneg, List.drop_zero, List.take_succ_cons, List.take_zero, c121, RunG, N8G, CoreG, Bool.not_true, Bool.not_false, freeK_at, readK_at, freeN_at, List.nil_append, List.append_nil, Option.map_none, Option.map_some, List.map_cons, List.map_nil, cond_true, cond_false, Nat.testBit_eq_decide_div_mod_eq, Nat.reducePow, Nat.reduceDiv, Nat.reduceMod, decide_true, Nat.reduceEqDiff, decide_false, reduceCtorEq, Nat.zero_ne_one, Nat.zero_add, List.getD_cons_zero, List.getD_cons_succ, List.set_cons_zero, List.set_cons_succ, gtr0, gtr1, gtr4, gtr5, gtr6, gtr7, gtr8, str0, str1, str4, str5, str6, str7, str8]
  exact ⟨_, rfl, Keep.refl _ _⟩
theorem cfV {lib0 : Lib} {fs : T CF} {fuel : Nat} (E : Env lib0 fs fuel) {k n : Nat} (hk : 2 ≤ k) {p : AV} {H : Heap}  :
    callN (LK lib0 fs fuel k) fs fuel (n + 1) 121 [.nils, p] H = .ret (.bool false) H := by
  obtain ⟨H', e, g⟩ := cfV_run E (n := 898) (H := H) 
  exact keep_hit (r := 1) rfl rfl e g (rfl) hk
theorem cfE_run {lib0 : Lib} {fs : T CF} {fuel : Nat} (E : Env lib0 fs fuel) {n : Nat} {p : AV} {H : Heap}  :
    ∃ H', callN (LK lib0 fs fuel 1) fs fuel (n + 2) 124 [.nils, p] H = .ret (.bool false) H' ∧ Keep H H' [] := by
  rw [callN_fn (libK_none E.n124 (.inl (by decide)) _ _) E.f124]
  have e1 := fun {j} => icE (lib0 := lib0) (fs := fs) (fuel := fuel) E (k := 1) (n := j) (by decide) (p := p) (H := H)
  simp (maxSteps := 2000000) (disch := first | assumption | omega | (simp -implicitDefEqProofs only [SideG, List.length_cons, List.length_nil, List.length_set, List.length_map] <;> first | assumption | omega) | decide) only [e1, cmpV_geneg, List.drop_zero, List.take_succ_cons, List.take_zero, c124, RunG, N8G, CoreG, Bool.not_true, Bool.not_false, freeK_at, readK_at, freeN_at, List.nil_append, List.append_nil, Option.map_none, Option.map_some, List.map_cons, List.map_nil, cond_true, cond_false, Nat.testBit_eq_decide_div_mod_eq, Nat.reducePow, Nat.reduceDiv, Nat.reduceMod, decide_true, Nat.reduceEqDiff, decide_false, reduceCtorEq, Nat.zero_ne_one, Nat.zero_add, List.getD_cons_zero, List.getD_cons_succ, List.set_cons_zero, List.set_cons_succ, gtr0, gtr1, gtr4, gtr5, gtr6, gtr7, gtr8, str0, str1, str4, str5, str6, str7, str8]
  exact ⟨_, rfl, Keep.refl _ _⟩
theorem cfE {lib0 : Lib} {fs : T CF} {fuel : Nat} (E : Env lib0 fs fuel) {k n : Nat} (hk : 2 ≤ k) {p : AV} {H : Heap}  :
    callN (LK lib0 fs fuel k) fs fuel (n + 1) 124 [.nils, p] H = .ret (.bool false) H := by
  obtain ⟨H', e, g⟩ := cfE_run E (n := 898) (H := H) 
  exact keep_hit (r := 1) rfl rfl e g (rfl) hk
theorem apartW_run {lib0 : Lib} {fs : T CF} {fuel : Nat} (E : Env lib0 fs fuel) {n : Nat} {z : Int} {H : Heap}  :
    ∃ H', callN (LK lib0 fs fuel 0) fs fuel (n + 2) 120 [wholeV z] H = .ret (.bool true) H' ∧ Keep H H' [] := by
  rw [callN_fn (libK_none E.n120 (.inl (by decide)) _ _) E.f120]
  obtain ⟨H1, hH1⟩ : ∃ H1, H.new (rG 72 1 [nI .i64 3, .bool false, .int .i64 z, .str [], .nils, .nils] 0 false true true) = H1 := ⟨_, rfl⟩
  have nx1 : H1.nx = H.nx + 1 := by rw [← hH1]; rfl
  have g1 : H1.t.get H.nx = some (rG 72 1 [nI .i64 3, .bool false, .int .i64 z, .str [], .nils, .nils] 0 false true true) := by rw [← hH1, get_new_eq rfl]
  have k1 : Keep H H1 [] := by rw [← hH1]; exact Keep.new H _ _
  have t32 : decide (3 = 2) = false := rfl
  have t33 : decide (3 = 3) = true := rfl
  have t34 : decide (3 = 4) = false := rfl
  have t35 : decide (3 = 5) = false := rfl
  have t36 : decide (3 = 6) = false := rfl
  have t31 : decide (3 = 1) = false := rfl
  have lt31 : decide (3 < 1) = false := rfl
  have gt36 : decide (6 < 3) = false := rfl
  have t00 : decide (0 = 0) = true := rfl
  have n32 : decide (32 = 0) = false := rfl
  unfold wholeV
  simp (maxSteps := 2000000) (disch := first | assumption | omega | (simp -implicitDefEqProofs only [SideG, List.length_cons, List.length_nil, List.length_set, List.length_map] <;> first | assumption | omega) | decide) only [nx1, g1, hH1, t31, t32, t33, t34, t35, t36, lt31, gt36, t00, n32, eqV_eq, cmpV_lt, cmpV_gt, lenV_nils, ld1_rG, ldN_rG, eqV_ss, eqV_zn, List.drop_zero, List.take_succ_cons, List.take_zero, c120, RunG, N8G, CoreG, Bool.not_true, Bool.not_false, freeK_at, readK_at, freeN_at, List.nil_append, List.append_nil, Option.map_none, Option.map_some, List.map_cons, List.map_nil, cond_true, cond_false, Nat.testBit_eq_decide_div_mod_eq, Nat.reducePow, Nat.reduceDiv, Nat.reduceMod, decide_true, Nat.reduceEqDiff, decide_false, reduceCtorEq, Nat.zero_ne_one, Nat.zero_add, List.getD_cons_zero, List.getD_cons_succ, List.set_cons_zero, List.set_cons_succ, gtr0, gtr1, gtr2, gtr3, gtr4, gtr5, gtr6, gtr7, gtr8, gtr9, gtr10, gtr11, gtr12, gtr13, gtr14, gtr15, gtr16, gtr17, gtr18, gtr19, gtr20, gtr21, gtr22, gtr23, gtr24, gtr25, gtr26, gtr27, gtr28, gtr29, gtr30, gtr31, gtr32, gtr33, gtr34, gtr35, gtr36, gtr37, gtr38, gtr39, gtr40, gtr41, gtr42, gtr43, gtr44, gtr45, gtr46, gtr47, gtr48, gtr49, gtr50, gtr51, gtr52, str0, str1, str2, str3, str4, str5, str6, str7, str8, str9, str10, str11, str12, str13, str14, str15, str16, str17, str18, str19, str20, str21, str22, str23, str24, str25, str26, str27, str28, str29, str30, str31, str32, str33, str34, str35, str36, str37, str38, str39, str40, str41, str42, str43, str44, str45, str46, str47, str48, str49, str50, str51, str52]
  exact ⟨_, rfl, k1⟩
theorem apartW {lib0 : Lib} {fs : T CF} {fuel : Nat} (E : Env lib0 fs fuel) {k n : Nat} (hk : 1 ≤ k) {z : Int} {H : Heap}  :
    callN (LK lib0 fs fuel k) fs fuel (n + 1) 120 [wholeV z] H = .ret (.bool true) H := by
  obtain ⟨H', e, g⟩ := apartW_run E (n := 898) (H := H) 
  exact keep_hit (r := 0) rfl rfl e g (rfl) hk
theorem wrongW_run {lib0 : Lib} {fs : T CF} {fuel : Nat} (E : Env lib0 fs fuel) {n : Nat} {z : Int} {H : Heap}  :
    ∃ H', callN (LK lib0 fs fuel 2) fs fuel (n + 2) 70 [wholeV z, nI .i64 32] H = .ret (.bool false) H' ∧ Keep H H' [] := by
  rw [callN_fn (libK_none E.n70 (.inl (by decide)) _ _) E.f70]
  obtain ⟨F, rfl⟩ : ∃ F, fuel = F + 1 := ⟨fuel - 1, by have := E.big; omega⟩
  obtain ⟨H1, hH1⟩ : ∃ H1, H.new (rG 72 1 [nI .i64 3, .bool false, .int .i64 z, .str [], .nils, .nils] 0 false true true) = H1 := ⟨_, rfl⟩
  have nx1 : H1.nx = H.nx + 1 := by rw [← hH1]; rfl
  have g1 : H1.t.get H.nx = some (rG 72 1 [nI .i64 3, .bool false, .int .i64 z, .str [], .nils, .nils] 0 false true true) := by rw [← hH1, get_new_eq rfl]
  have k1 : Keep H H1 [] := by rw [← hH1]; exact Keep.new H _ _
  obtain ⟨H2, hH2⟩ : ∃ H2, H1.new (rG 3 1 [nI .i64 32] 0 false true true) = H2 := ⟨_, rfl⟩
  have nx2 : H2.nx = H.nx + 1 + 1 := by rw [← hH2, new_nx, nx1]
  have g2 : H2.t.get (H.nx + 1) = some (rG 3 1 [nI .i64 32] 0 false true true) := by rw [← hH2, get_new_eq nx1]
  have g3 : H2.t.get H.nx = some (rG 72 1 [nI .i64 3, .bool false, .int .i64 z, .str [], .nils, .nils] 0 false true true) := by rw [← hH2, get_new_ne (by omega), g1]
  have k2 : Keep H H2 [] := by rw [← hH2]; exact k1.then_new _
  have t32 : decide (3 = 2) = false := rfl
  have t33 : decide (3 = 3) = true := rfl
  have t34 : decide (3 = 4) = false := rfl
  have t35 : decide (3 = 5) = false := rfl
  have t36 : decide (3 = 6) = false := rfl
  have t31 : decide (3 = 1) = false := rfl
  have lt31 : decide (3 < 1) = false := rfl
  have gt36 : decide (6 < 3) = false := rfl
  have t00 : decide (0 = 0) = true := rfl
  have n32 : decide (32 = 0) = false := rfl
  obtain ⟨H3, hH3⟩ : ∃ H3, H2.new (.map [] 0) = H3 := ⟨_, rfl⟩
  have nx3 : H3.nx = H.nx + 1 + 1 + 1 := by rw [← hH3, new_nx, nx2]
  have g4 : H3.t.get H.nx = some (rG 72 1 [nI .i64 3, .bool false, .int .i64 z, .str [], .nils, .nils] 0 false true true) := by rw [← hH3, get_new_ne (by omega), g3]
  have k3 : Keep H H3 [] := by rw [← hH3]; exact k2.then_new _
  have ea := fun {j} => apartW (lib0 := lib0) (fs := fs) (fuel := F + 1) E (k := 2) (n := j) (by decide) (z := z) (H := H2)
  have ev := fun {j} => vs0 (lib0 := lib0) (fs := fs) (fuel := F + 1) E (k := 2) (n := j) (by decide) (H := H2)
  have ec := fun {j p} => cfV (lib0 := lib0) (fs := fs) (fuel := F + 1) E (k := 2) (n := j) (by decide) (p := p) (H := H3)
  unfold wholeV at ea ⊢
  have l0 : decide (0 < 0) = false := rfl
  have l1 : decide (0 > 0) = false := rfl
  simp (maxSteps := 2000000) (disch := first | assumption | omega | (simp -implicitDefEqProofs only [SideG, List.length_cons, List.length_nil, List.length_set, List.length_map] <;> first | assumption | omega) | decide) only [nx1, g1, hH1, t31, t32, t33, t34, t35, t36, lt31, gt36, t00, n32, eqV_eq, cmpV_lt, cmpV_gt, lenV_nils, ld1_rG, ldN_rG, hH2, nx2, g2, g3, hH3, nx3, g4, ea, ev, ec, oMkMap_at, loopN_succ, thenR_exit, lenV_nils, cmpV_lt, cmpV_gt, cmpV_ge, l0, l1, List.drop_zero, List.take_succ_cons, List.take_zero, c70, c70_l0, RunG, N8G, CoreG, Bool.not_true, Bool.not_false, freeK_at, readK_at, freeN_at, List.nil_append, List.append_nil, Option.map_none, Option.map_some, List.map_cons, List.map_nil, cond_true, cond_false, Nat.testBit_eq_decide_div_mod_eq, Nat.reducePow, Nat.reduceDiv, Nat.reduceMod, decide_true, Nat.reduceEqDiff, decide_false, reduceCtorEq, Nat.zero_ne_one, Nat.zero_add, List.getD_cons_zero, List.getD_cons_succ, List.set_cons_zero, List.set_cons_succ, gtr0, gtr1, gtr2, gtr3, gtr4, gtr5, gtr7, gtr8, gtr9, gtr10, gtr11, gtr12, gtr13, gtr14, gtr15, gtr16, gtr17, gtr18, gtr19, gtr20, gtr21, gtr22, gtr23, gtr24, gtr25, gtr26, gtr27, gtr28, gtr29, gtr30, gtr31, gtr32, gtr33, gtr34, gtr35, gtr36, gtr37, gtr38, gtr39, gtr40, gtr41, gtr42, gtr43, gtr44, gtr45, gtr46, gtr47, gtr48, gtr49, gtr50, gtr51, gtr52, gtr53, gtr54, gtr55, gtr56, gtr57, gtr58, gtr59, gtr60, gtr61, gtr62, str0, str1, str2, str3, str4, str5, str7, str8, str9, str10, str11, str12, str13, str14, str15, str16, str17, str18, str19, str20, str21, str22, str23, str24, str25, str26, str27, str28, str29, str30, str31, str32, str33, str34, str35, str36, str37, str38, str39, str40, str41, str42, str43, str44, str45, str46, str47, str48, str49, str50, str51, str52, str53, str54, str55, str56, str57, str58, str59, str60, str61, str62]
  exact ⟨_, rfl, k3⟩
theorem wrongW {lib0 : Lib} {fs : T CF} {fuel : Nat} (E : Env lib0 fs fuel) {k n : Nat} (hk : 3 ≤ k) {z : Int} {H : Heap}  :
    callN (LK lib0 fs fuel k) fs fuel (n + 1) 70 [wholeV z, nI .i64 32] H = .ret (.bool false) H := by
  obtain ⟨H', e, g⟩ := wrongW_run E (n := 898) (H := H) 
  exact keep_hit (r := 2) rfl rfl e g (rfl) hk
theorem deepW_run {lib0 : Lib} {fs : T CF} {fuel : Nat} (E : Env lib0 fs fuel) {n : Nat} {z : Int} {H : Heap}  :
    ∃ H', callN (LK lib0 fs fuel 2) fs fuel (n + 2) 71 [wholeV z, nI .i64 32] H = .ret (.bool false) H' ∧ Keep H H' [] := by
  rw [callN_fn (libK_none E.n71 (.inl (by decide)) _ _) E.f71]
  obtain ⟨H1, hH1⟩ : ∃ H1, H.new (rG 72 1 [nI .i64 3, .bool false, .int .i64 z, .str [], .nils, .nils] 0 false true true) = H1 := ⟨_, rfl⟩
  have nx1 : H1.nx = H.nx + 1 := by rw [← hH1]; rfl
  have g1 : H1.t.get H.nx = some (rG 72 1 [nI .i64 3, .bool false, .int .i64 z, .str [], .nils, .nils] 0 false true true) := by rw [← hH1, get_new_eq rfl]
  have k1 : Keep H H1 [] := by rw [← hH1]; exact Keep.new H _ _
  obtain ⟨H2, hH2⟩ : ∃ H2, H1.new (rG 3 1 [nI .i64 32] 0 false true true) = H2 := ⟨_, rfl⟩
  have nx2 : H2.nx = H.nx + 1 + 1 := by rw [← hH2, new_nx, nx1]
  have g2 : H2.t.get (H.nx + 1) = some (rG 3 1 [nI .i64 32] 0 false true true) := by rw [← hH2, get_new_eq nx1]
  have g3 : H2.t.get H.nx = some (rG 72 1 [nI .i64 3, .bool false, .int .i64 z, .str [], .nils, .nils] 0 false true true) := by rw [← hH2, get_new_ne (by omega), g1]
  have k2 : Keep H H2 [] := by rw [← hH2]; exact k1.then_new _
  have t32 : decide (3 = 2) = false := rfl
  have t33 : decide (3 = 3) = true := rfl
  have t34 : decide (3 = 4) = false := rfl
  have t35 : decide (3 = 5) = false := rfl
  have t36 : decide (3 = 6) = false := rfl
  have t31 : decide (3 = 1) = false := rfl
  have lt31 : decide (3 < 1) = false := rfl
  have gt36 : decide (6 < 3) = false := rfl
  have t00 : decide (0 = 0) = true := rfl
  have n32 : decide (32 = 0) = false := rfl
  have e1 := fun {j p} => cfV (lib0 := lib0) (fs := fs) (fuel := fuel) E (k := 2) (n := j) (by decide) (p := p) (H := H2)
  have e2 := fun {j p} => cfE (lib0 := lib0) (fs := fs) (fuel := fuel) E (k := 2) (n := j) (by decide) (p := p) (H := H2)
  unfold wholeV
  simp (maxSteps := 2000000) (disch := first | assumption | omega | (simp -implicitDefEqProofs only [SideG, List.length_cons, List.length_nil, List.length_set, List.length_map] <;> first | assumption | omega) | decide) only [nx1, g1, hH1, t31, t32, t33, t34, t35, t36, lt31, gt36, t00, n32, eqV_eq, cmpV_lt, cmpV_gt, lenV_nils, ld1_rG, ldN_rG, hH2, nx2, g2, g3, e1, e2, List.drop_zero, List.take_succ_cons, List.take_zero, c71, RunG, N8G, CoreG, Bool.not_true, Bool.not_false, freeK_at, readK_at, freeN_at, List.nil_append, List.append_nil, Option.map_none, Option.map_some, List.map_cons, List.map_nil, cond_true, cond_false, Nat.testBit_eq_decide_div_mod_eq, Nat.reducePow, Nat.reduceDiv, Nat.reduceMod, decide_true, Nat.reduceEqDiff, decide_false, reduceCtorEq, Nat.zero_ne_one, Nat.zero_add, List.getD_cons_zero, List.getD_cons_succ, List.set_cons_zero, List.set_cons_succ, gtr0, gtr1, gtr2, gtr3, gtr4, gtr5, gtr6, gtr7, gtr8, gtr9, gtr10, gtr11, gtr12, gtr13, gtr14, gtr15, gtr16, str0, str1, str2, str3, str4, str5, str6, str7, str8, str9, str10, str11, str12, str13, str14, str15, str16]
  exact ⟨_, rfl, k2⟩
theorem deepW {lib0 : Lib} {fs : T CF} {fuel : Nat} (E : Env lib0 fs fuel) {k n : Nat} (hk : 3 ≤ k) {z : Int} {H : Heap}  :
    callN (LK lib0 fs fuel k) fs fuel (n + 1) 71 [wholeV z, nI .i64 32] H = .ret (.bool false) H := by
  obtain ⟨H', e, g⟩ := deepW_run E (n := 898) (H := H) 
  exact keep_hit (r := 2) rfl rfl e g (rfl) hk
theorem checkW_run {lib0 : Lib} {fs : T CF} {fuel : Nat} (E : Env lib0 fs fuel) {n : Nat} {z : Int} {H : Heap}  :
    ∃ H', callN (LK lib0 fs fuel 3) fs fuel (n + 2) 33 [wholeV z] H = .ret (nI .i64 0) H' ∧ Keep H H' [] := by
  rw [callN_fn (libK_none E.n33 (.inl (by decide)) _ _) E.f33]
  obtain ⟨H1, hH1⟩ : ∃ H1, H.new (rG 72 1 [nI .i64 3, .bool false, .int .i64 z, .str [], .nils, .nils] 0 false true true) = H1 := ⟨_, rfl⟩
  have nx1 : H1.nx = H.nx + 1 := by rw [← hH1]; rfl
  have g1 : H1.t.get H.nx = some (rG 72 1 [nI .i64 3, .bool false, .int .i64 z, .str [], .nils, .nils] 0 false true true) := by rw [← hH1, get_new_eq rfl]
  have k1 : Keep H H1 [] := by rw [← hH1]; exact Keep.new H _ _
  have t32 : decide (3 = 2) = false := rfl
  have t33 : decide (3 = 3) = true := rfl
  have t34 : decide (3 = 4) = false := rfl
  have t35 : decide (3 = 5) = false := rfl
  have t36 : decide (3 = 6) = false := rfl
  have t31 : decide (3 = 1) = false := rfl
  have lt31 : decide (3 < 1) = false := rfl
  have gt36 : decide (6 < 3) = false := rfl
  have t00 : decide (0 = 0) = true := rfl
  have n32 : decide (32 = 0) = false := rfl
  have e1 := fun {j} => wrongW (lib0 := lib0) (fs := fs) (fuel := fuel) E (k := 3) (n := j) (by decide) (z := z) (H := H1)
  have e2 := fun {j} => deepW (lib0 := lib0) (fs := fs) (fuel := fuel) E (k := 3) (n := j) (by decide) (z := z) (H := H1)
  unfold wholeV at e1 e2 ⊢
  simp (maxSteps := 2000000) (disch := first | assumption | omega | (simp -implicitDefEqProofs only [SideG, List.length_cons, List.length_nil, List.length_set, List.length_map] <;> first | assumption | omega) | decide) only [nx1, g1, hH1, t31, t32, t33, t34, t35, t36, lt31, gt36, t00, n32, eqV_eq, cmpV_lt, cmpV_gt, lenV_nils, ld1_rG, ldN_rG, e1, e2, List.drop_zero, List.take_succ_cons, List.take_zero, c33, RunG, N8G, CoreG, Bool.not_true, Bool.not_false, freeK_at, readK_at, freeN_at, List.nil_append, List.append_nil, Option.map_none, Option.map_some, List.map_cons, List.map_nil, cond_true, cond_false, Nat.testBit_eq_decide_div_mod_eq, Nat.reducePow, Nat.reduceDiv, Nat.reduceMod, decide_true, Nat.reduceEqDiff, decide_false, reduceCtorEq, Nat.zero_ne_one, Nat.zero_add, List.getD_cons_zero, List.getD_cons_succ, List.set_cons_zero, List.set_cons_succ, gtr0, gtr1, gtr2, gtr3, gtr4, gtr5, gtr6, gtr7, gtr8, str0, str1, str2, str3, str4, str5, str6, str7, str8]
  exact ⟨_, rfl, k1⟩
theorem checkW {lib0 : Lib} {fs : T CF} {fuel : Nat} (E : Env lib0 fs fuel) {k n : Nat} (hk : 4 ≤ k) {z : Int} {H : Heap}  :
    callN (LK lib0 fs fuel k) fs fuel (n + 1) 33 [wholeV z] H = .ret (nI .i64 0) H := by
  obtain ⟨H', e, g⟩ := checkW_run E (n := 898) (H := H) 
  exact keep_hit (r := 3) rfl rfl e g (rfl) hk
theorem textW_run {lib0 : Lib} {fs : T CF} {fuel : Nat} (E : Env lib0 fs fuel) {n : Nat} {z : Int} {H : Heap} (g : Glob H) (hro : H.ro ≤ H.nx) (hz1 : -9223372036854775808 ≤ z) (hz2 : z < 9223372036854775808) :
    ∃ H', callN (LK lib0 fs fuel 4) fs fuel (n + 2) 68 [wholeV z] H = .ret (.str (fmtI z)) H' ∧ Keep H H' [] := by
  rw [callN_fn (libK_none E.n68 (.inl (by decide)) _ _) E.f68]
  obtain ⟨H1, hH1⟩ : ∃ H1, H.new (rG 72 1 [nI .i64 3, .bool false, .int .i64 z, .str [], .nils, .nils] 0 false true true) = H1 := ⟨_, rfl⟩
  have nx1 : H1.nx = H.nx + 1 := by rw [← hH1]; rfl
  have g1 : H1.t.get H.nx = some (rG 72 1 [nI .i64 3, .bool false, .int .i64 z, .str [], .nils, .nils] 0 false true true) := by rw [← hH1, get_new_eq rfl]
  have k1 : Keep H H1 [] := by rw [← hH1]; exact Keep.new H _ _
  have t32 : decide (3 = 2) = false := rfl
  have t33 : decide (3 = 3) = true := rfl
  have t34 : decide (3 = 4) = false := rfl
  have t35 : decide (3 = 5) = false := rfl
  have t36 : decide (3 = 6) = false := rfl
  have t31 : decide (3 = 1) = false := rfl
  have lt31 : decide (3 < 1) = false := rfl
  have gt36 : decide (6 < 3) = false := rfl
  have t00 : decide (0 = 0) = true := rfl
  have n32 : decide (32 = 0) = false := rfl
  have ro1 : H1.ro = H.ro := by rw [← hH1]; rfl
  have e1 := fun {j} => fmtI_hit (lib0 := lib0) (fs := fs) (fuel := fuel) E (k := 4) (n := j) (by decide) (z := z) (H := H1) (g.keep k1 (by simp)) (by omega) hz1 hz2
  unfold wholeV
  simp (maxSteps := 2000000) (disch := first | assumption | omega | (simp -implicitDefEqProofs only [SideG, List.length_cons, List.length_nil, List.length_set, List.length_map] <;> first | assumption | omega) | decide) only [nx1, g1, hH1, t31, t32, t33, t34, t35, t36, lt31, gt36, t00, n32, eqV_eq, cmpV_lt, cmpV_gt, lenV_nils, ld1_rG, ldN_rG, e1, List.drop_zero, List.take_succ_cons, List.take_zero, c68, RunG, N8G, CoreG, Bool.not_true, Bool.not_false, freeK_at, readK_at, freeN_at, List.nil_append, List.append_nil, Option.map_none, Option.map_some, List.map_cons, List.map_nil, cond_true, cond_false, Nat.testBit_eq_decide_div_mod_eq, Nat.reducePow, Nat.reduceDiv, Nat.reduceMod, decide_true, Nat.reduceEqDiff, decide_false, reduceCtorEq, Nat.zero_ne_one, Nat.zero_add, List.getD_cons_zero, List.getD_cons_succ, List.set_cons_zero, List.set_cons_succ, gtr0, gtr1, gtr2, gtr3, gtr6, gtr9, gtr10, gtr11, gtr12, gtr13, gtr14, gtr15, gtr16, gtr17, gtr18, gtr19, gtr20, gtr21, gtr22, gtr23, gtr24, gtr25, gtr26, gtr27, gtr28, gtr29, gtr30, gtr31, gtr43, gtr44, gtr45, gtr46, gtr47, gtr48, gtr49, gtr50, gtr51, gtr69, gtr70, gtr71, gtr72, str0, str1, str2, str3, str6, str9, str10, str11, str12, str13, str14, str15, str16, str17, str18, str19, str20, str21, str22, str23, str24, str25, str26, str27, str28, str29, str30, str31, str32, str33, str43, str44, str45, str46, str47, str48, str49, str50, str51, str52, str53, str69, str70, str71, str72]
  exact ⟨_, rfl, k1⟩
theorem textW {lib0 : Lib} {fs : T CF} {fuel : Nat} (E : Env lib0 fs fuel) {k n : Nat} (hk : 5 ≤ k) {z : Int} {H : Heap} (g : Glob H) (hro : H.ro ≤ H.nx) (hz1 : -9223372036854775808 ≤ z) (hz2 : z < 9223372036854775808) :
    callN (LK lib0 fs fuel k) fs fuel (n + 1) 68 [wholeV z] H = .ret (.str (fmtI z)) H := by
  obtain ⟨H', e, g⟩ := textW_run E (n := 898) (H := H) g hro hz1 hz2
  exact keep_hit (r := 4) rfl rfl e g (rfl) hk
end
end Go.AI

/- JsonNumbers walked. -/
namespace Go.AI
open Go
noncomputable section

theorem getD_map {l : List UInt8} {i : Nat} (h : i < l.length) : (l.map u8V).getD i .unk = u8V (l.getD i 0) := by
  rw [List.getD_eq_getElem?_getD, List.getElem?_map, List.getD_eq_getElem?_getD, List.getElem?_eq_getElem h]; rfl
theorem rowS {G : Heap} {b : Nat} {s : List UInt8} {c : Option Nat} (h : G.t.get b = some (rG 5 1 (s.map u8V) 0 true true false)) : strW (.slice b 0 s.length c) G = .val (.str s) G := by
  have h' : G.t.get b = some (.row ⟨5, 1, lenL (s.map u8V), T.ofList (s.map u8V), .unk, 0, true, true, false⟩) := h
  refine strV_row h' rfl (by show 0 + s.length ≤ lenL (s.map u8V); rw [lenL_eq, List.length_map]; omega) fun i hi => ?_
  rw [Nat.zero_add, rG_get, getD_map hi]
/-- a text's bytes parsed -/
theorem parseText {lib0 : Lib} {fs : T CF} {fuel : Nat} (E : Env lib0 fs fuel) {k n : Nat} (hk : 7 ≤ k) {s : List UInt8} {H : Heap} (g : Glob H) (hro : H.ro ≤ H.nx) (hl : s.length < 99998) (hs : NumS s 0) :
    callN (LK lib0 fs fuel k) fs fuel (n + 1) 40 [.slice H.nx 0 s.length none] (H.new (rG 5 1 (s.map u8V) 0 true true false)) = .ret (parseN s) (H.new (rG 5 1 (s.map u8V) 0 true true false)) :=
  parseNum E hk (g.new _) (by show H.ro ≤ H.nx + 1; omega) (fun G k => rowS (by rw [k.get _ (show H.nx < H.nx + 1 by omega) (by simp), get_new_eq rfl])) (fun G => lenV_slice ..) hl hs
theorem putWh {lib0 : Lib} {fs : T CF} {fuel : Nat} (E : Env lib0 fs fuel) {k n : Nat} (hk : 5 ≤ k) {z : Int} {H : Heap} (g : Glob H) (hro : H.ro ≤ H.nx) (hz1 : -9223372036854775808 ≤ z) (hz2 : z < 9223372036854775808) :
    callN (LK lib0 fs fuel k) fs fuel (n + 2) 29 [wholeV z] H = .ret (.tup [.slice (H.nx + 1) 0 (fmtI z).length none, nI .i64 0]) ((H.new (rG 72 1 [nI .i64 3, .bool false, .int .i64 z, .str [], .nils, .nils] 0 false true true)).new (rG 5 1 ((fmtI z).map u8V) 0 true true false)) := by
  have nn : libK lib0 fs fuel rank spec k 29 [wholeV z] H = none := libK_none E.n29 (.inr rfl) _ _
  rw [callN_fn nn E.f29]
  obtain ⟨H1, hH1⟩ : ∃ H1, H.new (rG 72 1 [nI .i64 3, .bool false, .int .i64 z, .str [], .nils, .nils] 0 false true true) = H1 := ⟨_, rfl⟩
  have nx1 : H1.nx = H.nx + 1 := by rw [← hH1]; rfl
  have ro1 : H1.ro = H.ro := by rw [← hH1]; rfl
  have g1 : H1.t.get H.nx = some (rG 72 1 [nI .i64 3, .bool false, .int .i64 z, .str [], .nils, .nils] 0 false true true) := by rw [← hH1, get_new_eq rfl]
  have k1 : Keep H H1 [] := by rw [← hH1]; exact Keep.new H _ _
  have e1 := fun {j} => checkW (lib0 := lib0) (fs := fs) (fuel := fuel) E (k := k) (n := j) (by omega) (z := z) (H := H1)
  have e2 := fun {j} => textW (lib0 := lib0) (fs := fs) (fuel := fuel) E (k := k) (n := j) (by omega) (z := z) (H := H1) (g.keep k1 (by simp)) (by omega) hz1 hz2
  unfold wholeV at e1 e2 ⊢
  have d0 : decide (0 ≠ 0) = false := rfl
  simp (maxSteps := 2000000) (disch := first | assumption | omega | (simp -implicitDefEqProofs only [SideG, List.length_cons, List.length_nil, List.length_set, List.length_map] <;> first | assumption | omega) | decide) only [hH1, nx1, g1, e1, e2, d0, eqV_ne, ld1_rG, ldN_rG, List.drop_zero, List.take_succ_cons, List.take_zero, c29, RunG, N8G, CoreG, Bool.not_true, Bool.not_false, freeK_at, readK_at, freeN_at, List.nil_append, List.append_nil, Option.map_none, Option.map_some, List.map_cons, List.map_nil, cond_true, cond_false, Nat.testBit_eq_decide_div_mod_eq, Nat.reducePow, Nat.reduceDiv, Nat.reduceMod, decide_true, Nat.reduceEqDiff, decide_false, reduceCtorEq, Nat.zero_ne_one, Nat.zero_add, List.getD_cons_zero, List.getD_cons_succ, List.set_cons_zero, List.set_cons_succ, gtr0, gtr1, gtr2, gtr3, gtr4, gtr5, gtr6, gtr7, gtr8, gtr9, gtr10, gtr11, gtr12, str0, str1, str2, str3, str4, str5, str6, str7, str8, str9, str10, str11, str12]

theorem eqV_zt (neg : Bool) (k : IntKind) (z : Int) (H : Heap) : eqV eqI neg (.int k z) (.int k z) H = .val (.bool (!neg)) H := by
  cases neg
  · rw [eqV_zz, decide_eq_true rfl]; rfl
  · show onSome (cond (kEq k k) (some (ieq z z)) none) _ = _
    rw [kEq_self, show ieq z z = true by rw [ieq_eq]; simp]; rfl
def idxAggV (n : Nat) (a i : AV) (H : Heap) : OR := onNat i fun i => onAgg a fun cs => onIf (Nat.ble (Nat.succ i) n) (onSome (nthL cs i) fun v => .val v H)
theorem oIdxAgg1_at (x y : EvF) (n : Nat) (tm : TM) (H : Heap) : oIdxAgg1 x y n tm H = idxAggV n (x tm) (y tm) H := rfl
theorem nthL_map (tx : List (List UInt8)) : ∀ i, i < tx.length → nthL (tx.map AV.str) i = some (.str (tx.getD i [])) := by
  induction tx with
  | nil => intro i h; exact absurd h (Nat.not_lt_zero _)
  | cons a l ih => intro i h; cases i with
    | zero => rfl
    | succ i => exact ih i (by simpa using h)
theorem idxAgg_is {n i : Nat} {tx : List (List UInt8)} (h : i < n) (hl : tx.length = n) (H : Heap) : idxAggV n (.agg (tx.map AV.str)) (nI .i64 i) H = .val (.str (tx.getD i [])) H := by
  show onIf (Nat.ble (i + 1) n) (onSome (nthL (tx.map AV.str) i) fun v => .val v H) = _
  rw [Nat.ble_eq_true_of_le h, nthL_map tx i (by omega)]; rfl
/-- the texts that are none -/
structure LL (H0 : Heap) (tx : List (List UInt8)) (m : Nat) (tm : TM) (H : Heap) : Prop where
  i : ∃ i, m = 8 - i ∧ i ≤ 8 ∧ gt73 tm = nI .i64 i
  t72 : gt72 tm = .agg (tx.map AV.str)
  kp : Keep H0 H []
theorem ll_step {lib0 : Lib} {fs : T CF} {fuel : Nat} (E : Env lib0 fs fuel) {n : Nat} {H0 : Heap} {tx : List (List UInt8)} (g : Glob H0) (hro : H0.ro ≤ H0.nx) (hl : tx.length = 8) (ht : ∀ t ∈ tx, BadN t ∧ NumS t 0 ∧ t.length < 99998) (y f d r) (x : X) (m : Nat) (tm : TM) (H : Heap) (h : LL H0 tx m tm H) :
    ∃ o tm' H', c8_l0 ⟨callN (LK lib0 fs fuel 7) fs fuel (n + 1), y, f, d, r⟩ tm H x = .ok o tm' H' x ∧ ((o = .normal ∧ ∃ k, k < m ∧ LL H0 tx k tm' H') ∨ (o ≠ .normal ∧ o = .exit 0 ∧ Keep H0 H' [])) := by
  obtain ⟨⟨i, hm, hi, t73⟩, t72, kp⟩ := h
  simp only [gtr73] at t73
  simp only [gtr72] at t72
  by_cases h : i < 8
  · have d1 : decide (i < 8) = true := decide_eq_true h
    have d5 : decide (5 ≠ 5) = false := rfl
    obtain ⟨⟨p, hp⟩, hs, hln⟩ := ht (tx.getD i []) (by rw [List.getD_eq_getElem?_getD, List.getElem?_eq_getElem (by omega)]; exact List.getElem_mem _)
    have h72 := idxAgg_is (tx := tx) h hl H
    generalize tx.getD i [] = s at hp hs hln h72
    have ea := fun {j} => parseText (lib0 := lib0) (fs := fs) (fuel := fuel) E (k := 7) (n := j) (by decide) (H := H) (g.keep kp (by simp)) (by rw [kp.ro]; exact Nat.le_trans hro kp.nx) hln hs
    rw [hp] at ea
    obtain ⟨H1, hH1⟩ : ∃ H1, H.new (rG 5 1 (s.map u8V) 0 true true false) = H1 := ⟨_, rfl⟩
    rw [hH1] at ea
    obtain ⟨H2, hH2⟩ : ∃ H2, H1.new (rG 72 1 [nI .i64 0, .bool false, nI .i64 0, .str [], .nils, .nils] 0 false true true) = H2 := ⟨_, rfl⟩
    have nx1 : H1.nx = H.nx + 1 := by rw [← hH1]; rfl
    have nx2 : H2.nx = H.nx + 1 + 1 := by rw [← hH2, new_nx, nx1]
    have ro2 : H2.ro = H0.ro := by rw [← hH2, ← hH1]; exact kp.ro
    have knx := kp.nx
    have gp : H2.t.get (H.nx + 1) = some (rG 72 1 [nI .i64 0, .bool false, nI .i64 0, .str [], .nils, .nils] 0 false true true) := by rw [← hH2, get_new_eq nx1]
    have k2 : Keep H0 H2 [] := by rw [← hH2, ← hH1]; exact (kp.then_new _).then_new _
    unfold zVal at ea
    simp (maxSteps := 2000000) (disch := first | assumption | omega | (simp -implicitDefEqProofs only [SideG, List.length_cons, List.length_nil, List.length_set, List.length_map] <;> first | assumption | omega) | decide) only [hH1, hH2, nx1, nx2, t72, t73, h72, ea, gp, d1, d5, oIdxAgg1_at, cmpV_lt, eqV_ne, addV_i, stN_rG, lay_cons, lay_nil, c8_l0, RunG, N8G, CoreG, Bool.not_true, Bool.not_false, freeK_at, readK_at, freeN_at, List.nil_append, List.append_nil, Option.map_none, Option.map_some, List.map_cons, List.map_nil, cond_true, cond_false, Nat.testBit_eq_decide_div_mod_eq, Nat.reducePow, Nat.reduceDiv, Nat.reduceMod, decide_true, Nat.reduceEqDiff, decide_false, reduceCtorEq, Nat.zero_ne_one, Nat.zero_add, List.getD_cons_zero, List.getD_cons_succ, List.set_cons_zero, List.set_cons_succ, gtr0, gtr10, gtr11, gtr13, gtr72, gtr73, gtr74, gtr75, gtr76, gtr77, gtr78, gtr79, gtr80, gtr81, gtr82, gtr83, gtr84, gtr85, str0, str2, str10, str11, str12, str13, str73, str74, str75, str76, str77, str78, str79, str80, str81, str82, str83, str84, str85]
    exact ⟨_, _, _, rfl, .inl ⟨rfl, 8 - (i + 1), by omega, ⟨i + 1, rfl, by omega, rfl⟩, t72, k2.then_put fun h => by omega⟩⟩
  · have d1 : decide (i < 8) = false := decide_eq_false h
    simp (maxSteps := 2000000) (disch := first | assumption | omega | (simp -implicitDefEqProofs only [SideG, List.length_cons, List.length_nil, List.length_set, List.length_map] <;> first | assumption | omega) | decide) only [t73, d1, cmpV_lt, c8_l0, RunG, N8G, CoreG, Bool.not_true, Bool.not_false, freeK_at, readK_at, freeN_at, List.nil_append, List.append_nil, Option.map_none, Option.map_some, List.map_cons, List.map_nil, cond_true, cond_false, Nat.testBit_eq_decide_div_mod_eq, Nat.reducePow, Nat.reduceDiv, Nat.reduceMod, decide_true, Nat.reduceEqDiff, decide_false, reduceCtorEq, Nat.zero_ne_one, Nat.zero_add, List.getD_cons_zero, List.getD_cons_succ, List.set_cons_zero, List.set_cons_succ, gtr0, gtr10, gtr11, gtr13, gtr72, gtr73, gtr74, gtr75, gtr76, gtr77, gtr78, gtr79, gtr80, gtr81, gtr82, gtr83, gtr84, gtr85, str0, str2, str10, str11, str12, str13, str73, str74, str75, str76, str77, str78, str79, str80, str81, str82, str83, str84, str85]
    exact ⟨_, _, _, rfl, .inr ⟨by simp, rfl, kp⟩⟩
end
end Go.AI

/- JsonNumbers: the law comes out true. -/
namespace Go.AI
open Go
noncomputable section

theorem law_run {lib0 : Lib} {fs : T CF} {fuel : Nat} (E : Env lib0 fs fuel) {n : Nat} {z : Int} {H : Heap} (g : Glob H) (hro : H.ro ≤ H.nx) (hz1 : -9223372036854775808 ≤ z) (hz2 : z < 9223372036854775808)
    (hR : ∀ H', Keep H H' [] → lib0 46 [.str (48 :: fmtI z), .str [48, 45], .str [45, 48], nI .i64 1] H' = some (.ret (.str (rplF z)) H'))
    (hP : ∀ H', Keep H H' [] → lib0 47 [.str [48], nI .i64 20] H' = some (.ret (.str (List.replicate 20 48)) H'))
    (hW : ∀ H', Keep H H' [] → lib0 35 [] H' = some (.ret (.bool true) H')) :
    ∃ H', callN (LK lib0 fs fuel 7) fs fuel (n + 3) 8 [.int .i64 z] H = .ret (.bool true) H' := by
  have nn : libK lib0 fs fuel rank spec 7 8 [.int .i64 z] H = none := libK_none E.n8 (.inr rfl) _ _
  rw [callN_fn nn E.f8]
  have ef := fun {j} => fmtI_hit (lib0 := lib0) (fs := fs) (fuel := fuel) E (k := 7) (n := j) (by decide) (H := H) g hro hz1 hz2
  have eo := fun {j} => ofWhole (lib0 := lib0) (fs := fs) (fuel := fuel) E (k := 7) (n := j) (by decide) (z := z) (H := H) hro
  have ep := fun {j} => putWh (lib0 := lib0) (fs := fs) (fuel := fuel) E (k := 7) (n := j) (by decide) (H := H) g hro hz1 hz2
  have hnum := fmt_num z []
  rw [List.append_nil] at hnum
  have hln := fmt_len hz1 hz2
  have hpf := parse_fmt hz1 hz2
  have hall : ∀ t ∈ [fmtI z ++ [46, 48], fmtI z ++ [101, 49], fmtI z ++ [69, 48], 43 :: fmtI z, rplF z, fmtI z ++ [120], 45 :: 45 :: fmtI z, fmtI z ++ List.replicate 20 48 ++ [49]], BadN t ∧ NumS t 0 ∧ t.length < 99998 := by
    have hrl := rpl_len hz1 hz2
    intro t ht
    simp only [List.mem_cons, List.not_mem_nil, or_false] at ht
    rcases ht with rfl | rfl | rfl | rfl | rfl | rfl | rfl | rfl
    · exact ⟨bad_tail z [48] rfl rfl, fmt_num z _, by simp only [List.length_append, List.length_cons, List.length_nil]; omega⟩
    · exact ⟨bad_tail z [49] rfl rfl, fmt_num z _, by simp only [List.length_append, List.length_cons, List.length_nil]; omega⟩
    · exact ⟨bad_tail z [48] rfl rfl, fmt_num z _, by simp only [List.length_append, List.length_cons, List.length_nil]; omega⟩
    · exact ⟨bad_plus _, num_digit (.inr (.inr rfl)) _, by simp only [List.length_cons]; omega⟩
    · exact ⟨bad_rpl z, rpl_num z, by omega⟩
    · exact ⟨bad_tail z [] rfl rfl, fmt_num z _, by simp only [List.length_append, List.length_cons, List.length_nil]; omega⟩
    · exact ⟨bad_minus _, num_digit (.inr (.inl rfl)) _, by simp only [List.length_cons]; omega⟩
    · rw [List.append_assoc]
      exact ⟨bad_great z, fmt_num z _, by simp only [List.length_append, List.length_cons, List.length_nil, List.length_replicate]; omega⟩
  generalize fmtI z = s at *
  obtain ⟨H1, hH1⟩ : ∃ H1, H.new (rG 72 1 [nI .i64 3, .bool false, .int .i64 z, .str [], .nils, .nils] 0 false true true) = H1 := ⟨_, rfl⟩
  obtain ⟨H2, hH2⟩ : ∃ H2, H1.new (rG 5 1 (s.map u8V) 0 true true false) = H2 := ⟨_, rfl⟩
  obtain ⟨H3, hH3⟩ : ∃ H3, H2.new (rG 5 1 (s.map u8V) 0 true true false) = H3 := ⟨_, rfl⟩
  obtain ⟨H4, hH4⟩ : ∃ H4, H3.new (rG 72 1 [nI .i64 0, .bool false, nI .i64 0, .str [], .nils, .nils] 0 false true true) = H4 := ⟨_, rfl⟩
  obtain ⟨H5, hH5⟩ : ∃ H5, H4.put (H.nx + 1 + 1 + 1) (rG 72 1 [nI .i64 3, .bool false, .int .i64 z, .str [], .nils, .nils] 0 false true true) = H5 := ⟨_, rfl⟩
  have nx1 : H1.nx = H.nx + 1 := by rw [← hH1]; rfl
  have nx2 : H2.nx = H.nx + 1 + 1 := by rw [← hH2, new_nx, nx1]
  have nx3 : H3.nx = H.nx + 1 + 1 + 1 := by rw [← hH3, new_nx, nx2]
  have nx4 : H4.nx = H.nx + 1 + 1 + 1 + 1 := by rw [← hH4, new_nx, nx3]
  have ro2 : H2.ro = H.ro := by rw [← hH2, ← hH1]; rfl
  have ro4 : H4.ro = H.ro := by rw [← hH4, ← hH3]; exact ro2
  have k2 : Keep H H2 [] := by rw [← hH2, ← hH1]; exact (Keep.new H _ _).then_new _
  have k5 : Keep H H5 [] := by rw [← hH5, ← hH4, ← hH3]; exact ((k2.then_new _).then_new _).then_put fun h => by omega
  rw [hH1, hH2] at ep
  have ea := fun {j} => parseText (lib0 := lib0) (fs := fs) (fuel := fuel) E (k := 7) (n := j) (by decide) (H := H2) (g.keep k2 (by simp)) (by omega) (by omega) hnum
  rw [hH3, hpf, nx2] at ea
  have g2 : H2.t.get (H.nx + 1) = some (rG 5 1 (s.map u8V) 0 true true false) := by rw [← hH2, get_new_eq nx1]
  have g4 : H4.t.get (H.nx + 1 + 1 + 1) = some (rG 72 1 [nI .i64 0, .bool false, nI .i64 0, .str [], .nils, .nils] 0 false true true) := by rw [← hH4, get_new_eq nx3]
  have g5 : H5.t.get (H.nx + 1) = some (rG 5 1 (s.map u8V) 0 true true false) := by rw [← hH5, get_put_ne (by omega), ← hH4, get_new_ne (by omega), ← hH3, get_new_ne (by omega), g2]
  have g6 : H5.t.get (H.nx + 1 + 1 + 1) = some (rG 72 1 [nI .i64 3, .bool false, .int .i64 z, .str [], .nils, .nils] 0 false true true) := by rw [← hH5, get_put_eq]
  have es := rowS (c := none) g5
  have eR : ∀ m, callN (LK lib0 fs fuel 7) fs fuel (m + 1) 46 [.str (48 :: s), .str [48, 45], .str [45, 48], nI .i64 1] H5 = .ret (.str (rplF z)) H5 := fun m => base_hit rfl (hR H5 k5)
  have eP : ∀ m, callN (LK lib0 fs fuel 7) fs fuel (m + 1) 47 [.str [48], nI .i64 20] H5 = .ret (.str (List.replicate 20 48)) H5 := fun m => base_hit rfl (hP H5 k5)
  have a8 := fun G => addV_str (a := s ++ List.replicate 20 48) (b := [49]) (by simp only [List.length_append, List.length_cons, List.length_nil, List.length_replicate]; omega) G
  have a7 := fun G => addV_str (a := s) (b := List.replicate 20 48) (by simp only [List.length_replicate]; omega) G
  have d0 : decide (0 ≠ 0) = false := rfl
  have d3 : decide (3 ≠ 3) = false := rfl
  unfold wholeV at eo ep ea
  simp (maxSteps := 2000000) (disch := first | assumption | omega | (simp -implicitDefEqProofs only [SideG, List.length_cons, List.length_nil, List.length_set, List.length_map] <;> first | assumption | omega) | decide) only [hH1, hH2, hH3, hH4, hH5, nx1, nx2, nx3, ef, eo, ep, ea, es, eR, eP, a7, a8, g4, g6, d0, d3, eqV_ne, eqV_zt, eqV_ss, addV_str, List.cons_append, stN_rG, lay_cons, lay_nil, ld1_rG, List.take_succ_cons, List.take_zero, c8, RunG, N8G, CoreG, Bool.not_true, Bool.not_false, freeK_at, readK_at, freeN_at, List.nil_append, List.append_nil, Option.map_none, Option.map_some, List.map_cons, List.map_nil, cond_true, cond_false, Nat.testBit_eq_decide_div_mod_eq, Nat.reducePow, Nat.reduceDiv, Nat.reduceMod, decide_true, Nat.reduceEqDiff, decide_false, reduceCtorEq, Nat.zero_ne_one, Nat.zero_add, List.getD_cons_zero, List.getD_cons_succ, List.set_cons_zero, List.set_cons_succ, gtr0, gtr2, gtr3, gtr4, gtr5, gtr6, gtr8, gtr14, gtr15, gtr16, gtr17, gtr18, gtr19, gtr20, gtr21, gtr22, gtr23, gtr24, gtr25, gtr26, gtr27, gtr28, gtr29, gtr30, gtr31, gtr32, gtr33, gtr34, gtr35, gtr36, gtr37, gtr38, gtr39, gtr40, gtr41, gtr42, gtr43, gtr44, gtr45, gtr46, gtr47, gtr48, gtr49, gtr50, gtr51, gtr52, gtr53, gtr54, gtr55, gtr56, gtr57, gtr58, gtr59, gtr60, gtr61, gtr62, gtr63, gtr64, gtr65, gtr66, gtr67, gtr68, gtr69, gtr70, gtr71, gtr86, str0, str2, str3, str4, str5, str6, str7, str8, str14, str15, str16, str17, str18, str19, str20, str21, str22, str23, str24, str25, str26, str27, str28, str29, str30, str31, str32, str33, str34, str35, str36, str37, str38, str39, str40, str41, str42, str43, str44, str45, str46, str47, str48, str49, str50, str51, str52, str53, str54, str55, str56, str57, str58, str59, str60, str61, str62, str63, str64, str65, str66, str67, str68, str69, str70, str71, str72, str73, str86]
  generalize hL : loopN (c8_l0 _) fuel _ _ _ = L
  obtain ⟨o, tm1, H6, rfl, _, rfl, k6⟩ := after_rule (P := fun T => LL H5 [s ++ [46, 48], s ++ [101, 49], s ++ [69, 48], 43 :: s, rplF z, s ++ [120], 45 :: 45 :: s, s ++ List.replicate 20 48 ++ [49]] 8 T H5) (Q := fun o tm H' => o = .exit 0 ∧ Keep H5 H' [])
    (fun T hi' => loop_rule (LL H5 _) (fun o tm H' => o = .exit 0 ∧ Keep H5 H' []) (fun m tm H' h => ll_step E (g.keep k5 (by simp)) (by rw [k5.ro]; exact Nat.le_trans hro k5.nx) rfl hall _ _ _ _ _ m tm H' h) fuel 8 T H5 (by have := E.big; omega) hi') hL
    ⟨⟨0, rfl, by decide, rfl⟩, rfl, Keep.refl _ _⟩
  have eW : ∀ m, callN (LK lib0 fs fuel 7) fs fuel (m + 1) 35 [] H6 = .ret (.bool true) H6 := fun m => base_hit rfl (hW H6 (k5.trans k6 (by simp)))
  simp (maxSteps := 2000000) (disch := first | assumption | omega | (simp -implicitDefEqProofs only [SideG, List.length_cons, List.length_nil, List.length_set, List.length_map] <;> first | assumption | omega) | decide) only [eW, c8, RunG, N8G, CoreG, Bool.not_true, Bool.not_false, freeK_at, readK_at, freeN_at, List.nil_append, List.append_nil, Option.map_none, Option.map_some, List.map_cons, List.map_nil, cond_true, cond_false, Nat.testBit_eq_decide_div_mod_eq, Nat.reducePow, Nat.reduceDiv, Nat.reduceMod, decide_true, Nat.reduceEqDiff, decide_false, reduceCtorEq, Nat.zero_ne_one, Nat.zero_add, List.getD_cons_zero, List.getD_cons_succ, List.set_cons_zero, List.set_cons_succ, gtr0, gtr2, gtr3, gtr4, gtr5, gtr6, gtr8, gtr14, gtr15, gtr16, gtr17, gtr18, gtr19, gtr20, gtr21, gtr22, gtr23, gtr24, gtr25, gtr26, gtr27, gtr28, gtr29, gtr30, gtr31, gtr32, gtr33, gtr34, gtr35, gtr36, gtr37, gtr38, gtr39, gtr40, gtr41, gtr42, gtr43, gtr44, gtr45, gtr46, gtr47, gtr48, gtr49, gtr50, gtr51, gtr52, gtr53, gtr54, gtr55, gtr56, gtr57, gtr58, gtr59, gtr60, gtr61, gtr62, gtr63, gtr64, gtr65, gtr66, gtr67, gtr68, gtr69, gtr70, gtr71, gtr86, str0, str2, str3, str4, str5, str6, str7, str8, str14, str15, str16, str17, str18, str19, str20, str21, str22, str23, str24, str25, str26, str27, str28, str29, str30, str31, str32, str33, str34, str35, str36, str37, str38, str39, str40, str41, str42, str43, str44, str45, str46, str47, str48, str49, str50, str51, str52, str53, str54, str55, str56, str57, str58, str59, str60, str61, str62, str63, str64, str65, str66, str67, str68, str69, str70, str71, str72, str73, str86]
  exact ⟨_, rfl⟩
end
end Go.AI

/- What strings.Replace answers on a nought and a number: a plain law. -/
namespace Go.AI
open Go
theorem index_none {l : List UInt8} (h : ∀ c ∈ l, c ≠ 45) : Lib.index l [48, 45] = -1 := by
  induction l with
  | nil => rfl
  | cons b l ih =>
    have hp : List.isPrefixOf [48, 45] (b :: l) = false := by
      cases l with
      | nil => simp [List.isPrefixOf]
      | cons c l =>
        have : c ≠ 45 := h c (by simp)
        have h2 : ((45 : UInt8) == c) = false := by simpa using fun e : 45 = c => this e.symm
        simp [List.isPrefixOf, h2]
    unfold Lib.index
    rw [hp, ih fun c hc => h c (by simp [hc])]; rfl
theorem replace_none {s : List UInt8} (h : Lib.index s [48, 45] = -1) (n : Nat) : Lib.replaceK [48, 45] [45, 48] n s = s := by
  cases n with
  | zero => rfl
  | succ n => unfold Lib.replaceK; rw [h]; rfl
theorem rpl_is (n : Int) : Lib.replace (48 :: fmtI n) [48, 45] [45, 48] 1 = rplF n := by
  have hne : (([48, 45] : List UInt8) == [45, 48]) = false := by decide
  unfold Lib.replace
  rw [hne, if_neg (by decide)]
  obtain ⟨m, ⟨e, rfl⟩ | ⟨e, rfl, h0⟩⟩ := fmt_cases n
  · have hi : Lib.index (48 :: dec m) [48, 45] = -1 := index_none fun c hc => by
      rcases List.mem_cons.1 hc with rfl | hc
      · decide
      · intro h; subst h; exact absurd (dec_digit hc).1 (by decide)
    rw [e, replace_none hi]
    unfold rplF
    rw [if_neg (by omega), Int.natAbs_natCast]
  · have hi : Lib.index (48 :: 45 :: dec m) [48, 45] = (0 : Nat) := by
      unfold Lib.index
      rw [show List.isPrefixOf [48, 45] (48 :: 45 :: dec m) = true by simp [List.isPrefixOf]]; rfl
    have hc : 1 ≤ Lib.count (48 :: 45 :: dec m) [48, 45] := by
      unfold Lib.count Lib.countFrom
      rw [hi, if_neg (by decide)]; omega
    have hk : Lib.replaceNum (48 :: 45 :: dec m) [48, 45] 1 = 1 := by
      unfold Lib.replaceNum
      rw [if_neg (by omega)]; rfl
    rw [e, hk, Lib.replaceK_hit _ _ 0 _ 0 hi]
    unfold rplF
    rw [if_pos (by omega), Int.natAbs_neg, Int.natAbs_natCast]; rfl
end Go.AI
