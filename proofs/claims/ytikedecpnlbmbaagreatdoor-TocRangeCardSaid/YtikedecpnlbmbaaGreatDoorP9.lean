/- The walk of the law's code on any bytes: proved for any arguments that are told. -/
import Derived.Test.YtikedecpnlbmbaaGreatDoorP7
import Derived.Test.YtikedecpnlbmbaaGreatDoorP8
import Derived.Test.YtikedecpnlbmbaaGreatDoorP6
import Derived.Test.YtikedecpnlbmbaaGreatDoorProg
set_option maxRecDepth 1000000
set_option linter.unusedVariables false
set_option linter.unusedSimpArgs false
/- Bytes that are an argument, cut; numbers of all kinds; records cut. -/
namespace Go.AI
open Go
noncomputable section
/-- an argument that is bytes -/
def ArgS (G : Heap) (a : AV) (l : List UInt8) : Prop := BV G a l ∧ ((a = .nils ∧ l = []) ∨ ∃ b o c r, a = .slice b o l.length (some c) ∧ G.t.get b = some (.row r) ∧ l.length ≤ c ∧ b < G.nx)
theorem ArgS.low {G : Heap} {a : AV} {l : List UInt8} (h : ArgS G a l) {n : Nat} (hn : G.nx ≤ n) : lowV n a = true := by
  rcases h.2 with ⟨rfl, _⟩ | ⟨b, o, c, r, rfl, _, _, hb⟩
  · rfl
  · exact lowV_slice (by omega) _ _ _
theorem ArgS.far {G : Heap} {a : AV} {l : List UInt8} (h : ArgS G a l) : ∀ b o n c, a = .slice b o n c → b < G.nx := by
  rcases h.2 with ⟨rfl, _⟩ | ⟨b, o, c, r, rfl, _, _, hb⟩
  · intro _ _ _ _ e; cases e
  · intro _ _ _ _ e; cases e; exact hb
theorem ArgS.keep {G G' : Heap} {a : AV} {l : List UInt8} (h : ArgS G a l) (k : Keep G G' []) : ArgS G' a l := by
  refine ⟨h.1.keep k (S := []) (by simp), ?_⟩
  rcases h.2 with h | ⟨b, o, c, r, e, h1, h2, h3⟩
  · exact .inl h
  · exact .inr ⟨b, o, c, r, e, by rw [k.get b h3 (by simp)]; exact h1, h2, Nat.lt_of_lt_of_le h3 k.nx⟩
theorem ArgS.same {G : Heap} {a : AV} {l : List UInt8} (h : ArgS G a l) (n : Nat) (t : T Obj) : isSame (.val a ⟨n, t, n⟩) a n = true := by
  rcases h.2 with ⟨rfl, _⟩ | ⟨b, o, c, r, rfl, _⟩
  · exact isSame_nils n t
  · exact isSame_slice _ _ _ _ _ _
theorem lenV_arg {G : Heap} {a : AV} {l : List UInt8} (h : ArgS G a l) (H' : Heap) : lenV a H' = .val (nI .i64 l.length) H' := h.1.len H'
theorem getD_dt {l : List UInt8} {p q i : Nat} (hi : i < q - p) (hq : q ≤ l.length) : ((l.drop p).take (q - p)).getD i 0 = l.getD (p + i) 0 := by
  rw [List.getD_eq_getElem?_getD, List.getD_eq_getElem?_getD, List.getElem?_take_of_lt hi, List.getElem?_drop]
/-- a part of it -/
theorem slice_part {G : Heap} {a : AV} {l : List UInt8} (h : ArgS G a l) {p q : Nat} (hpq : p ≤ q) (hq : q ≤ l.length) : ∃ v, (∀ G' : Heap, (∀ c, c < G.nx → G'.t.get c = G.t.get c) → sliceV 1 a (some (nI .i64 p)) (some (nI .i64 q)) G' = .val v G') ∧ ArgS G v ((l.drop p).take (q - p)) := by
  obtain ⟨hb, h⟩ := h
  rcases h with ⟨rfl, rfl⟩ | ⟨b, o, c, r, rfl, h1, h2, h3⟩
  · have : q = 0 := by simpa using hq
    subst this
    obtain rfl : p = 0 := by omega
    exact ⟨.nils, fun _ _ => rfl, .inl ⟨rfl, .inl rfl⟩, .inl ⟨rfl, rfl⟩⟩
  · have hkl : ((l.drop p).take (q - p)).length = q - p := by rw [List.length_take, List.length_drop]; omega
    by_cases e0 : p = c
    · subst e0
      obtain rfl : p = q := by omega
      refine ⟨.slice b o (p - p) (some 0), fun G' e => ?_, .inl ⟨?_, .inr ⟨b, o, _, by rw [Nat.sub_self]⟩⟩, .inr ⟨b, o, 0, r, by rw [hkl], h1, by rw [hkl]; omega, h3⟩⟩
      · show onRow G' b _ = _
        unfold onRow
        rw [e b h3, h1]
        show onIf (Nat.ble p p) (onIf (Nat.ble p p) (onIf (Nat.ble p p) (cond (Nat.beq p p) (.val (.slice b o (p - p) (some 0)) G') _))) = _
        rw [Nat.ble_eq_true_of_le (Nat.le_refl p), Nat.beq_refl]; rfl
      · exact List.length_eq_zero_iff.1 (by rw [hkl]; omega)
    · have run : ∀ G' : Heap, (∀ c, c < G.nx → G'.t.get c = G.t.get c) → sliceV 1 (.slice b o l.length (some c)) (some (nI .i64 p)) (some (nI .i64 q)) G' = .val (.slice b (o + p) (q - p) (some (c - p))) G' := by
        intro G' e
        show onRow G' b _ = _
        unfold onRow
        rw [e b h3, h1]
        show onIf (Nat.ble q c) (onIf (Nat.ble p q) (onIf (Nat.ble p c) (cond (Nat.beq p c) _ (.val (.slice b (o + p * 1) (q - p) (some (c - p))) G')))) = _
        rw [Nat.ble_eq_true_of_le (by omega), Nat.ble_eq_true_of_le hpq, Nat.ble_eq_true_of_le (show p ≤ c by omega), beq_nat, decide_eq_false e0, Nat.mul_one]
        rfl
      refine ⟨_, run, ?_, .inr ⟨b, o + p, c - p, r, by rw [hkl], h1, by rw [hkl]; omega, h3⟩⟩
      by_cases h0 : q - p = 0
      · exact .inl ⟨List.length_eq_zero_iff.1 (by rw [hkl]; exact h0), .inr ⟨_, _, _, by rw [h0]⟩⟩
      · rcases hb with ⟨rfl, _⟩ | ⟨hne, b', o', c', r', e, by_, hlt⟩
        · simp at hq; omega
        · injection e with e1 e2 e3 e4
          subst e1; subst e2; subst e4
          have hc := by_.cap c rfl
          refine .inr ⟨by intro e; rw [e] at hkl; simp at hkl; omega, b, o + p, some (c - p), r', by rw [hkl], ⟨by_.at_, by_.sz, by have := by_.fits; rw [hkl]; omega, fun i hi => ?_, fun c2 e2 => ?_⟩, h3⟩
          · rw [hkl] at hi
            rw [Nat.add_assoc, by_.get (p + i) (by omega), getD_dt hi hq]
          · cases e2
            rw [hkl]
            exact ⟨by omega, by omega⟩
theorem slice_take {G : Heap} {a : AV} {l : List UInt8} (h : ArgS G a l) {k : Nat} (hk : k ≤ l.length) : ∃ v, (∀ G' : Heap, (∀ c, c < G.nx → G'.t.get c = G.t.get c) → sliceV 1 a none (some (nI .i64 k)) G' = .val v G') ∧ ArgS G v (l.take k) := by
  obtain ⟨v, e, g⟩ := slice_part h (Nat.zero_le k) hk
  refine ⟨v, fun G' h' => ?_, by simpa using g⟩
  rw [← e G' h']
  rfl
/-! numbers -/
theorem minV_max (a b : Nat) (H : Heap) : minV true [nI .i64 a, nI .i64 b] H = .val (nI .i64 (max a b)) H := by
  show onIf (kEq .i64 .i64) (min2 true .i64 (cond (cond true (ilt (.ofNat a) (.ofNat b)) (ilt (.ofNat b) (.ofNat a))) (.ofNat b) (.ofNat a)) H []) = _
  rw [kEq_self, ilt_nat, ilt_nat]
  show OR.val (.int .i64 (cond (decide (a < b)) (.ofNat b) (.ofNat a))) H = _
  by_cases h : a < b
  · rw [decide_eq_true h, Nat.max_eq_right (by omega)]; rfl
  · rw [decide_eq_false h, Nat.max_eq_left (by omega)]; rfl
theorem minV_nat (z : Int) (H : Heap) : minV true [.int .i64 z, nI .i64 0] H = .val (nI .i64 z.toNat) H := by
  cases z with
  | ofNat a =>
    show minV true [nI .i64 a, nI .i64 0] H = _
    rw [minV_max]; simp
  | negSucc a => rfl
theorem wrap_int {z : Int} (h1 : -9223372036854775808 ≤ z) (h2 : z < 9223372036854775808) : IntKind.i64.wrap z = z := by
  show (if (true && decide (z % (18446744073709551616 : Int) ≥ (9223372036854775808 : Int))) = true then z % (18446744073709551616 : Int) - 18446744073709551616 else z % (18446744073709551616 : Int)) = z
  by_cases h : z % (18446744073709551616 : Int) ≥ (9223372036854775808 : Int)
  · rw [decide_eq_true h, if_pos (by rfl)]; omega
  · rw [decide_eq_false h, if_neg (by decide)]; omega
theorem intV_wide {z : Int} {k : IntKind} (h1 : -9223372036854775808 ≤ z) (h2 : z < 9223372036854775808) (H : Heap) : intV .i64 (.int k z) H = .val (.int .i64 z) H := by
  show valI .i64 z H = _
  rw [valI_run, wrap_int h1 h2]
theorem intV_nat {a : Nat} {k : IntKind} (h2 : a < 9223372036854775808) (H : Heap) : intV .i64 (nI k a) H = .val (nI .i64 a) H := by
  show valI .i64 (.ofNat a) H = _
  rw [valI_run, wrap_i64 h2]; rfl
theorem subV_int {a b : Nat} (h1 : a < 4611686018427387904) (h2 : b < 4611686018427387904) (H : Heap) : subV (nI .i64 a) (nI .i64 b) H = .val (.int .i64 ((a : Int) - b)) H := by
  show onIf (kEq .i64 .i64) (valI .i64 (isub (.ofNat a) (.ofNat b)) H) = _
  have e : isub (.ofNat a) (.ofNat b) = (a : Int) - b := by
    show cond (Nat.ble b a) (Int.ofNat (Nat.sub a b)) (Int.ofNat a - Int.ofNat b) = _
    cases h : Nat.ble b a with
    | true =>
      have := Nat.le_of_ble_eq_true h
      show ((a - b : Nat) : Int) = _
      omega
    | false => rfl
  rw [kEq_self, valI_run, e, wrap_int (by omega) (by omega)]; rfl
theorem remV_k {k : IntKind} {a b : Nat} (h : 0 < b) (H : Heap) : remV (nI k a) (nI k b) H = .val (nI k (a % b)) H := by
  show onIf (kEq k k) (cond (ieq (.ofNat b) (.ofNat 0)) .fail (forceI (.ofNat (Nat.mod a b)) fun n => .val (.int k n) H)) = _
  rw [kEq_self, ieq_nat, decide_eq_false (by omega), forceI_eq]; rfl
/-! records -/
theorem RBuf.item {H : Heap} {v : AV} {e sz : Nat} {ls : List (List AV)} {lo : Nat} (h : RBuf H v e sz ls lo) {i : Nat} (hi : i < ls.length) :
    ∃ p, (∀ G, idxSV sz v (nI .i64 i) G = .val p G) ∧ (∀ n, H.nx ≤ n → lowV n p = true) ∧ ∀ G : Heap, (∀ c, lo ≤ c → c < H.nx → G.t.get c = H.t.get c) → loadV sz p G = .val (.agg (ls.getD i [])) G := by
  rcases h with ⟨rfl, _⟩ | ⟨_, b, r, rfl, g, hb⟩
  · cases hi
  · refine ⟨.ptr b (0 + i * sz), fun G => idxSV_rec hi ..  , fun n hn => lowV_ptr (Nat.lt_of_lt_of_le g.low hn) _, fun G hG => ?_⟩
    have hf := flat_len g.each
    have hm : (i + 1) * sz ≤ ls.length * sz := Nat.mul_le_mul_right _ hi
    rw [Nat.add_mul, Nat.one_mul] at hm
    rw [Nat.zero_add, loadV_row (r := r) (by rw [hG b hb g.low]; exact g.at_) g.cells (by omega), flat_at g.each hi]
theorem RBuf.cut {H : Heap} {v : AV} {e sz : Nat} {ls : List (List AV)} {lo : Nat} (h : RBuf H v e sz ls lo) {p q : Nat} (hpq : p < q) (hq : q ≤ ls.length) (hsz : 1 ≤ sz) :
    ∃ v', (∀ G : Heap, (∀ c, lo ≤ c → c < H.nx → G.t.get c = H.t.get c) → sliceV sz v (some (nI .i64 p)) (some (nI .i64 q)) G = .val v' G) ∧ (∀ G, lenV v' G = .val (nI .i64 (q - p)) G) ∧
      ∀ j, j < q - p → ∃ y, (∀ G, idxSV sz v' (nI .i64 j) G = .val y G) ∧ ∀ G : Heap, (∀ c, lo ≤ c → c < H.nx → G.t.get c = H.t.get c) → loadV sz y G = .val (.agg (ls.getD (p + j) [])) G := by
  rcases h with ⟨rfl, _⟩ | ⟨_, b, r, rfl, g, hb⟩
  · simp at hq; omega
  · have hs := g.size
    have hcap : capOf r 0 none = ls.length := by
      show cond (Nat.beq r.sz 1) (r.size - 0) ((r.size - 0) / r.sz) = _
      rw [g.szr, hs, Nat.sub_zero]
      by_cases h1 : sz = 1
      · subst h1; show ls.length * 1 = _; omega
      · rw [beq_nat, decide_eq_false h1]
        exact Nat.mul_div_cancel _ (by omega)
    refine ⟨.slice b (0 + p * sz) (q - p) none, fun G hG => ?_, fun G => lenV_slice .., fun j hj => ⟨.ptr b (0 + p * sz + j * sz), fun G => idxSV_rec hj .., fun G hG => ?_⟩⟩
    · show onRow G b _ = _
      unfold onRow
      rw [hG b hb g.low, g.at_]
      have h1 : szOk r sz none = true := by show Nat.beq r.sz sz = true; rw [g.szr, Nat.beq_refl]
      show onIf (szOk r sz none) (onIf (Nat.ble q (capOf r 0 none)) (onIf (Nat.ble p q) (onIf (Nat.ble p (capOf r 0 none)) (cond (Nat.beq p (capOf r 0 none)) _ (.val (.slice b (0 + p * sz) (q - p) none) G))))) = _
      rw [h1, hcap, Nat.ble_eq_true_of_le hq, Nat.ble_eq_true_of_le (Nat.le_of_lt hpq), Nat.ble_eq_true_of_le (show p ≤ ls.length by omega), beq_nat, decide_eq_false (show ¬ p = ls.length by omega)]
      rfl
    · have hf := flat_len g.each
      have hi : p + j < ls.length := by omega
      have hm : (p + j + 1) * sz ≤ ls.length * sz := Nat.mul_le_mul_right _ hi
      rw [Nat.add_mul, Nat.one_mul] at hm
      have ee : 0 + p * sz + j * sz = (p + j) * sz := by rw [Nat.add_mul]; omega
      rw [ee, loadV_row (r := r) (by rw [hG b hb g.low]; exact g.at_) g.cells (by omega), flat_at g.each hi]
end
end Go.AI

namespace Go.AI
open Go
noncomputable section
theorem XsG : (∀ (yes no : Res), guardK (.bool true) true yes no = yes) ∧ (∀ (yes no : Res), guardK (.bool false) true yes no = no) ∧ (∀ (yes no : Res), guardK (.bool false) false yes no = yes) ∧ (∀ (yes no : Res), guardK (.bool true) false yes no = no) ∧ (∀ (g : EvF) (b : Bool) (f : OpF) (dst : SetF) (next : D) (c : Ctx) (tm : TM) (H : Heap) (x : X), seqG g b f dst next c tm H x = guardK (g tm) b (goOn (next c) dst c tm H x (f tm H)) (next c (dst tm undefA) H x)) ∧ (∀ (n : Nat) (l : List AV), lowV n (.agg l) = lowL n l) ∧ (∀ (n : Nat), lowV n undefA = true) ∧ (∀ (n : Nat) (s : List UInt8), lowV n (.str s) = true) ∧ (∀ (k : IntKind) (v : Nat) (n : Nat) (t : T Obj), isSame (.val (nI k v) ⟨n, t, n⟩) (nI k v) n = true) ∧ (∀ (sz : Nat) (x : EvF) (lo hi : Option EvF) (tm : TM) (H : Heap), oSlice sz x lo hi none tm H = sliceV sz (x tm) (lo.map fun f => f tm) (hi.map fun f => f tm) H) ∧ (∀ (mx : Bool) (args : List EvF) (tm : TM) (H : Heap), oMinMax mx args tm H = minV mx (evs tm args) H) ∧ (∀ (zs : List AV) (ps : List Part) (tm : TM) (H : Heap), oBuild zs ps tm H = buildV zs (ps.map fun p => (p.off, p.sz, p.x tm)) H) ∧ (∀ (e sz n : Nat) (zs : List AV) (ps : List Part) (tm : TM) (H : Heap), oBSlice e sz n zs ps tm H = bsliceV e sz n zs (ps.map fun p => (p.off, p.sz, p.x tm)) H) ∧ (∀ (x y : EvF) (e sz bytes : Nat) (tm : TM) (H : Heap), oAppend x y e sz bytes tm H = appendV e sz bytes (x tm) (y tm) H) ∧ (∀ (x : EvF) (tm : TM) (H : Heap), oLenS x tm H = lenSV (x tm) H) ∧ (∀ (x : EvF) (i : Nat) (tm : TM) (H : Heap), oExtr x i tm H = extrV i (x tm) H) ∧ (∀ (b c : AV) (H : Heap), pickV (.bool true) b c H = .val b H) ∧ (∀ (b c : AV) (H : Heap), pickV (.bool false) b c H = .val c H) ∧ (∀ (b : Bool) (H : Heap), notV (.bool b) H = .val (.bool (cond b false true)) H) ∧ (∀ (x : EvF) (e : Nat) (tm : TM) (H : Heap), oBox x e tm H = boxV e (x tm) H) := ⟨@guardK_tt, @guardK_ft, @guardK_ff, @guardK_tf, @seqG_run, @lowV_agg, @lowV_undef, @lowV_str, @isSame_nI, @oSlice_run, @oMinMax_run, @oBuild_run, @oBSlice_run, @oAppend_run, @oLenS_run, @oExtr_run, @pickV_t, @pickV_f, @notV_b, @oBox_run⟩
end
end Go.AI

namespace Go.AI
open Go.Proofs N8
noncomputable section
def c13 : CF := ⟨[(gt4, none)], (seqD (seqO (oMv (k (.bool false))) st4 <| normD) (seqD (seqO (oMv gt0) st5 <| seqO (oStr gt5) st6 <| seqO (oMv gt1) st7 <| seqO (oStr gt7) st8 <| seqO (oEq gt6 gt8 eqS false) st9 <| seqO (oMv gt9) st4 <| normD) retD))⟩
def c12_l0 : D := (seqD (seqO (oCmp gt24 gt23 iltF strLt) st25 <| normD) (seqD (condD gt25 normD (exitD 0)) (seqD (blockD 1 (seqD (seqO (oMv gt24) st26 <| seqO (oIdxS gt22 gt24 35) st27 <| seqO (oLoad gt27 35) st28 <| seqO (oAlloc 45 [(nI .i64 0), (nI .i64 0), (nI .i64 0), (nI .u8 0), (nI .u8 0), (nI .u8 0), (nI .u8 0), (nI .u8 0), (nI .u8 0), (nI .u8 0), (nI .u8 0), (nI .u8 0), (nI .u8 0), (nI .u8 0), (nI .u8 0), (nI .u8 0), (nI .u8 0), (nI .u8 0), (nI .u8 0), (nI .u8 0), (nI .u8 0), (nI .u8 0), (nI .u8 0), (nI .u8 0), (nI .u8 0), (nI .u8 0), (nI .u8 0), (nI .u8 0), (nI .u8 0), (nI .u8 0), (nI .u8 0), (nI .u8 0), (nI .u8 0), (nI .u8 0), (nI .u8 0)]) st9 <| seqO (oMv gt26) st8 <| seqO (oStore gt9 gt28 35) d0 <| normD) (seqD (seqO (oMv gt2) st29 <| seqO (oCmp gt29 (k (nI .i64 0)) igtF strGt) st30 <| seqO (oMv gt30) st31 <| seqG gt31 true (oOff gt9 0) st32 <| seqG gt31 true (oLoad1 gt32) st33 <| seqG gt31 true (oMv gt1) st34 <| seqG gt31 true (oMv gt2) st35 <| seqG gt31 true (oAddS gt34 gt35) st36 <| seqG gt31 true (oCmp gt33 gt36 iltF strLt) st37 <| seqO (oPick gt31 gt37 (k (.bool false))) st38 <| seqO (oMv gt38) st39 <| seqG gt39 true (oOff gt9 0) st40 <| seqG gt39 true (oLoad1 gt40) st41 <| seqG gt39 true (oOff gt9 1) st42 <| seqG gt39 true (oLoad1 gt42) st43 <| seqG gt39 true (oAddS gt41 gt43) st44 <| seqG gt39 true (oMv gt1) st45 <| seqG gt39 true (oCmp gt44 gt45 igtF strGt) st46 <| seqO (oPick gt39 gt46 (k (.bool false))) st47 <| normD) (condD gt47 (seqD (seqD (seqO (oMv gt7) st48 <| seqO (oEq gt48 (k (nI .i64 0)) eqI false) st49 <| normD) (condD gt49 (seqO (oMv gt8) st50 <| seqO (oMv gt50) st6 <| normD) normD)) (seqO (oMv gt8) st51 <| seqO (oAddS gt51 (k (nI .i64 1))) st52 <| seqO (oMv gt52) st7 <| normD)) normD)))) (seqO (oAddS gt24 (k (nI .i64 1))) st53 <| seqO (oMv gt53) st24 <| normD))))
def c12 : CF := ⟨[(gt6, none), (gt7, none)], (seqD (seqO (oBox gt0 40) st3 <| seqO (oMv (k (nI .i64 0))) st6 <| seqO (oMv (k (nI .i64 0))) st7 <| normD) (seqD (seqO (oMv gt1) st10 <| seqO (oMinMax true [gt10, (k (nI .i64 0))]) st11 <| seqO (oMv gt2) st12 <| seqO (oMinMax true [gt12, (k (nI .i64 0))]) st13 <| seqO (oMv gt11) st1 <| seqO (oMv gt13) st2 <| normD) (seqD (seqO (oMv gt2) st14 <| seqO (oOff gt3 9) st15 <| seqO (oLoad1 gt15) st16 <| seqO (oMv gt1) st17 <| seqO (oSub gt16 gt17) st18 <| seqO (oMinMax true [gt18, (k (nI .i64 0))]) st19 <| seqO (oMinMax false [gt14, gt19]) st20 <| seqO (oMv gt20) st2 <| normD) (seqD (seqD (seqO (oOff gt3 11) st21 <| seqO (oLoad1 gt21) st22 <| seqO (oLenL gt22) st23 <| seqO (oMv (k (nI .i64 0))) st24 <| normD) (blockD 0 (loopD c12_l0))) (seqD (seqO (oMv gt6) st54 <| seqO (oMv gt7) st55 <| seqO (oMv gt54) st6 <| seqO (oMv gt55) st7 <| normD) retD)))))⟩
def c26_l0 : D := (seqD (seqO (oCmp gt60 gt59 iltF strLt) st61 <| normD) (seqD (condD gt61 normD (exitD 0)) (seqD (blockD 1 (seqD (seqO (oIdxS gt58 gt60 35) st62 <| seqO (oLoad gt62 35) st63 <| seqO (oAlloc 45 [(nI .i64 0), (nI .i64 0), (nI .i64 0), (nI .u8 0), (nI .u8 0), (nI .u8 0), (nI .u8 0), (nI .u8 0), (nI .u8 0), (nI .u8 0), (nI .u8 0), (nI .u8 0), (nI .u8 0), (nI .u8 0), (nI .u8 0), (nI .u8 0), (nI .u8 0), (nI .u8 0), (nI .u8 0), (nI .u8 0), (nI .u8 0), (nI .u8 0), (nI .u8 0), (nI .u8 0), (nI .u8 0), (nI .u8 0), (nI .u8 0), (nI .u8 0), (nI .u8 0), (nI .u8 0), (nI .u8 0), (nI .u8 0), (nI .u8 0), (nI .u8 0), (nI .u8 0)]) st7 <| seqO (oStore gt7 gt63 35) d0 <| normD) (seqD (seqD (seqO (oOff gt7 0) st64 <| seqO (oLoad1 gt64) st65 <| seqO (oMv gt5) st66 <| seqO (oEq gt65 gt66 eqI true) st67 <| seqO (oMv gt67) st68 <| seqG gt68 false (oOff gt7 1) st69 <| seqG gt68 false (oLoad1 gt69) st70 <| seqG gt68 false (oCmp gt70 (k (nI .i64 1)) iltF strLt) st71 <| seqO (oPick gt68 (k (.bool true)) gt71) st72 <| seqO (oMv gt72) st73 <| seqG gt73 false (oOff gt7 1) st74 <| seqG gt73 false (oLoad1 gt74) st75 <| seqG gt73 false (oCmp gt75 (k (nI .i64 65536)) igtF strGt) st76 <| seqO (oPick gt73 (k (.bool true)) gt76) st77 <| normD) (condD gt77 (seqD (seqO (oMv (k (.bool false))) st2 <| normD) retD) normD)) (seqO (oMv gt5) st78 <| seqO (oOff gt7 1) st79 <| seqO (oLoad1 gt79) st80 <| seqO (oAddS gt78 gt80) st81 <| seqO (oMv gt81) st5 <| normD)))) (seqO (oAddS gt60 (k (nI .i64 1))) st82 <| seqO (oMv gt82) st60 <| normD))))
def c26 : CF := ⟨[(gt2, none)], (seqD (seqO (oBox gt0 40) st1 <| seqO (oMv (k (.bool false))) st2 <| normD) (seqD (seqO (oOff gt1 0) st9 <| seqO (oOff gt9 0) st10 <| seqO (oLoad1 gt10) st11 <| seqO (oCallF 47 [gt11]) st12 <| seqO (oMv gt12) st8 <| seqO (oExtr gt8 0) st13 <| seqO (oExtr gt8 1) st14 <| seqO (oMv gt13) st3 <| seqO (oMv gt14) st4 <| normD) (seqD (seqD (seqO (oOff gt1 0) st15 <| seqO (oLoad gt15 9) st16 <| seqO (oCallF 48 [gt16]) st17 <| seqO (oNot gt17) st18 <| seqO (oMv gt18) st19 <| seqG gt19 false (oOff gt1 0) st20 <| seqG gt19 false (oOff gt20 1) st21 <| seqG gt19 false (oOff gt21 6) st22 <| seqG gt19 false (oLoad1 gt22) st23 <| seqG gt19 false (oLenL gt23) st24 <| seqG gt19 false (oCmp gt24 (k (nI .i64 0)) igtF strGt) st25 <| seqO (oPick gt19 (k (.bool true)) gt25) st26 <| seqO (oMv gt26) st27 <| seqG gt27 false (oMv gt3) st28 <| seqG gt27 false (oCmp gt28 (k (nI .i64 1)) iltF strLt) st29 <| seqO (oPick gt27 (k (.bool true)) gt29) st30 <| seqO (oMv gt30) st31 <| seqG gt31 false (oMv gt3) st32 <| seqG gt31 false (oCmp gt32 (k (nI .i64 3)) igtF strGt) st33 <| seqO (oPick gt31 (k (.bool true)) gt33) st34 <| seqO (oMv gt34) st35 <| seqG gt35 false (oOff gt1 9) st36 <| seqG gt35 false (oLoad1 gt36) st37 <| seqG gt35 false (oCmp gt37 (k (nI .i64 0)) iltF strLt) st38 <| seqO (oPick gt35 (k (.bool true)) gt38) st39 <| seqO (oMv gt39) st40 <| seqG gt40 false (oOff gt1 9) st41 <| seqG gt40 false (oLoad1 gt41) st42 <| seqG gt40 false (oCmp gt42 (k (nI .i64 16777216)) igtF strGt) st43 <| seqO (oPick gt40 (k (.bool true)) gt43) st44 <| seqO (oMv gt44) st45 <| seqG gt45 false (oOff gt1 9) st46 <| seqG gt45 false (oLoad1 gt46) st47 <| seqG gt45 false (oCmp gt47 (k (nI .i64 0)) igtF strGt) st48 <| seqG gt45 false (oMv gt48) st49 <| seqG gt49 true (oOff gt1 0) st50 <| seqG gt49 true (oOff gt50 1) st51 <| seqG gt49 true (oOff gt51 0) st52 <| seqG gt49 true (oLoad1 gt52) st53 <| seqG gt49 true (oEq gt53 (k (nI .i64 2)) eqI true) st54 <| seqG gt45 false (oPick gt49 gt54 (k (.bool false))) st55 <| seqO (oPick gt45 (k (.bool true)) gt55) st56 <| normD) (condD gt56 (seqD (seqO (oMv (k (.bool false))) st2 <| normD) retD) normD)) (seqD (seqO (oMv (k (nI .i64 0))) st5 <| normD) (seqD (seqD (seqO (oOff gt1 11) st57 <| seqO (oLoad1 gt57) st58 <| seqO (oLenL gt58) st59 <| seqO (oMv (k (nI .i64 0))) st60 <| normD) (blockD 0 (loopD c26_l0))) (seqD (seqO (oMv gt5) st83 <| seqO (oOff gt1 9) st84 <| seqO (oLoad1 gt84) st85 <| seqO (oEq gt83 gt85 eqI false) st86 <| seqO (oMv gt86) st2 <| normD) retD))))))⟩
def c25 : CF := ⟨[(gt3, none)], (seqD (seqO (oMv (k (.bool false))) st3 <| normD) (seqD (seqO (oMv gt0) st5 <| seqO (oLoad1 gt1) st6 <| seqO (oCmp gt5 gt6 igtF strGt) st7 <| seqO (oMv gt7) st8 <| seqG gt8 true (oMv gt0) st9 <| seqG gt8 true (oCmp gt9 (k (nI .i64 1099511627776)) ileF strLe) st10 <| seqO (oPick gt8 gt10 (k (.bool false))) st11 <| seqO (oMv gt11) st4 <| normD) (seqD (seqO (oMv gt0) st12 <| seqO (oStore gt1 gt12 1) d0 <| normD) (seqD (seqO (oMv gt4) st13 <| seqO (oMv gt13) st3 <| normD) retD))))⟩
def c11_r0 : D := drawnD [⟨oLoad gt6 12, none, [(st6, gt6)], st18, .read, 0, 0⟩, ⟨oCallF 26 [gt18], none, [(st18, gt18)], st19, .eff, 1, 1⟩, ⟨oNot gt19, none, [(st19, gt19)], st20, .free, 2, 3⟩, ⟨oMv gt20, none, [(st20, gt20)], st21, .free, 3, 7⟩, ⟨oMv gt5, (some (gt21, false)), [(st5, gt5)], st22, .free, 4, 15⟩, ⟨oCmp gt22 (k (nI .i64 0)) igtF strGt, (some (gt21, false)), [(st22, gt22)], st23, .free, 5, 31⟩, ⟨oMv gt23, (some (gt21, false)), [(st23, gt23)], st24, .free, 6, 63⟩, ⟨oOff gt1 0, (some (gt24, true)), [(st1, gt1)], st25, .free, 7, 127⟩, ⟨oLoad1 gt25, (some (gt24, true)), [(st25, gt25)], st26, .read, 8, 255⟩, ⟨oMv gt5, (some (gt24, true)), [(st5, gt5)], st27, .free, 9, 127⟩, ⟨oSub gt27 (k (nI .i64 1)), (some (gt24, true)), [(st27, gt27)], st28, .free, 10, 639⟩, ⟨oIdxS gt26 gt28 12, (some (gt24, true)), [(st26, gt26), (st28, gt28)], st29, .free, 11, 2047⟩, ⟨oOff gt29 0, (some (gt24, true)), [(st29, gt29)], st30, .free, 12, 4095⟩, ⟨oOff gt30 0, (some (gt24, true)), [(st30, gt30)], st31, .free, 13, 8191⟩, ⟨oLoad1 gt31, (some (gt24, true)), [(st31, gt31)], st32, .read, 14, 16383⟩, ⟨oOff gt6 0, (some (gt24, true)), [(st6, gt6)], st33, .free, 15, 127⟩, ⟨oOff gt33 0, (some (gt24, true)), [(st33, gt33)], st34, .free, 16, 32895⟩, ⟨oLoad1 gt34, (some (gt24, true)), [(st34, gt34)], st35, .read, 17, 98431⟩, ⟨oCmp gt32 gt35 igeF strGe, (some (gt24, true)), [(st32, gt32), (st35, gt35)], st36, .free, 18, 262143⟩, ⟨oPick gt24 gt36 (k (.bool false)), (some (gt21, false)), [(st24, gt24), (st36, gt36)], st37, .free, 19, 524287⟩, ⟨oPick gt21 (k (.bool true)) gt37, none, [(st21, gt21), (st37, gt37)], st38, .free, 20, 1048575⟩, ⟨oMv gt38, none, [(st38, gt38)], st39, .free, 21, 2097151⟩, ⟨oMv gt4, (some (gt39, false)), [(st4, gt4)], st40, .free, 22, 4194303⟩, ⟨oOff gt6 10, (some (gt39, false)), [(st6, gt6)], st41, .free, 23, 4194303⟩, ⟨oLoad1 gt41, (some (gt39, false)), [(st41, gt41)], st42, .read, 24, 12582911⟩, ⟨oCall gt40 Tryz.prog [gt42], (some (gt39, false)), [(st40, gt40), (st42, gt42)], st43, .eff, 25, 33554431⟩, ⟨oNot gt43, (some (gt39, false)), [(st43, gt43)], st44, .free, 26, 67108863⟩, ⟨oPick gt39 (k (.bool true)) gt44, none, [(st39, gt39), (st44, gt44)], st45, .free, 27, 134217727⟩]
def c11_l0 : D := (seqD (seqO (oCmp gt49 gt48 iltF strLt) st50 <| normD) (seqD (condD gt50 normD (exitD 2)) (seqD (blockD 3 (seqD (seqO (oIdxS gt47 gt49 35) st51 <| seqO (oLoad gt51 35) st52 <| seqO (oAlloc 45 [(nI .i64 0), (nI .i64 0), (nI .i64 0), (nI .u8 0), (nI .u8 0), (nI .u8 0), (nI .u8 0), (nI .u8 0), (nI .u8 0), (nI .u8 0), (nI .u8 0), (nI .u8 0), (nI .u8 0), (nI .u8 0), (nI .u8 0), (nI .u8 0), (nI .u8 0), (nI .u8 0), (nI .u8 0), (nI .u8 0), (nI .u8 0), (nI .u8 0), (nI .u8 0), (nI .u8 0), (nI .u8 0), (nI .u8 0), (nI .u8 0), (nI .u8 0), (nI .u8 0), (nI .u8 0), (nI .u8 0), (nI .u8 0), (nI .u8 0), (nI .u8 0), (nI .u8 0)]) st8 <| seqO (oStore gt8 gt52 35) d0 <| normD) (seqD (seqO (oMv gt4) st53 <| seqO (oOff gt8 2) st54 <| seqO (oLoad1 gt54) st55 <| seqO (oCall gt53 Tryz.prog [gt55]) st56 <| seqO (oNot gt56) st57 <| normD) (condD gt57 (seqD (seqO (oMv (k (.bool false))) st2 <| normD) retD) normD)))) (seqO (oAddS gt49 (k (nI .i64 1))) st58 <| seqO (oMv gt58) st49 <| normD))))
def c11_l1 : D := (seqD (seqO (oCmp gt13 gt12 iltF strLt) st14 <| normD) (seqD (condD gt14 normD (exitD 0)) (seqD (blockD 1 (seqD (seqO (oMv gt13) st15 <| seqO (oIdxS gt11 gt13 12) st16 <| seqO (oLoad gt16 12) st17 <| seqO (oAlloc 40 [(.str []), (nI .i64 0), (nI .u32 0), (nI .u32 0), (nI .u32 0), (nI .i64 0), .nils, .nils, (.str []), (nI .i64 0), (nI .i64 0), .nils]) st6 <| seqO (oMv gt15) st5 <| seqO (oStore gt6 gt17 12) d0 <| normD) (seqD (seqD c11_r0 (condD gt45 (seqD (seqO (oMv (k (.bool false))) st2 <| normD) retD) normD)) (seqD (seqO (oOff gt6 11) st46 <| seqO (oLoad1 gt46) st47 <| seqO (oLenL gt47) st48 <| seqO (oMv (k (nI .i64 0))) st49 <| normD) (blockD 2 (loopD c11_l0)))))) (seqO (oAddS gt13 (k (nI .i64 1))) st59 <| seqO (oMv gt59) st13 <| normD))))
def c11 : CF := ⟨[(gt2, none)], (seqD (seqO (oBox gt0 49) st1 <| seqO (oMv (k (.bool false))) st2 <| normD) (seqD (seqO (oAlloc 2 [(nI .i64 0)]) st3 <| seqO (oStore gt3 (k (.int .i64 (.negSucc 0))) 1) d0 <| normD) (seqD (seqO (oFunc 25 [] [gt3]) st9 <| seqO (oMv gt9) st4 <| normD) (seqD (seqD (seqO (oOff gt1 0) st10 <| seqO (oLoad1 gt10) st11 <| seqO (oLenL gt11) st12 <| seqO (oMv (k (nI .i64 0))) st13 <| normD) (blockD 0 (loopD c11_l1))) (seqD (seqO (oOff gt1 0) st60 <| seqO (oLoad1 gt60) st61 <| seqO (oLenL gt61) st62 <| seqO (oCmp gt62 (k (nI .i64 4096)) ileF strLe) st63 <| seqO (oMv gt63) st2 <| normD) retD)))))⟩
def c4_r0 : D := drawnD [⟨oIdxA gt5 (k (nI .i64 0)) 2 1, none, [(st5, gt5)], st23, .free, 0, 0⟩, ⟨oLoad1 gt23, none, [(st23, gt23)], st24, .read, 1, 1⟩, ⟨oIdxA gt5 (k (nI .i64 1)) 2 1, none, [(st5, gt5)], st25, .free, 2, 0⟩, ⟨oLoad1 gt25, none, [(st25, gt25)], st26, .read, 3, 4⟩, ⟨oMv gt24, none, [(st24, gt24)], st7, .eff, 4, 3⟩, ⟨oMv gt26, none, [(st26, gt26)], st8, .eff, 5, 31⟩]
def c4_r1 : D := drawnD [⟨oOff gt10 11, none, [(st10, gt10)], st57, .free, 0, 0⟩, ⟨oLoad1 gt57, none, [(st57, gt57)], st58, .read, 1, 1⟩, ⟨oMv gt11, none, [(st11, gt11)], st59, .free, 2, 0⟩, ⟨oMv gt12, none, [(st12, gt12)], st60, .free, 3, 0⟩, ⟨oLenL gt60, none, [(st60, gt60)], st61, .free, 4, 8⟩, ⟨oMv gt11, none, [(st11, gt11)], st62, .free, 5, 0⟩, ⟨oAddS (k (nI .i64 10)) gt62, none, [(st62, gt62)], st63, .free, 6, 32⟩, ⟨oMv gt12, none, [(st12, gt12)], st64, .free, 7, 0⟩, ⟨oCallF 10 [gt64], none, [(st64, gt64)], st65, .eff, 8, 128⟩, ⟨oBuild [(nI .i64 0), (nI .i64 0), (nI .i64 0), (nI .u8 0), (nI .u8 0), (nI .u8 0), (nI .u8 0), (nI .u8 0), (nI .u8 0), (nI .u8 0), (nI .u8 0), (nI .u8 0), (nI .u8 0), (nI .u8 0), (nI .u8 0), (nI .u8 0), (nI .u8 0), (nI .u8 0), (nI .u8 0), (nI .u8 0), (nI .u8 0), (nI .u8 0), (nI .u8 0), (nI .u8 0), (nI .u8 0), (nI .u8 0), (nI .u8 0), (nI .u8 0), (nI .u8 0), (nI .u8 0), (nI .u8 0), (nI .u8 0), (nI .u8 0), (nI .u8 0), (nI .u8 0)] [⟨0, 1, gt59⟩, ⟨1, 1, gt61⟩, ⟨2, 1, gt63⟩, ⟨3, 32, gt65⟩], none, [(st59, gt59), (st61, gt61), (st63, gt63), (st65, gt65)], st66, .free, 9, 508⟩, ⟨oBSlice 45 35 1 [(nI .i64 0), (nI .i64 0), (nI .i64 0), (nI .u8 0), (nI .u8 0), (nI .u8 0), (nI .u8 0), (nI .u8 0), (nI .u8 0), (nI .u8 0), (nI .u8 0), (nI .u8 0), (nI .u8 0), (nI .u8 0), (nI .u8 0), (nI .u8 0), (nI .u8 0), (nI .u8 0), (nI .u8 0), (nI .u8 0), (nI .u8 0), (nI .u8 0), (nI .u8 0), (nI .u8 0), (nI .u8 0), (nI .u8 0), (nI .u8 0), (nI .u8 0), (nI .u8 0), (nI .u8 0), (nI .u8 0), (nI .u8 0), (nI .u8 0), (nI .u8 0), (nI .u8 0)] [⟨0, 35, gt66⟩], none, [(st66, gt66)], st67, .free, 10, 1020⟩, ⟨oAppend gt58 gt67 45 35 56, none, [(st58, gt58), (st67, gt67)], st68, .eff, 11, 2047⟩, ⟨oOff gt10 11, none, [(st10, gt10)], st69, .free, 12, 4095⟩, ⟨oStore gt69 gt68 1, none, [(st69, gt69), (st68, gt68)], d0, .eff, 13, 8191⟩]
def c4_r2 : D := drawnD [⟨oOff gt10 11, none, [(st10, gt10)], st154, .free, 0, 0⟩, ⟨oLoad1 gt154, none, [(st154, gt154)], st155, .read, 1, 1⟩, ⟨oMv gt15, none, [(st15, gt15)], st156, .free, 2, 0⟩, ⟨oIdxS gt155 gt156 35, none, [(st155, gt155), (st156, gt156)], st157, .free, 3, 7⟩, ⟨oLoad gt157 35, none, [(st157, gt157)], st158, .read, 4, 15⟩, ⟨oOff gt10 11, none, [(st10, gt10)], st159, .free, 5, 0⟩, ⟨oLoad1 gt159, none, [(st159, gt159)], st160, .read, 6, 32⟩, ⟨oMv gt16, none, [(st16, gt16)], st161, .free, 7, 0⟩, ⟨oSub gt161 (k (nI .i64 1)), none, [(st161, gt161)], st162, .free, 8, 128⟩, ⟨oIdxS gt160 gt162 35, none, [(st160, gt160), (st162, gt162)], st163, .free, 9, 480⟩, ⟨oLoad gt163 35, none, [(st163, gt163)], st164, .read, 10, 992⟩, ⟨oAlloc 45 [(nI .i64 0), (nI .i64 0), (nI .i64 0), (nI .u8 0), (nI .u8 0), (nI .u8 0), (nI .u8 0), (nI .u8 0), (nI .u8 0), (nI .u8 0), (nI .u8 0), (nI .u8 0), (nI .u8 0), (nI .u8 0), (nI .u8 0), (nI .u8 0), (nI .u8 0), (nI .u8 0), (nI .u8 0), (nI .u8 0), (nI .u8 0), (nI .u8 0), (nI .u8 0), (nI .u8 0), (nI .u8 0), (nI .u8 0), (nI .u8 0), (nI .u8 0), (nI .u8 0), (nI .u8 0), (nI .u8 0), (nI .u8 0), (nI .u8 0), (nI .u8 0), (nI .u8 0)], none, [], st20, .free, 11, 0⟩, ⟨oAlloc 45 [(nI .i64 0), (nI .i64 0), (nI .i64 0), (nI .u8 0), (nI .u8 0), (nI .u8 0), (nI .u8 0), (nI .u8 0), (nI .u8 0), (nI .u8 0), (nI .u8 0), (nI .u8 0), (nI .u8 0), (nI .u8 0), (nI .u8 0), (nI .u8 0), (nI .u8 0), (nI .u8 0), (nI .u8 0), (nI .u8 0), (nI .u8 0), (nI .u8 0), (nI .u8 0), (nI .u8 0), (nI .u8 0), (nI .u8 0), (nI .u8 0), (nI .u8 0), (nI .u8 0), (nI .u8 0), (nI .u8 0), (nI .u8 0), (nI .u8 0), (nI .u8 0), (nI .u8 0)], none, [], st21, .free, 12, 0⟩, ⟨oStore gt20 gt158 35, none, [(st20, gt20), (st158, gt158)], d0, .eff, 13, 6175⟩, ⟨oStore gt21 gt164 35, none, [(st21, gt21), (st164, gt164)], d0, .eff, 14, 16383⟩]
def c4_l0 : D := (seqD (seqD (seqO (oMv gt11) st41 <| seqO (oMv gt0) st42 <| seqO (oLenL gt42) st43 <| seqO (oCmp gt41 gt43 iltF strLt) st44 <| normD) (condD gt44 normD (exitD 0))) (seqD (blockD 1 (seqD (seqO (oMv gt0) st48 <| seqO (oMv gt11) st49 <| seqO (oMv gt11) st50 <| seqO (oMv gt9) st51 <| seqO (oAddS gt50 gt51) st52 <| seqO (oMv gt0) st53 <| seqO (oLenL gt53) st54 <| seqO (oMinMax false [gt52, gt54]) st55 <| seqO (oSlice 1 gt48 (some gt49) (some gt55) none) st56 <| seqO (oMv gt56) st12 <| normD) c4_r1)) (seqO (oMv gt11) st45 <| seqO (oMv gt9) st46 <| seqO (oAddS gt45 gt46) st47 <| seqO (oMv gt47) st11 <| normD)))
def c4_l1 : D := (seqD (seqO (oCmp gt138 gt137 iltF strLt) st139 <| normD) (seqD (condD gt139 normD (exitD 2)) (seqD (blockD 3 (seqD (seqO (oIdxS gt136 gt138 35) st140 <| seqO (oLoad gt140 35) st141 <| seqO (oAlloc 45 [(nI .i64 0), (nI .i64 0), (nI .i64 0), (nI .u8 0), (nI .u8 0), (nI .u8 0), (nI .u8 0), (nI .u8 0), (nI .u8 0), (nI .u8 0), (nI .u8 0), (nI .u8 0), (nI .u8 0), (nI .u8 0), (nI .u8 0), (nI .u8 0), (nI .u8 0), (nI .u8 0), (nI .u8 0), (nI .u8 0), (nI .u8 0), (nI .u8 0), (nI .u8 0), (nI .u8 0), (nI .u8 0), (nI .u8 0), (nI .u8 0), (nI .u8 0), (nI .u8 0), (nI .u8 0), (nI .u8 0), (nI .u8 0), (nI .u8 0), (nI .u8 0), (nI .u8 0)]) st19 <| seqO (oStore gt19 gt141 35) d0 <| normD) (seqO (oMv gt17) st142 <| seqO (oMv gt0) st143 <| seqO (oOff gt19 0) st144 <| seqO (oLoad1 gt144) st145 <| seqO (oOff gt19 0) st146 <| seqO (oLoad1 gt146) st147 <| seqO (oOff gt19 1) st148 <| seqO (oLoad1 gt148) st149 <| seqO (oAddS gt147 gt149) st150 <| seqO (oSlice 1 gt143 (some gt145) (some gt150) none) st151 <| seqO (oAppend gt142 gt151 5 1 1) st152 <| seqO (oMv gt152) st17 <| normD))) (seqO (oAddS gt138 (k (nI .i64 1))) st153 <| seqO (oMv gt153) st138 <| normD))))
def c4_t1 : D := (seqD (seqD (seqO (oMv gt15) st101 <| seqO (oCmp gt101 (k (nI .i64 0)) iltF strLt) st102 <| seqO (oMv gt102) st103 <| seqG gt103 false (oMv gt15) st104 <| seqG gt103 false (oMv gt16) st105 <| seqG gt103 false (oCmp gt104 gt105 igtF strGt) st106 <| seqO (oPick gt103 (k (.bool true)) gt106) st107 <| seqO (oMv gt107) st108 <| seqG gt108 false (oMv gt16) st109 <| seqG gt108 false (oOff gt10 11) st110 <| seqG gt108 false (oLoad1 gt110) st111 <| seqG gt108 false (oLenL gt111) st112 <| seqG gt108 false (oCmp gt109 gt112 igtF strGt) st113 <| seqO (oPick gt108 (k (.bool true)) gt113) st114 <| seqO (oMv gt114) st115 <| seqG gt115 false (oMv gt16) st116 <| seqG gt115 false (oMv gt15) st117 <| seqG gt115 false (oEq gt116 gt117 eqI false) st118 <| seqG gt115 false (oMv gt14) st119 <| seqG gt115 false (oLenL gt119) st120 <| seqG gt115 false (oEq gt120 (k (nI .i64 0)) eqI false) st121 <| seqG gt115 false (oEq gt118 gt121 eqB true) st122 <| seqO (oPick gt115 (k (.bool true)) gt122) st123 <| normD) (condD gt123 (seqD (seqO (oMv (k (.bool false))) st6 <| normD) retD) normD)) (seqD (seqD (seqO (oMv gt16) st124 <| seqO (oMv gt15) st125 <| seqO (oEq gt124 gt125 eqI false) st126 <| normD) (condD gt126 (seqD (seqO (oMv gt15) st127 <| seqO (oEq gt127 (k (nI .i64 0)) eqI false) st128 <| seqO (oMv gt128) st129 <| seqG gt129 true (oCallF 9 []) st130 <| seqO (oPick gt129 gt130 (k (.bool false))) st131 <| seqO (oMv gt131) st6 <| normD) retD) normD)) (seqD (seqO (oMv (k .nils)) st17 <| normD) (seqD (seqD (seqO (oOff gt10 11) st132 <| seqO (oLoad1 gt132) st133 <| seqO (oMv gt15) st134 <| seqO (oMv gt16) st135 <| seqO (oSlice 35 gt133 (some gt134) (some gt135) none) st136 <| seqO (oLenL gt136) st137 <| seqO (oMv (k (nI .i64 0))) st138 <| normD) (blockD 2 (loopD c4_l1))) (seqD c4_r2 (seqD (seqO (oMv gt13) st165 <| seqO (oMv gt14) st166 <| seqO (oLenL gt166) st167 <| seqO (oAddS gt165 gt167) st168 <| seqO (oMv gt168) st22 <| normD) (seqD (seqO (oMv gt13) st169 <| seqO (oOff gt20 0) st170 <| seqO (oLoad1 gt170) st171 <| seqO (oCmp gt169 gt171 igeF strGe) st172 <| seqO (oMv gt172) st173 <| seqG gt173 true (oMv gt13) st174 <| seqG gt173 true (oOff gt20 0) st175 <| seqG gt173 true (oLoad1 gt175) st176 <| seqG gt173 true (oOff gt20 1) st177 <| seqG gt173 true (oLoad1 gt177) st178 <| seqG gt173 true (oAddS gt176 gt178) st179 <| seqG gt173 true (oCmp gt174 gt179 iltF strLt) st180 <| seqO (oPick gt173 gt180 (k (.bool false))) st181 <| seqO (oMv gt181) st182 <| seqG gt182 true (oMv gt22) st183 <| seqG gt182 true (oOff gt21 0) st184 <| seqG gt182 true (oLoad1 gt184) st185 <| seqG gt182 true (oCmp gt183 gt185 igtF strGt) st186 <| seqO (oPick gt182 gt186 (k (.bool false))) st187 <| seqO (oMv gt187) st188 <| seqG gt188 true (oMv gt22) st189 <| seqG gt188 true (oOff gt21 0) st190 <| seqG gt188 true (oLoad1 gt190) st191 <| seqG gt188 true (oOff gt21 1) st192 <| seqG gt188 true (oLoad1 gt192) st193 <| seqG gt188 true (oAddS gt191 gt193) st194 <| seqG gt188 true (oCmp gt189 gt194 ileF strLe) st195 <| seqO (oPick gt188 gt195 (k (.bool false))) st196 <| seqO (oMv gt196) st197 <| seqG gt197 true (oMv gt17) st198 <| seqG gt197 true (oMv gt13) st199 <| seqG gt197 true (oOff gt20 0) st200 <| seqG gt197 true (oLoad1 gt200) st201 <| seqG gt197 true (oSub gt199 gt201) st202 <| seqG gt197 true (oMv gt13) st203 <| seqG gt197 true (oOff gt20 0) st204 <| seqG gt197 true (oLoad1 gt204) st205 <| seqG gt197 true (oSub gt203 gt205) st206 <| seqG gt197 true (oMv gt14) st207 <| seqG gt197 true (oLenL gt207) st208 <| seqG gt197 true (oAddS gt206 gt208) st209 <| seqG gt197 true (oSlice 1 gt198 (some gt202) (some gt209) none) st210 <| seqG gt197 true (oMv gt14) st211 <| seqG gt197 true (oCallF 13 [gt210, gt211]) st212 <| seqO (oPick gt197 gt212 (k (.bool false))) st213 <| seqO (oMv gt213) st214 <| seqG gt214 true (oCallF 9 []) st215 <| seqO (oPick gt214 gt215 (k (.bool false))) st216 <| seqO (oMv gt216) st6 <| normD) retD)))))))
def c4_t0 : D := (seqD (seqD (seqO (oLoad gt10 12) st70 <| seqO (oBSlice 40 12 1 [(.str []), (nI .i64 0), (nI .u32 0), (nI .u32 0), (nI .u32 0), (nI .i64 0), .nils, .nils, (.str []), (nI .i64 0), (nI .i64 0), .nils] [⟨0, 12, gt70⟩]) st71 <| seqO (oBuild [.nils] [⟨0, 1, gt71⟩]) st72 <| seqO (oCallF 11 [gt72]) st73 <| seqO (oNot gt73) st74 <| normD) (condD gt74 (seqD (seqO (oMv (k (.bool false))) st6 <| normD) retD) normD)) (seqD (seqO (oMv gt7) st75 <| seqO (oInt gt75 .i64) st76 <| seqO (oMinMax true [gt76, (k (nI .i64 0))]) st77 <| seqO (oMv gt0) st78 <| seqO (oLenL gt78) st79 <| seqO (oMinMax false [gt77, gt79]) st80 <| seqO (oMv gt80) st13 <| normD) (seqD (seqO (oMv gt0) st81 <| seqO (oMv gt13) st82 <| seqO (oMv gt13) st83 <| seqO (oMv gt8) st84 <| seqO (oInt gt84 .i64) st85 <| seqO (oMinMax true [gt85, (k (nI .i64 0))]) st86 <| seqO (oAddS gt83 gt86) st87 <| seqO (oMv gt0) st88 <| seqO (oLenL gt88) st89 <| seqO (oMinMax false [gt87, gt89]) st90 <| seqO (oSlice 1 gt81 (some gt82) (some gt90) none) st91 <| seqO (oMv gt91) st14 <| normD) (seqD (seqO (oLoad gt10 12) st93 <| seqO (oMv gt7) st94 <| seqO (oInt gt94 .i64) st95 <| seqO (oMv gt8) st96 <| seqO (oInt gt96 .i64) st97 <| seqO (oCallF 12 [gt93, gt95, gt97]) st98 <| seqO (oMv gt98) st92 <| seqO (oExtr gt92 0) st99 <| seqO (oExtr gt92 1) st100 <| seqO (oMv gt99) st15 <| seqO (oMv gt100) st16 <| normD) c4_t1))))
def c4 : CF := ⟨[(gt6, none)], (seqD (seqO (oBox gt2 31) st5 <| seqO (oMv (k (.bool false))) st6 <| normD) (seqD c4_r0 (seqD (seqO (oMv gt0) st27 <| seqO (oMv gt0) st28 <| seqO (oLenL gt28) st29 <| seqO (oMinMax false [gt29, (k (nI .i64 300))]) st30 <| seqO (oSlice 1 gt27 none (some gt30) none) st31 <| seqO (oMv gt31) st0 <| normD) (seqD (seqO (oMv gt1) st32 <| seqO (oRem gt32 (k (nI .u8 40))) st33 <| seqO (oInt gt33 .i64) st34 <| seqO (oAddS (k (nI .i64 1)) gt34) st35 <| seqO (oMv gt35) st9 <| normD) (seqD (seqO (oBuild [(nI .i64 0), (nI .u32 0), (nI .u32 0), (nI .u32 0), (nI .i64 0), .nils, .nils, (.str [])] [⟨0, 1, (k (nI .i64 2))⟩]) st36 <| seqO (oBuild [(.str []), (nI .i64 0), (nI .u32 0), (nI .u32 0), (nI .u32 0), (nI .i64 0), .nils, .nils, (.str [])] [⟨0, 1, (k (.str [102]))⟩, ⟨1, 8, gt36⟩]) st37 <| seqO (oMv gt0) st38 <| seqO (oLenL gt38) st39 <| seqO (oBuild [(.str []), (nI .i64 0), (nI .u32 0), (nI .u32 0), (nI .u32 0), (nI .i64 0), .nils, .nils, (.str []), (nI .i64 0), (nI .i64 0), .nils] [⟨0, 9, gt37⟩, ⟨9, 1, gt39⟩]) st40 <| seqO (oAlloc 40 [(.str []), (nI .i64 0), (nI .u32 0), (nI .u32 0), (nI .u32 0), (nI .i64 0), .nils, .nils, (.str []), (nI .i64 0), (nI .i64 0), .nils]) st10 <| seqO (oStore gt10 gt40 12) d0 <| normD) (seqD (seqD (seqO (oMv (k (nI .i64 0))) st11 <| normD) (blockD 0 (loopD c4_l0))) c4_t0))))))⟩
end
end Go.AI

namespace Go.AI
open Go
noncomputable section
variable {lib : Nat → List AV → Heap → Option CR} {fs : T CF} {fuel : Nat}

abbrev chZ : List AV := [(nI .i64 0), (nI .i64 0), (nI .i64 0), (nI .u8 0), (nI .u8 0), (nI .u8 0), (nI .u8 0), (nI .u8 0), (nI .u8 0), (nI .u8 0), (nI .u8 0), (nI .u8 0), (nI .u8 0), (nI .u8 0), (nI .u8 0), (nI .u8 0), (nI .u8 0), (nI .u8 0), (nI .u8 0), (nI .u8 0), (nI .u8 0), (nI .u8 0), (nI .u8 0), (nI .u8 0), (nI .u8 0), (nI .u8 0), (nI .u8 0), (nI .u8 0), (nI .u8 0), (nI .u8 0), (nI .u8 0), (nI .u8 0), (nI .u8 0), (nI .u8 0), (nI .u8 0)]
abbrev enZ : List AV := [(.str []), (nI .i64 0), (nI .u32 0), (nI .u32 0), (nI .u32 0), (nI .i64 0), .nils, .nils, (.str []), (nI .i64 0), (nI .i64 0), .nils]
/-! the chunks -/
def pEnd (n k i : Nat) : Nat := min (i * k + k) n
def part (b : List UInt8) (k i : Nat) : List UInt8 := (b.drop (i * k)).take (pEnd b.length k i - i * k)
def chL (sh : List UInt8 → List UInt8) (b : List UInt8) (k i : Nat) : List AV := nI .i64 (i * k) :: nI .i64 (pEnd b.length k i - i * k) :: nI .i64 (10 + i * k) :: (sh (part b k i)).map u8V
def chs (sh : List UInt8 → List UInt8) (b : List UInt8) (k m : Nat) : List (List AV) := (List.range m).map (chL sh b k)
def entL (n : Nat) (v : AV) : List AV := [.str [102], nI .i64 2, nI .u32 0, nI .u32 0, nI .u32 0, nI .i64 0, .nils, .nils, .str [], nI .i64 n, nI .i64 0, v]
def memL : List AV := [.str [102], nI .i64 2, nI .u32 0, nI .u32 0, nI .u32 0, nI .i64 0, .nils, .nils, .str []]
variable {sh : List UInt8 → List UInt8} {b : List UInt8}
theorem chL_len (h32 : ∀ l, (sh l).length = 32) (k i : Nat) : (chL sh b k i).length = 35 := by unfold chL; simp [h32]
theorem chs_len (k m : Nat) : (chs sh b k m).length = m := by unfold chs; simp
theorem chs_succ (k m : Nat) : chs sh b k (m + 1) = chs sh b k m ++ [chL sh b k m] := by unfold chs; rw [List.range_succ, List.map_append]; rfl
theorem chs_at {k m i : Nat} (h : i < m) : (chs sh b k m).getD i [] = chL sh b k i := by
  unfold chs
  rw [List.getD_eq_getElem?_getD, List.getElem?_map, List.getElem?_range h]; rfl
theorem part_len {k i : Nat} (h : i * k ≤ b.length) : (part b k i).length = pEnd b.length k i - i * k := by
  unfold part pEnd; rw [List.length_take, List.length_drop]; omega
/-- a record laid anew -/
theorem lay {H : Heap} (hro : H.ro ≤ H.nx) {e n : Nat} {zs vs : List AV} (hn : 1 ≤ n) (hz : zs.length = n) (hv : vs.length = n) : ∃ Hb r, storeV n (.ptr H.nx 0) (.agg vs) (H.newRow e 1 zs true) = .val undefA Hb ∧ Own Hb H.nx e vs r ∧ Keep H Hb [] ∧ Hb.nx = H.nx + 1 ∧ Below H.nx H Hb := by
  generalize ha : H.newRow e 1 zs true = Ha
  have nxa : Ha.nx = H.nx + 1 := by rw [← ha]; rfl
  have ka : Keep H Ha [] := by rw [← ha]; exact Keep.new H _ []
  have ba : Below H.nx H Ha := by rw [← ha]; exact Below.new _ H _
  have ga : Ha.t.get H.nx = some (.row ⟨e, 1, lenL zs, T.ofList zs, .unk, 0, false, true, true⟩) := by rw [← ha, newRow_eq, new_get, if_pos rfl]
  have cz := Cells.new e 1 zs 0 false true true
  have st1 : storeV n (.ptr H.nx 0) (.agg vs) Ha = .val undefA (Ha.put H.nx (.row (Row.setCells ⟨e, 1, lenL zs, T.ofList zs, .unk, 0, false, true, true⟩ (storeN (T.ofList zs) 0 vs)))) :=
    storeV_row (v := .agg vs) ga cz rfl (by rw [ka.ro]; exact hro) rfl hn hv (by omega)
  exact ⟨_, _, st1, ⟨by rw [put_get, if_pos rfl], rfl, rfl, rfl, rfl, rfl, cz.whole (by rw [hv, hz]), by rw [put_ro, ka.ro]; exact hro⟩, ka.then_put fun h => absurd h (Nat.lt_irrefl _), nxa, ba.trans (Below.put (Nat.le_refl _))⟩
/-- texts of bytes -/
noncomputable def strV (a : AV) (H : Heap) : OR := onSlice a (.val (.str []) H) fun b o n _ => cond (Nat.beq n 0) (.val (.str []) H) (onRow H b fun r => onIf (Nat.ble (Nat.add o n) r.size) (toBytes (fun s => .val (.str s) H) (loadN r o n)))
theorem oStr_run (x : EvF) (tm : TM) (H : Heap) : oStr x tm H = strV (x tm) H := rfl
theorem loadN_bytes {r : Row} {l : List UInt8} {o : Nat} (hg : ∀ i, i < l.length → r.get (o + i) = u8V (l.getD i 0)) : loadN r o l.length = l.map u8V := by
  refine List.ext_getElem? fun i => ?_
  by_cases hi : i < l.length
  · rw [loadN_get r l.length o i hi, hg i hi, List.getElem?_map, List.getElem?_eq_getElem hi, List.getD_eq_getElem?_getD, List.getElem?_eq_getElem hi]; rfl
  · rw [List.getElem?_eq_none (by rw [loadN_length]; omega), List.getElem?_eq_none (by rw [List.length_map]; omega)]
theorem strV_bv {H : Heap} {v : AV} {l : List UInt8} (h : BV H v l) : strV v H = .val (.str l) H := by
  rcases h with ⟨rfl, rfl | ⟨b, o, c, rfl⟩⟩ | ⟨hne, b, o, c, r, rfl, hb, hlt⟩
  · rfl
  · rfl
  · have hp : 0 < l.length := List.length_pos_iff.2 hne
    show cond (Nat.beq l.length 0) _ (onRow H b _) = _
    rw [beq_nat, decide_eq_false (by omega)]
    show onRow H b _ = _
    unfold onRow
    rw [hb.at_]
    show onIf (Nat.ble (o + l.length) r.size) (toBytes _ (loadN r o l.length)) = _
    rw [Nat.ble_eq_true_of_le hb.fits, loadN_bytes hb.get, toBytes_u8]; rfl
/-- bytes.Equal -/
theorem equal_run {n : Nat} (hl : ∀ l H, lib 13 l H = none) (hf : fs.get 13 = some c13) {H : Heap} {x y : AV} {l m : List UInt8} (hx : BV H x l) (hy : BV H y m) : callN lib fs fuel (n + 1) 13 [x, y] H = .ret (.bool (decide (l = m))) H := by
  rw [callN_fn (hl _ _) hf]
  have e1 := strV_bv hx
  have e2 := strV_bv hy
  simp only [c13, argsT_2, oStr_run, e1, e2, eqS_eq, BaseG, N8G, HpG, Nat.zero_add, XsG, stepK_freeG, stepK_readG, stepK_effG, Option.map_none, Option.map_some, List.map_cons, List.map_nil, gtr0, gtr1, gtr4, gtr5, gtr6, gtr7, gtr8, gtr9, str4, str5, str6, str7, str8, str9, str0, str1, gtr0, gtr1]
  simp only [outF_ret]
  rfl
end
end Go.AI

namespace Go.AI
open Go
noncomputable section
variable {lib : Nat → List AV → Heap → Option CR} {fs : T CF} {fuel : Nat}

variable {sh : List UInt8 → List UInt8} {b : List UInt8}
def tstep (n k A M i : Nat) (s : Nat × Nat) : Nat × Nat := if 0 < M ∧ i * k < A + M ∧ A < i * k + (pEnd n k i - i * k) then (if s.2 = 0 then i else s.1, i + 1) else s
def tfold (n k A M : Nat) : Nat → Nat × Nat
  | 0 => (0, 0)
  | i + 1 => tstep n k A M i (tfold n k A M i)
theorem tfold_succ (n k A M i : Nat) : tfold n k A M (i + 1) = tstep n k A M i (tfold n k A M i) := rfl
structure TL (v : AV) (n k m A M : Nat) (H0 : Heap) (i : Nat) (tm : TM) (H : Heap) : Prop where
  t1 : gt1 tm = nI .i64 A
  t2 : gt2 tm = nI .i64 M
  t6 : gt6 tm = nI .i64 (tfold n k A M i).1
  t7 : gt7 tm = nI .i64 (tfold n k A M i).2
  t22 : gt22 tm = v
  t23 : gt23 tm = nI .i64 m
  t24 : gt24 tm = nI .i64 i
  keep : Keep H0 H []
theorem tl_step (h32 : ∀ l, (sh l).length = 32) {v : AV} {k m A M lo : Nat} {H0 : Heap} (hro : H0.ro ≤ H0.nx) (hr : RBuf H0 v 45 35 (chs sh b k m) lo) (hb : b.length ≤ 16777216) (hm : ∀ i, i < m → i * k < b.length) (hm2 : m ≤ 16777216) (hA : A < 1000000000) (hM : M < 1000000000) (c : Ctx) (x : X) (i : Nat) (tm : TM) (H : Heap) (hi : i < m) (h : TL v b.length k m A M H0 i tm H) :
    ∃ tm' H', c12_l0 c tm H x = .ok .normal tm' H' x ∧ TL v b.length k m A M H0 (i + 1) tm' H' := by
  have t1 := h.t1; have t2 := h.t2; have t6 := h.t6; have t7 := h.t7; have t22 := h.t22; have t23 := h.t23; have t24 := h.t24
  simp only [gtr1, gtr2, gtr6, gtr7, gtr22, gtr23, gtr24] at t1 t2 t6 t7 t22 t23 t24
  have d1 : decide (i < m) = true := decide_eq_true hi
  have him := hm i hi
  obtain ⟨p, ip, _, ld⟩ := hr.item (i := i) (by rw [chs_len]; exact hi)
  have ld := ld H fun c _ hc => h.keep.get c hc (by simp)
  rw [chs_at hi] at ld
  have al : ∀ tm, oAlloc 45 chZ tm H = .val (.ptr H.nx 0) (H.newRow 45 1 chZ true) := fun tm => oAlloc_run _ _ (by decide) tm H
  have ro1 : H.ro ≤ H.nx := by rw [h.keep.ro]; exact Nat.le_trans hro h.keep.nx
  obtain ⟨Hb, r, st, ow, kb, nxb, _⟩ := lay ro1 (e := 45) (n := 35) (zs := chZ) (vs := chL sh b k i) (by omega) rfl (chL_len h32 k i)
  have cl := chL_len h32 (b := b) k i
  have f0 : load1V (.ptr H.nx 0) Hb = .val (nI .i64 (i * k)) Hb := load1V_row ow.at_ ow.cells (o := 0) (by omega)
  have f1 : load1V (.ptr H.nx 1) Hb = .val (nI .i64 (pEnd b.length k i - i * k)) Hb := load1V_row ow.at_ ow.cells (o := 1) (by omega)
  have hpe : pEnd b.length k i ≤ 16777216 := by unfold pEnd; omega
  have q1 := h.keep.trans' kb
  generalize hs : tfold b.length k A M i = s at t6 t7
  obtain ⟨fr, to⟩ := s
  have hto : to ≤ i := by
    have : ∀ j, (tfold b.length k A M j).2 ≤ j := by
      intro j
      induction j with
      | zero => exact Nat.le_refl 0
      | succ j ih =>
        rw [tfold_succ]; unfold tstep
        split
        · exact Nat.le_refl _
        · omega
    have := this i
    rw [hs] at this; exact this
  have ts : tfold b.length k A M (i + 1) = tstep b.length k A M i (fr, to) := by rw [tfold_succ, hs]
  by_cases c1 : 0 < M
  · have e1 : decide (0 < M) = true := decide_eq_true c1
    by_cases c2 : i * k < A + M
    · have e2 : decide (i * k < A + M) = true := decide_eq_true c2
      by_cases c3 : A < i * k + (pEnd b.length k i - i * k)
      · have e3 : decide (A < i * k + (pEnd b.length k i - i * k)) = true := decide_eq_true c3
        by_cases c4 : to = 0
        · have e4 : decide (to = 0) = true := decide_eq_true c4
          simp (disch := omega) only [c12_l0, t1, t2, t6, t7, t22, t23, t24, cmpV_lt, cmpV_gt, cmpV_le, cmpV_ge, eqV_eq, d1, ip, ld, al, st, f0, f1, addV_i, Nat.zero_add, e1, e2, e3, e4, BaseG, N8G, HpG, Nat.zero_add, XsG, stepK_freeG, stepK_readG, stepK_effG, Option.map_none, Option.map_some, List.map_cons, List.map_nil, gtr0, gtr1, gtr2, gtr3, gtr6, gtr7, gtr8, gtr9, gtr10, gtr11, gtr12, gtr13, gtr14, gtr15, gtr16, gtr17, gtr18, gtr19, gtr20, gtr21, gtr22, gtr23, gtr24, gtr25, gtr26, gtr27, gtr28, gtr29, gtr30, gtr31, gtr32, gtr33, gtr34, gtr35, gtr36, gtr37, gtr38, gtr39, gtr40, gtr41, gtr42, gtr43, gtr44, gtr45, gtr46, gtr47, gtr48, gtr49, gtr50, gtr51, gtr52, gtr53, gtr54, gtr55, str1, str2, str3, str6, str7, str8, str9, str10, str11, str12, str13, str14, str15, str16, str17, str18, str19, str20, str21, str22, str23, str24, str25, str26, str27, str28, str29, str30, str31, str32, str33, str34, str35, str36, str37, str38, str39, str40, str41, str42, str43, str44, str45, str46, str47, str48, str49, str50, str51, str52, str53, str54, str55]
          refine ⟨_, _, rfl, t1, t2, ?_, ?_, t22, t23, rfl, q1⟩
          · rw [ts]; unfold tstep; rw [if_pos ⟨c1, c2, c3⟩, if_pos c4]; rfl
          · rw [ts]; unfold tstep; rw [if_pos ⟨c1, c2, c3⟩]; rfl
        · have e4 : decide (to = 0) = false := decide_eq_false c4
          simp (disch := omega) only [c12_l0, t1, t2, t6, t7, t22, t23, t24, cmpV_lt, cmpV_gt, cmpV_le, cmpV_ge, eqV_eq, d1, ip, ld, al, st, f0, f1, addV_i, Nat.zero_add, e1, e2, e3, e4, BaseG, N8G, HpG, Nat.zero_add, XsG, stepK_freeG, stepK_readG, stepK_effG, Option.map_none, Option.map_some, List.map_cons, List.map_nil, gtr0, gtr1, gtr2, gtr3, gtr6, gtr7, gtr8, gtr9, gtr10, gtr11, gtr12, gtr13, gtr14, gtr15, gtr16, gtr17, gtr18, gtr19, gtr20, gtr21, gtr22, gtr23, gtr24, gtr25, gtr26, gtr27, gtr28, gtr29, gtr30, gtr31, gtr32, gtr33, gtr34, gtr35, gtr36, gtr37, gtr38, gtr39, gtr40, gtr41, gtr42, gtr43, gtr44, gtr45, gtr46, gtr47, gtr48, gtr49, gtr50, gtr51, gtr52, gtr53, gtr54, gtr55, str1, str2, str3, str6, str7, str8, str9, str10, str11, str12, str13, str14, str15, str16, str17, str18, str19, str20, str21, str22, str23, str24, str25, str26, str27, str28, str29, str30, str31, str32, str33, str34, str35, str36, str37, str38, str39, str40, str41, str42, str43, str44, str45, str46, str47, str48, str49, str50, str51, str52, str53, str54, str55]
          refine ⟨_, _, rfl, t1, t2, ?_, ?_, t22, t23, rfl, q1⟩
          · rw [ts]; unfold tstep; rw [if_pos ⟨c1, c2, c3⟩, if_neg c4]; exact t6
          · rw [ts]; unfold tstep; rw [if_pos ⟨c1, c2, c3⟩]; rfl
      · have e3 : decide (A < i * k + (pEnd b.length k i - i * k)) = false := decide_eq_false c3
        simp (disch := omega) only [c12_l0, t1, t2, t6, t7, t22, t23, t24, cmpV_lt, cmpV_gt, cmpV_le, cmpV_ge, eqV_eq, d1, ip, ld, al, st, f0, f1, addV_i, Nat.zero_add, e1, e2, e3, BaseG, N8G, HpG, Nat.zero_add, XsG, stepK_freeG, stepK_readG, stepK_effG, Option.map_none, Option.map_some, List.map_cons, List.map_nil, gtr0, gtr1, gtr2, gtr3, gtr6, gtr7, gtr8, gtr9, gtr10, gtr11, gtr12, gtr13, gtr14, gtr15, gtr16, gtr17, gtr18, gtr19, gtr20, gtr21, gtr22, gtr23, gtr24, gtr25, gtr26, gtr27, gtr28, gtr29, gtr30, gtr31, gtr32, gtr33, gtr34, gtr35, gtr36, gtr37, gtr38, gtr39, gtr40, gtr41, gtr42, gtr43, gtr44, gtr45, gtr46, gtr47, gtr48, gtr49, gtr50, gtr51, gtr52, gtr53, gtr54, gtr55, str1, str2, str3, str6, str7, str8, str9, str10, str11, str12, str13, str14, str15, str16, str17, str18, str19, str20, str21, str22, str23, str24, str25, str26, str27, str28, str29, str30, str31, str32, str33, str34, str35, str36, str37, str38, str39, str40, str41, str42, str43, str44, str45, str46, str47, str48, str49, str50, str51, str52, str53, str54, str55]
        refine ⟨_, _, rfl, t1, t2, ?_, ?_, t22, t23, rfl, q1⟩
        · rw [ts]; unfold tstep; rw [if_neg (fun h => c3 h.2.2)]; exact t6
        · rw [ts]; unfold tstep; rw [if_neg (fun h => c3 h.2.2)]; exact t7
    · have e2 : decide (i * k < A + M) = false := decide_eq_false c2
      simp (disch := omega) only [c12_l0, t1, t2, t6, t7, t22, t23, t24, cmpV_lt, cmpV_gt, cmpV_le, cmpV_ge, eqV_eq, d1, ip, ld, al, st, f0, f1, addV_i, Nat.zero_add, e1, e2, BaseG, N8G, HpG, Nat.zero_add, XsG, stepK_freeG, stepK_readG, stepK_effG, Option.map_none, Option.map_some, List.map_cons, List.map_nil, gtr0, gtr1, gtr2, gtr3, gtr6, gtr7, gtr8, gtr9, gtr10, gtr11, gtr12, gtr13, gtr14, gtr15, gtr16, gtr17, gtr18, gtr19, gtr20, gtr21, gtr22, gtr23, gtr24, gtr25, gtr26, gtr27, gtr28, gtr29, gtr30, gtr31, gtr32, gtr33, gtr34, gtr35, gtr36, gtr37, gtr38, gtr39, gtr40, gtr41, gtr42, gtr43, gtr44, gtr45, gtr46, gtr47, gtr48, gtr49, gtr50, gtr51, gtr52, gtr53, gtr54, gtr55, str1, str2, str3, str6, str7, str8, str9, str10, str11, str12, str13, str14, str15, str16, str17, str18, str19, str20, str21, str22, str23, str24, str25, str26, str27, str28, str29, str30, str31, str32, str33, str34, str35, str36, str37, str38, str39, str40, str41, str42, str43, str44, str45, str46, str47, str48, str49, str50, str51, str52, str53, str54, str55]
      refine ⟨_, _, rfl, t1, t2, ?_, ?_, t22, t23, rfl, q1⟩
      · rw [ts]; unfold tstep; rw [if_neg (fun h => c2 h.2.1)]; exact t6
      · rw [ts]; unfold tstep; rw [if_neg (fun h => c2 h.2.1)]; exact t7
  · have e1 : decide (0 < M) = false := decide_eq_false c1
    simp (disch := omega) only [c12_l0, t1, t2, t6, t7, t22, t23, t24, cmpV_lt, cmpV_gt, cmpV_le, cmpV_ge, eqV_eq, d1, ip, ld, al, st, f0, f1, addV_i, Nat.zero_add, e1, BaseG, N8G, HpG, Nat.zero_add, XsG, stepK_freeG, stepK_readG, stepK_effG, Option.map_none, Option.map_some, List.map_cons, List.map_nil, gtr0, gtr1, gtr2, gtr3, gtr6, gtr7, gtr8, gtr9, gtr10, gtr11, gtr12, gtr13, gtr14, gtr15, gtr16, gtr17, gtr18, gtr19, gtr20, gtr21, gtr22, gtr23, gtr24, gtr25, gtr26, gtr27, gtr28, gtr29, gtr30, gtr31, gtr32, gtr33, gtr34, gtr35, gtr36, gtr37, gtr38, gtr39, gtr40, gtr41, gtr42, gtr43, gtr44, gtr45, gtr46, gtr47, gtr48, gtr49, gtr50, gtr51, gtr52, gtr53, gtr54, gtr55, str1, str2, str3, str6, str7, str8, str9, str10, str11, str12, str13, str14, str15, str16, str17, str18, str19, str20, str21, str22, str23, str24, str25, str26, str27, str28, str29, str30, str31, str32, str33, str34, str35, str36, str37, str38, str39, str40, str41, str42, str43, str44, str45, str46, str47, str48, str49, str50, str51, str52, str53, str54, str55]
    refine ⟨_, _, rfl, t1, t2, ?_, ?_, t22, t23, rfl, q1⟩
    · rw [ts]; unfold tstep; rw [if_neg (fun h => c1 h.1)]; exact t6
    · rw [ts]; unfold tstep; rw [if_neg (fun h => c1 h.1)]; exact t7
theorem tl_last {v : AV} {n k m A M : Nat} {H0 : Heap} (c : Ctx) (x : X) (tm : TM) (H : Heap) (h : TL v n k m A M H0 m tm H) :
    ∃ tm' H', c12_l0 c tm H x = .ok (.exit 0) tm' H' x ∧ TL v n k m A M H0 m tm' H' := by
  have t1 := h.t1; have t2 := h.t2; have t6 := h.t6; have t7 := h.t7; have t22 := h.t22; have t23 := h.t23; have t24 := h.t24
  simp only [gtr1, gtr2, gtr6, gtr7, gtr22, gtr23, gtr24] at t1 t2 t6 t7 t22 t23 t24
  have d1 : decide (m < m) = false := decide_eq_false (Nat.lt_irrefl _)
  simp (disch := omega) only [c12_l0, t23, t24, cmpV_lt, d1, BaseG, N8G, HpG, Nat.zero_add, XsG, stepK_freeG, stepK_readG, stepK_effG, Option.map_none, Option.map_some, List.map_cons, List.map_nil, gtr0, gtr1, gtr2, gtr3, gtr6, gtr7, gtr8, gtr9, gtr10, gtr11, gtr12, gtr13, gtr14, gtr15, gtr16, gtr17, gtr18, gtr19, gtr20, gtr21, gtr22, gtr23, gtr24, gtr25, gtr26, gtr27, gtr28, gtr29, gtr30, gtr31, gtr32, gtr33, gtr34, gtr35, gtr36, gtr37, gtr38, gtr39, gtr40, gtr41, gtr42, gtr43, gtr44, gtr45, gtr46, gtr47, gtr48, gtr49, gtr50, gtr51, gtr52, gtr53, gtr54, gtr55, str1, str2, str3, str6, str7, str8, str9, str10, str11, str12, str13, str14, str15, str16, str17, str18, str19, str20, str21, str22, str23, str24, str25, str26, str27, str28, str29, str30, str31, str32, str33, str34, str35, str36, str37, str38, str39, str40, str41, str42, str43, str44, str45, str46, str47, str48, str49, str50, str51, str52, str53, str54, str55]
  exact ⟨_, _, rfl, t1, t2, t6, t7, t22, t23, t24, h.keep⟩
/-- which chunks a range touches -/
theorem touched_run {n : Nat} (hl : ∀ l H, lib 12 l H = none) (hf : fs.get 12 = some c12) (h32 : ∀ l, (sh l).length = 32) {v : AV} {k m lo : Nat} {H : Heap} (hro : H.ro ≤ H.nx) (hlo : lo ≤ H.nx) (hr : RBuf H v 45 35 (chs sh b k m) lo) (hb : b.length ≤ 16777216) (hm : ∀ i, i < m → i * k < b.length) (hm2 : m ≤ 16777216) (hF : m < fuel)
    {z1 z2 : Int} (hz1 : z1 < 1000000) (hz2 : z2 < 1000000) :
    ∃ H', callN lib fs fuel (n + 1) 12 [.agg (entL b.length v), .int .i64 z1, .int .i64 z2] H = .ret (.tup [nI .i64 (tfold b.length k z1.toNat (min z2.toNat (b.length - z1.toNat)) m).1, nI .i64 (tfold b.length k z1.toNat (min z2.toNat (b.length - z1.toNat)) m).2]) H' ∧ Keep H H' [] := by
  rw [callN_fn (hl _ _) hf]
  have box : boxV 40 (.agg (entL b.length v)) H = .val (.ptr H.nx 0) (H.newRow 40 1 (entL b.length v) true) := rfl
  generalize ha : H.newRow 40 1 (entL b.length v) true = Ha at box
  have nxa : Ha.nx = H.nx + 1 := by rw [← ha]; rfl
  have ka : Keep H Ha [] := by rw [← ha]; exact Keep.new H _ []
  have ba : Below lo H Ha := by rw [← ha]; exact Below.new lo H _
  have ga : Ha.t.get H.nx = some (.row ⟨40, 1, lenL (entL b.length v), T.ofList (entL b.length v), .unk, 0, false, true, true⟩) := by rw [← ha, newRow_eq, new_get, if_pos rfl]
  have ca := Cells.new 40 1 (entL b.length v) 0 false true true
  have l9 : load1V (.ptr H.nx 9) Ha = .val (nI .i64 b.length) Ha := load1V_row ga ca (o := 9) (by show 9 < 12; omega)
  have l11 : load1V (.ptr H.nx 11) Ha = .val v Ha := load1V_row ga ca (o := 11) (by show 11 < 12; omega)
  have ra := hr.below (fun c _ h2 => ka.get c h2 (by simp)) ka.ro ka.nx
  have rl := ra.len
  rw [chs_len] at rl
  have hA : z1.toNat < 1000000000 := by omega
  have hM : z2.toNat < 1000000000 := by omega
  have s1 : ∀ H, subV (nI .i64 b.length) (nI .i64 z1.toNat) H = .val (.int .i64 ((b.length : Int) - z1.toNat)) H := fun H => subV_int (by omega) (by omega) H
  have s2 : ((b.length : Int) - z1.toNat).toNat = b.length - z1.toNat := by omega
  simp only [c12, argsT_3, box, loopD_run, minV_nat, l9, l11, s1, s2, minV_two, rl, BaseG, N8G, HpG, Nat.zero_add, XsG, stepK_freeG, stepK_readG, stepK_effG, Option.map_none, Option.map_some, List.map_cons, List.map_nil, gtr0, gtr1, gtr2, gtr3, gtr6, gtr7, gtr10, gtr11, gtr12, gtr13, gtr14, gtr15, gtr16, gtr17, gtr18, gtr19, gtr20, gtr21, gtr22, gtr54, gtr55, str1, str2, str3, str6, str7, str10, str11, str12, str13, str14, str15, str16, str17, str18, str19, str20, str21, str22, str23, str24, str54, str55, str0, str1, str2, gtr0, gtr1, gtr2]
  generalize hL : loopN (c12_l0 _) fuel _ _ _ = L
  generalize hM2 : min z2.toNat (b.length - z1.toNat) = M at hL
  obtain ⟨tm1, H1, rfl, z⟩ := after_loop (P := fun T => TL v b.length k m z1.toNat M Ha 0 T Ha) (Q := TL v b.length k m z1.toNat M Ha m)
    (fun T hi => loopN_exit (TL v b.length k m z1.toNat M Ha) (TL v b.length k m z1.toNat M Ha m) m (fun i tm H' hi h => tl_step h32 (by rw [ka.ro]; omega) ra hb hm hm2 hA (by omega) _ _ i tm H' hi h) (fun tm H' h => tl_last _ _ tm H' h) m 0 fuel T Ha (Nat.zero_add _) hF hi) hL
    ⟨rfl, rfl, rfl, rfl, rfl, rfl, rfl, Keep.refl _ _⟩
  have z6 := z.t6
  have z7 := z.t7
  simp only [gtr6, gtr7] at z6 z7
  simp only [leaveB_same, thenR_normal, z6, z7, BaseG, N8G, HpG, Nat.zero_add, XsG, stepK_freeG, stepK_readG, stepK_effG, Option.map_none, Option.map_some, List.map_cons, List.map_nil, gtr0, gtr1, gtr2, gtr3, gtr6, gtr7, gtr10, gtr11, gtr12, gtr13, gtr14, gtr15, gtr16, gtr17, gtr18, gtr19, gtr20, gtr21, gtr22, gtr54, gtr55, str1, str2, str3, str6, str7, str10, str11, str12, str13, str14, str15, str16, str17, str18, str19, str20, str21, str22, str23, str24, str54, str55, str0, str1, str2, gtr0, gtr1, gtr2]
  simp only [outF_ret]
  exact ⟨H1, rfl, ka.trans' z.keep⟩
end
end Go.AI

namespace Go.AI
open Go
noncomputable section
variable {lib : Nat → List AV → Heap → Option CR} {fs : T CF} {fuel : Nat}

variable {sh : List UInt8 → List UInt8} {b : List UInt8}
structure SL (v : AV) (n k m eb : Nat) (H0 : Heap) (i : Nat) (tm : TM) (H : Heap) : Prop where
  t1 : gt1 tm = .ptr eb 0
  t5 : gt5 tm = nI .i64 (min (i * k) n)
  t58 : gt58 tm = v
  t59 : gt59 tm = nI .i64 m
  t60 : gt60 tm = nI .i64 i
  keep : Keep H0 H []
theorem sl_step (h32 : ∀ l, (sh l).length = 32) {v : AV} {k m lo eb : Nat} {H0 : Heap} (hro : H0.ro ≤ H0.nx) (hr : RBuf H0 v 45 35 (chs sh b k m) lo) (hb : b.length ≤ 16777216) (hm : ∀ i, i < m → i * k < b.length) (hm2 : m ≤ 16777216) (hk : 1 ≤ k) (hk2 : k ≤ 65536) (c : Ctx) (x : X) (i : Nat) (tm : TM) (H : Heap) (hi : i < m) (h : SL v b.length k m eb H0 i tm H) :
    ∃ tm' H', c26_l0 c tm H x = .ok .normal tm' H' x ∧ SL v b.length k m eb H0 (i + 1) tm' H' := by
  have t1 := h.t1; have t5 := h.t5; have t58 := h.t58; have t59 := h.t59; have t60 := h.t60
  simp only [gtr1, gtr5, gtr58, gtr59, gtr60] at t1 t5 t58 t59 t60
  have d1 : decide (i < m) = true := decide_eq_true hi
  have him := hm i hi
  obtain ⟨p, ip, _, ld⟩ := hr.item (i := i) (by rw [chs_len]; exact hi)
  have ld := ld H fun c _ hc => h.keep.get c hc (by simp)
  rw [chs_at hi] at ld
  have al : ∀ tm, oAlloc 45 chZ tm H = .val (.ptr H.nx 0) (H.newRow 45 1 chZ true) := fun tm => oAlloc_run _ _ (by decide) tm H
  have ro1 : H.ro ≤ H.nx := by rw [h.keep.ro]; exact Nat.le_trans hro h.keep.nx
  obtain ⟨Hb, r, st, ow, kb, nxb, _⟩ := lay ro1 (e := 45) (n := 35) (zs := chZ) (vs := chL sh b k i) (by omega) rfl (chL_len h32 k i)
  have cl := chL_len h32 (b := b) k i
  have f0 : load1V (.ptr H.nx 0) Hb = .val (nI .i64 (i * k)) Hb := load1V_row ow.at_ ow.cells (o := 0) (by omega)
  have f1 : load1V (.ptr H.nx 1) Hb = .val (nI .i64 (pEnd b.length k i - i * k)) Hb := load1V_row ow.at_ ow.cells (o := 1) (by omega)
  have hpe : pEnd b.length k i ≤ 16777216 := by unfold pEnd; omega
  have hp1 : i * k < pEnd b.length k i := by unfold pEnd; omega
  have hp2 : pEnd b.length k i ≤ i * k + k := by unfold pEnd; omega
  have q1 := h.keep.trans' kb
  have mi : min (i * k) b.length = i * k := by omega
  rw [mi] at t5
  have ee : i * k + (pEnd b.length k i - i * k) = min ((i + 1) * k) b.length := by unfold pEnd; rw [Nat.add_mul, Nat.one_mul]; omega
  have e0 : decide (i * k ≠ i * k) = false := decide_eq_false (fun h => h rfl)
  have e1 : decide (pEnd b.length k i - i * k < 1) = false := decide_eq_false (by omega)
  have e2 : decide (65536 < pEnd b.length k i - i * k) = false := decide_eq_false (by omega)
  simp (disch := omega) only [c26_l0, t1, t5, t58, t59, t60, cmpV_lt, cmpV_gt, eqV_ne, d1, ip, ld, al, st, f0, f1, e0, e1, e2, addV_i, Nat.zero_add, BaseG, N8G, HpG, Nat.zero_add, XsG, stepK_freeG, stepK_readG, stepK_effG, Option.map_none, Option.map_some, List.map_cons, List.map_nil, gtr0, gtr1, gtr2, gtr3, gtr5, gtr7, gtr8, gtr9, gtr10, gtr11, gtr12, gtr13, gtr14, gtr15, gtr16, gtr17, gtr18, gtr19, gtr20, gtr21, gtr22, gtr23, gtr24, gtr25, gtr26, gtr27, gtr28, gtr29, gtr30, gtr31, gtr32, gtr33, gtr34, gtr35, gtr36, gtr37, gtr38, gtr39, gtr40, gtr41, gtr42, gtr43, gtr44, gtr45, gtr46, gtr47, gtr48, gtr49, gtr50, gtr51, gtr52, gtr53, gtr54, gtr55, gtr56, gtr57, gtr58, gtr59, gtr60, gtr61, gtr62, gtr63, gtr64, gtr65, gtr66, gtr67, gtr68, gtr69, gtr70, gtr71, gtr72, gtr73, gtr74, gtr75, gtr76, gtr77, gtr78, gtr79, gtr80, gtr81, gtr82, gtr83, gtr84, gtr85, gtr86, str1, str2, str3, str4, str5, str7, str8, str9, str10, str11, str12, str13, str14, str15, str16, str17, str18, str19, str20, str21, str22, str23, str24, str25, str26, str27, str28, str29, str30, str31, str32, str33, str34, str35, str36, str37, str38, str39, str40, str41, str42, str43, str44, str45, str46, str47, str48, str49, str50, str51, str52, str53, str54, str55, str56, str57, str58, str59, str60, str61, str62, str63, str64, str65, str66, str67, str68, str69, str70, str71, str72, str73, str74, str75, str76, str77, str78, str79, str80, str81, str82, str83, str84, str85, str86]
  exact ⟨_, _, rfl, t1, by rw [← ee]; rfl, t58, t59, rfl, q1⟩
theorem sl_last {v : AV} {n k m eb : Nat} {H0 : Heap} (c : Ctx) (x : X) (tm : TM) (H : Heap) (h : SL v n k m eb H0 m tm H) :
    ∃ tm' H', c26_l0 c tm H x = .ok (.exit 0) tm' H' x ∧ SL v n k m eb H0 m tm' H' := by
  have t1 := h.t1; have t5 := h.t5; have t58 := h.t58; have t59 := h.t59; have t60 := h.t60
  simp only [gtr1, gtr5, gtr58, gtr59, gtr60] at t1 t5 t58 t59 t60
  have d1 : decide (m < m) = false := decide_eq_false (Nat.lt_irrefl _)
  simp (disch := omega) only [c26_l0, t59, t60, cmpV_lt, d1, BaseG, N8G, HpG, Nat.zero_add, XsG, stepK_freeG, stepK_readG, stepK_effG, Option.map_none, Option.map_some, List.map_cons, List.map_nil, gtr0, gtr1, gtr2, gtr3, gtr5, gtr7, gtr8, gtr9, gtr10, gtr11, gtr12, gtr13, gtr14, gtr15, gtr16, gtr17, gtr18, gtr19, gtr20, gtr21, gtr22, gtr23, gtr24, gtr25, gtr26, gtr27, gtr28, gtr29, gtr30, gtr31, gtr32, gtr33, gtr34, gtr35, gtr36, gtr37, gtr38, gtr39, gtr40, gtr41, gtr42, gtr43, gtr44, gtr45, gtr46, gtr47, gtr48, gtr49, gtr50, gtr51, gtr52, gtr53, gtr54, gtr55, gtr56, gtr57, gtr58, gtr59, gtr60, gtr61, gtr62, gtr63, gtr64, gtr65, gtr66, gtr67, gtr68, gtr69, gtr70, gtr71, gtr72, gtr73, gtr74, gtr75, gtr76, gtr77, gtr78, gtr79, gtr80, gtr81, gtr82, gtr83, gtr84, gtr85, gtr86, str1, str2, str3, str4, str5, str7, str8, str9, str10, str11, str12, str13, str14, str15, str16, str17, str18, str19, str20, str21, str22, str23, str24, str25, str26, str27, str28, str29, str30, str31, str32, str33, str34, str35, str36, str37, str38, str39, str40, str41, str42, str43, str44, str45, str46, str47, str48, str49, str50, str51, str52, str53, str54, str55, str56, str57, str58, str59, str60, str61, str62, str63, str64, str65, str66, str67, str68, str69, str70, str71, str72, str73, str74, str75, str76, str77, str78, str79, str80, str81, str82, str83, str84, str85, str86]
  exact ⟨_, _, rfl, t1, t5, t58, t59, t60, h.keep⟩
/-- an entry's own fields may be -/
theorem shaped_run {n : Nat} (hl : ∀ l H, lib 26 l H = none) (hf : fs.get 26 = some c26) (h32 : ∀ l, (sh l).length = 32) {v : AV} {k m lo : Nat} {H : Heap} (hro : H.ro ≤ H.nx) (hlo : lo ≤ H.nx) (hr : RBuf H v 45 35 (chs sh b k m) lo) (hb : b.length ≤ 16777216) (hm : ∀ i, i < m → i * k < b.length) (hm2 : m ≤ 16777216) (hm3 : b.length ≤ m * k) (hk : 1 ≤ k) (hk2 : k ≤ 65536) (hF : m < fuel)
    {tg : AV} (hC : ∀ H', Keep H H' [] → lib 47 [.str [102]] H' = some (.ret (.tup [nI .i64 1, tg]) H')) (hT : ∀ H', Keep H H' [] → lib 48 [.agg memL] H' = some (.ret (.bool true) H')) :
    ∃ H', callN lib fs fuel (n + 2) 26 [.agg (entL b.length v)] H = .ret (.bool true) H' ∧ Keep H H' [] := by
  rw [callN_fn (hl _ _) hf]
  have box : boxV 40 (.agg (entL b.length v)) H = .val (.ptr H.nx 0) (H.newRow 40 1 (entL b.length v) true) := rfl
  generalize ha : H.newRow 40 1 (entL b.length v) true = Ha at box
  have nxa : Ha.nx = H.nx + 1 := by rw [← ha]; rfl
  have ka : Keep H Ha [] := by rw [← ha]; exact Keep.new H _ []
  have ga : Ha.t.get H.nx = some (.row ⟨40, 1, lenL (entL b.length v), T.ofList (entL b.length v), .unk, 0, false, true, true⟩) := by rw [← ha, newRow_eq, new_get, if_pos rfl]
  have ca := Cells.new 40 1 (entL b.length v) 0 false true true
  have l0 : load1V (.ptr H.nx 0) Ha = .val (.str [102]) Ha := load1V_row ga ca (o := 0) (by show 0 < 12; omega)
  have l1 : load1V (.ptr H.nx 1) Ha = .val (nI .i64 2) Ha := load1V_row ga ca (o := 1) (by show 1 < 12; omega)
  have l7 : load1V (.ptr H.nx (1 + 6)) Ha = .val .nils Ha := load1V_row ga ca (o := 7) (by show 7 < 12; omega)
  have l9 : load1V (.ptr H.nx 9) Ha = .val (nI .i64 b.length) Ha := load1V_row ga ca (o := 9) (by show 9 < 12; omega)
  have l11 : load1V (.ptr H.nx 11) Ha = .val v Ha := load1V_row ga ca (o := 11) (by show 11 < 12; omega)
  have lm : loadV 9 (.ptr H.nx 0) Ha = .val (.agg memL) Ha := by
    rw [loadV_row ga ca (by show 0 + 9 ≤ 12; omega)]; rfl
  have ra := hr.below (fun c _ h2 => ka.get c h2 (by simp)) ka.ro ka.nx
  have rl := ra.len
  rw [chs_len] at rl
  have ec : callN lib fs fuel (n + 1) 47 [.str [102]] Ha = .ret (.tup [nI .i64 1, tg]) Ha := callN_hit (hC Ha ka)
  have et : callN lib fs fuel (n + 1) 48 [.agg memL] Ha = .ret (.bool true) Ha := callN_hit (hT Ha ka)
  have e1 : decide (0 < 0) = false := rfl
  have e2 : decide (1 < 1) = false := rfl
  have e3 : decide (3 < 1) = false := rfl
  have e4 : decide (b.length < 0) = false := decide_eq_false (by omega)
  have e5 : decide (16777216 < b.length) = false := decide_eq_false (by omega)
  have e7 : decide (2 ≠ 2) = false := rfl
  have mi : min (m * k) b.length = b.length := by omega
  have fin : ∀ T : TM, gt1 T = .ptr H.nx 0 → gt5 T = nI .i64 0 → gt58 T = v → gt59 T = nI .i64 m → gt60 T = nI .i64 0 → SL v b.length k m H.nx Ha 0 T Ha := fun T a1 a2 a3 a4 a5 => ⟨a1, by rw [Nat.zero_mul, Nat.zero_min]; exact a2, a3, a4, a5, Keep.refl _ _⟩
  by_cases hn : 0 < b.length
  · have e6 : decide (0 < b.length) = true := decide_eq_true hn
    simp only [c26, argsT_1, box, loopD_run, l0, l1, l7, l9, l11, lm, ec, et, extrV_0, extrV_1, cond_true, cond_false, lenV_nil, cmpV_lt, cmpV_gt, eqV_ne, e1, e2, e3, e4, e5, e6, e7, rl, BaseG, N8G, HpG, Nat.zero_add, XsG, stepK_freeG, stepK_readG, stepK_effG, Option.map_none, Option.map_some, List.map_cons, List.map_nil, gtr0, gtr1, gtr2, gtr3, gtr5, gtr8, gtr9, gtr10, gtr11, gtr12, gtr13, gtr14, gtr15, gtr16, gtr17, gtr18, gtr19, gtr20, gtr21, gtr22, gtr23, gtr24, gtr25, gtr26, gtr27, gtr28, gtr29, gtr30, gtr31, gtr32, gtr33, gtr34, gtr35, gtr36, gtr37, gtr38, gtr39, gtr40, gtr41, gtr42, gtr43, gtr44, gtr45, gtr46, gtr47, gtr48, gtr49, gtr50, gtr51, gtr52, gtr53, gtr54, gtr55, gtr56, gtr57, gtr58, gtr83, gtr84, gtr85, gtr86, str1, str2, str3, str4, str5, str8, str9, str10, str11, str12, str13, str14, str15, str16, str17, str18, str19, str20, str21, str22, str23, str24, str25, str26, str27, str28, str29, str30, str31, str32, str33, str34, str35, str36, str37, str38, str39, str40, str41, str42, str43, str44, str45, str46, str47, str48, str49, str50, str51, str52, str53, str54, str55, str56, str57, str58, str59, str60, str83, str84, str85, str86, str0, gtr0]
    generalize hL : loopN (c26_l0 _) fuel _ _ _ = L
    obtain ⟨tm1, H1, rfl, z⟩ := after_loop (P := fun T => SL v b.length k m H.nx Ha 0 T Ha) (Q := SL v b.length k m H.nx Ha m)
      (fun T hi => loopN_exit (SL v b.length k m H.nx Ha) (SL v b.length k m H.nx Ha m) m (fun i tm H' hi h => sl_step h32 (by rw [ka.ro]; omega) ra hb hm hm2 hk hk2 _ _ i tm H' hi h) (fun tm H' h => sl_last _ _ tm H' h) m 0 fuel T Ha (Nat.zero_add _) hF hi) hL
      (fin _ rfl rfl rfl rfl rfl)
    have z1 := z.t1
    have z5 := z.t5
    rw [mi] at z5
    simp only [gtr1, gtr5] at z1 z5
    have f9 : load1V (.ptr H.nx 9) H1 = .val (nI .i64 b.length) H1 := load1V_row (by rw [z.keep.get _ (by omega) (by simp)]; exact ga) ca (o := 9) (by show 9 < 12; omega)
    have e8 : decide (b.length = b.length) = true := decide_eq_true rfl
    simp only [leaveB_same, thenR_normal, z1, z5, f9, eqV_eq, e8, BaseG, N8G, HpG, Nat.zero_add, XsG, stepK_freeG, stepK_readG, stepK_effG, Option.map_none, Option.map_some, List.map_cons, List.map_nil, gtr0, gtr1, gtr2, gtr3, gtr5, gtr8, gtr9, gtr10, gtr11, gtr12, gtr13, gtr14, gtr15, gtr16, gtr17, gtr18, gtr19, gtr20, gtr21, gtr22, gtr23, gtr24, gtr25, gtr26, gtr27, gtr28, gtr29, gtr30, gtr31, gtr32, gtr33, gtr34, gtr35, gtr36, gtr37, gtr38, gtr39, gtr40, gtr41, gtr42, gtr43, gtr44, gtr45, gtr46, gtr47, gtr48, gtr49, gtr50, gtr51, gtr52, gtr53, gtr54, gtr55, gtr56, gtr57, gtr58, gtr83, gtr84, gtr85, gtr86, str1, str2, str3, str4, str5, str8, str9, str10, str11, str12, str13, str14, str15, str16, str17, str18, str19, str20, str21, str22, str23, str24, str25, str26, str27, str28, str29, str30, str31, str32, str33, str34, str35, str36, str37, str38, str39, str40, str41, str42, str43, str44, str45, str46, str47, str48, str49, str50, str51, str52, str53, str54, str55, str56, str57, str58, str59, str60, str83, str84, str85, str86, str0, gtr0]
    simp only [outF_ret]
    exact ⟨H1, rfl, ka.trans' z.keep⟩
  · have e6 : decide (0 < b.length) = false := decide_eq_false hn
    simp only [c26, argsT_1, box, loopD_run, l0, l1, l7, l9, l11, lm, ec, et, extrV_0, extrV_1, cond_true, cond_false, lenV_nil, cmpV_lt, cmpV_gt, eqV_ne, e1, e2, e3, e4, e5, e6, e7, rl, BaseG, N8G, HpG, Nat.zero_add, XsG, stepK_freeG, stepK_readG, stepK_effG, Option.map_none, Option.map_some, List.map_cons, List.map_nil, gtr0, gtr1, gtr2, gtr3, gtr5, gtr8, gtr9, gtr10, gtr11, gtr12, gtr13, gtr14, gtr15, gtr16, gtr17, gtr18, gtr19, gtr20, gtr21, gtr22, gtr23, gtr24, gtr25, gtr26, gtr27, gtr28, gtr29, gtr30, gtr31, gtr32, gtr33, gtr34, gtr35, gtr36, gtr37, gtr38, gtr39, gtr40, gtr41, gtr42, gtr43, gtr44, gtr45, gtr46, gtr47, gtr48, gtr49, gtr50, gtr51, gtr52, gtr53, gtr54, gtr55, gtr56, gtr57, gtr58, gtr83, gtr84, gtr85, gtr86, str1, str2, str3, str4, str5, str8, str9, str10, str11, str12, str13, str14, str15, str16, str17, str18, str19, str20, str21, str22, str23, str24, str25, str26, str27, str28, str29, str30, str31, str32, str33, str34, str35, str36, str37, str38, str39, str40, str41, str42, str43, str44, str45, str46, str47, str48, str49, str50, str51, str52, str53, str54, str55, str56, str57, str58, str59, str60, str83, str84, str85, str86, str0, gtr0]
    generalize hL : loopN (c26_l0 _) fuel _ _ _ = L
    obtain ⟨tm1, H1, rfl, z⟩ := after_loop (P := fun T => SL v b.length k m H.nx Ha 0 T Ha) (Q := SL v b.length k m H.nx Ha m)
      (fun T hi => loopN_exit (SL v b.length k m H.nx Ha) (SL v b.length k m H.nx Ha m) m (fun i tm H' hi h => sl_step h32 (by rw [ka.ro]; omega) ra hb hm hm2 hk hk2 _ _ i tm H' hi h) (fun tm H' h => sl_last _ _ tm H' h) m 0 fuel T Ha (Nat.zero_add _) hF hi) hL
      (fin _ rfl rfl rfl rfl rfl)
    have z1 := z.t1
    have z5 := z.t5
    rw [mi] at z5
    simp only [gtr1, gtr5] at z1 z5
    have f9 : load1V (.ptr H.nx 9) H1 = .val (nI .i64 b.length) H1 := load1V_row (by rw [z.keep.get _ (by omega) (by simp)]; exact ga) ca (o := 9) (by show 9 < 12; omega)
    have e8 : decide (b.length = b.length) = true := decide_eq_true rfl
    simp only [leaveB_same, thenR_normal, z1, z5, f9, eqV_eq, e8, BaseG, N8G, HpG, Nat.zero_add, XsG, stepK_freeG, stepK_readG, stepK_effG, Option.map_none, Option.map_some, List.map_cons, List.map_nil, gtr0, gtr1, gtr2, gtr3, gtr5, gtr8, gtr9, gtr10, gtr11, gtr12, gtr13, gtr14, gtr15, gtr16, gtr17, gtr18, gtr19, gtr20, gtr21, gtr22, gtr23, gtr24, gtr25, gtr26, gtr27, gtr28, gtr29, gtr30, gtr31, gtr32, gtr33, gtr34, gtr35, gtr36, gtr37, gtr38, gtr39, gtr40, gtr41, gtr42, gtr43, gtr44, gtr45, gtr46, gtr47, gtr48, gtr49, gtr50, gtr51, gtr52, gtr53, gtr54, gtr55, gtr56, gtr57, gtr58, gtr83, gtr84, gtr85, gtr86, str1, str2, str3, str4, str5, str8, str9, str10, str11, str12, str13, str14, str15, str16, str17, str18, str19, str20, str21, str22, str23, str24, str25, str26, str27, str28, str29, str30, str31, str32, str33, str34, str35, str36, str37, str38, str39, str40, str41, str42, str43, str44, str45, str46, str47, str48, str49, str50, str51, str52, str53, str54, str55, str56, str57, str58, str59, str60, str83, str84, str85, str86, str0, gtr0]
    simp only [outF_ret]
    exact ⟨H1, rfl, ka.trans' z.keep⟩
end
end Go.AI

namespace Go.AI
open Go
noncomputable section
variable {lib : Nat → List AV → Heap → Option CR} {fs : T CF} {fuel : Nat}

theorem callFV_f1 (P : Program) (f : Nat) (a y : AV) (H : Heap) : callFV P (.func f [] [y]) [a] H = .oth (.call f [a, y] H) := rfl
theorem lowV_f1 {n b : Nat} (h : b < n) (f o : Nat) : lowV n (.func f [] [.ptr b o]) = true := by
  show cond true (cond (lowV n (.ptr b o)) true false) false = true
  rw [lowV_ptr h]; rfl
theorem guardK_ud (b : Bool) (yes no : Res) : guardK undefA b yes no = no := rfl
/-- a place that rises -/
theorem rises_run {n : Nat} (hl : ∀ l H, lib 25 l H = none) (hf : fs.get 25 = some c25) {H : Heap} {pb y : Nat} {p : AV} {r : Row} (ow : Own H pb 2 [p] r) (hg : ∀ H, cmpV igtF strGt (nI .i64 y) p H = .val (.bool true) H) (hy : y ≤ 1099511627776) :
    ∃ H' r', callN lib fs fuel (n + 1) 25 [nI .i64 y, .ptr pb 0] H = .ret (.bool true) H' ∧ Own H' pb 2 [nI .i64 y] r' ∧ Keep H H' [pb] ∧ H'.nx = H.nx := by
  rw [callN_fn (hl _ _) hf]
  have l0 : load1V (.ptr pb 0) H = .val p H := load1V_row ow.at_ ow.cells (o := 0) (by show 0 < 1; omega)
  have s0 : storeV 1 (.ptr pb 0) (nI .i64 y) H = .val undefA (H.put pb (.row (r.setCells (storeN r.cells 0 [nI .i64 y])))) :=
    storeV_row (v := nI .i64 y) ow.at_ ow.cells ow.own ow.ro ow.fz (by omega) rfl (by show 0 + 1 ≤ 1; omega)
  have e1 : decide (y ≤ 1099511627776) = true := decide_eq_true hy
  simp only [c25, argsT_2, l0, s0, hg, cmpV_le, e1, BaseG, N8G, HpG, Nat.zero_add, XsG, stepK_freeG, stepK_readG, stepK_effG, Option.map_none, Option.map_some, List.map_cons, List.map_nil, gtr0, gtr1, gtr3, gtr4, gtr5, gtr6, gtr7, gtr8, gtr9, gtr10, gtr11, gtr12, gtr13, str3, str4, str5, str6, str7, str8, str9, str10, str11, str12, str13, str0, str1, gtr0, gtr1]
  simp only [outF_ret]
  refine ⟨_, r.setCells (storeN r.cells 0 [nI .i64 y]), rfl, ⟨by rw [put_get, if_pos rfl], ow.elem, ow.sz, ow.own, ow.fz, ow.sm, ?_, ow.ro⟩, Keep.put fun _ => by simp, rfl⟩
  have := ow.cells.store1 (o := 0) (v := nI .i64 y) (by show 0 < 1; omega)
  exact this
variable {sh : List UInt8 → List UInt8} {b : List UInt8}
def place (k : Nat) : Nat → Nat
  | 0 => 0
  | i + 1 => 10 + i * k
structure ML (v : AV) (k m b1 pb sb : Nat) (H0 : Heap) (i : Nat) (tm : TM) (H : Heap) : Prop where
  t1 : gt1 tm = .ptr b1 0
  t4 : gt4 tm = .func 25 [] [.ptr pb 0]
  t11 : gt11 tm = .slice sb 0 1 none
  t12 : gt12 tm = nI .i64 1
  t13 : gt13 tm = nI .i64 0
  t47 : gt47 tm = v
  t48 : gt48 tm = nI .i64 m
  t49 : gt49 tm = nI .i64 i
  keep : Keep H0 H [pb]
  pl : ∃ r, Own H pb 2 [nI .i64 (place k i)] r
theorem ml_step {n : Nat} (hl : ∀ l H, lib 25 l H = none) (hf : fs.get 25 = some c25) (h32 : ∀ l, (sh l).length = 32) {v : AV} {k m lo b1 pb sb : Nat} {H0 : Heap} (hro : H0.ro ≤ H0.nx) (hpb : pb < H0.nx) (hit : ∀ i, i < m → ∃ p, (∀ G, idxSV 35 v (nI .i64 i) G = .val p G) ∧ ∀ G : Heap, Keep H0 G [pb] → loadV 35 p G = .val (.agg (chL sh b k i)) G)
    (hb : b.length ≤ 16777216) (hm : ∀ i, i < m → i * k < b.length) (hm2 : m ≤ 16777216) (hk : 1 ≤ k) {yld : Nat → List AV → Heap → CR} {rng : AV → (List AV → Heap → CR) → TM → Heap → X → Res} (x : X) (i : Nat) (tm : TM) (H : Heap) (hi : i < m) (h : ML v k m b1 pb sb H0 i tm H) :
    ∃ tm' H', c11_l0 ⟨callN lib fs fuel (n + 1), yld, rng, fuel, false⟩ tm H x = .ok .normal tm' H' x ∧ ML v k m b1 pb sb H0 (i + 1) tm' H' := by
  have t1 := h.t1; have t4 := h.t4; have t11 := h.t11; have t12 := h.t12; have t13 := h.t13; have t47 := h.t47; have t48 := h.t48; have t49 := h.t49
  simp only [gtr1, gtr4, gtr11, gtr12, gtr13, gtr47, gtr48, gtr49] at t1 t4 t11 t12 t13 t47 t48 t49
  have d1 : decide (i < m) = true := decide_eq_true hi
  have him := hm i hi
  obtain ⟨p, ip, ld⟩ := hit i hi
  have ld := ld H h.keep
  have al : ∀ tm, oAlloc 45 chZ tm H = .val (.ptr H.nx 0) (H.newRow 45 1 chZ true) := fun tm => oAlloc_run _ _ (by decide) tm H
  have ro1 : H.ro ≤ H.nx := by rw [h.keep.ro]; exact Nat.le_trans hro h.keep.nx
  obtain ⟨Hb, r, st, ow, kb, nxb, _⟩ := lay ro1 (e := 45) (n := 35) (zs := chZ) (vs := chL sh b k i) (by omega) rfl (chL_len h32 k i)
  have cl := chL_len h32 (b := b) k i
  have f2 : load1V (.ptr H.nx 2) Hb = .val (nI .i64 (10 + i * k)) Hb := load1V_row ow.at_ ow.cells (o := 2) (by omega)
  obtain ⟨rp, op⟩ := h.pl
  have op' : Own Hb pb 2 [nI .i64 (place k i)] rp := ⟨by rw [kb.get _ (Nat.lt_of_lt_of_le hpb h.keep.nx) (by simp)]; exact op.at_, op.elem, op.sz, op.own, op.fz, op.sm, op.cells, by rw [kb.ro]; exact op.ro⟩
  have hg : ∀ H, cmpV igtF strGt (nI .i64 (10 + i * k)) (nI .i64 (place k i)) H = .val (.bool true) H := fun H => by
    rw [cmpV_gt, decide_eq_true]
    cases i with
    | zero => show 0 < _; omega
    | succ j => show 10 + j * k < 10 + (j + 1) * k; rw [Nat.add_mul]; omega
  obtain ⟨H1, r1, e1, o1, k1, n1⟩ := rises_run (n := n) (fuel := fuel) hl hf op' hg (by omega)
  simp (disch := omega) only [c11_l0, t4, t47, t48, t49, cmpV_lt, d1, ip, ld, al, st, f2, oCall_run, callFV_f1, e1, cond_true, cond_false, addV_i, Nat.zero_add, BaseG, N8G, HpG, Nat.zero_add, XsG, stepK_freeG, stepK_readG, stepK_effG, Option.map_none, Option.map_some, List.map_cons, List.map_nil, gtr0, gtr1, gtr2, gtr3, gtr4, gtr8, gtr9, gtr10, gtr11, gtr47, gtr48, gtr49, gtr50, gtr51, gtr52, gtr53, gtr54, gtr55, gtr56, gtr57, gtr58, gtr60, gtr61, gtr62, gtr63, str1, str2, str3, str4, str8, str9, str10, str11, str12, str13, str49, str50, str51, str52, str53, str54, str55, str56, str57, str58, str60, str61, str62, str63]
  refine ⟨_, _, rfl, t1, t4, t11, t12, t13, t47, t48, rfl, ?_, r1, o1⟩
  exact (h.keep.trans (S' := []) kb (by simp)).trans k1 (fun c hc _ => hc)
theorem ml_last {v : AV} {k m b1 pb sb : Nat} {H0 : Heap} (c : Ctx) (x : X) (tm : TM) (H : Heap) (h : ML v k m b1 pb sb H0 m tm H) :
    ∃ tm' H', c11_l0 c tm H x = .ok (.exit 2) tm' H' x ∧ ML v k m b1 pb sb H0 m tm' H' := by
  have t1 := h.t1; have t4 := h.t4; have t11 := h.t11; have t12 := h.t12; have t13 := h.t13; have t47 := h.t47; have t48 := h.t48; have t49 := h.t49
  simp only [gtr1, gtr4, gtr11, gtr12, gtr13, gtr47, gtr48, gtr49] at t1 t4 t11 t12 t13 t47 t48 t49
  have d1 : decide (m < m) = false := decide_eq_false (Nat.lt_irrefl _)
  simp (disch := omega) only [c11_l0, t48, t49, cmpV_lt, d1, BaseG, N8G, HpG, Nat.zero_add, XsG, stepK_freeG, stepK_readG, stepK_effG, Option.map_none, Option.map_some, List.map_cons, List.map_nil, gtr0, gtr1, gtr2, gtr3, gtr4, gtr8, gtr9, gtr10, gtr11, gtr47, gtr48, gtr49, gtr50, gtr51, gtr52, gtr53, gtr54, gtr55, gtr56, gtr57, gtr58, gtr60, gtr61, gtr62, gtr63, str1, str2, str3, str4, str8, str9, str10, str11, str12, str13, str49, str50, str51, str52, str53, str54, str55, str56, str57, str58, str60, str61, str62, str63]
  exact ⟨_, _, rfl, t1, t4, t11, t12, t13, t47, t48, t49, h.keep, h.pl⟩
end
end Go.AI

namespace Go.AI
open Go
noncomputable section
variable {lib : Nat → List AV → Heap → Option CR} {fs : T CF} {fuel : Nat}

variable {sh : List UInt8 → List UInt8} {b : List UInt8}
/-- a value laid anew -/
theorem lay1 {H : Heap} (hro : H.ro ≤ H.nx) {e : Nat} {z v : AV} (hv : v.cells = [v]) : ∃ Hb r, storeV 1 (.ptr H.nx 0) v (H.newRow e 1 [z] true) = .val undefA Hb ∧ Own Hb H.nx e [v] r ∧ Keep H Hb [] ∧ Hb.nx = H.nx + 1 := by
  generalize ha : H.newRow e 1 [z] true = Ha
  have nxa : Ha.nx = H.nx + 1 := by rw [← ha]; rfl
  have ka : Keep H Ha [] := by rw [← ha]; exact Keep.new H _ []
  have ga : Ha.t.get H.nx = some (.row ⟨e, 1, lenL [z], T.ofList [z], .unk, 0, false, true, true⟩) := by rw [← ha, newRow_eq, new_get, if_pos rfl]
  have cz := Cells.new e 1 [z] 0 false true true
  have st1 : storeV 1 (.ptr H.nx 0) v Ha = .val undefA (Ha.put H.nx (.row (Row.setCells ⟨e, 1, lenL [z], T.ofList [z], .unk, 0, false, true, true⟩ (storeN (T.ofList [z]) 0 v.cells)))) :=
    storeV_row (v := v) ga cz rfl (by rw [ka.ro]; exact hro) rfl (Nat.le_refl 1) (by rw [hv]; rfl) (by show 0 + 1 ≤ 1; omega)
  rw [hv] at st1
  exact ⟨_, _, st1, ⟨by rw [put_get, if_pos rfl], rfl, rfl, rfl, rfl, rfl, cz.whole rfl, by rw [put_ro, ka.ro]; exact hro⟩, ka.then_put fun h => absurd h (Nat.lt_irrefl _), nxa⟩
theorem rbuf_same {H : Heap} {v : AV} {e sz : Nat} {ls : List (List AV)} {lo : Nat} (h : RBuf H v e sz ls lo) : same v v = true := by
  rcases h with ⟨_, rfl⟩ | ⟨_, b, r, rfl, _⟩
  · unfold same; rfl
  · exact (by unfold same; rw [Nat.beq_refl, Nat.beq_refl, Nat.beq_refl]; rfl)
theorem sameL_ent {v : AV} (hv : same v v = true) (n : Nat) : sameL (entL n v) (entL n v) = true := by
  unfold entL
  simp only [sameL, same_nI, same_str, hv, cond_true]
  unfold same
  rfl
structure OL (b1 pb sb : Nat) (H2 : Heap) (i : Nat) (tm : TM) (H : Heap) : Prop where
  t1 : gt1 tm = .ptr b1 0
  t4 : gt4 tm = .func 25 [] [.ptr pb 0]
  t11 : gt11 tm = .slice sb 0 1 none
  t12 : gt12 tm = nI .i64 1
  t13 : gt13 tm = nI .i64 i
  keep : Keep H2 H [pb]
  first : i = 0 → H = H2
theorem ol_step {n : Nat} (hl : ∀ l H, lib 25 l H = none) (hf : fs.get 25 = some c25) (hl2 : ∀ l H, lib 26 l H = none) (hf2 : fs.get 26 = some c26) (h32 : ∀ l, (sh l).length = 32) {v : AV} {k m lo b1 pb sb : Nat} {H : Heap} (hro : H.ro ≤ H.nx) (hlo : lo ≤ pb) (hr : RBuf H v 45 35 (chs sh b k m) lo)
    (hit : ∀ i, i < m → ∃ p, (∀ G, idxSV 35 v (nI .i64 i) G = .val p G) ∧ ∀ G : Heap, Keep H G [pb] → loadV 35 p G = .val (.agg (chL sh b k i)) G)
    (hb : b.length ≤ 16777216) (hm : ∀ i, i < m → i * k < b.length) (hm2 : m ≤ 16777216) (hm3 : b.length ≤ m * k) (hk : 1 ≤ k) (hk2 : k ≤ 65536) (hF : m < fuel)
    {rs rp : Row} (hs : H.t.get sb = some (.row rs)) (cs : Cells rs (entL b.length v)) (hsb : sb < H.nx) (hpb : pb < H.nx) (op : Own H pb 2 [.int .i64 (.negSucc 0)] rp)
    {tg : AV} (hC : ∀ H', Keep H H' [] → lib 47 [.str [102]] H' = some (.ret (.tup [nI .i64 1, tg]) H')) (hT : ∀ H', Keep H H' [] → lib 48 [.agg memL] H' = some (.ret (.bool true) H'))
    {yld : Nat → List AV → Heap → CR} {rng : AV → (List AV → Heap → CR) → TM → Heap → X → Res} (x : X) (tm : TM) (h : OL b1 pb sb H 0 tm H) :
    ∃ tm' H', c11_l1 ⟨callN lib fs fuel (n + 2), yld, rng, fuel, false⟩ tm H x = .ok .normal tm' H' x ∧ OL b1 pb sb H 1 tm' H' := by
  have t1 := h.t1; have t4 := h.t4; have t11 := h.t11; have t12 := h.t12; have t13 := h.t13
  simp only [gtr1, gtr4, gtr11, gtr12, gtr13] at t1 t4 t11 t12 t13
  have d1 : decide (0 < 1) = true := rfl
  have ix : ∀ G, idxSV 12 (.slice sb 0 1 none) (nI .i64 0) G = .val (.ptr sb 0) G := fun G => idxSV_rec (by omega) ..
  have ls : loadV 12 (.ptr sb 0) H = .val (.agg (entL b.length v)) H := by
    rw [loadV_row hs cs (by show 0 + 12 ≤ 12; omega)]; rfl
  have al : ∀ tm, oAlloc 40 enZ tm H = .val (.ptr H.nx 0) (H.newRow 40 1 enZ true) := fun tm => oAlloc_run _ _ (by decide) tm H
  obtain ⟨H3, r3, st, ow, k3, nx3, _⟩ := lay hro (e := 40) (n := 12) (zs := enZ) (vs := entL b.length v) (by omega) rfl rfl
  have ro3 : H3.ro ≤ H3.nx := by rw [k3.ro]; omega
  have sv := rbuf_same hr
  have r3b := hr.below (fun c _ h2 => k3.get c h2 (by simp)) k3.ro k3.nx
  obtain ⟨H4, e4, k4⟩ := shaped_run (n := n) (fuel := fuel) hl2 hf2 h32 ro3 (by omega) r3b hb hm hm2 hm3 hk hk2 hF (fun H' q => hC H' (k3.trans' q)) (fun H' q => hT H' (k3.trans' q))
  have k34 := k3.trans' k4
  have nx4 := k4.nx
  have l3 : loadV 12 (.ptr H.nx 0) ⟨H3.nx, H3.t, H3.nx⟩ = .val (.agg (entL b.length v)) ⟨H3.nx, H3.t, H3.nx⟩ := by
    rw [loadV_row (H := ⟨H3.nx, H3.t, H3.nx⟩) ow.at_ ow.cells (by show 0 + 12 ≤ 12; omega)]; rfl
  have g4 : H4.t.get H.nx = some (.row r3) := by rw [k4.get _ (by omega) (by simp)]; exact ow.at_
  have l4 : load1V (.ptr H.nx 10) ⟨H4.nx, H4.t, H4.nx⟩ = .val (nI .i64 0) ⟨H4.nx, H4.t, H4.nx⟩ := load1V_row (H := ⟨H4.nx, H4.t, H4.nx⟩) g4 ow.cells (o := 10) (by show 10 < 12; omega)
  have sa := isSame_agg (sameL_ent sv b.length) H3.nx H3.t
  have op4 : Own H4 pb 2 [.int .i64 (.negSucc 0)] rp := ⟨by rw [k34.get _ hpb (by simp)]; exact op.at_, op.elem, op.sz, op.own, op.fz, op.sm, op.cells, by rw [k34.ro]; exact op.ro⟩
  have hg : ∀ H, cmpV igtF strGt (nI .i64 0) (.int .i64 (.negSucc 0)) H = .val (.bool true) H := fun _ => rfl
  obtain ⟨H5, r5, e5, o5, k5, nx5⟩ := rises_run (n := n + 1) (fuel := fuel) hl hf op4 hg (by omega)
  have k15 : Keep H H5 [pb] := k34.trans' k5
  have l5 : load1V (.ptr H.nx 11) H5 = .val v H5 := load1V_row (by rw [k5.get _ (by omega) (by simp; omega)]; exact g4) ow.cells (o := 11) (by show 11 < 12; omega)
  have rl := hr.len
  rw [chs_len] at rl
  have w1 : lowV H4.nx (.func 25 [] [.ptr pb 0]) = true := lowV_f1 (by omega) _ _
  have w2 : lowV H4.nx (.ptr H.nx 0) = true := lowV_ptr (by omega) _
  have w3 : lowV H4.nx (.ptr H.nx 10) = true := lowV_ptr (by omega) _
  have w4 : lowV H4.nx (.ptr b1 0) = lowV H4.nx (.ptr b1 0) := rfl
  have g0 : ∀ H, cmpV igtF strGt (nI .i64 0) (nI .i64 0) H = .val (.bool false) H := fun _ => rfl
  simp (disch := first | omega | rfl) only [c11_l1, c11_r0, t1, t4, t11, t12, t13, cmpV_lt, d1, ix, ls, al, st, l3, l4, sa, e4, e5, g0, w1, w2, w3, guardK_ud, loopD_run, oCall_run, callFV_f1, cond_true, cond_false, l5, rl, Nat.zero_add, BaseG, N8G, HpG, Nat.zero_add, XsG, stepK_freeG, stepK_readG, stepK_effG, Option.map_none, Option.map_some, List.map_cons, List.map_nil, gtr6, gtr11, gtr12, gtr13, gtr14, gtr15, gtr16, gtr17, gtr45, gtr46, gtr47, gtr59, str2, str5, str6, str13, str14, str15, str16, str17, str46, str47, str48, str49, str59, BaseG, N8G, HpG, Nat.zero_add, drawnD_run, planD_nil, planD_cons, normF_run, stepK_free, stepK_read, stepK_eff, freeK_val, readK_val, effK_val, effK_call, retK_ret, keepR_nil, keepR_cons, still_nil, still_cons, rdOk_run, isSame_u32, isSame_u8, isSame_nI, lowOs_nil, lowOs_cons, lowV_nI, lowV_u32, lowV_u8, lowV_bool, rsF_nil, rsF_cons, List.map_cons, List.map_nil, cond_true, cond_false, Nat.testBit_eq_decide_div_mod_eq, Nat.reducePow, Nat.reduceDiv, Nat.reduceMod, decide_true, Nat.reduceEqDiff, decide_false, reduceCtorEq, Nat.zero_ne_one, XsG, stepK_freeG, stepK_readG, stepK_effG, Option.map_none, Option.map_some, List.map_cons, List.map_nil, gtr1, gtr4, gtr5, gtr6, gtr18, gtr19, gtr20, gtr21, gtr22, gtr23, gtr24, gtr25, gtr26, gtr27, gtr28, gtr29, gtr30, gtr31, gtr32, gtr33, gtr34, gtr35, gtr36, gtr37, gtr38, gtr39, gtr40, gtr41, gtr42, gtr43, gtr44, str1, str4, str5, str6, str18, str19, str20, str21, str22, str23, str24, str25, str26, str27, str28, str29, str30, str31, str32, str33, str34, str35, str36, str37, str38, str39, str40, str41, str42, str43, str44, str45]
  generalize hL : loopN (c11_l0 _) fuel _ _ _ = L
  obtain ⟨tm1, H6, rfl, z⟩ := after_loop (P := fun T => ML v k m b1 pb sb H5 0 T H5) (Q := ML v k m b1 pb sb H5 m)
    (fun T hi => loopN_exit (ML v k m b1 pb sb H5) (ML v k m b1 pb sb H5 m) m (fun i tm H' hi h => ml_step (n := n + 1) (lo := lo) hl hf h32 (by rw [k15.ro]; omega) (by omega) (fun i hi => by
      obtain ⟨p, h1, h2⟩ := hit i hi
      exact ⟨p, h1, fun G g => h2 G (k15.trans g (fun c hc _ => hc))⟩) hb hm hm2 hk _ i tm H' hi h) (fun tm H' h => ml_last _ _ tm H' h) m 0 fuel T H5 (Nat.zero_add _) hF hi) hL
    ⟨t1, t4, t11, t12, t13, rfl, rfl, rfl, Keep.refl _ _, r5, o5⟩
  have z1 := z.t1; have z4 := z.t4; have z11 := z.t11; have z12 := z.t12; have z13 := z.t13
  simp only [gtr1, gtr4, gtr11, gtr12, gtr13] at z1 z4 z11 z12 z13
  simp (disch := omega) only [leaveB_same, leaveB_normal, thenR_normal, z1, z4, z11, z12, z13, addV_i, BaseG, N8G, HpG, Nat.zero_add, XsG, stepK_freeG, stepK_readG, stepK_effG, Option.map_none, Option.map_some, List.map_cons, List.map_nil, gtr6, gtr11, gtr12, gtr13, gtr14, gtr15, gtr16, gtr17, gtr45, gtr46, gtr47, gtr59, str2, str5, str6, str13, str14, str15, str16, str17, str46, str47, str48, str49, str59, BaseG, N8G, HpG, Nat.zero_add, drawnD_run, planD_nil, planD_cons, normF_run, stepK_free, stepK_read, stepK_eff, freeK_val, readK_val, effK_val, effK_call, retK_ret, keepR_nil, keepR_cons, still_nil, still_cons, rdOk_run, isSame_u32, isSame_u8, isSame_nI, lowOs_nil, lowOs_cons, lowV_nI, lowV_u32, lowV_u8, lowV_bool, rsF_nil, rsF_cons, List.map_cons, List.map_nil, cond_true, cond_false, Nat.testBit_eq_decide_div_mod_eq, Nat.reducePow, Nat.reduceDiv, Nat.reduceMod, decide_true, Nat.reduceEqDiff, decide_false, reduceCtorEq, Nat.zero_ne_one, XsG, stepK_freeG, stepK_readG, stepK_effG, Option.map_none, Option.map_some, List.map_cons, List.map_nil, gtr1, gtr4, gtr5, gtr6, gtr18, gtr19, gtr20, gtr21, gtr22, gtr23, gtr24, gtr25, gtr26, gtr27, gtr28, gtr29, gtr30, gtr31, gtr32, gtr33, gtr34, gtr35, gtr36, gtr37, gtr38, gtr39, gtr40, gtr41, gtr42, gtr43, gtr44, str1, str4, str5, str6, str18, str19, str20, str21, str22, str23, str24, str25, str26, str27, str28, str29, str30, str31, str32, str33, str34, str35, str36, str37, str38, str39, str40, str41, str42, str43, str44, str45]
  exact ⟨_, _, rfl, z1, z4, z11, z12, rfl, k15.trans z.keep (fun c hc _ => hc), fun h => by omega⟩
theorem ol_last {b1 pb sb : Nat} {H0 : Heap} (c : Ctx) (x : X) (tm : TM) (H : Heap) (h : OL b1 pb sb H0 1 tm H) :
    ∃ tm' H', c11_l1 c tm H x = .ok (.exit 0) tm' H' x ∧ OL b1 pb sb H0 1 tm' H' := by
  have t1 := h.t1; have t4 := h.t4; have t11 := h.t11; have t12 := h.t12; have t13 := h.t13
  simp only [gtr1, gtr4, gtr11, gtr12, gtr13] at t1 t4 t11 t12 t13
  have d1 : decide (1 < 1) = false := rfl
  simp (disch := omega) only [c11_l1, t12, t13, cmpV_lt, d1, BaseG, N8G, HpG, Nat.zero_add, XsG, stepK_freeG, stepK_readG, stepK_effG, Option.map_none, Option.map_some, List.map_cons, List.map_nil, gtr6, gtr11, gtr12, gtr13, gtr14, gtr15, gtr16, gtr17, gtr45, gtr46, gtr47, gtr59, str2, str5, str6, str13, str14, str15, str16, str17, str46, str47, str48, str49, str59, BaseG, N8G, HpG, Nat.zero_add, drawnD_run, planD_nil, planD_cons, normF_run, stepK_free, stepK_read, stepK_eff, freeK_val, readK_val, effK_val, effK_call, retK_ret, keepR_nil, keepR_cons, still_nil, still_cons, rdOk_run, isSame_u32, isSame_u8, isSame_nI, lowOs_nil, lowOs_cons, lowV_nI, lowV_u32, lowV_u8, lowV_bool, rsF_nil, rsF_cons, List.map_cons, List.map_nil, cond_true, cond_false, Nat.testBit_eq_decide_div_mod_eq, Nat.reducePow, Nat.reduceDiv, Nat.reduceMod, decide_true, Nat.reduceEqDiff, decide_false, reduceCtorEq, Nat.zero_ne_one, XsG, stepK_freeG, stepK_readG, stepK_effG, Option.map_none, Option.map_some, List.map_cons, List.map_nil, gtr1, gtr4, gtr5, gtr6, gtr18, gtr19, gtr20, gtr21, gtr22, gtr23, gtr24, gtr25, gtr26, gtr27, gtr28, gtr29, gtr30, gtr31, gtr32, gtr33, gtr34, gtr35, gtr36, gtr37, gtr38, gtr39, gtr40, gtr41, gtr42, gtr43, gtr44, str1, str4, str5, str6, str18, str19, str20, str21, str22, str23, str24, str25, str26, str27, str28, str29, str30, str31, str32, str33, str34, str35, str36, str37, str38, str39, str40, str41, str42, str43, str44, str45]
  exact ⟨_, _, rfl, t1, t4, t11, t12, t13, h.keep, fun h => by omega⟩
/-- a table of one entry may be -/
theorem may_run {n : Nat} (hl : ∀ l H, lib 25 l H = none) (hf : fs.get 25 = some c25) (hl2 : ∀ l H, lib 26 l H = none) (hf2 : fs.get 26 = some c26) (hl3 : ∀ l H, lib 11 l H = none) (hf3 : fs.get 11 = some c11) (h32 : ∀ l, (sh l).length = 32) {v : AV} {k m lo sb : Nat} {H : Heap} (hro : H.ro ≤ H.nx) (hlo : lo ≤ H.nx) (hr : RBuf H v 45 35 (chs sh b k m) lo)
    (hb : b.length ≤ 16777216) (hm : ∀ i, i < m → i * k < b.length) (hm2 : m ≤ 16777216) (hm3 : b.length ≤ m * k) (hk : 1 ≤ k) (hk2 : k ≤ 65536) (hF : m < fuel) (hF2 : 1 < fuel)
    {rs : Row} (hs : H.t.get sb = some (.row rs)) (cs : Cells rs (entL b.length v)) (hsb : sb < H.nx)
    {tg : AV} (hC : ∀ H', Keep H H' [] → lib 47 [.str [102]] H' = some (.ret (.tup [nI .i64 1, tg]) H')) (hT : ∀ H', Keep H H' [] → lib 48 [.agg memL] H' = some (.ret (.bool true) H')) :
    ∃ H', callN lib fs fuel (n + 3) 11 [.agg [.slice sb 0 1 none]] H = .ret (.bool true) H' ∧ Keep H H' [] := by
  rw [callN_fn (hl3 _ _) hf3]
  have box : boxV 49 (.agg [.slice sb 0 1 none]) H = .val (.ptr H.nx 0) (H.newRow 49 1 [.slice sb 0 1 none] true) := rfl
  generalize ha : H.newRow 49 1 [.slice sb 0 1 none] true = Ha at box
  have nxa : Ha.nx = H.nx + 1 := by rw [← ha]; rfl
  have ka : Keep H Ha [] := by rw [← ha]; exact Keep.new H _ []
  have ga : Ha.t.get H.nx = some (.row ⟨49, 1, lenL [AV.slice sb 0 1 none], T.ofList [.slice sb 0 1 none], .unk, 0, false, true, true⟩) := by rw [← ha, newRow_eq, new_get, if_pos rfl]
  have ca := Cells.new 49 1 [AV.slice sb 0 1 none] 0 false true true
  have al : ∀ tm, oAlloc 2 [nI .i64 0] tm Ha = .val (.ptr Ha.nx 0) (Ha.newRow 2 1 [nI .i64 0] true) := fun tm => oAlloc_run _ _ (by decide) tm Ha
  obtain ⟨H2, rp, st, op, k2, nx2⟩ := lay1 (H := Ha) (by rw [ka.ro]; omega) (e := 2) (z := nI .i64 0) (v := .int .i64 (.negSucc 0)) rfl
  have k02 := ka.trans' k2
  have g2 : H2.t.get H.nx = some (.row ⟨49, 1, lenL [AV.slice sb 0 1 none], T.ofList [.slice sb 0 1 none], .unk, 0, false, true, true⟩) := by rw [k2.get _ (by omega) (by simp)]; exact ga
  have l0 : load1V (.ptr H.nx 0) H2 = .val (.slice sb 0 1 none) H2 := load1V_row g2 ca (o := 0) (by show 0 < 1; omega)
  have r2 := hr.below (fun c _ h2 => k02.get c h2 (by simp)) k02.ro k02.nx
  simp only [c11, argsT_1, box, al, st, oFunc_run, loopD_run, l0, lenV_slice, BaseG, N8G, HpG, Nat.zero_add, XsG, stepK_freeG, stepK_readG, stepK_effG, Option.map_none, Option.map_some, List.map_cons, List.map_nil, gtr0, gtr1, gtr2, gtr3, gtr9, gtr10, gtr11, gtr60, gtr61, gtr62, gtr63, str1, str2, str3, str4, str9, str10, str11, str12, str13, str60, str61, str62, str63, str0, gtr0]
  generalize hL : loopN (c11_l1 _) fuel _ _ _ = L
  obtain ⟨tm1, H3, rfl, z⟩ := after_loop (P := fun T => OL H.nx Ha.nx sb H2 0 T H2) (Q := OL H.nx Ha.nx sb H2 1)
    (fun T hi => loopN_exit (OL H.nx Ha.nx sb H2) (OL H.nx Ha.nx sb H2 1) 1 (fun i tm H' hi h => by
      obtain rfl : i = 0 := by omega
      obtain rfl := h.first rfl
      refine ol_step (n := n) hl hf hl2 hf2 h32 (by rw [k02.ro]; omega) (by omega) r2 (fun i hi => ?_) hb hm hm2 hm3 hk hk2 hF (by rw [k02.get _ hsb (by simp)]; exact hs) cs (by omega) (by omega) op (fun H' q => hC H' (k02.trans' q)) (fun H' q => hT H' (k02.trans' q)) _ tm h
      obtain ⟨p, h1, _, h2⟩ := hr.item (i := i) (by rw [chs_len]; exact hi)
      rw [chs_at hi] at h2
      exact ⟨p, h1, fun G g => h2 G fun c _ hc => by rw [g.get c (by omega) (by simp; omega), k02.get c hc (by simp)]⟩) (fun tm H' h => ol_last _ _ tm H' h) 1 0 fuel T H2 rfl hF2 hi) hL
    ⟨rfl, rfl, rfl, rfl, rfl, Keep.refl _ _, fun _ => rfl⟩
  have z1 := z.t1
  simp only [gtr1] at z1
  have l3 : load1V (.ptr H.nx 0) H3 = .val (.slice sb 0 1 none) H3 := load1V_row (by rw [z.keep.get _ (by omega) (by simp; omega)]; exact g2) ca (o := 0) (by show 0 < 1; omega)
  have e1 : decide (1 ≤ 4096) = true := rfl
  simp only [leaveB_same, thenR_normal, z1, l3, lenV_slice, cmpV_le, e1, BaseG, N8G, HpG, Nat.zero_add, XsG, stepK_freeG, stepK_readG, stepK_effG, Option.map_none, Option.map_some, List.map_cons, List.map_nil, gtr0, gtr1, gtr2, gtr3, gtr9, gtr10, gtr11, gtr60, gtr61, gtr62, gtr63, str1, str2, str3, str4, str9, str10, str11, str12, str13, str60, str61, str62, str63, str0, gtr0]
  simp only [outF_ret]
  exact ⟨H3, rfl, k02.trans z.keep (fun c hc hlt => by simp at hc; omega)⟩
end
end Go.AI

namespace Go.AI
open Go
noncomputable section
variable {lib : Nat → List AV → Heap → Option CR} {fs : T CF} {fuel : Nat}

variable {sh : List UInt8 → List UInt8} {b : List UInt8}
theorem buildV_ch {dg : List AV} (hd : dg.length = 32) (x y z : Nat) (H : Heap) : buildV chZ [(0, 1, nI .i64 x), (1, 1, nI .i64 y), (2, 1, nI .i64 z), (3, 32, .agg dg)] H = .val (.agg (nI .i64 x :: nI .i64 y :: nI .i64 z :: dg)) H := by
  have e32 : Nat.beq (lenL dg) 32 = true := by rw [lenL_eq, hd]; rfl
  show onIf (Nat.beq (lenL dg) 32) (onIf true (.val (.agg ([nI .i64 x, nI .i64 y, nI .i64 z] ++ (dg ++ []))) H)) = _
  rw [e32, List.append_nil]; rfl
theorem bsliceV_rec {e sz : Nat} {zs vs : List AV} (hz : zs.length = sz) (hv : vs.length = sz) (h1 : 1 ≤ sz) (H : Heap) : bsliceV e sz 1 zs [(0, sz, .agg vs)] H = .val (.slice H.nx 0 1 none) (H.new (.row ⟨e, sz, lenL vs, T.ofList vs, .unk, 0, false, true, true⟩)) := by
  have e1 : Nat.beq (lenL zs) (Nat.mul 1 sz) = true := by rw [lenL_eq, hz]; show Nat.beq sz (1 * sz) = true; rw [Nat.one_mul, Nat.beq_refl]
  have e2 : Nat.beq (lenL vs) sz = true := by rw [lenL_eq, hv, Nat.beq_refl]
  have e3 : Nat.ble (0 + sz) (lenL zs) = true := Nat.ble_eq_true_of_le (by rw [lenL_eq, hz]; omega)
  have e4 : dropL (0 + sz) zs = [] := by rw [dropL_eq]; exact List.drop_eq_nil_of_le (by omega)
  unfold bsliceV
  rw [Nat.ble_eq_true_of_le h1, e1]
  have t0 : takeL 0 zs = [] := by rw [takeL_eq]; rfl
  have c1 : lenL (AV.agg vs).cells = lenL vs := rfl
  show fillV (fun cs => OR.val (AV.slice H.nx 0 1 none) (H.newRow e sz cs true)) [(0, sz, .agg vs)] zs = _
  show onIf (Nat.ble 1 sz) (onIf (Nat.beq (lenL vs) sz) (onIf (Nat.ble (Nat.add 0 sz) (lenL zs)) (OR.val (.slice H.nx 0 1 none) (H.newRow e sz (takeL 0 zs ++ (vs ++ dropL (Nat.add 0 sz) zs)) true)))) = _
  rw [Nat.ble_eq_true_of_le h1, e2, show Nat.ble (Nat.add 0 sz) (lenL zs) = true from e3, show dropL (Nat.add 0 sz) zs = [] from e4, t0, List.append_nil]
  rfl
theorem lowL_ch (n x y z : Nat) (l : List UInt8) : lowL n (nI .i64 x :: nI .i64 y :: nI .i64 z :: l.map u8V) = true := lowL_u8 n l
theorem rbuf_cells {H : Heap} {v : AV} {e sz : Nat} {ls : List (List AV)} {lo : Nat} (h : RBuf H v e sz ls lo) : v.cells = [v] := by
  rcases h with ⟨_, rfl⟩ | ⟨_, b, r, rfl, _⟩ <;> rfl
structure LB (a : AV) (b : List UInt8) (sh : List UInt8 → List UInt8) (k m eb : Nat) (p0 p1 : AV) (Hb : Heap) (i : Nat) (tm : TM) (H : Heap) : Prop where
  t0 : gt0 tm = a
  t6 : gt6 tm = .bool false
  t7 : gt7 tm = p0
  t8 : gt8 tm = p1
  t9 : gt9 tm = nI .i64 k
  t10 : gt10 tm = .ptr eb 0
  t11 : gt11 tm = nI .i64 (i * k)
  keep : Keep Hb H [eb]
  ent : ∃ r v, Own H eb 40 (entL b.length v) r ∧ RBuf H v 45 35 (chs sh b k i) Hb.nx
theorem lb_step {n : Nat} (h32 : ∀ l, (sh l).length = 32) {a p0 p1 : AV} {k m eb : Nat} {Hb : Heap} (hro : Hb.ro ≤ Hb.nx) (heb : eb < Hb.nx) {Hx : Heap} (hxe : Hx.nx ≤ eb) (kx : Keep Hx Hb []) (ha : ArgS Hx a b) (hS : ∀ w l, ArgS Hx w l → l.length ≤ 300 → ∀ H', Keep Hx H' [] → lib 10 [w] H' = some (.ret (.agg ((sh l).map u8V)) H'))
    (hb : b.length ≤ 300) (hm : ∀ i, i < m → i * k < b.length) (hm2 : m ≤ 300) (hk : 1 ≤ k) (hk2 : k ≤ 40) {yld : Nat → List AV → Heap → CR} {rng : AV → (List AV → Heap → CR) → TM → Heap → X → Res} (x : X) (i : Nat) (tm : TM) (H : Heap) (hi : i < m) (h : LB a b sh k m eb p0 p1 Hb i tm H) :
    ∃ tm' H', c4_l0 ⟨callN lib fs fuel (n + 1), yld, rng, fuel, false⟩ tm H x = .ok .normal tm' H' x ∧ LB a b sh k m eb p0 p1 Hb (i + 1) tm' H' := by
  have t0 := h.t0; have t6 := h.t6; have t7 := h.t7; have t8 := h.t8; have t9 := h.t9; have t10 := h.t10; have t11 := h.t11
  simp only [gtr0, gtr6, gtr7, gtr8, gtr9, gtr10, gtr11] at t0 t6 t7 t8 t9 t10 t11
  have him := hm i hi
  have d1 : decide (i * k < b.length) = true := decide_eq_true him
  obtain ⟨re, v, oe, rv⟩ := h.ent
  have nH := h.keep.nx
  have ro1 : H.ro ≤ H.nx := by rw [h.keep.ro]; exact Nat.le_trans hro nH
  have hp1 : i * k < pEnd b.length k i := by unfold pEnd; omega
  have hp2 : pEnd b.length k i ≤ b.length := by unfold pEnd; omega
  obtain ⟨w, ew, gw⟩ := slice_part ha (p := i * k) (q := pEnd b.length k i) (by omega) hp2
  have kH : Keep Hx H [] := kx.trans h.keep (fun c hc hlt => by simp at hc; omega)
  have gwH := gw.keep kH
  have ew := ew H fun c hc => kH.get c hc (by simp)
  have pe : min (i * k + k) b.length = pEnd b.length k i := rfl
  have pl := part_len (b := b) (k := k) (i := i) (Nat.le_of_lt him)
  have nw : ∀ G, lenV w G = .val (nI .i64 (pEnd b.length k i - i * k)) G := fun G => by rw [lenV_arg gw G, show (List.drop (i * k) b).take (pEnd b.length k i - i * k) = part b k i from rfl, pl]
  have lv : ∀ G : Heap, G.t = H.t → load1V (.ptr eb 11) G = .val v G := fun G e => load1V_row (H := G) (by rw [e]; exact oe.at_) oe.cells (o := 11) (by show 11 < 12; omega)
  have l1 := lv ⟨H.nx, H.t, H.nx⟩ rfl
  have s1 := rv.same H.nx H.t
  have es : callN lib fs fuel (n + 1) 10 [w] H = .ret (.agg ((sh (part b k i)).map u8V)) H := callN_hit (hS w _ gw (by rw [show (List.drop (i * k) b).take (pEnd b.length k i - i * k) = part b k i from rfl, pl]; omega) H kH)
  have d32 : ((sh (part b k i)).map u8V).length = 32 := by rw [List.length_map]; exact h32 _
  have bd := fun H => buildV_ch d32 (i * k) (pEnd b.length k i - i * k) (10 + i * k) H
  have cl := chL_len h32 (b := b) k i
  have fb := bsliceV_rec (e := 45) (sz := 35) (zs := chZ) (vs := chL sh b k i) rfl cl (by omega) ⟨H.nx, .leaf, H.nx⟩
  obtain ⟨v', H1, ea, r1, b1⟩ := rbuf_push rv (bytes := 56) (by omega) (by omega) (by rw [chs_len]; omega) ro1 nH cl
  rw [newRow_eq] at ea
  rw [← chs_succ] at r1
  have hw : wrO (.row ⟨45, 35, lenL (chL sh b k i), T.ofList (chL sh b k i), .unk, 0, false, true, true⟩) = true := rfl
  generalize hHn : H.new (.row ⟨45, 35, lenL (chL sh b k i), T.ofList (chL sh b k i), .unk, 0, false, true, true⟩) = Hn at ea
  have kn : Keep H Hn [] := by rw [← hHn]; exact Keep.new H _ []
  have nxn : Hn.nx = H.nx + 1 := by rw [← hHn]; rfl
  have l2 : load1V (.ptr eb 11) ⟨Hn.nx, Hn.t, Hn.nx⟩ = .val v ⟨Hn.nx, Hn.t, Hn.nx⟩ := load1V_row (H := ⟨Hn.nx, Hn.t, Hn.nx⟩) (by show Hn.t.get eb = _; rw [kn.get eb (by omega) (by simp)]; exact oe.at_) oe.cells (o := 11) (by show 11 < 12; omega)
  have s2 := rv.same Hn.nx Hn.t
  have ne : H1.t.get eb = some (.row re) := by rw [b1.get eb heb (by omega)]; exact oe.at_
  have st : storeV 1 (.ptr eb 11) v' H1 = .val undefA (H1.put eb (.row (re.setCells (storeN re.cells 11 v'.cells)))) :=
    storeV_row (v := v') ne oe.cells oe.own (by rw [b1.ro]; exact oe.ro) oe.fz (by omega) (by rw [rbuf_cells r1]; rfl) (by show 11 + 1 ≤ 12; omega)
  rw [rbuf_cells r1] at st
  have w1 : lowV H.nx (.ptr eb 0) = true := lowV_ptr (by omega) _
  have w2 : lowV Hn.nx (.ptr eb 0) = true := lowV_ptr (by omega) _
  have w3 : lowV H1.nx (.ptr eb 0) = true := lowV_ptr (by have := b1.nx; omega) _
  have w4 : lowV H.nx w = true := gwH.low (Nat.le_refl _)
  have w5 := lowL_ch H.nx (i * k) (pEnd b.length k i - i * k) (10 + i * k) (sh (part b k i))
  have w6 := lowL_u8 H.nx (sh (part b k i))
  unfold chL at fb hw hHn
  simp (disch := first | omega | rfl) only [c4_l0, c4_r1, t0, t9, t10, t11, cmpV_lt, d1, ha.1.len, minV_two, pe, ew, nw, l1, s1, es, bd, fb, freeK_new, hHn, l2, s2, ea, st, w1, w2, w3, w4, w5, w6, addV_i, BaseG, N8G, HpG, Nat.zero_add, XsG, stepK_freeG, stepK_readG, stepK_effG, Option.map_none, Option.map_some, List.map_cons, List.map_nil, gtr0, gtr9, gtr11, gtr41, gtr42, gtr43, gtr44, gtr45, gtr46, gtr47, gtr48, gtr49, gtr50, gtr51, gtr52, gtr53, gtr54, gtr55, gtr56, str11, str12, str41, str42, str43, str44, str45, str46, str47, str48, str49, str50, str51, str52, str53, str54, str55, str56, BaseG, N8G, HpG, Nat.zero_add, drawnD_run, planD_nil, planD_cons, normF_run, stepK_free, stepK_read, stepK_eff, freeK_val, readK_val, effK_val, effK_call, retK_ret, keepR_nil, keepR_cons, still_nil, still_cons, rdOk_run, isSame_u32, isSame_u8, isSame_nI, lowOs_nil, lowOs_cons, lowV_nI, lowV_u32, lowV_u8, lowV_bool, rsF_nil, rsF_cons, List.map_cons, List.map_nil, cond_true, cond_false, Nat.testBit_eq_decide_div_mod_eq, Nat.reducePow, Nat.reduceDiv, Nat.reduceMod, decide_true, Nat.reduceEqDiff, decide_false, reduceCtorEq, Nat.zero_ne_one, XsG, stepK_freeG, stepK_readG, stepK_effG, Option.map_none, Option.map_some, List.map_cons, List.map_nil, gtr10, gtr11, gtr12, gtr57, gtr58, gtr59, gtr60, gtr61, gtr62, gtr63, gtr64, gtr65, gtr66, gtr67, gtr68, gtr69, str10, str11, str12, str57, str58, str59, str60, str61, str62, str63, str64, str65, str66, str67, str68, str69]
  refine ⟨_, _, rfl, t0, t6, t7, t8, t9, t10, ?_, ?_, re.setCells (storeN re.cells 11 [v']), v', ⟨by rw [put_get, if_pos rfl], oe.elem, oe.sz, oe.own, oe.fz, oe.sm, ?_, by rw [put_ro, b1.ro]; exact oe.ro⟩, ?_⟩
  · show nI .i64 (i * k + k) = _
    rw [Nat.add_mul, Nat.one_mul]
  · have q1 : Keep Hb H1 [eb] := ⟨Nat.le_trans nH b1.nx, b1.ro.trans h.keep.ro, fun c hc hn => (b1.get c hc (by omega)).trans (h.keep.get c hc hn)⟩
    exact q1.trans (Keep.put (S := [eb]) fun _ => by simp) (fun c hc _ => hc)
  · have := oe.cells.store1 (o := 11) (v := v') (by show 11 < 12; omega)
    exact this
  · exact r1.below (fun c h1 _ => by rw [put_get, if_neg (by omega)]) rfl (Nat.le_refl _)
end
end Go.AI

namespace Go.AI
open Go
noncomputable section
variable {lib : Nat → List AV → Heap → Option CR} {fs : T CF} {fuel : Nat}

variable {sh : List UInt8 → List UInt8} {b : List UInt8}
theorem lb_last {a p0 p1 : AV} {k m eb : Nat} {Hb Hx : Heap} (hxe : Hx.nx ≤ eb) (kx : Keep Hx Hb []) (ha : ArgS Hx a b) (hm3 : b.length ≤ m * k) (c : Ctx) (x : X) (tm : TM) (H : Heap) (h : LB a b sh k m eb p0 p1 Hb m tm H) :
    ∃ tm' H', c4_l0 c tm H x = .ok (.exit 0) tm' H' x ∧ LB a b sh k m eb p0 p1 Hb m tm' H' := by
  have t0 := h.t0; have t6 := h.t6; have t7 := h.t7; have t8 := h.t8; have t9 := h.t9; have t10 := h.t10; have t11 := h.t11
  simp only [gtr0, gtr6, gtr7, gtr8, gtr9, gtr10, gtr11] at t0 t6 t7 t8 t9 t10 t11
  have d1 : decide (m * k < b.length) = false := decide_eq_false (by omega)
  simp (disch := omega) only [c4_l0, t0, t11, ha.1.len, cmpV_lt, d1, BaseG, N8G, HpG, Nat.zero_add, XsG, stepK_freeG, stepK_readG, stepK_effG, Option.map_none, Option.map_some, List.map_cons, List.map_nil, gtr0, gtr9, gtr11, gtr41, gtr42, gtr43, gtr44, gtr45, gtr46, gtr47, gtr48, gtr49, gtr50, gtr51, gtr52, gtr53, gtr54, gtr55, gtr56, str11, str12, str41, str42, str43, str44, str45, str46, str47, str48, str49, str50, str51, str52, str53, str54, str55, str56, BaseG, N8G, HpG, Nat.zero_add, drawnD_run, planD_nil, planD_cons, normF_run, stepK_free, stepK_read, stepK_eff, freeK_val, readK_val, effK_val, effK_call, retK_ret, keepR_nil, keepR_cons, still_nil, still_cons, rdOk_run, isSame_u32, isSame_u8, isSame_nI, lowOs_nil, lowOs_cons, lowV_nI, lowV_u32, lowV_u8, lowV_bool, rsF_nil, rsF_cons, List.map_cons, List.map_nil, cond_true, cond_false, Nat.testBit_eq_decide_div_mod_eq, Nat.reducePow, Nat.reduceDiv, Nat.reduceMod, decide_true, Nat.reduceEqDiff, decide_false, reduceCtorEq, Nat.zero_ne_one, XsG, stepK_freeG, stepK_readG, stepK_effG, Option.map_none, Option.map_some, List.map_cons, List.map_nil, gtr10, gtr11, gtr12, gtr57, gtr58, gtr59, gtr60, gtr61, gtr62, gtr63, gtr64, gtr65, gtr66, gtr67, gtr68, gtr69, str10, str11, str12, str57, str58, str59, str60, str61, str62, str63, str64, str65, str66, str67, str68, str69]
  exact ⟨_, _, rfl, t0, t6, t7, t8, t9, t10, t11, h.keep, h.ent⟩
/-! bytes gathered -/
theorem buf_app {H : Heap} {v w : AV} {l p : List UInt8} {lo : Nat} (h : Buf H v l lo) (hp : 0 < p.length) (hw : BV H w p) (hl : l.length + p.length ≤ 140737488355328) (hro : H.ro ≤ H.nx) (hlo : lo ≤ H.nx) :
    ∃ v' H', appendV 5 1 1 v w H = .val v' H' ∧ Buf H' v' (l ++ p) lo ∧ Below lo H H' := by
  rw [appendV_src (Nat.le_refl 1) hw.src]
  rcases h with ⟨rfl, rfl⟩ | ⟨hne, b, r, rfl, g, hb⟩
  · have g := grow_new (H := H) (e := 5) (l := p.map u8V) hro
    have e := appX_nil (e := 5) (H := H) (l := p.map u8V) (by rw [List.length_map]; exact hp) (by rw [List.length_map]; simp at hl; omega)
    rw [List.length_map] at e
    rw [List.length_map]
    exact ⟨_, _, e, .inr ⟨by intro h; rw [List.nil_append] at h; rw [h] at hp; exact absurd hp (Nat.lt_irrefl 0), _, _, rfl, g, hlo⟩, Below.new lo H _⟩
  · obtain ⟨H', r', e, g', k', nx'⟩ := appX_grow (m := p.map u8V) g (by rw [List.length_map]; exact hp) (by rw [List.length_map, List.length_map]; exact hl)
    rw [List.length_map, List.length_map] at e
    rw [List.length_map]
    exact ⟨_, H', e, .inr ⟨by simp [hne], H.nx, r', by rw [List.length_append], by rw [List.map_append]; exact g', hlo⟩, ⟨by omega, k'.ro, fun c h1 h2 => k'.get c h2 (by simp; omega)⟩⟩
theorem buf_cut {H : Heap} {v : AV} {l : List UInt8} {lo : Nat} (h : Buf H v l lo) {p q : Nat} (hpq : p < q) (hq : q ≤ l.length) : ∃ v', sliceV 1 v (some (nI .i64 p)) (some (nI .i64 q)) H = .val v' H ∧ BV H v' ((l.drop p).take (q - p)) := by
  rcases h with ⟨rfl, rfl⟩ | ⟨hne, b, r, rfl, g, hb⟩
  · simp at hq; omega
  · have hsz : r.size = l.length := by rw [g.cells.size, List.length_map]
    have hkl : ((l.drop p).take (q - p)).length = q - p := by rw [List.length_take, List.length_drop]; omega
    refine ⟨.slice b (0 + p) (q - p) none, sliceV_is g.at_ g.sz hpq (by omega) (fun c e => by cases e) .i64 .i64, .inr ⟨by intro e; rw [e] at hkl; simp at hkl; omega, b, 0 + p, none, r, by rw [hkl], ⟨g.at_, g.sz, by rw [hkl]; omega, fun i hi => ?_, fun c e => by cases e⟩, g.low⟩⟩
    rw [hkl] at hi
    rw [g.cells.get _ (by rw [List.length_map]; omega), getD_dt hi hq, Nat.zero_add, List.getD_eq_getElem?_getD, List.getElem?_map, List.getD_eq_getElem?_getD, List.getElem?_eq_getElem (show p + i < l.length by omega)]; rfl
theorem dt_app {l : List UInt8} {p q r : Nat} (h1 : p ≤ q) (h2 : q ≤ r) : (l.drop p).take (q - p) ++ (l.drop q).take (r - q) = (l.drop p).take (r - p) := by
  have e : r - p = (q - p) + (r - q) := by omega
  rw [e, List.take_add, List.drop_drop, show p + (q - p) = q by omega]
def got (b : List UInt8) (k fr j : Nat) : List UInt8 := (b.drop (fr * k)).take (min ((fr + j) * k) b.length - fr * k)
structure LC (a : AV) (b : List UInt8) (k fr to eb : Nat) (cut w : AV) (lw : Nat) (Hc : Heap) (j : Nat) (tm : TM) (H : Heap) : Prop where
  t0 : gt0 tm = a
  t6 : gt6 tm = .bool false
  t10 : gt10 tm = .ptr eb 0
  t13 : gt13 tm = nI .i64 lw
  t14 : gt14 tm = w
  t15 : gt15 tm = nI .i64 fr
  t16 : gt16 tm = nI .i64 to
  t136 : gt136 tm = cut
  t137 : gt137 tm = nI .i64 (to - fr)
  t138 : gt138 tm = nI .i64 j
  keep : Keep Hc H []
  all : ∃ v, gt17 tm = v ∧ Buf H v (got b k fr j) Hc.nx
theorem lc_step (h32 : ∀ l, (sh l).length = 32) {a w cut : AV} {k m fr to eb lw : Nat} {Hc Hx : Heap} (hro : Hc.ro ≤ Hc.nx) (kx : Keep Hx Hc []) (ha : ArgS Hx a b) (hb : b.length ≤ 300) (hm : ∀ i, i < m → i * k < b.length) (hm2 : m ≤ 300) (hto : to ≤ m) (hk : 1 ≤ k)
    (hit : ∀ j, j < to - fr → ∃ y, (∀ G, idxSV 35 cut (nI .i64 j) G = .val y G) ∧ ∀ G : Heap, Keep Hc G [] → loadV 35 y G = .val (.agg (chL sh b k (fr + j))) G) (c : Ctx) (x : X) (j : Nat) (tm : TM) (H : Heap) (hj : j < to - fr) (h : LC a b k fr to eb cut w lw Hc j tm H) :
    ∃ tm' H', c4_l1 c tm H x = .ok .normal tm' H' x ∧ LC a b k fr to eb cut w lw Hc (j + 1) tm' H' := by
  have t0 := h.t0; have t6 := h.t6; have t10 := h.t10; have t13 := h.t13; have t14 := h.t14; have t15 := h.t15; have t16 := h.t16; have t136 := h.t136; have t137 := h.t137; have t138 := h.t138
  obtain ⟨v, t17, bv⟩ := h.all
  simp only [gtr0, gtr6, gtr10, gtr13, gtr14, gtr15, gtr16, gtr17, gtr136, gtr137, gtr138] at t0 t6 t10 t13 t14 t15 t16 t17 t136 t137 t138
  have d1 : decide (j < to - fr) = true := decide_eq_true hj
  obtain ⟨y, iy, ly⟩ := hit j hj
  have ly := ly H h.keep
  generalize hi : fr + j = i at ly
  have him := hm i (by omega)
  have ro1 : H.ro ≤ H.nx := by rw [h.keep.ro]; exact Nat.le_trans hro h.keep.nx
  have al : ∀ tm, oAlloc 45 chZ tm H = .val (.ptr H.nx 0) (H.newRow 45 1 chZ true) := fun tm => oAlloc_run _ _ (by decide) tm H
  obtain ⟨H1, r, st, ow, k1, nx1, _⟩ := lay ro1 (e := 45) (n := 35) (zs := chZ) (vs := chL sh b k i) (by omega) rfl (chL_len h32 k i)
  have cl := chL_len h32 (b := b) k i
  have f0 : load1V (.ptr H.nx 0) H1 = .val (nI .i64 (i * k)) H1 := load1V_row ow.at_ ow.cells (o := 0) (by omega)
  have f1 : load1V (.ptr H.nx 1) H1 = .val (nI .i64 (pEnd b.length k i - i * k)) H1 := load1V_row ow.at_ ow.cells (o := 1) (by omega)
  have hp1 : i * k < pEnd b.length k i := by unfold pEnd; omega
  have hp2 : pEnd b.length k i ≤ b.length := by unfold pEnd; omega
  have ee : i * k + (pEnd b.length k i - i * k) = pEnd b.length k i := by omega
  obtain ⟨u, eu, gu⟩ := slice_part ha (p := i * k) (q := pEnd b.length k i) (by omega) hp2
  have kH1 : Keep Hx H1 [] := (kx.trans' h.keep).trans' k1
  have eu := eu H1 fun c hc => kH1.get c hc (by simp)
  have gu1 := gu.keep kH1
  have b1 : Buf H1 v (got b k fr j) Hc.nx := bv.below (fun c _ h2 => k1.get c h2 (by simp)) k1.ro k1.nx
  have nH := h.keep.nx
  have ll : ((b.drop (i * k)).take (pEnd b.length k i - i * k)).length = pEnd b.length k i - i * k := by rw [List.length_take, List.length_drop]; omega
  have lg : (got b k fr j).length ≤ 300 := by unfold got; rw [List.length_take, List.length_drop]; omega
  obtain ⟨v', H2, ea, b2, bl⟩ := buf_app b1 (by rw [ll]; omega) gu1.1 (by rw [ll]; omega) (by rw [k1.ro]; omega) (by omega)
  simp (disch := omega) only [c4_l1, t0, t17, t136, t137, t138, cmpV_lt, d1, iy, ly, al, st, f0, f1, ee, eu, ea, addV_i, Nat.zero_add, BaseG, N8G, HpG, Nat.zero_add, XsG, stepK_freeG, stepK_readG, stepK_effG, Option.map_none, Option.map_some, List.map_cons, List.map_nil, gtr0, gtr17, gtr19, gtr136, gtr137, gtr138, gtr139, gtr140, gtr141, gtr142, gtr143, gtr144, gtr145, gtr146, gtr147, gtr148, gtr149, gtr150, gtr151, gtr152, gtr153, str17, str19, str138, str139, str140, str141, str142, str143, str144, str145, str146, str147, str148, str149, str150, str151, str152, str153]
  refine ⟨_, _, rfl, t0, t6, t10, t13, t14, t15, t16, t136, t137, rfl, (h.keep.trans' k1).below bl (Nat.le_refl _), v', rfl, ?_⟩
  have e2 : got b k fr (j + 1) = got b k fr j ++ (b.drop (i * k)).take (pEnd b.length k i - i * k) := by
    unfold got pEnd
    have a1 : (fr + (j + 1)) * k = i * k + k := by rw [← hi, ← Nat.add_assoc, Nat.add_mul (fr + j), Nat.one_mul]
    have a2 : fr * k ≤ i * k := Nat.mul_le_mul_right _ (by omega)
    rw [a1, hi, show min (i * k) b.length = i * k by omega]
    exact (dt_app a2 (by omega)).symm
  rw [e2]
  exact b2
theorem lc_last {a w cut : AV} {k fr to eb lw : Nat} {Hc : Heap} (c : Ctx) (x : X) (tm : TM) (H : Heap) (h : LC a b k fr to eb cut w lw Hc (to - fr) tm H) :
    ∃ tm' H', c4_l1 c tm H x = .ok (.exit 2) tm' H' x ∧ LC a b k fr to eb cut w lw Hc (to - fr) tm' H' := by
  have t0 := h.t0; have t6 := h.t6; have t10 := h.t10; have t13 := h.t13; have t14 := h.t14; have t15 := h.t15; have t16 := h.t16; have t136 := h.t136; have t137 := h.t137; have t138 := h.t138
  obtain ⟨v, t17, bv⟩ := h.all
  simp only [gtr0, gtr6, gtr10, gtr13, gtr14, gtr15, gtr16, gtr17, gtr136, gtr137, gtr138] at t0 t6 t10 t13 t14 t15 t16 t17 t136 t137 t138
  have d1 : decide (to - fr < to - fr) = false := decide_eq_false (Nat.lt_irrefl _)
  simp (disch := omega) only [c4_l1, t137, t138, cmpV_lt, d1, BaseG, N8G, HpG, Nat.zero_add, XsG, stepK_freeG, stepK_readG, stepK_effG, Option.map_none, Option.map_some, List.map_cons, List.map_nil, gtr0, gtr17, gtr19, gtr136, gtr137, gtr138, gtr139, gtr140, gtr141, gtr142, gtr143, gtr144, gtr145, gtr146, gtr147, gtr148, gtr149, gtr150, gtr151, gtr152, gtr153, str17, str19, str138, str139, str140, str141, str142, str143, str144, str145, str146, str147, str148, str149, str150, str151, str152, str153]
  exact ⟨_, _, rfl, t0, t6, t10, t13, t14, t15, t16, t136, t137, t138, h.keep, v, t17, bv⟩
end
end Go.AI

namespace Go.AI
open Go
noncomputable section
variable {lib : Nat → List AV → Heap → Option CR} {fs : T CF} {fuel : Nat}

theorem tfold_none (n k A m : Nat) : tfold n k A 0 m = (0, 0) := by
  induction m with
  | zero => rfl
  | succ i ih => rw [tfold_succ, ih]; unfold tstep; rw [if_neg (fun h => absurd h.1 (Nat.lt_irrefl 0))]
theorem tfold_at {n k A M m : Nat} (hk : 1 ≤ k) (hM : 0 < M) (hn : A + M ≤ n) (hm : ∀ i, i < m → i * k < n) : ∀ i, i ≤ m → tfold n k A M i = if i ≤ A / k then (0, 0) else (A / k, min i ((A + M - 1) / k + 1))
  | 0, _ => by rw [if_pos (Nat.zero_le _)]; rfl
  | i + 1, hi => by
    have ih := tfold_at hk hM hn hm i (by omega)
    have him := hm i (by omega)
    have hpq : A / k ≤ (A + M - 1) / k := Nat.div_le_div_right (by omega)
    have c1 : i * k < A + M ↔ i ≤ (A + M - 1) / k := by rw [Nat.le_div_iff_mul_le (by omega)]; omega
    have c2 : A < i * k + (pEnd n k i - i * k) ↔ A / k ≤ i := by
      have : A / k < i + 1 ↔ A < (i + 1) * k := Nat.div_lt_iff_lt_mul (by omega)
      rw [Nat.add_mul, Nat.one_mul] at this
      unfold pEnd
      omega
    rw [tfold_succ, ih]
    unfold tstep
    generalize (A + M - 1) / k = qq at hpq c1 ⊢
    generalize A / k = p at hpq c2 ⊢
    by_cases h1 : i ≤ p
    · rw [if_pos h1]
      by_cases h2 : i = p
      · subst h2
        rw [if_pos ⟨hM, c1.2 hpq, c2.2 (Nat.le_refl _)⟩, if_neg (show ¬ i + 1 ≤ i by omega), Nat.min_eq_left (by omega)]; rfl
      · rw [if_neg (fun h => h2 (Nat.le_antisymm h1 (c2.1 h.2.2))), if_pos (show i + 1 ≤ p by omega)]
    · rw [if_neg h1, if_neg (show ¬ i + 1 ≤ p by omega)]
      by_cases h2 : i ≤ qq
      · rw [if_pos ⟨hM, c1.2 h2, c2.2 (by omega)⟩, if_neg (show ¬ min i (qq + 1) = 0 by omega), Nat.min_eq_left (by omega), Nat.min_eq_left (by omega)]
      · rw [if_neg (fun h => h2 (c1.1 h.2.1)), Nat.min_eq_right (by omega), Nat.min_eq_right (by omega)]
theorem tfold_is {n k A M m : Nat} (hk : 1 ≤ k) (hM : 0 < M) (hn : A + M ≤ n) (hm : ∀ i, i < m → i * k < n) (hm3 : n ≤ m * k) :
    ∃ fr to, tfold n k A M m = (fr, to) ∧ fr < to ∧ to ≤ m ∧ fr * k ≤ A ∧ A < fr * k + (pEnd n k fr - fr * k) ∧ (to - 1) * k < A + M ∧ A + M ≤ (to - 1) * k + (pEnd n k (to - 1) - (to - 1) * k) ∧ A + M ≤ min (to * k) n := by
  have h := tfold_at hk hM hn hm m (Nat.le_refl _)
  have hpq : A / k ≤ (A + M - 1) / k := Nat.div_le_div_right (by omega)
  have p1 : A / k * k ≤ A := Nat.div_mul_le_self A k
  have p2 : A < (A / k + 1) * k := (Nat.div_lt_iff_lt_mul (by omega)).1 (Nat.lt_succ_self _)
  have q1 : (A + M - 1) / k * k ≤ A + M - 1 := Nat.div_mul_le_self _ k
  have q2 : A + M - 1 < ((A + M - 1) / k + 1) * k := (Nat.div_lt_iff_lt_mul (by omega)).1 (Nat.lt_succ_self _)
  have hqm : (A + M - 1) / k < m := (Nat.div_lt_iff_lt_mul (by omega)).2 (by omega)
  have hp3 := hm (A / k) (by omega)
  have hq3 := hm _ hqm
  generalize (A + M - 1) / k = qq at *
  generalize A / k = p at *
  rw [if_neg (by omega), Nat.min_eq_right (by omega)] at h
  have e2 : (qq + 1) * k = qq * k + k := by rw [Nat.add_mul, Nat.one_mul]
  have e3 : (p + 1) * k = p * k + k := by rw [Nat.add_mul, Nat.one_mul]
  refine ⟨p, qq + 1, h, by omega, by omega, p1, ?_, ?_, ?_, ?_⟩
  · unfold pEnd; omega
  · rw [Nat.add_sub_cancel]; omega
  · rw [Nat.add_sub_cancel]; unfold pEnd; omega
  · omega
theorem thenR_norm (tm : TM) (H : Heap) (x : X) (k : TM → Heap → X → Res) : thenR (.ok .normal tm H x) k = k tm H x := (thenR_normal tm H x k).trans (Eq.refl _)
open Classical in
theorem seqG_if (g : EvF) (b : Bool) (f : OpF) (dst : SetF) (next : D) (c : Ctx) (tm : TM) (H : Heap) (x : X) : seqG g b f dst next c tm H x = if g tm = .bool b then goOn (next c) dst c tm H x (f tm H) else guardK (g tm) b .fail (next c (dst tm undefA) H x) := by
  rw [seqG_run]
  by_cases h : g tm = .bool b
  · rw [if_pos h, h]; cases b <;> rfl
  · rw [if_neg h]
    generalize g tm = v at h
    cases v with
    | bool a => cases a <;> cases b <;> first | exact absurd rfl h | rfl
    | _ => rfl
theorem eqB_ne (a b : Bool) (H : Heap) : eqV eqB true (.bool a) (.bool b) H = .val (.bool (!decide (a = b))) H := by cases a <;> cases b <;> rfl
theorem lowV_int (n : Nat) (k : IntKind) (z : Int) : lowV n (.int k z) = true := rfl
theorem isSame_int (k : IntKind) (z : Int) (n : Nat) (t : T Obj) : isSame (.val (.int k z) ⟨n, t, n⟩) (.int k z) n = true := isSame_val _ _ _ (same_int ..)
end
end Go.AI

namespace Go.AI
open Go
noncomputable section
theorem Base9G : (∀ (f : OpF) (dst : SetF) (next : D) (c : Ctx) (tm : TM) (H : Heap) (x : X), seqO f dst next c tm H x = goOn (next c) dst c tm H x (f tm H)) ∧ (∀ (next : TM → Heap → X → Res) (dst : SetF) (c : Ctx) (tm : TM) (H : Heap) (x : X) (v : AV) (H' : Heap), goOn next dst c tm H x (.val v H') = next (dst tm v) H' x) ∧ (∀ (next : TM → Heap → X → Res) (dst : SetF) (c : Ctx) (tm : TM) (H : Heap) (x : X) (f : Nat) (args : List AV) (H' : Heap), goOn next dst c tm H x (.oth (.call f args H')) = onCR next dst tm x (c.call f args H')) ∧ (∀ (next : TM → Heap → X → Res) (dst : SetF) (tm : TM) (x : X) (v : AV) (H : Heap), onCR next dst tm x (.ret v H) = next (dst tm v) H x) ∧ (∀ (a b : D) (c : Ctx) (tm : TM) (H : Heap) (x : X), seqD a b c tm H x = thenR (a c tm H x) (b c)) ∧ (∀ (tm : TM) (H : Heap) (x : X) (k : TM → Heap → X → Res), thenR (.ok .normal tm H x) k = k tm H x) ∧ (∀ (tm : TM) (H : Heap) (x : X) (k : TM → Heap → X → Res), thenR (.ok .ret tm H x) k = .ok .ret tm H x) ∧ (∀ (i : Nat) (tm : TM) (H : Heap) (x : X) (k : TM → Heap → X → Res), thenR (.ok (.exit i) tm H x) k = .ok (.exit i) tm H x) ∧ (∀ (c : Ctx) (tm : TM) (H : Heap) (x : X), normD c tm H x = .ok .normal tm H x) ∧ (∀ (c : Ctx) (tm : TM) (H : Heap) (x : X), retD c tm H x = .ok .ret tm H x) ∧ (∀ (i : Nat) (c : Ctx) (tm : TM) (H : Heap) (x : X), exitD i c tm H x = .ok (.exit i) tm H x) ∧ (∀ (q : EvF) (a b : D) (c : Ctx) (tm : TM) (H : Heap) (x : X), condD q a b c tm H x = isBn (q tm) fun v => condK (a c) (b c) v tm H x) ∧ (∀ (b : Bool) (k : Bool → Res), isBn (.bool b) k = k b) ∧ (∀ (a b : TM → Heap → X → Res) (tm : TM) (H : Heap) (x : X), condK a b true tm H x = a tm H x) ∧ (∀ (a b : TM → Heap → X → Res) (tm : TM) (H : Heap) (x : X), condK a b false tm H x = b tm H x) ∧ (∀ (i : Nat) (a : D) (c : Ctx) (tm : TM) (H : Heap) (x : X), blockD i a c tm H x = leaveB i (a c tm H x)) ∧ (∀ (i : Nat) (tm : TM) (H : Heap) (x : X), leaveB i (.ok .normal tm H x) = .ok .normal tm H x) ∧ (∀ (i : Nat) (tm : TM) (H : Heap) (x : X), leaveB i (.ok (.exit i) tm H x) = .ok .normal tm H x) ∧ (∀ (i : Nat) (tm : TM) (H : Heap) (x : X), leaveB i (.ok .ret tm H x) = .ok .ret tm H x) ∧ (∀ (tm : TM) (v : AV), d0 tm v = tm) ∧ (∀ (v : AV) (tm : TM), k v tm = v) ∧ (∀ (tm : TM), evs tm [] = []) ∧ (∀ (tm : TM) (f : EvF) (l : List EvF), evs tm (f :: l) = f tm :: evs tm l) ∧ (∀ (x : EvF) (tm : TM) (H : Heap), oMv x tm H = .val (x tm) H) ∧ (∀ (x : EvF) (tm : TM) (H : Heap), oNeg x tm H = negV (x tm) H) ∧ (∀ (x : EvF) (k : IntKind) (tm : TM) (H : Heap), oInt x k tm H = intV k (x tm) H) ∧ (∀ (x y : EvF) (tm : TM) (H : Heap), oAddS x y tm H = addV (x tm) (y tm) H) ∧ (∀ (x y : EvF) (tm : TM) (H : Heap), oSub x y tm H = subV (x tm) (y tm) H) ∧ (∀ (x y : EvF) (tm : TM) (H : Heap), oMul x y tm H = mulV (x tm) (y tm) H) ∧ (∀ (x y : EvF) (tm : TM) (H : Heap), oQuo x y tm H = quoV (x tm) (y tm) H) ∧ (∀ (x y : EvF) (tm : TM) (H : Heap), oRem x y tm H = remV (x tm) (y tm) H) ∧ (∀ (x y : EvF) (f : Nat → Nat → Nat → Nat) (tm : TM) (H : Heap), oBits x y f tm H = bitsV f (x tm) (y tm) H) ∧ (∀ (x y : EvF) (tm : TM) (H : Heap), oShl x y tm H = shlV (x tm) (y tm) H) ∧ (∀ (x y : EvF) (tm : TM) (H : Heap), oShr x y tm H = shrV (x tm) (y tm) H) ∧ (∀ (x : EvF) (tm : TM) (H : Heap), oXorU x tm H = xorUV (x tm) H) ∧ (∀ (x y : EvF) (f : Int → Int → Bool) (g : List UInt8 → List UInt8 → Bool) (tm : TM) (H : Heap), oCmp x y f g tm H = cmpV f g (x tm) (y tm) H) ∧ (∀ (x y : EvF) (f : AV → AV → Option Bool) (neg : Bool) (tm : TM) (H : Heap), oEq x y f neg tm H = eqV f neg (x tm) (y tm) H) ∧ (∀ (x : EvF) (tm : TM) (H : Heap), oNot x tm H = notV (x tm) H) ∧ (∀ (x y z : EvF) (tm : TM) (H : Heap), oPick x y z tm H = pickV (x tm) (y tm) (z tm) H) ∧ (∀ (f : Nat) (args : List EvF) (tm : TM) (H : Heap), oCallF f args tm H = .oth (.call f (evs tm args) H)) := ⟨@seqO_run, @goOn_val, @goOn_call, @onCR_ret, @seqD_run, @thenR_norm, @thenR_ret, @thenR_exit, @normD_run, @retD_run, @exitD_run, @condD_run, @isBn_bool, @condK_true, @condK_false, @blockD_run, @leaveB_normal, @leaveB_same, @leaveB_ret, @d0_run, @k_run, @evs_nil, @evs_cons, @oMv_run, @oNeg_run, @oInt_run, @oAddS_run, @oSub_run, @oMul_run, @oQuo_run, @oRem_run, @oBits_run, @oShl_run, @oShr_run, @oXorU_run, @oCmp_run, @oEq_run, @oNot_run, @oPick_run, @oCallF_run⟩
end
end Go.AI

namespace Go.AI
open Go
noncomputable section
variable {lib : Nat → List AV → Heap → Option CR} {fs : T CF} {fuel : Nat}

variable {sh : List UInt8 → List UInt8}
theorem two_new {H : Heap} (hro : H.ro ≤ H.nx) {e n : Nat} {zs v1 v2 : List AV} (hn : 1 ≤ n) (hz : zs.length = n) (h1 : v1.length = n) (h2 : v2.length = n) {H8 H9 : Heap} (e8 : H.new (.row ⟨e, 1, lenL zs, T.ofList zs, .unk, 0, false, true, true⟩) = H8) (e9 : H8.new (.row ⟨e, 1, lenL zs, T.ofList zs, .unk, 0, false, true, true⟩) = H9) :
    ∃ HA HB r1 r2, storeV n (.ptr H.nx 0) (.agg v1) H9 = .val undefA HA ∧ storeV n (.ptr H8.nx 0) (.agg v2) HA = .val undefA HB ∧ HB.t.get H.nx = some (.row r1) ∧ Cells r1 v1 ∧ HB.t.get H8.nx = some (.row r2) ∧ Cells r2 v2 ∧ Keep H H8 [] ∧ Keep H H9 [] ∧ Keep H HA [] ∧ Keep H HB [] ∧ H8.nx = H.nx + 1 := by
  have k8 : Keep H H8 [] := by rw [← e8]; exact Keep.new H _ []
  have k89 : Keep H8 H9 [] := by rw [← e9]; exact Keep.new H8 _ []
  have n8 : H8.nx = H.nx + 1 := by rw [← e8]; rfl
  have n9 : H9.nx = H.nx + 2 := by rw [← e9, new_nx, n8]
  have g8 : H8.t.get H.nx = some (.row ⟨e, 1, lenL zs, T.ofList zs, .unk, 0, false, true, true⟩) := by rw [← e8, new_get, if_pos rfl]
  have g9 : H9.t.get H8.nx = some (.row ⟨e, 1, lenL zs, T.ofList zs, .unk, 0, false, true, true⟩) := by rw [← e9, new_get, if_pos rfl]
  have g89 : H9.t.get H.nx = some (.row ⟨e, 1, lenL zs, T.ofList zs, .unk, 0, false, true, true⟩) := by rw [k89.get _ (by omega) (by simp)]; exact g8
  have cz := Cells.new e 1 zs 0 false true true
  have k9 := k8.trans' k89
  have s1 : storeV n (.ptr H.nx 0) (.agg v1) H9 = .val undefA (H9.put H.nx (.row (Row.setCells ⟨e, 1, lenL zs, T.ofList zs, .unk, 0, false, true, true⟩ (storeN (T.ofList zs) 0 v1)))) :=
    storeV_row (v := .agg v1) g89 cz rfl (by rw [k9.ro]; exact hro) rfl hn h1 (by omega)
  have gA : (H9.put H.nx (.row (Row.setCells ⟨e, 1, lenL zs, T.ofList zs, .unk, 0, false, true, true⟩ (storeN (T.ofList zs) 0 v1)))).t.get H8.nx = some (.row ⟨e, 1, lenL zs, T.ofList zs, .unk, 0, false, true, true⟩) := by rw [put_get, if_neg (by omega)]; exact g9
  have s2 : storeV n (.ptr H8.nx 0) (.agg v2) (H9.put H.nx (.row (Row.setCells ⟨e, 1, lenL zs, T.ofList zs, .unk, 0, false, true, true⟩ (storeN (T.ofList zs) 0 v1)))) = .val undefA _ :=
    storeV_row (v := .agg v2) gA cz rfl (by rw [put_ro, k9.ro]; omega) rfl hn h2 (by omega)
  have kA : Keep H (H9.put H.nx (.row (Row.setCells ⟨e, 1, lenL zs, T.ofList zs, .unk, 0, false, true, true⟩ (storeN (T.ofList zs) 0 v1)))) [] := k9.then_put fun h => absurd h (Nat.lt_irrefl _)
  exact ⟨_, _, _, _, s1, s2, by rw [put_get, if_neg (by omega), put_get, if_pos rfl], cz.whole (by rw [h1, hz]), by rw [put_get, if_pos rfl]; rfl, cz.whole (by rw [h2, hz]), k8, k9, kA, kA.then_put fun h => absurd h (by omega), n8⟩
theorem sameL_ch (x y z : Nat) (l : List UInt8) : sameL (nI .i64 x :: nI .i64 y :: nI .i64 z :: l.map u8V) (nI .i64 x :: nI .i64 y :: nI .i64 z :: l.map u8V) = true := by
  unfold sameL
  rw [same_nI]
  show sameL (nI .i64 y :: nI .i64 z :: l.map u8V) (nI .i64 y :: nI .i64 z :: l.map u8V) = true
  unfold sameL
  rw [same_nI]
  show sameL (nI .i64 z :: l.map u8V) (nI .i64 z :: l.map u8V) = true
  unfold sameL
  rw [same_nI]
  exact sameL_u8 l
theorem got_is {b : List UInt8} {k fr to lw wl : Nat} (h1 : fr * k ≤ lw) (h2 : lw + wl ≤ min (to * k) b.length) (h3 : fr ≤ to) : (((got b k fr (to - fr)).drop (lw - fr * k)).take (lw - fr * k + wl - (lw - fr * k))) = (b.drop lw).take wl := by
  unfold got
  rw [show fr + (to - fr) = to by omega, List.drop_take, List.drop_drop, show fr * k + (lw - fr * k) = lw by omega, List.take_take]
  congr 1
  omega
structure TS (a : AV) (fr to lw eb : Nat) (w : AV) (tm : TM) : Prop where
  t0 : gt0 tm = a
  t6 : gt6 tm = .bool false
  t10 : gt10 tm = .ptr eb 0
  t13 : gt13 tm = nI .i64 lw
  t14 : gt14 tm = w
  t15 : gt15 tm = nI .i64 fr
  t16 : gt16 tm = nI .i64 to
theorem t1_none {n : Nat} {b : List UInt8} {a w v : AV} {k m eb lw : Nat} {H Hx : Heap} {re : Row} {yld : Nat → List AV → Heap → CR} {rng : AV → (List AV → Heap → CR) → TM → Heap → X → Res} {x : X} {tm : TM} (h : TS a 0 0 lw eb w tm) (oe : Own H eb 40 (entL b.length v) re) {lo : Nat} (rv : RBuf H v 45 35 (chs sh b k m) lo) (kx : Keep Hx H []) (gw : ArgS Hx w [])
    (hW : ∀ H', Keep Hx H' [] → lib 9 [] H' = some (.ret (.bool true) H')) :
    ∃ tm' H', c4_t1 ⟨callN lib fs fuel (n + 1), yld, rng, fuel, false⟩ tm H x = .ok .ret tm' H' x ∧ gt6 tm' = .bool true := by
  have t0 := h.t0; have t6 := h.t6; have t10 := h.t10; have t13 := h.t13; have t14 := h.t14; have t15 := h.t15; have t16 := h.t16
  simp only [gtr0, gtr6, gtr10, gtr13, gtr14, gtr15, gtr16] at t0 t6 t10 t13 t14 t15 t16
  have l6 : load1V (.ptr eb 11) H = .val v H := load1V_row oe.at_ oe.cells (o := 11) (by show 11 < 12; omega)
  have rl := rv.len
  rw [chs_len] at rl
  have nw : ∀ G, lenV w G = .val (nI .i64 0) G := lenV_arg gw
  have e9 : callN lib fs fuel (n + 1) 9 [] H = .ret (.bool true) H := callN_hit (hW H kx)
  have d0 : decide (0 < 0) = false := rfl
  have d1 : decide (m < 0) = false := decide_eq_false (by omega)
  have d2 : decide (0 = 0) = true := rfl
  have d3 : (!decide (true = true)) = false := rfl
  simp (disch := omega) only [c4_t1, t0, t6, t10, t13, t14, t15, t16, l6, rl, nw, e9, d0, d1, d2, d3, Bool.not_true, Bool.not_false, cmpV_lt, cmpV_gt, eqV_eq, eqB_ne, Nat.zero_add, Base9G, N8G, HpG, Nat.zero_add, drawnD_run, planD_nil, planD_cons, normF_run, stepK_free, stepK_read, stepK_eff, freeK_val, readK_val, effK_val, effK_call, retK_ret, keepR_nil, keepR_cons, still_nil, still_cons, rdOk_run, isSame_u32, isSame_u8, isSame_nI, lowOs_nil, lowOs_cons, lowV_nI, lowV_u32, lowV_u8, lowV_bool, rsF_nil, rsF_cons, List.map_cons, List.map_nil, cond_true, cond_false, Nat.testBit_eq_decide_div_mod_eq, Nat.reducePow, Nat.reduceDiv, Nat.reduceMod, decide_true, Nat.reduceEqDiff, decide_false, reduceCtorEq, Nat.zero_ne_one, XsG, stepK_freeG, stepK_readG, stepK_effG, Option.map_none, Option.map_some, List.map_cons, List.map_nil, gtr10, gtr13, gtr14, gtr15, gtr16, gtr17, gtr20, gtr21, gtr22, gtr101, gtr102, gtr103, gtr104, gtr105, gtr106, gtr107, gtr108, gtr109, gtr110, gtr111, gtr112, gtr113, gtr114, gtr115, gtr116, gtr117, gtr118, gtr119, gtr120, gtr121, gtr122, gtr123, gtr124, gtr125, gtr126, gtr127, gtr128, gtr129, gtr130, gtr131, gtr132, gtr133, gtr134, gtr135, gtr136, gtr154, gtr155, gtr156, gtr157, gtr158, gtr159, gtr160, gtr161, gtr162, gtr163, gtr164, gtr165, gtr166, gtr167, gtr168, gtr169, gtr170, gtr171, gtr172, gtr173, gtr174, gtr175, gtr176, gtr177, gtr178, gtr179, gtr180, gtr181, gtr182, gtr183, gtr184, gtr185, gtr186, gtr187, gtr188, gtr189, gtr190, gtr191, gtr192, gtr193, gtr194, gtr195, gtr196, gtr197, gtr198, gtr199, gtr200, gtr201, gtr202, gtr203, gtr204, gtr205, gtr206, gtr207, gtr208, gtr209, gtr210, gtr211, gtr212, gtr213, gtr214, gtr215, gtr216, str6, str10, str15, str16, str17, str20, str21, str22, str101, str102, str103, str104, str105, str106, str107, str108, str109, str110, str111, str112, str113, str114, str115, str116, str117, str118, str119, str120, str121, str122, str123, str124, str125, str126, str127, str128, str129, str130, str131, str132, str133, str134, str135, str136, str137, str138, str154, str155, str156, str157, str158, str159, str160, str161, str162, str163, str164, str165, str166, str167, str168, str169, str170, str171, str172, str173, str174, str175, str176, str177, str178, str179, str180, str181, str182, str183, str184, str185, str186, str187, str188, str189, str190, str191, str192, str193, str194, str195, str196, str197, str198, str199, str200, str201, str202, str203, str204, str205, str206, str207, str208, str209, str210, str211, str212, str213, str214, str215, str216]
  exact ⟨_, _, rfl, rfl⟩
theorem r2_run {v p1 p2 : AV} {c1 c2 : List AV} {eb fr to : Nat} {H7 H8 H9 HA HB : Heap} {c : Ctx} {x : X} {tm : TM} (z10 : gt10 tm = .ptr eb 0) (z15 : gt15 tm = nI .i64 fr) (z16 : gt16 tm = nI .i64 to) (hto : 1 ≤ to) (hto2 : to ≤ 300)
    (lv7 : load1V (.ptr eb 11) ⟨H7.nx, H7.t, H7.nx⟩ = .val v ⟨H7.nx, H7.t, H7.nx⟩) (lv9 : load1V (.ptr eb 11) ⟨H9.nx, H9.t, H9.nx⟩ = .val v ⟨H9.nx, H9.t, H9.nx⟩) (lvA : load1V (.ptr eb 11) ⟨HA.nx, HA.t, HA.nx⟩ = .val v ⟨HA.nx, HA.t, HA.nx⟩)
    (sv : ∀ n t, isSame (.val v ⟨n, t, n⟩) v n = true) (i1 : ∀ G, idxSV 35 v (nI .i64 fr) G = .val p1 G) (i2 : ∀ G, idxSV 35 v (nI .i64 (to - 1)) G = .val p2 G)
    (y17 : loadV 35 p1 ⟨H7.nx, H7.t, H7.nx⟩ = .val (.agg c1) ⟨H7.nx, H7.t, H7.nx⟩) (y19 : loadV 35 p1 ⟨H9.nx, H9.t, H9.nx⟩ = .val (.agg c1) ⟨H9.nx, H9.t, H9.nx⟩)
    (y27 : loadV 35 p2 ⟨H7.nx, H7.t, H7.nx⟩ = .val (.agg c2) ⟨H7.nx, H7.t, H7.nx⟩) (y29 : loadV 35 p2 ⟨H9.nx, H9.t, H9.nx⟩ = .val (.agg c2) ⟨H9.nx, H9.t, H9.nx⟩) (y2A : loadV 35 p2 ⟨HA.nx, HA.t, HA.nx⟩ = .val (.agg c2) ⟨HA.nx, HA.t, HA.nx⟩)
    (s1 : ∀ n t, isSame (.val (.agg c1) ⟨n, t, n⟩) (.agg c1) n = true) (s2 : ∀ n t, isSame (.val (.agg c2) ⟨n, t, n⟩) (.agg c2) n = true)
    (wv : lowV H7.nx v = true) (we : lowV H7.nx (.ptr eb 0) = true) (we' : lowV H7.nx (.ptr eb 11) = true)
    (e8 : H7.new (.row ⟨45, 1, lenL chZ, T.ofList chZ, .unk, 0, false, true, true⟩) = H8) (e9 : H8.new (.row ⟨45, 1, lenL chZ, T.ofList chZ, .unk, 0, false, true, true⟩) = H9)
    (sA : storeV 35 (.ptr H7.nx 0) (.agg c1) H9 = .val undefA HA) (sB : storeV 35 (.ptr H8.nx 0) (.agg c2) HA = .val undefA HB) {y0 y6 y13 y14 y17' : AV} (z0 : gt0 tm = y0) (z6 : gt6 tm = y6) (z13 : gt13 tm = y13) (z14 : gt14 tm = y14) (z17 : gt17 tm = y17') :
    ∃ tm', c4_r2 c tm H7 x = .ok .normal tm' HB x ∧ gt20 tm' = .ptr H7.nx 0 ∧ gt21 tm' = .ptr H8.nx 0 ∧ gt0 tm' = y0 ∧ gt6 tm' = y6 ∧ gt13 tm' = y13 ∧ gt14 tm' = y14 ∧ gt17 tm' = y17' := by
  have al7 : ∀ tm, oAlloc 45 chZ tm ⟨H7.nx, .leaf, H7.nx⟩ = .val (.ptr H7.nx 0) ((⟨H7.nx, .leaf, H7.nx⟩ : Heap).new (.row ⟨45, 1, lenL chZ, T.ofList chZ, .unk, 0, false, true, true⟩)) := fun tm => oAlloc_run _ _ (by decide) tm _
  have al8 : ∀ tm, oAlloc 45 chZ tm ⟨H8.nx, .leaf, H8.nx⟩ = .val (.ptr H8.nx 0) ((⟨H8.nx, .leaf, H8.nx⟩ : Heap).new (.row ⟨45, 1, lenL chZ, T.ofList chZ, .unk, 0, false, true, true⟩)) := fun tm => oAlloc_run _ _ (by decide) tm _
  have hw : wrO (.row ⟨45, 1, lenL chZ, T.ofList chZ, .unk, 0, false, true, true⟩) = true := rfl
  generalize hrow : (Obj.row ⟨45, 1, lenL chZ, T.ofList chZ, .unk, 0, false, true, true⟩) = ob at al7 al8 hw e8 e9
  have fk7 : ∀ {f : OpF} {os : List (SetF × EvF)} {dst : SetF} {i bef : Nat} {nx : PK} {rs : List RD} {tm : TM} {x : X} (g : Option (EvF × Bool)) (kd : Kind) (v : AV), freeK ⟨f, g, os, dst, kd, i, bef⟩ nx rs tm H7 x (.val v ((⟨H7.nx, .leaf, H7.nx⟩ : Heap).new ob)) = nx rs (dst tm v) H8 x := fun g kd v => by rw [freeK_new (o := ob) (hw := hw), e8]
  have fk8 : ∀ {f : OpF} {os : List (SetF × EvF)} {dst : SetF} {i bef : Nat} {nx : PK} {rs : List RD} {tm : TM} {x : X} (g : Option (EvF × Bool)) (kd : Kind) (v : AV), freeK ⟨f, g, os, dst, kd, i, bef⟩ nx rs tm H8 x (.val v ((⟨H8.nx, .leaf, H8.nx⟩ : Heap).new ob)) = nx rs (dst tm v) H9 x := fun g kd v => by rw [freeK_new (o := ob) (hw := hw), e9]
  simp only [gtr0, gtr6, gtr10, gtr13, gtr14, gtr15, gtr16, gtr17] at z0 z6 z10 z13 z14 z15 z16 z17
  simp (maxSteps := 1000000) (disch := omega) only [c4_r2, z0, z6, z10, z13, z14, z15, z16, z17, lv7, lv9, lvA, sv, i1, i2, y17, y19, y27, y29, y2A, s1, s2, wv, we, we', al7, al8, fk7, fk8, sA, sB, subV_i, Nat.zero_add, Base9G, N8G, HpG, Nat.zero_add, drawnD_run, planD_nil, planD_cons, normF_run, stepK_free, stepK_read, stepK_eff, freeK_val, readK_val, effK_val, effK_call, retK_ret, keepR_nil, keepR_cons, still_nil, still_cons, rdOk_run, isSame_u32, isSame_u8, isSame_nI, lowOs_nil, lowOs_cons, lowV_nI, lowV_u32, lowV_u8, lowV_bool, rsF_nil, rsF_cons, List.map_cons, List.map_nil, cond_true, cond_false, Nat.testBit_eq_decide_div_mod_eq, Nat.reducePow, Nat.reduceDiv, Nat.reduceMod, decide_true, Nat.reduceEqDiff, decide_false, reduceCtorEq, Nat.zero_ne_one, XsG, stepK_freeG, stepK_readG, stepK_effG, Option.map_none, Option.map_some, List.map_cons, List.map_nil, gtr10, gtr15, gtr16, gtr20, gtr21, gtr154, gtr155, gtr156, gtr157, gtr158, gtr159, gtr160, gtr161, gtr162, gtr163, gtr164, str10, str15, str16, str20, str21, str154, str155, str156, str157, str158, str159, str160, str161, str162, str163, str164]
  exact ⟨_, rfl, rfl, rfl, z0, z6, z13, z14, z17⟩
theorem t1_some {n : Nat} (hl5 : ∀ l H, lib 13 l H = none) (hf5 : fs.get 13 = some c13) (h32 : ∀ l, (sh l).length = 32) (hF : 301 < fuel) {b : List UInt8} {a w v : AV} {k m eb fr to lw wl : Nat} {H Hx : Heap} (hro : H.ro ≤ H.nx) {re : Row} {yld : Nat → List AV → Heap → CR} {rng : AV → (List AV → Heap → CR) → TM → Heap → X → Res} {x : X} {tm : TM} (h : TS a fr to lw eb w tm) (oe : Own H eb 40 (entL b.length v) re) (heb : eb < H.nx) {lo : Nat} (rv : RBuf H v 45 35 (chs sh b k m) lo) (kx : Keep Hx H []) (ha : ArgS Hx a b) (gw : ArgS Hx w ((b.drop lw).take wl))
    (hb : b.length ≤ 300) (hm : ∀ i, i < m → i * k < b.length) (hm2 : m ≤ 300) (hk : 1 ≤ k) (hwl : 0 < wl) (hft : fr < to) (htm : to ≤ m) (q1 : fr * k ≤ lw) (q2 : lw < fr * k + (pEnd b.length k fr - fr * k)) (q3 : (to - 1) * k < lw + wl) (q4 : lw + wl ≤ (to - 1) * k + (pEnd b.length k (to - 1) - (to - 1) * k)) (q5 : lw + wl ≤ min (to * k) b.length)
    (hW : ∀ H', Keep Hx H' [] → lib 9 [] H' = some (.ret (.bool true) H')) :
    ∃ tm' H', c4_t1 ⟨callN lib fs fuel (n + 1), yld, rng, fuel, false⟩ tm H x = .ok .ret tm' H' x ∧ gt6 tm' = .bool true := by
  have t0 := h.t0; have t6 := h.t6; have t10 := h.t10; have t13 := h.t13; have t14 := h.t14; have t15 := h.t15; have t16 := h.t16
  simp only [gtr0, gtr6, gtr10, gtr13, gtr14, gtr15, gtr16] at t0 t6 t10 t13 t14 t15 t16
  have l6 : load1V (.ptr eb 11) H = .val v H := load1V_row oe.at_ oe.cells (o := 11) (by show 11 < 12; omega)
  have rl := rv.len
  rw [chs_len] at rl
  have lwl : ((b.drop lw).take wl).length = wl := by rw [List.length_take, List.length_drop]; omega
  have nw : ∀ G, lenV w G = .val (nI .i64 wl) G := fun G => by rw [lenV_arg gw G, lwl]
  have d0 : decide (fr < 0) = false := decide_eq_false (by omega)
  have d1 : decide (to < fr) = false := decide_eq_false (by omega)
  have d2 : decide (m < to) = false := decide_eq_false (by omega)
  have d3 : decide (to = fr) = false := decide_eq_false (by omega)
  have d4 : decide (wl = 0) = false := decide_eq_false (by omega)
  obtain ⟨cut, ec, nc, ic⟩ := rv.cut (p := fr) (q := to) hft (by rw [chs_len]; exact htm) (by omega)
  have ec := ec H fun _ _ _ => rfl
  simp (disch := omega) only [c4_t1, t0, t6, t10, t13, t14, t15, t16, l6, rl, nw, d0, d1, d2, d3, d4, Bool.not_true, Bool.not_false, cmpV_lt, cmpV_gt, eqV_eq, eqB_ne, ec, nc, loopD_run, Nat.zero_add, Base9G, N8G, HpG, Nat.zero_add, drawnD_run, planD_nil, planD_cons, normF_run, stepK_free, stepK_read, stepK_eff, freeK_val, readK_val, effK_val, effK_call, retK_ret, keepR_nil, keepR_cons, still_nil, still_cons, rdOk_run, isSame_u32, isSame_u8, isSame_nI, lowOs_nil, lowOs_cons, lowV_nI, lowV_u32, lowV_u8, lowV_bool, rsF_nil, rsF_cons, List.map_cons, List.map_nil, cond_true, cond_false, Nat.testBit_eq_decide_div_mod_eq, Nat.reducePow, Nat.reduceDiv, Nat.reduceMod, decide_true, Nat.reduceEqDiff, decide_false, reduceCtorEq, Nat.zero_ne_one, XsG, stepK_freeG, stepK_readG, stepK_effG, Option.map_none, Option.map_some, List.map_cons, List.map_nil, gtr10, gtr13, gtr14, gtr15, gtr16, gtr17, gtr20, gtr21, gtr22, gtr101, gtr102, gtr103, gtr104, gtr105, gtr106, gtr107, gtr108, gtr109, gtr110, gtr111, gtr112, gtr113, gtr114, gtr115, gtr116, gtr117, gtr118, gtr119, gtr120, gtr121, gtr122, gtr123, gtr124, gtr125, gtr126, gtr127, gtr128, gtr129, gtr130, gtr131, gtr132, gtr133, gtr134, gtr135, gtr136, gtr154, gtr155, gtr156, gtr157, gtr158, gtr159, gtr160, gtr161, gtr162, gtr163, gtr164, gtr165, gtr166, gtr167, gtr168, gtr169, gtr170, gtr171, gtr172, gtr173, gtr174, gtr175, gtr176, gtr177, gtr178, gtr179, gtr180, gtr181, gtr182, gtr183, gtr184, gtr185, gtr186, gtr187, gtr188, gtr189, gtr190, gtr191, gtr192, gtr193, gtr194, gtr195, gtr196, gtr197, gtr198, gtr199, gtr200, gtr201, gtr202, gtr203, gtr204, gtr205, gtr206, gtr207, gtr208, gtr209, gtr210, gtr211, gtr212, gtr213, gtr214, gtr215, gtr216, str6, str10, str15, str16, str17, str20, str21, str22, str101, str102, str103, str104, str105, str106, str107, str108, str109, str110, str111, str112, str113, str114, str115, str116, str117, str118, str119, str120, str121, str122, str123, str124, str125, str126, str127, str128, str129, str130, str131, str132, str133, str134, str135, str136, str137, str138, str154, str155, str156, str157, str158, str159, str160, str161, str162, str163, str164, str165, str166, str167, str168, str169, str170, str171, str172, str173, str174, str175, str176, str177, str178, str179, str180, str181, str182, str183, str184, str185, str186, str187, str188, str189, str190, str191, str192, str193, str194, str195, str196, str197, str198, str199, str200, str201, str202, str203, str204, str205, str206, str207, str208, str209, str210, str211, str212, str213, str214, str215, str216]
  generalize hL : loopN (c4_l1 _) fuel _ _ _ = L
  obtain ⟨tm1, H7, rfl, z⟩ := after_loop (P := fun T => LC a b k fr to eb cut w lw H 0 T H) (Q := LC a b k fr to eb cut w lw H (to - fr))
    (fun T hi => loopN_exit (LC a b k fr to eb cut w lw H) (LC a b k fr to eb cut w lw H (to - fr)) (to - fr) (fun i tm H' hi h => lc_step h32 hro kx ha hb hm hm2 htm hk (fun j hj => by
      obtain ⟨y, y1, y2⟩ := ic j hj
      rw [chs_at (show fr + j < m by omega)] at y2
      exact ⟨y, y1, fun G g => y2 G fun c _ hc => g.get c hc (by simp)⟩) _ _ i tm H' hi h) (fun tm H' h => lc_last _ _ tm H' h) (to - fr) 0 fuel T H (Nat.zero_add _) (by omega) hi) hL
    ⟨t0, t6, t10, t13, t14, t15, t16, rfl, rfl, rfl, Keep.refl _ _, .nils, rfl, .inl ⟨by unfold got; rw [Nat.add_zero]; simp; omega, rfl⟩⟩
  obtain ⟨va, z17, bva⟩ := z.all
  have k7 := z.keep
  have n7 := k7.nx
  have ro7 : H7.ro ≤ H7.nx := by rw [k7.ro]; omega
  have g7 : H7.t.get eb = some (.row re) := by rw [k7.get _ heb (by simp)]; exact oe.at_
  have lv : ∀ G : Heap, Keep H7 G [] → load1V (.ptr eb 11) ⟨G.nx, G.t, G.nx⟩ = .val v ⟨G.nx, G.t, G.nx⟩ := fun G g => load1V_row (H := ⟨G.nx, G.t, G.nx⟩) (by show G.t.get eb = _; rw [g.get eb (by omega) (by simp)]; exact g7) oe.cells (o := 11) (by show 11 < 12; omega)
  have sv := rv.same
  have wv : ∀ n, H7.nx ≤ n → lowV n v = true := fun n hn => rv.low (by omega)
  have we : ∀ n o, H7.nx ≤ n → lowV n (.ptr eb o) = true := fun n o hn => lowV_ptr (by omega) _
  obtain ⟨p1, i1, w1, y1⟩ := rv.item (i := fr) (by rw [chs_len]; omega)
  obtain ⟨p2, i2, w2, y2⟩ := rv.item (i := to - 1) (by rw [chs_len]; omega)
  rw [chs_at (by omega)] at y1 y2
  have y1 : ∀ G : Heap, Keep H7 G [] → loadV 35 p1 ⟨G.nx, G.t, G.nx⟩ = .val (.agg (chL sh b k fr)) ⟨G.nx, G.t, G.nx⟩ := fun G g => y1 ⟨G.nx, G.t, G.nx⟩ fun c _ hc => by show G.t.get c = _; rw [g.get c (by omega) (by simp), k7.get c hc (by simp)]
  have y2 : ∀ G : Heap, Keep H7 G [] → loadV 35 p2 ⟨G.nx, G.t, G.nx⟩ = .val (.agg (chL sh b k (to - 1))) ⟨G.nx, G.t, G.nx⟩ := fun G g => y2 ⟨G.nx, G.t, G.nx⟩ fun c _ hc => by show G.t.get c = _; rw [g.get c (by omega) (by simp), k7.get c hc (by simp)]
  have s1 : ∀ n t, isSame (.val (.agg (chL sh b k fr)) ⟨n, t, n⟩) (.agg (chL sh b k fr)) n = true := fun n t => isSame_agg (sameL_ch ..) n t
  have s2 : ∀ n t, isSame (.val (.agg (chL sh b k (to - 1))) ⟨n, t, n⟩) (.agg (chL sh b k (to - 1))) n = true := fun n t => isSame_agg (sameL_ch ..) n t
  have cl1 := chL_len h32 (b := b) k fr
  have cl2 := chL_len h32 (b := b) k (to - 1)
  generalize e8 : H7.new (.row ⟨45, 1, lenL chZ, T.ofList chZ, .unk, 0, false, true, true⟩) = H8
  generalize e9 : H8.new (.row ⟨45, 1, lenL chZ, T.ofList chZ, .unk, 0, false, true, true⟩) = H9
  obtain ⟨HA, HB, ra, rb, sA, sB, ga, ca, gb, cb, k8, k9, kA, kB, n8⟩ := two_new ro7 (n := 35) (by omega) rfl cl1 cl2 e8 e9
  have lv7 := lv H7 (Keep.refl _ _); have lv9 := lv H9 k9; have lvA := lv HA kA
  have y17 := y1 H7 (Keep.refl _ _); have y19 := y1 H9 k9; have y1A := y1 HA kA
  have y27 := y2 H7 (Keep.refl _ _); have y29 := y2 H9 k9; have y2A := y2 HA kA
  have wv7 := wv H7.nx (Nat.le_refl _)
  have we7 := we H7.nx 0 (Nat.le_refl _)
  have we711 := we H7.nx 11 (Nat.le_refl _)
  have f0 : load1V (.ptr H7.nx 0) HB = .val (nI .i64 (fr * k)) HB := load1V_row ga ca (o := 0) (by omega)
  have f1 : load1V (.ptr H7.nx 1) HB = .val (nI .i64 (pEnd b.length k fr - fr * k)) HB := load1V_row ga ca (o := 1) (by omega)
  have f2 : load1V (.ptr H8.nx 0) HB = .val (nI .i64 ((to - 1) * k)) HB := load1V_row gb cb (o := 0) (by omega)
  have f3 : load1V (.ptr H8.nx 1) HB = .val (nI .i64 (pEnd b.length k (to - 1) - (to - 1) * k)) HB := load1V_row gb cb (o := 1) (by omega)
  have p1e : pEnd b.length k fr ≤ b.length := by unfold pEnd; omega
  have p2e : pEnd b.length k (to - 1) ≤ b.length := by unfold pEnd; omega
  have h1 : decide (fr * k ≤ lw) = true := decide_eq_true q1
  have h2 : decide (lw < fr * k + (pEnd b.length k fr - fr * k)) = true := decide_eq_true q2
  have h3 : decide ((to - 1) * k < lw + wl) = true := decide_eq_true q3
  have h4 : decide (lw + wl ≤ (to - 1) * k + (pEnd b.length k (to - 1) - (to - 1) * k)) = true := decide_eq_true q4
  have bB : Buf HB va (got b k fr (to - fr)) H.nx := bva.below (fun c _ h2 => kB.get c h2 (by simp)) kB.ro kB.nx
  have gl : (got b k fr (to - fr)).length = min (to * k) b.length - fr * k := by unfold got; rw [show fr + (to - fr) = to by omega, List.length_take, List.length_drop]; omega
  obtain ⟨u, eu, bu⟩ := buf_cut bB (p := lw - fr * k) (q := lw - fr * k + wl) (by omega) (by rw [gl]; omega)
  rw [got_is q1 q5 (by omega)] at bu
  have kxB := (kx.trans' k7).trans' kB
  have e13 := equal_run (n := n) (fuel := fuel) hl5 hf5 bu (gw.keep kxB).1
  rw [decide_eq_true rfl] at e13
  have e9w : callN lib fs fuel (n + 1) 9 [] HB = .ret (.bool true) HB := callN_hit (hW HB kxB)
  obtain ⟨tm2, eR, z20, z21, z0, z6, z13, z14, z17⟩ := r2_run (c := ⟨callN lib fs fuel (n + 1), yld, rng, fuel, false⟩) (x := x) z.t10 z.t15 z.t16 (by omega) (by omega) lv7 lv9 lvA sv i1 i2 y17 y19 y27 y29 y2A s1 s2 wv7 we7 we711 e8 e9 sA sB z.t0 z.t6 z.t13 z.t14 z17
  simp only [gtr0, gtr6, gtr13, gtr14, gtr17, gtr20, gtr21] at z0 z6 z13 z14 z17 z20 z21
  have A1 : ∀ H, addV (nI .i64 (fr * k)) (nI .i64 (pEnd b.length k fr - fr * k)) H = .val (nI .i64 (fr * k + (pEnd b.length k fr - fr * k))) H := fun H => addV_i (by omega) H
  have A2 : ∀ H, addV (nI .i64 ((to - 1) * k)) (nI .i64 (pEnd b.length k (to - 1) - (to - 1) * k)) H = .val (nI .i64 ((to - 1) * k + (pEnd b.length k (to - 1) - (to - 1) * k))) H := fun H => addV_i (by omega) H
  have A3 : ∀ H, subV (nI .i64 lw) (nI .i64 (fr * k)) H = .val (nI .i64 (lw - fr * k)) H := fun H => subV_i (by omega) (by omega) H
  have A4 : ∀ H, addV (nI .i64 (lw - fr * k)) (nI .i64 wl) H = .val (nI .i64 (lw - fr * k + wl)) H := fun H => addV_i (by omega) H
  have A5 : ∀ H, addV (nI .i64 lw) (nI .i64 wl) H = .val (nI .i64 (lw + wl)) H := fun H => addV_i (by omega) H
  clear s1 s2 y1 y2 y17 y19 y1A y27 y29 y2A lv lv7 lv9 lvA ic hL q1 q2 q3 q4 q5 wv we hm
  simp (maxSteps := 1000000) only [leaveB_same, thenR_norm, eR, z0, z6, z13, z14, z17, z20, z21, f0, f1, f2, f3, h1, h2, h3, h4, nw, A1, A2, A3, A4, A5, cmpV_ge, cmpV_lt, cmpV_gt, cmpV_le, eu, e13, e9w, Nat.zero_add, Base9G, N8G, HpG, Nat.zero_add, stepK_freeG, stepK_readG, stepK_effG, guardK_tt, guardK_ft, guardK_ff, guardK_tf, seqG_if, AV.bool.injEq, Bool.false_eq_true, Bool.true_eq_false, lowV_agg, lowV_undef, lowV_str, isSame_nI, oSlice_run, oMinMax_run, oBuild_run, oBSlice_run, oAppend_run, Option.map_none, Option.map_some, List.map_cons, List.map_nil, oLenS_run, oExtr_run, pickV_t, pickV_f, notV_b, oBox_run, gtr10, gtr13, gtr14, gtr15, gtr16, gtr17, gtr20, gtr21, gtr22, gtr101, gtr102, gtr103, gtr104, gtr105, gtr106, gtr107, gtr108, gtr109, gtr110, gtr111, gtr112, gtr113, gtr114, gtr115, gtr116, gtr117, gtr118, gtr119, gtr120, gtr121, gtr122, gtr123, gtr124, gtr125, gtr126, gtr127, gtr128, gtr129, gtr130, gtr131, gtr132, gtr133, gtr134, gtr135, gtr136, gtr165, gtr166, gtr167, gtr168, gtr169, gtr170, gtr171, gtr172, gtr173, gtr174, gtr175, gtr176, gtr177, gtr178, gtr179, gtr180, gtr181, gtr182, gtr183, gtr184, gtr185, gtr186, gtr187, gtr188, gtr189, gtr190, gtr191, gtr192, gtr193, gtr194, gtr195, gtr196, gtr197, gtr198, gtr199, gtr200, gtr201, gtr202, gtr203, gtr204, gtr205, gtr206, gtr207, gtr208, gtr209, gtr210, gtr211, gtr212, gtr213, gtr214, gtr215, gtr216, str6, str17, str22, str101, str102, str103, str104, str105, str106, str107, str108, str109, str110, str111, str112, str113, str114, str115, str116, str117, str118, str119, str120, str121, str122, str123, str124, str125, str126, str127, str128, str129, str130, str131, str132, str133, str134, str135, str136, str137, str138, str165, str166, str167, str168, str169, str170, str171, str172, str173, str174, str175, str176, str177, str178, str179, str180, str181, str182, str183, str184, str185, str186, str187, str188, str189, str190, str191, str192, str193, str194, str195, str196, str197, str198, str199, str200, str201, str202, str203, str204, str205, str206, str207, str208, str209, str210, str211, str212, str213, str214, str215, str216, ↓reduceIte]
  exact ⟨_, _, rfl, rfl⟩
end
end Go.AI

namespace Go.AI
open Go
noncomputable section
variable {lib : Nat → List AV → Heap → Option CR} {fs : T CF} {fuel : Nat}

variable {sh : List UInt8 → List UInt8}
theorem t0_run {n : Nat} (hl1 : ∀ l H, lib 25 l H = none) (hf1 : fs.get 25 = some c25) (hl2 : ∀ l H, lib 26 l H = none) (hf2 : fs.get 26 = some c26) (hl3 : ∀ l H, lib 11 l H = none) (hf3 : fs.get 11 = some c11) (hl4 : ∀ l H, lib 12 l H = none) (hf4 : fs.get 12 = some c12) (hl5 : ∀ l H, lib 13 l H = none) (hf5 : fs.get 13 = some c13) (hl6 : ∀ l H, lib 4 l H = none) (hf6 : fs.get 4 = some c4) (h32 : ∀ l, (sh l).length = 32) (hF : 301 < fuel) {b : List UInt8} {a v : AV} {k m eb lo : Nat} {H Hx : Heap} (hro : H.ro ≤ H.nx) {re : Row} {yld : Nat → List AV → Heap → CR} {rng : AV → (List AV → Heap → CR) → TM → Heap → X → Res} {x : X} {tm : TM} {z1 z2 : Int} (hz1 : -32768 ≤ z1) (hz2 : z1 < 32768) (hz3 : -32768 ≤ z2) (hz4 : z2 < 32768)
    (t0 : gt0 tm = a) (t6 : gt6 tm = .bool false) (t7 : gt7 tm = .int .i16 z1) (t8 : gt8 tm = .int .i16 z2) (t10 : gt10 tm = .ptr eb 0)
    (oe : Own H eb 40 (entL b.length v) re) (heb : eb < H.nx) (hlo : lo ≤ H.nx) (rv : RBuf H v 45 35 (chs sh b k m) lo) (kx : Keep Hx H []) (ha : ArgS Hx a b)
    (hb : b.length ≤ 300) (hm : ∀ i, i < m → i * k < b.length) (hm2 : m ≤ 300) (hm3 : b.length ≤ m * k) (hk : 1 ≤ k) (hk2 : k ≤ 40)
    {tg : AV} (hC : ∀ H', Keep Hx H' [] → lib 47 [.str [102]] H' = some (.ret (.tup [nI .i64 1, tg]) H')) (hT : ∀ H', Keep Hx H' [] → lib 48 [.agg memL] H' = some (.ret (.bool true) H')) (hW : ∀ H', Keep Hx H' [] → lib 9 [] H' = some (.ret (.bool true) H')) :
    ∃ tm' H', c4_t0 ⟨callN lib fs fuel (n + 3), yld, rng, fuel, false⟩ tm H x = .ok .ret tm' H' x ∧ gt6 tm' = .bool true := by
  simp only [gtr0, gtr6, gtr7, gtr8, gtr10] at t0 t6 t7 t8 t10
  have lE : loadV 12 (.ptr eb 0) H = .val (.agg (entL b.length v)) H := by
    rw [loadV_row oe.at_ oe.cells (by show 0 + 12 ≤ 12; omega)]; rfl
  have bs := bsliceV_rec (e := 40) (sz := 12) (zs := enZ) (vs := entL b.length v) rfl rfl (by omega) H
  generalize h4 : H.new (.row ⟨40, 12, lenL (entL b.length v), T.ofList (entL b.length v), .unk, 0, false, true, true⟩) = H4 at bs
  have k4 : Keep H H4 [] := by rw [← h4]; exact Keep.new H _ []
  have n4 : H4.nx = H.nx + 1 := by rw [← h4]; rfl
  have g4 : H4.t.get H.nx = some (.row ⟨40, 12, lenL (entL b.length v), T.ofList (entL b.length v), .unk, 0, false, true, true⟩) := by rw [← h4, new_get, if_pos rfl]
  have bd : ∀ G, buildV [.nils] [(0, 1, .slice H.nx 0 1 none)] G = .val (.agg [.slice H.nx 0 1 none]) G := fun _ => rfl
  have r4 := rv.below (fun c _ h2 => k4.get c h2 (by simp)) k4.ro k4.nx
  have kx4 := kx.trans' k4
  obtain ⟨H5, e11, k5⟩ := may_run (n := n) (fuel := fuel) hl1 hf1 hl2 hf2 hl3 hf3 h32 (H := H4) (by rw [k4.ro]; omega) (by omega) r4 (by omega) hm (by omega) hm3 hk (by omega) (by omega) (by omega) g4 (Cells.new ..) (by omega) (fun H' q => hC H' (kx4.trans' q)) (fun H' q => hT H' (kx4.trans' q))
  have k45 := k4.trans' k5
  have n5 := k45.nx
  have oe5 : Own H5 eb 40 (entL b.length v) re := ⟨by rw [k45.get _ heb (by simp)]; exact oe.at_, oe.elem, oe.sz, oe.own, oe.fz, oe.sm, oe.cells, by rw [k45.ro]; exact oe.ro⟩
  have r5 := rv.below (fun c _ h2 => k45.get c h2 (by simp)) k45.ro k45.nx
  have lE5 : loadV 12 (.ptr eb 0) H5 = .val (.agg (entL b.length v)) H5 := by
    rw [loadV_row oe5.at_ oe5.cells (by show 0 + 12 ≤ 12; omega)]; rfl
  obtain ⟨H6, e12, k6⟩ := touched_run (n := n + 2) (fuel := fuel) hl4 hf4 h32 (H := H5) (by rw [k45.ro]; omega) (by omega) r5 (by omega) hm (by omega) (by omega) (z1 := z1) (z2 := z2) (by omega) (by omega)
  have k56 := k45.trans' k6
  have n6 := k56.nx
  have oe6 : Own H6 eb 40 (entL b.length v) re := ⟨by rw [k56.get _ heb (by simp)]; exact oe.at_, oe.elem, oe.sz, oe.own, oe.fz, oe.sm, oe.cells, by rw [k56.ro]; exact oe.ro⟩
  have r6 := rv.below (fun c _ h2 => k56.get c h2 (by simp)) k56.ro k56.nx
  have kx5 := kx.trans' k45
  have kx6 := kx.trans' k56
  generalize hlw : min z1.toNat b.length = lw
  generalize hhi : min (lw + z2.toNat) b.length = hi
  obtain ⟨w, ew, gw⟩ := slice_part ha (p := lw) (q := hi) (by omega) (by omega)
  have ew := ew H5 fun c hc => kx5.get c hc (by simp)
  generalize hwl : hi - lw = wl at gw
  have ew2 : minV false [nI .i64 z1.toNat, nI .i64 b.length] = fun H => .val (nI .i64 lw) H := by funext H; rw [minV_two, hlw]
  have ew3 : minV false [nI .i64 (lw + z2.toNat), nI .i64 b.length] = fun H => .val (nI .i64 hi) H := by funext H; rw [minV_two, hhi]
  have a1 : ∀ H, addV (nI .i64 lw) (nI .i64 z2.toNat) H = .val (nI .i64 (lw + z2.toNat)) H := fun H => addV_i (by omega) H
  have c1 : ∀ H, intV .i64 (.int .i16 z1) H = .val (.int .i64 z1) H := fun H => intV_wide (by omega) (by omega) H
  have c2 : ∀ H, intV .i64 (.int .i16 z2) H = .val (.int .i64 z2) H := fun H => intV_wide (by omega) (by omega) H
  have hM : min z2.toNat (b.length - z1.toNat) = wl := by omega
  rw [hM] at e12
  generalize hft : tfold b.length k z1.toNat wl m = ft at e12
  obtain ⟨fr, to⟩ := ft
  simp only [c4_t0, t0, t6, t7, t8, t10, lE, bs, bd, e11, lE5, e12, ha.1.len, ew, ew2, ew3, a1, c1, c2, minV_nat, cond_true, cond_false, extrV_0, extrV_1, Base9G, N8G, HpG, Nat.zero_add, XsG, stepK_freeG, stepK_readG, stepK_effG, Option.map_none, Option.map_some, List.map_cons, List.map_nil, gtr0, gtr7, gtr8, gtr10, gtr13, gtr70, gtr71, gtr72, gtr73, gtr74, gtr75, gtr76, gtr77, gtr78, gtr79, gtr80, gtr81, gtr82, gtr83, gtr84, gtr85, gtr86, gtr87, gtr88, gtr89, gtr90, gtr91, gtr92, gtr93, gtr94, gtr95, gtr96, gtr97, gtr98, gtr99, gtr100, str6, str13, str14, str15, str16, str70, str71, str72, str73, str74, str75, str76, str77, str78, str79, str80, str81, str82, str83, str84, str85, str86, str87, str88, str89, str90, str91, str92, str93, str94, str95, str96, str97, str98, str99, str100]
  by_cases hw0 : 0 < wl
  · obtain ⟨fr', to', e, h1, h2, h3, h4, h5, h6, h7⟩ := tfold_is (n := b.length) (k := k) (A := z1.toNat) (M := wl) (m := m) hk hw0 (by omega) hm hm3
    rw [hft] at e
    injection e with e1 e2
    subst e1; subst e2
    have : z1.toNat = lw := by omega
    rw [this] at h3 h4 h5 h6 h7
    exact t1_some (n := n + 2) hl5 hf5 h32 hF (by rw [k56.ro]; omega) ⟨t0, t6, t10, rfl, rfl, rfl, rfl⟩ oe6 (by omega) r6 kx6 ha gw hb hm hm2 hk hw0 h1 h2 h3 h4 h5 h6 h7 hW
  · obtain rfl : wl = 0 := by omega
    rw [tfold_none] at hft
    injection hft with e1 e2
    subst e1; subst e2
    rw [List.take_zero] at gw
    exact t1_none (n := n + 2) ⟨t0, t6, t10, rfl, rfl, rfl, rfl⟩ oe6 r6 kx6 gw hW
theorem law_run {n : Nat} (hl1 : ∀ l H, lib 25 l H = none) (hf1 : fs.get 25 = some c25) (hl2 : ∀ l H, lib 26 l H = none) (hf2 : fs.get 26 = some c26) (hl3 : ∀ l H, lib 11 l H = none) (hf3 : fs.get 11 = some c11) (hl4 : ∀ l H, lib 12 l H = none) (hf4 : fs.get 12 = some c12) (hl5 : ∀ l H, lib 13 l H = none) (hf5 : fs.get 13 = some c13) (hl6 : ∀ l H, lib 4 l H = none) (hf6 : fs.get 4 = some c4) (h32 : ∀ l, (sh l).length = 32) (hF : 301 < fuel) {H : Heap} {a : AV} {l0 : List UInt8} (h0 : ArgS H a l0) (hro : H.ro ≤ H.nx)
    {s : Nat} {z1 z2 : Int} (hz1 : -32768 ≤ z1) (hz2 : z1 < 32768) (hz3 : -32768 ≤ z2) (hz4 : z2 < 32768)
    (hS : ∀ w l, ArgS H w l → l.length ≤ 300 → ∀ H', Keep H H' [] → lib 10 [w] H' = some (.ret (.agg ((sh l).map u8V)) H'))
    {tg : AV} (hC : ∀ H', Keep H H' [] → lib 47 [.str [102]] H' = some (.ret (.tup [nI .i64 1, tg]) H')) (hT : ∀ H', Keep H H' [] → lib 48 [.agg memL] H' = some (.ret (.bool true) H')) (hW : ∀ H', Keep H H' [] → lib 9 [] H' = some (.ret (.bool true) H')) :
    ∃ H', callN lib fs fuel (n + 4) 4 [a, nI .u8 s, .agg [.int .i16 z1, .int .i16 z2]] H = .ret (.bool true) H' := by
  rw [callN_fn (hl6 _ _) hf6]
  have box : boxV 31 (.agg [.int .i16 z1, .int .i16 z2]) H = .val (.ptr H.nx 0) (H.newRow 31 1 [.int .i16 z1, .int .i16 z2] true) := rfl
  generalize ha : H.newRow 31 1 [AV.int .i16 z1, .int .i16 z2] true = H1 at box
  have n1 : H1.nx = H.nx + 1 := by rw [← ha]; rfl
  have k1 : Keep H H1 [] := by rw [← ha]; exact Keep.new H _ []
  have g1 : H1.t.get H.nx = some (.row ⟨31, 1, lenL [AV.int .i16 z1, .int .i16 z2], T.ofList [.int .i16 z1, .int .i16 z2], .unk, 0, false, true, true⟩) := by rw [← ha, newRow_eq, new_get, if_pos rfl]
  have c1 := Cells.new 31 1 [AV.int .i16 z1, .int .i16 z2] 0 false true true
  have x0 : load1V (.ptr H.nx 0) ⟨H1.nx, H1.t, H1.nx⟩ = .val (.int .i16 z1) ⟨H1.nx, H1.t, H1.nx⟩ := load1V_row (H := ⟨H1.nx, H1.t, H1.nx⟩) g1 c1 (o := 0) (by show 0 < 2; omega)
  have x1 : load1V (.ptr H.nx 1) ⟨H1.nx, H1.t, H1.nx⟩ = .val (.int .i16 z2) ⟨H1.nx, H1.t, H1.nx⟩ := load1V_row (H := ⟨H1.nx, H1.t, H1.nx⟩) g1 c1 (o := 1) (by show 1 < 2; omega)
  have w0 : lowV H1.nx (.ptr H.nx 0) = true := lowV_ptr (by omega) _
  have sx := isSame_int .i16 z1 H1.nx H1.t
  have sy := isSame_int .i16 z2 H1.nx H1.t
  obtain ⟨a1, ea, ga⟩ := slice_take h0 (k := min l0.length 300) (by omega)
  have ea := ea H1 fun c hc => k1.get c hc (by simp)
  generalize hb : l0.take (min l0.length 300) = b at ga
  have hbl : b.length ≤ 300 := by rw [← hb, List.length_take]; omega
  generalize hk : 1 + s % 40 = k
  have hk1 : 1 ≤ k := by omega
  have hk2 : k ≤ 40 := by omega
  have al : ∀ tm, oAlloc 40 enZ tm H1 = .val (.ptr H1.nx 0) (H1.newRow 40 1 enZ true) := fun tm => oAlloc_run _ _ (by decide) tm H1
  obtain ⟨Hb, re, st, oe, kb, nxb, _⟩ := lay (H := H1) (by rw [k1.ro]; omega) (e := 40) (n := 12) (zs := enZ) (vs := entL b.length .nils) (by omega) rfl rfl
  have kx := k1.trans' kb
  have bd1 : ∀ H, buildV [nI .i64 0, nI .u32 0, nI .u32 0, nI .u32 0, nI .i64 0, .nils, .nils, .str []] [(0, 1, nI .i64 2)] H = .val (.agg [nI .i64 2, nI .u32 0, nI .u32 0, nI .u32 0, nI .i64 0, .nils, .nils, .str []]) H := fun _ => rfl
  have bd2 : ∀ H, buildV [.str [], nI .i64 0, nI .u32 0, nI .u32 0, nI .u32 0, nI .i64 0, .nils, .nils, .str []] [(0, 1, .str [102]), (1, 8, .agg [nI .i64 2, nI .u32 0, nI .u32 0, nI .u32 0, nI .i64 0, .nils, .nils, .str []])] H = .val (.agg memL) H := fun _ => rfl
  have bd3 : ∀ H, buildV enZ [(0, 9, .agg memL), (9, 1, nI .i64 b.length)] H = .val (.agg (entL b.length .nils)) H := fun _ => rfl
  have i40 : ∀ H, intV .i64 (nI .u8 (s % 40)) H = .val (nI .i64 (s % 40)) H := fun H => intV_nat (by omega) H
  have r40 : ∀ H, remV (nI .u8 s) (nI .u8 40) H = .val (nI .u8 (s % 40)) H := fun H => remV_k (by omega) H
  have a40 : ∀ H, addV (nI .i64 1) (nI .i64 (s % 40)) H = .val (nI .i64 k) H := fun H => by rw [addV_i (by omega), hk]
  simp (disch := omega) only [c4, c4_r0, argsT_3, box, idxAV_ptr, x0, x1, w0, sx, sy, lowV_int, h0.1.len, ga.1.len, minV_two, ea, i40, r40, a40, bd1, bd2, bd3, al, st, loopD_run, Nat.zero_add, Base9G, N8G, HpG, Nat.zero_add, drawnD_run, planD_nil, planD_cons, normF_run, stepK_free, stepK_read, stepK_eff, freeK_val, readK_val, effK_val, effK_call, retK_ret, keepR_nil, keepR_cons, still_nil, still_cons, rdOk_run, isSame_u32, isSame_u8, isSame_nI, lowOs_nil, lowOs_cons, lowV_nI, lowV_u32, lowV_u8, lowV_bool, rsF_nil, rsF_cons, List.map_cons, List.map_nil, cond_true, cond_false, Nat.testBit_eq_decide_div_mod_eq, Nat.reducePow, Nat.reduceDiv, Nat.reduceMod, decide_true, Nat.reduceEqDiff, decide_false, reduceCtorEq, Nat.zero_ne_one, XsG, stepK_freeG, stepK_readG, stepK_effG, Option.map_none, Option.map_some, List.map_cons, List.map_nil, gtr0, gtr1, gtr2, gtr5, gtr6, gtr10, gtr23, gtr24, gtr25, gtr26, gtr27, gtr28, gtr29, gtr30, gtr31, gtr32, gtr33, gtr34, gtr35, gtr36, gtr37, gtr38, gtr39, gtr40, str0, str5, str6, str7, str8, str9, str10, str11, str23, str24, str25, str26, str27, str28, str29, str30, str31, str32, str33, str34, str35, str36, str37, str38, str39, str40, str0, str1, str2, gtr0, gtr1, gtr2]
  generalize hL : loopN (c4_l0 _) fuel _ _ _ = L
  generalize hm0 : (b.length + k - 1) / k = m
  have hm : ∀ i, i < m → i * k < b.length := fun i hi => by
    rw [← hm0] at hi
    have := (Nat.le_div_iff_mul_le (show 0 < k by omega)).1 (show i + 1 ≤ (b.length + k - 1) / k from hi)
    rw [Nat.add_mul, Nat.one_mul] at this
    omega
  have hm3 : b.length ≤ m * k := by
    have := (Nat.div_lt_iff_lt_mul (show 0 < k by omega)).1 (show (b.length + k - 1) / k < m + 1 by omega)
    rw [Nat.add_mul, Nat.one_mul] at this
    omega
  have hm2 : m ≤ 300 := by
    refine Nat.le_of_not_lt fun h => ?_
    have := hm 300 h
    have : 300 ≤ 300 * k := Nat.le_mul_of_pos_right 300 hk1
    omega
  have gx := ga
  obtain ⟨tm1, H3, rfl, z⟩ := after_loop (P := fun T => LB a1 b sh k m H1.nx (.int .i16 z1) (.int .i16 z2) Hb 0 T Hb) (Q := LB a1 b sh k m H1.nx (.int .i16 z1) (.int .i16 z2) Hb m)
    (fun T hi => loopN_exit (LB a1 b sh k m H1.nx (.int .i16 z1) (.int .i16 z2) Hb) (LB a1 b sh k m H1.nx (.int .i16 z1) (.int .i16 z2) Hb m) m (fun i tm H' hi h => lb_step (n := n + 2) h32 (by rw [kx.ro]; omega) (by omega) (Hx := H) (by omega) kx ga hS hbl hm hm2 hk1 hk2 _ i tm H' hi h) (fun tm H' h => lb_last (Hx := H) (by omega) kx ga hm3 _ _ tm H' h) m 0 fuel T Hb (Nat.zero_add _) (by omega) hi) hL
    ⟨rfl, rfl, rfl, rfl, rfl, rfl, by rw [Nat.zero_mul]; rfl, Keep.refl _ _, re, .nils, oe, .inl ⟨rfl, rfl⟩⟩
  obtain ⟨r3, v3, oe3, rv3⟩ := z.ent
  have k3 := z.keep
  have n3 := k3.nx
  obtain ⟨tm2, H4, e4, e6⟩ := t0_run (n := n) (fuel := fuel) hl1 hf1 hl2 hf2 hl3 hf3 hl4 hf4 hl5 hf5 hl6 hf6 h32 hF (b := b) (k := k) (m := m) (x := ⟨[], none⟩) (tm := tm1) (yld := noYield) (rng := rangeK fs fuel (callN lib fs fuel (n + 3))) (by rw [k3.ro, kx.ro]; omega) hz1 hz2 hz3 hz4 z.t0 z.t6 z.t7 z.t8 z.t10 oe3 (by omega) n3 rv3 (kx.trans k3 (fun c hc hlt => by simp at hc; omega)) ga hbl hm hm2 hm3 hk1 hk2 hC hT hW
  simp only [leaveB_same, thenR_norm, e4]
  rw [outF_ret]
  exact ⟨H4, by rw [results_one, e6]⟩
end
end Go.AI
