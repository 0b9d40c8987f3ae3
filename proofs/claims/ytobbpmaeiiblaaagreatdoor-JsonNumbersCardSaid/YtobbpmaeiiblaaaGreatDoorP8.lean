/- Numbers in digits; the code of the functions that format and read numbers, walked on any number: proved without conditions but those that each names. -/
import Derived.Test.YtobbpmaeiiblaaaGreatDoorP7
import Derived.Test.YtobbpmaeiiblaaaGreatDoorProg
import Derived.KernelRfl
set_option maxRecDepth 1000000
set_option maxHeartbeats 0
set_option linter.unusedVariables false
set_option linter.unusedSimpArgs false
/- Numbers in digits: plain laws. -/
namespace Go.AI
def dig (d : Nat) : UInt8 := UInt8.ofNat (48 + d)
theorem dig_nat {d : Nat} (h : d < 10) : (dig d).toNat = 48 + d := by
  unfold dig
  rw [UInt8.toNat_ofNat_of_lt' (show 48 + d < UInt8.size by unfold UInt8.size; omega)]
/-- the last k digits -/
def decP : Nat → Nat → List UInt8
  | 0, _ => []
  | k + 1, n => decP k (n / 10) ++ [dig (n % 10)]
theorem decP_len : ∀ k n, (decP k n).length = k
  | 0, _ => rfl
  | k + 1, n => by show (decP k (n / 10) ++ [dig (n % 10)]).length = _; rw [List.length_append, decP_len k]; rfl
theorem decP_digit : ∀ k n c, c ∈ decP k n → 48 ≤ c.toNat ∧ c.toNat ≤ 57
  | 0, _, _, h => by cases h
  | k + 1, n, c, h => by
    rcases List.mem_append.1 h with h | h
    · exact decP_digit k _ c h
    · have h := List.mem_singleton.1 h
      subst h
      rw [dig_nat (Nat.mod_lt _ (by decide))]
      have := Nat.mod_lt n (show 0 < 10 by decide)
      omega
def undec (l : List UInt8) : Nat := l.foldl (fun n c => 10 * n + (c.toNat - 48)) 0
theorem undec_push (l : List UInt8) (c : UInt8) : undec (l ++ [c]) = 10 * undec l + (c.toNat - 48) := by unfold undec; rw [List.foldl_append]; rfl
theorem undec_decP : ∀ k n, n < 10 ^ k → undec (decP k n) = n
  | 0, n, h => by simp at h; subst h; rfl
  | k + 1, n, h => by
    show undec (decP k (n / 10) ++ [dig (n % 10)]) = n
    rw [undec_push, undec_decP k (n / 10) (by rw [Nat.pow_succ] at h; omega), dig_nat (Nat.mod_lt _ (by decide))]
    omega
/-- how many digits -/
def nd10 (n : Nat) : Nat := if n < 10 then 1 else nd10 (n / 10) + 1
theorem nd10_lt {n : Nat} (h : n < 10) : nd10 n = 1 := by rw [nd10, if_pos h]
theorem nd10_ge {n : Nat} (h : 10 ≤ n) : nd10 n = nd10 (n / 10) + 1 := by rw [nd10, if_neg (by omega)]
theorem nd10_pos (n : Nat) : 1 ≤ nd10 n := by
  by_cases h : n < 10
  · rw [nd10_lt h]; exact Nat.le_refl _
  · rw [nd10_ge (by omega)]; omega
theorem nd10_is : ∀ k n, 10 ^ k ≤ n → n < 10 ^ (k + 1) → nd10 n = k + 1
  | 0, n, _, h => nd10_lt (by simpa using h)
  | k + 1, n, h1, h2 => by
    have h3 : 10 ^ (k + 1) = 10 ^ k * 10 := Nat.pow_succ ..
    have h4 : 10 ^ (k + 1 + 1) = 10 ^ (k + 1) * 10 := Nat.pow_succ ..
    have h5 : 1 ≤ 10 ^ k := Nat.one_le_pow _ _ (by decide)
    rw [nd10_ge (by omega), nd10_is k (n / 10) (by omega) (by omega)]
theorem lt_nd10 (n : Nat) : n < 10 ^ nd10 n := by
  induction n using Nat.strongRecOn with
  | ind n ih =>
    by_cases h : n < 10
    · rw [nd10_lt h]; simpa using h
    · rw [nd10_ge (by omega), Nat.pow_succ]
      have := ih (n / 10) (by omega)
      omega
theorem nd10_le {n k : Nat} (hk : 1 ≤ k) (h : n < 10 ^ k) : nd10 n ≤ k := by
  by_cases h0 : n < 10
  · rw [nd10_lt h0]; exact hk
  · obtain ⟨j, hj⟩ : ∃ j, nd10 n = j + 1 := ⟨nd10 n - 1, by have := nd10_pos n; omega⟩
    rw [hj]
    by_cases hlt : k < j + 1
    · have h1 : 10 ^ j ≤ n := by
        have : ∀ n j, nd10 n = j + 1 → 10 ≤ n → 10 ^ j ≤ n := by
          intro n
          induction n using Nat.strongRecOn with
          | ind n ih =>
            intro j hj hn
            rw [nd10_ge hn] at hj
            by_cases h2 : n / 10 < 10
            · rw [nd10_lt h2] at hj
              obtain rfl : j = 1 := by omega
              simpa using hn
            · obtain ⟨i, rfl⟩ : ∃ i, j = i + 1 := ⟨j - 1, by have := nd10_pos (n / 10); omega⟩
              have := ih (n / 10) (by omega) i (by omega) (by omega)
              rw [Nat.pow_succ]; omega
        exact this n j hj (by omega)
      have h2 : 10 ^ k ≤ 10 ^ j := Nat.pow_le_pow_right (by decide) (by omega)
      omega
    · omega
def dec (n : Nat) : List UInt8 := decP (nd10 n) n
theorem dec_len (n : Nat) : (dec n).length = nd10 n := decP_len ..
theorem undec_dec (n : Nat) : undec (dec n) = n := undec_decP _ _ (lt_nd10 n)
theorem dec_digit {n : Nat} {c : UInt8} (h : c ∈ dec n) : 48 ≤ c.toNat ∧ c.toNat ≤ 57 := decP_digit _ _ _ h
theorem dec_lt {n : Nat} (h : n < 10) : dec n = [dig n] := by
  unfold dec; rw [nd10_lt h]; show [] ++ [dig (n % 10)] = _; rw [Nat.mod_eq_of_lt h]; rfl
theorem dec_ge {n : Nat} (h : 10 ≤ n) : dec n = dec (n / 10) ++ [dig (n % 10)] := by
  unfold dec; rw [nd10_ge h]; rfl
theorem dec_head (n : Nat) (h : n ≠ 0) : (dec n).getD 0 0 ≠ 48 := by
  induction n using Nat.strongRecOn with
  | ind n ih =>
    by_cases h0 : n < 10
    · rw [dec_lt h0]
      show dig n ≠ 48
      intro e
      have := congrArg UInt8.toNat e
      rw [dig_nat h0] at this
      have : 48 + n = 48 := this
      omega
    · rw [dec_ge (by omega)]
      have := ih (n / 10) (by omega) (by omega)
      have hp : 0 < (dec (n / 10)).length := by rw [dec_len]; exact nd10_pos _
      rw [List.getD_eq_getElem?_getD, List.getElem?_append_left hp, ← List.getD_eq_getElem?_getD]
      exact this
theorem dec_zero : dec 0 = [48] := by rw [dec_lt (by decide)]; rfl
def fmtI (z : Int) : List UInt8 := if z < 0 then 45 :: dec z.natAbs else dec z.natAbs
end Go.AI

/- Codes of functions: printed by a program of mine. -/
namespace Go.AI
open Go.Proofs N8
noncomputable section
def lit21 : List UInt8 := [48, 49, 50, 51, 52, 53, 54, 55, 56, 57, 97, 98, 99, 100, 101, 102, 103, 104, 105, 106, 107, 108, 109, 110, 111, 112, 113, 114, 115, 116, 117, 118, 119, 120, 121, 122]
def lit22 : List UInt8 := [48, 48, 48, 49, 48, 50, 48, 51, 48, 52, 48, 53, 48, 54, 48, 55, 48, 56, 48, 57, 49, 48, 49, 49, 49, 50, 49, 51, 49, 52, 49, 53, 49, 54, 49, 55, 49, 56, 49, 57, 50, 48, 50, 49, 50, 50, 50, 51, 50, 52, 50, 53, 50, 54, 50, 55, 50, 56, 50, 57, 51, 48, 51, 49, 51, 50, 51, 51, 51, 52, 51, 53, 51, 54, 51, 55, 51, 56, 51, 57, 52, 48, 52, 49, 52, 50, 52, 51, 52, 52, 52, 53, 52, 54, 52, 55, 52, 56, 52, 57, 53, 48, 53, 49, 53, 50, 53, 51, 53, 52, 53, 53, 53, 54, 53, 55, 53, 56, 53, 57, 54, 48, 54, 49, 54, 50, 54, 51, 54, 52, 54, 53, 54, 54, 54, 55, 54, 56, 54, 57, 55, 48, 55, 49, 55, 50, 55, 51, 55, 52, 55, 53, 55, 54, 55, 55, 55, 56, 55, 57, 56, 48, 56, 49, 56, 50, 56, 51, 56, 52, 56, 53, 56, 54, 56, 55, 56, 56, 56, 57, 57, 48, 57, 49, 57, 50, 57, 51, 57, 52, 57, 53, 57, 54, 57, 55, 57, 56, 57, 57]
def lit24 : List UInt8 := [0, 1, 2, 2, 3, 3, 3, 3, 4, 4, 4, 4, 4, 4, 4, 4, 5, 5, 5, 5, 5, 5, 5, 5, 5, 5, 5, 5, 5, 5, 5, 5, 6, 6, 6, 6, 6, 6, 6, 6, 6, 6, 6, 6, 6, 6, 6, 6, 6, 6, 6, 6, 6, 6, 6, 6, 6, 6, 6, 6, 6, 6, 6, 6, 7, 7, 7, 7, 7, 7, 7, 7, 7, 7, 7, 7, 7, 7, 7, 7, 7, 7, 7, 7, 7, 7, 7, 7, 7, 7, 7, 7, 7, 7, 7, 7, 7, 7, 7, 7, 7, 7, 7, 7, 7, 7, 7, 7, 7, 7, 7, 7, 7, 7, 7, 7, 7, 7, 7, 7, 7, 7, 7, 7, 7, 7, 7, 7, 8, 8, 8, 8, 8, 8, 8, 8, 8, 8, 8, 8, 8, 8, 8, 8, 8, 8, 8, 8, 8, 8, 8, 8, 8, 8, 8, 8, 8, 8, 8, 8, 8, 8, 8, 8, 8, 8, 8, 8, 8, 8, 8, 8, 8, 8, 8, 8, 8, 8, 8, 8, 8, 8, 8, 8, 8, 8, 8, 8, 8, 8, 8, 8, 8, 8, 8, 8, 8, 8, 8, 8, 8, 8, 8, 8, 8, 8, 8, 8, 8, 8, 8, 8, 8, 8, 8, 8, 8, 8, 8, 8, 8, 8, 8, 8, 8, 8, 8, 8, 8, 8, 8, 8, 8, 8, 8, 8, 8, 8, 8, 8, 8, 8, 8, 8, 8, 8, 8, 8, 8, 8, 8, 8, 8, 8, 8, 8]
def c8_l0 : D := (seqD (seqO (oCmp gt73 (k (nI .i64 8)) iltF strLt) st74 <| normD) (seqD (condD gt74 normD (exitD 0)) (seqD (blockD 1 (seqD (seqO (oIdxAgg1 gt72 gt73 8) st75 <| seqO (oMv gt75) st10 <| normD) (seqD (seqO (oMv gt10) st77 <| seqO (oBytes gt77 5) st78 <| seqO (oCallF 40 [gt78]) st79 <| seqO (oMv gt79) st76 <| seqO (oExtr gt76 0) st80 <| seqO (oExtr gt76 1) st81 <| seqO (oExtr gt76 2) st82 <| seqO (oAlloc 72 [(nI .i64 0), (.bool false), (nI .i64 0), (.str []), .nils, .nils]) st11 <| seqO (oStore gt11 gt80 6) d0 <| seqO (oMv gt81) st12 <| seqO (oMv gt82) st13 <| normD) (seqD (seqO (oMv gt13) st83 <| seqO (oEq gt83 (k (nI .i64 5)) eqI true) st84 <| normD) (condD gt84 (seqD (seqO (oMv (k (.bool false))) st2 <| normD) retD) normD))))) (seqO (oAddS gt73 (k (nI .i64 1))) st85 <| seqO (oMv gt85) st73 <| normD))))
def c8 : CF := ⟨[(gt2, none)], (seqD (seqO (oMv (k (.bool false))) st2 <| normD) (seqD (seqO (oMv gt0) st14 <| seqO (oCallF 45 [gt14, (k (nI .i64 10))]) st15 <| seqO (oMv gt15) st3 <| normD) (seqD (seqO (oMv gt0) st17 <| seqO (oIface gt17 2) st18 <| seqO (oCallF 43 [gt18]) st19 <| seqO (oCallF 29 [gt19]) st20 <| seqO (oMv gt20) st16 <| seqO (oExtr gt16 0) st21 <| seqO (oExtr gt16 1) st22 <| seqO (oMv gt21) st4 <| seqO (oMv gt22) st5 <| normD) (seqD (seqO (oMv gt3) st24 <| seqO (oBytes gt24 5) st25 <| seqO (oCallF 40 [gt25]) st26 <| seqO (oMv gt26) st23 <| seqO (oExtr gt23 0) st27 <| seqO (oExtr gt23 1) st28 <| seqO (oExtr gt23 2) st29 <| seqO (oAlloc 72 [(nI .i64 0), (.bool false), (nI .i64 0), (.str []), .nils, .nils]) st6 <| seqO (oStore gt6 gt27 6) d0 <| seqO (oMv gt28) st7 <| seqO (oMv gt29) st8 <| normD) (seqD (seqD (seqO (oMv gt5) st30 <| seqO (oEq gt30 (k (nI .i64 0)) eqI true) st31 <| seqO (oMv gt31) st32 <| seqG gt32 false (oMv gt4) st33 <| seqG gt32 false (oStr gt33) st34 <| seqG gt32 false (oMv gt3) st35 <| seqG gt32 false (oEq gt34 gt35 eqS true) st36 <| seqO (oPick gt32 (k (.bool true)) gt36) st37 <| seqO (oMv gt37) st38 <| seqG gt38 false (oMv gt8) st39 <| seqG gt38 false (oEq gt39 (k (nI .i64 0)) eqI true) st40 <| seqO (oPick gt38 (k (.bool true)) gt40) st41 <| seqO (oMv gt41) st42 <| seqG gt42 false (oOff gt6 0) st43 <| seqG gt42 false (oLoad1 gt43) st44 <| seqG gt42 false (oEq gt44 (k (nI .i64 3)) eqI true) st45 <| seqO (oPick gt42 (k (.bool true)) gt45) st46 <| seqO (oMv gt46) st47 <| seqG gt47 false (oOff gt6 2) st48 <| seqG gt47 false (oLoad1 gt48) st49 <| seqG gt47 false (oMv gt0) st50 <| seqG gt47 false (oEq gt49 gt50 eqI true) st51 <| seqO (oPick gt47 (k (.bool true)) gt51) st52 <| normD) (condD gt52 (seqD (seqO (oMv (k (.bool false))) st2 <| normD) retD) normD)) (seqD (seqD (seqO (oMv gt3) st53 <| seqO (oAddS gt53 (k (.str [46, 48]))) st54 <| seqO (oMv gt3) st55 <| seqO (oAddS gt55 (k (.str [101, 49]))) st56 <| seqO (oMv gt3) st57 <| seqO (oAddS gt57 (k (.str [69, 48]))) st58 <| seqO (oMv gt3) st59 <| seqO (oAddS (k (.str [43])) gt59) st60 <| seqO (oMv gt3) st61 <| seqO (oAddS (k (.str [48])) gt61) st62 <| seqO (oCallF 46 [gt62, (k (.str [48, 45])), (k (.str [45, 48])), (k (nI .i64 1))]) st63 <| seqO (oMv gt3) st64 <| seqO (oAddS gt64 (k (.str [120]))) st65 <| seqO (oMv gt3) st66 <| seqO (oAddS (k (.str [45, 45])) gt66) st67 <| seqO (oMv gt3) st68 <| seqO (oCallF 47 [(k (.str [48])), (k (nI .i64 20))]) st69 <| seqO (oAddS gt68 gt69) st70 <| seqO (oAddS gt70 (k (.str [49]))) st71 <| seqO (oBuild [(.str []), (.str []), (.str []), (.str []), (.str []), (.str []), (.str []), (.str [])] [⟨0, 1, gt54⟩, ⟨1, 1, gt56⟩, ⟨2, 1, gt58⟩, ⟨3, 1, gt60⟩, ⟨4, 1, gt63⟩, ⟨5, 1, gt65⟩, ⟨6, 1, gt67⟩, ⟨7, 1, gt71⟩]) st72 <| seqO (oMv (k (nI .i64 0))) st73 <| normD) (blockD 0 (loopD c8_l0))) (seqD (seqO (oCallF 35 []) st86 <| seqO (oMv gt86) st2 <| normD) retD)))))))⟩
def c29 : CF := ⟨[(gt2, none), (gt3, none)], (seqD (seqO (oBox gt0 72) st1 <| seqO (oMv (k .nils)) st2 <| seqO (oMv (k (nI .i64 0))) st3 <| normD) (seqD (seqD (seqO (oLoad gt1 6) st5 <| seqO (oCallF 33 [gt5]) st6 <| seqO (oMv gt6) st4 <| normD) (seqD (seqO (oMv gt4) st7 <| seqO (oEq gt7 (k (nI .i64 0)) eqI true) st8 <| normD) (condD gt8 (seqD (seqO (oMv gt4) st9 <| seqO (oMv (k .nils)) st2 <| seqO (oMv gt9) st3 <| normD) retD) normD))) (seqD (seqO (oLoad gt1 6) st10 <| seqO (oCallF 68 [gt10]) st11 <| seqO (oBytes gt11 5) st12 <| seqO (oMv gt12) st2 <| seqO (oMv (k (nI .i64 0))) st3 <| normD) retD)))⟩
def c33 : CF := ⟨[(gt2, none)], (seqD (seqO (oBox gt0 72) st1 <| seqO (oMv (k (nI .i64 0))) st2 <| normD) (seqD (blockD 0 (seqD (seqO (oLoad gt1 6) st4 <| seqO (oCallF 70 [gt4, (k (nI .i64 32))]) st5 <| seqO (oMv gt5) st3 <| normD) (condD gt3 (seqD (seqO (oMv (k (nI .i64 1))) st2 <| normD) retD) (seqD (seqO (oLoad gt1 6) st7 <| seqO (oCallF 71 [gt7, (k (nI .i64 32))]) st8 <| seqO (oMv gt8) st6 <| normD) (condD gt6 (seqD (seqO (oMv (k (nI .i64 23))) st2 <| normD) retD) normD))))) (seqD (seqO (oMv (k (nI .i64 0))) st2 <| normD) retD)))⟩
def c40 : CF := ⟨[(gt2, some (6, true)), (gt3, some (1, false)), (gt4, some (1, false))], (seqD (seqO (oAlloc 72 [(nI .i64 0), (.bool false), (nI .i64 0), (.str []), .nils, .nils]) st2 <| seqO (oAlloc 3 [(nI .i64 0)]) st3 <| seqO (oAlloc 34 [(nI .i64 0)]) st4 <| normD) (seqD (seqD (seqO (oMv gt0) st6 <| seqO (oLenL gt6) st7 <| seqO (oCmp gt7 (k (nI .i64 16777216)) igtF strGt) st8 <| normD) (condD gt8 (seqD (seqO (oBuild [(nI .i64 0), (.bool false), (nI .i64 0), (.str []), .nils, .nils] []) st9 <| seqO (oStore gt2 gt9 6) d0 <| seqO (oStore gt3 (k (nI .i64 0)) 1) d0 <| seqO (oStore gt4 (k (nI .i64 3)) 1) d0 <| normD) retD) normD)) (seqD (seqO (oFunc 77 [] [gt2, gt3, gt4]) st10 <| seqO (oDefer gt10 []) d0 <| normD) (seqD (seqO (oMv gt0) st11 <| seqO (oStr gt11) st12 <| seqO (oBuild [(.str []), (nI .i64 0)] [⟨0, 1, gt12⟩]) st13 <| seqO (oBox gt13 144) st14 <| seqO (oMv gt14) st5 <| normD) (seqD (seqO (oMv gt5) st15 <| seqO (oCallF 78 [gt15, (k (nI .i64 32))]) st16 <| seqO (oStore gt2 gt16 6) d0 <| normD) (seqD (seqD (seqO (oMv gt5) st17 <| seqO (oCallF 79 [gt17]) st18 <| normD) (seqD (drawnD [⟨oMv gt5, none, [(st5, gt5)], st19, .free, 0, 0⟩, ⟨oNil gt19, none, [(st19, gt19)], st20, .free, 1, 1⟩, ⟨oOff gt20 1, none, [(st20, gt20)], st21, .free, 2, 3⟩, ⟨oLoad1 gt21, none, [(st21, gt21)], st22, .read, 3, 7⟩, ⟨oMv gt5, none, [(st5, gt5)], st23, .free, 4, 0⟩, ⟨oNil gt23, none, [(st23, gt23)], st24, .free, 5, 16⟩, ⟨oOff gt24 0, none, [(st24, gt24)], st25, .free, 6, 48⟩, ⟨oLoad1 gt25, none, [(st25, gt25)], st26, .read, 7, 112⟩, ⟨oLenS gt26, none, [(st26, gt26)], st27, .free, 8, 240⟩, ⟨oCmp gt22 gt27 iltF strLt, none, [(st22, gt22), (st27, gt27)], st28, .free, 9, 511⟩]) (condD gt28 (seqO (oMv gt5) st29 <| seqO (oCallF 80 [gt29]) st30 <| normD) normD))) (seqD (seqO (oLoad gt2 6) st31 <| seqO (oStore gt2 gt31 6) d0 <| seqO (oStore gt3 (k (nI .i64 0)) 1) d0 <| seqO (oStore gt4 (k (nI .i64 0)) 1) d0 <| normD) retD)))))))⟩
def c43 : CF := ⟨[(gt2, some (6, true))], (seqD (seqO (oAlloc 72 [(nI .i64 0), (.bool false), (nI .i64 0), (.str []), .nils, .nils]) st2 <| normD) (seqD (seqD (seqO (oMv gt0) st10 <| normD) (blockD 0 (seqD (seqO (oEq gt10 (k .nili) (eqF true (eqC Tryz.prog (eqT Tryz.prog 9))) false) st11 <| normD) (condD gt11 (seqD (seqO (oMv gt10) st3 <| normD) (seqD (seqO (oBuild [(nI .i64 0), (.bool false), (nI .i64 0), (.str []), .nils, .nils] [⟨0, 1, (k (nI .i64 1))⟩]) st12 <| seqO (oStore gt2 gt12 6) d0 <| normD) retD)) (seqD (seqO (oAssert gt10 4 (.bool false) true) st13 <| seqO (oExtr gt13 1) st14 <| seqO (oExtr gt13 0) st15 <| normD) (condD gt14 (seqD (seqO (oMv gt15) st4 <| normD) (seqD (seqO (oMv gt4) st16 <| seqO (oBuild [(nI .i64 0), (.bool false), (nI .i64 0), (.str []), .nils, .nils] [⟨0, 1, (k (nI .i64 2))⟩, ⟨1, 1, gt16⟩]) st17 <| seqO (oStore gt2 gt17 6) d0 <| normD) retD)) (seqD (seqO (oAssert gt10 2 (nI .i64 0) true) st18 <| seqO (oExtr gt18 1) st19 <| seqO (oExtr gt18 0) st20 <| normD) (condD gt19 (seqD (seqO (oMv gt20) st5 <| normD) (seqD (seqO (oMv gt5) st21 <| seqO (oBuild [(nI .i64 0), (.bool false), (nI .i64 0), (.str []), .nils, .nils] [⟨0, 1, (k (nI .i64 3))⟩, ⟨2, 1, gt21⟩]) st22 <| seqO (oStore gt2 gt22 6) d0 <| normD) retD)) (seqD (seqO (oAssert gt10 3 (nI .i64 0) true) st23 <| seqO (oExtr gt23 1) st24 <| seqO (oExtr gt23 0) st25 <| normD) (condD gt24 (seqD (seqO (oMv gt25) st6 <| normD) (seqD (seqO (oMv gt6) st26 <| seqO (oBuild [(nI .i64 0), (.bool false), (nI .i64 0), (.str []), .nils, .nils] [⟨0, 1, (k (nI .i64 3))⟩, ⟨2, 1, gt26⟩]) st27 <| seqO (oStore gt2 gt27 6) d0 <| normD) retD)) (seqD (seqO (oAssert gt10 9 (.str []) true) st28 <| seqO (oExtr gt28 1) st29 <| seqO (oExtr gt28 0) st30 <| normD) (condD gt29 (seqD (seqO (oMv gt30) st7 <| normD) (seqD (seqO (oMv gt7) st31 <| seqO (oBuild [(nI .i64 0), (.bool false), (nI .i64 0), (.str []), .nils, .nils] [⟨0, 1, (k (nI .i64 4))⟩, ⟨3, 1, gt31⟩]) st32 <| seqO (oStore gt2 gt32 6) d0 <| normD) retD)) (seqD (seqO (oAssert gt10 69 .nils true) st33 <| seqO (oExtr gt33 1) st34 <| seqO (oExtr gt33 0) st35 <| normD) (condD gt34 (seqD (seqO (oMv gt35) st8 <| normD) (seqD (seqO (oMv gt8) st36 <| seqO (oBuild [(nI .i64 0), (.bool false), (nI .i64 0), (.str []), .nils, .nils] [⟨0, 1, (k (nI .i64 5))⟩, ⟨4, 1, gt36⟩]) st37 <| seqO (oStore gt2 gt37 6) d0 <| normD) retD)) (seqD (seqO (oAssert gt10 70 .nils true) st38 <| seqO (oExtr gt38 1) st39 <| seqO (oExtr gt38 0) st40 <| normD) (condD gt39 (seqD (seqO (oMv gt40) st9 <| normD) (seqD (seqO (oMv gt9) st41 <| seqO (oBuild [(nI .i64 0), (.bool false), (nI .i64 0), (.str []), .nils, .nils] [⟨0, 1, (k (nI .i64 6))⟩, ⟨5, 1, gt41⟩]) st42 <| seqO (oStore gt2 gt42 6) d0 <| normD) retD)) normD)))))))))))))))) (seqD (seqO (oBuild [(nI .i64 0), (.bool false), (nI .i64 0), (.str []), .nils, .nils] []) st43 <| seqO (oStore gt2 gt43 6) d0 <| normD) retD)))⟩
def c45 : CF := ⟨[(gt4, none)], (seqD (seqO (oMv (k (.str []))) st4 <| normD) (seqD (seqO (oMv gt0) st5 <| seqO (oMv gt1) st6 <| seqO (oCallF 90 [gt5, gt6]) st7 <| seqO (oMv gt7) st4 <| normD) retD))⟩
def c68_l0 : D := (seqD (seqO (oCmp gt33 gt32 iltF strLt) st34 <| normD) (seqD (condD gt34 normD (exitD 1)) (seqD (blockD 2 (seqD (seqO (oIdxS gt31 gt33 6) st35 <| seqO (oLoad gt35 6) st36 <| seqO (oAlloc 72 [(nI .i64 0), (.bool false), (nI .i64 0), (.str []), .nils, .nils]) st5 <| seqO (oStore gt5 gt36 6) d0 <| normD) (seqO (oMv gt3) st37 <| seqO (oLoad gt5 6) st38 <| seqO (oCallF 68 [gt38]) st39 <| seqO (oBSlice 9 1 1 [(.str [])] [⟨0, 1, gt39⟩]) st40 <| seqO (oAppend gt37 gt40 9 1 16) st41 <| seqO (oMv gt41) st3 <| normD))) (seqO (oAddS gt33 (k (nI .i64 1))) st42 <| seqO (oMv gt42) st33 <| normD))))
def c68_l1 : D := (seqD (seqO (oCmp gt53 gt52 iltF strLt) st54 <| normD) (seqD (condD gt54 normD (exitD 3)) (seqD (blockD 4 (seqD (seqO (oIdxS gt51 gt53 7) st55 <| seqO (oLoad gt55 7) st56 <| seqO (oAlloc 100 [(.str []), (nI .i64 0), (.bool false), (nI .i64 0), (.str []), .nils, .nils]) st8 <| seqO (oStore gt8 gt56 7) d0 <| normD) (drawnD [⟨oMv gt3, none, [(st3, gt3)], st57, .free, 0, 0⟩, ⟨oOff gt8 0, none, [(st8, gt8)], st58, .free, 1, 0⟩, ⟨oLoad1 gt58, none, [(st58, gt58)], st59, .read, 2, 2⟩, ⟨oOff gt8 1, none, [(st8, gt8)], st62, .free, 5, 0⟩, ⟨oLoad gt62 6, none, [(st62, gt62)], st63, .read, 6, 32⟩, ⟨oCallF 113 [gt59], none, [(st59, gt59)], st60, .eff, 3, 6⟩, ⟨oAddS gt60 (k (.str [58])), none, [(st60, gt60)], st61, .free, 4, 14⟩, ⟨oCallF 68 [gt63], none, [(st63, gt63)], st64, .eff, 7, 110⟩, ⟨oAddS gt61 gt64, none, [(st61, gt61), (st64, gt64)], st65, .free, 8, 254⟩, ⟨oBSlice 9 1 1 [(.str [])] [⟨0, 1, gt65⟩], none, [(st65, gt65)], st66, .free, 9, 510⟩, ⟨oAppend gt57 gt66 9 1 16, none, [(st57, gt57), (st66, gt66)], st67, .eff, 10, 1023⟩, ⟨oMv gt67, none, [(st67, gt67)], st3, .eff, 11, 2047⟩]))) (seqO (oAddS gt53 (k (nI .i64 1))) st68 <| seqO (oMv gt68) st53 <| normD))))
def c68 : CF := ⟨[(gt2, none)], (seqD (seqO (oBox gt0 72) st1 <| seqO (oMv (k (.str []))) st2 <| normD) (seqD (seqO (oMv (k .nils)) st3 <| normD) (seqD (seqD (seqO (oOff gt1 0) st9 <| seqO (oLoad1 gt9) st10 <| normD) (blockD 0 (seqD (seqO (oEq gt10 (k (nI .i64 1)) eqI false) st12 <| seqO (oMv gt12) st11 <| normD) (condD gt11 (seqD (seqO (oMv (k (.str [110, 117, 108, 108]))) st2 <| normD) retD) (seqD (seqO (oEq gt10 (k (nI .i64 2)) eqI false) st14 <| seqO (oMv gt14) st13 <| normD) (condD gt13 (seqD (seqO (oOff gt1 1) st15 <| seqO (oLoad1 gt15) st16 <| seqO (oCallF 112 [gt16]) st17 <| seqO (oMv gt17) st2 <| normD) retD) (seqD (seqO (oEq gt10 (k (nI .i64 3)) eqI false) st19 <| seqO (oMv gt19) st18 <| normD) (condD gt18 (seqD (seqO (oOff gt1 2) st20 <| seqO (oLoad1 gt20) st21 <| seqO (oCallF 45 [gt21, (k (nI .i64 10))]) st22 <| seqO (oMv gt22) st2 <| normD) retD) (seqD (seqO (oEq gt10 (k (nI .i64 4)) eqI false) st24 <| seqO (oMv gt24) st23 <| normD) (condD gt23 (seqD (seqO (oOff gt1 3) st25 <| seqO (oLoad1 gt25) st26 <| seqO (oCallF 113 [gt26]) st27 <| seqO (oMv gt27) st2 <| normD) retD) (seqD (seqO (oEq gt10 (k (nI .i64 5)) eqI false) st29 <| seqO (oMv gt29) st28 <| normD) (condD gt28 (seqD (seqD (seqO (oOff gt1 4) st30 <| seqO (oLoad1 gt30) st31 <| seqO (oLenL gt31) st32 <| seqO (oMv (k (nI .i64 0))) st33 <| normD) (blockD 1 (loopD c68_l0))) (seqD (seqO (oMv gt3) st43 <| seqO (oCallF 114 [gt43, (k (.str [44]))]) st44 <| seqO (oAddS (k (.str [91])) gt44) st45 <| seqO (oAddS gt45 (k (.str [93]))) st46 <| seqO (oMv gt46) st2 <| normD) retD)) normD)))))))))))) (seqD (seqO (oOff gt1 5) st47 <| seqO (oLoad1 gt47) st48 <| seqO (oCallF 116 [gt48]) st49 <| seqO (oCallF 115 [gt49, (k (.func 117 [] []))]) st50 <| seqO (oMv gt50) st6 <| normD) (seqD (seqD (seqO (oMv gt6) st51 <| seqO (oLenL gt51) st52 <| seqO (oMv (k (nI .i64 0))) st53 <| normD) (blockD 3 (loopD c68_l1))) (seqD (seqO (oMv gt3) st69 <| seqO (oCallF 114 [gt69, (k (.str [44]))]) st70 <| seqO (oAddS (k (.str [123])) gt70) st71 <| seqO (oAddS gt71 (k (.str [125]))) st72 <| seqO (oMv gt72) st2 <| normD) retD))))))⟩
def c70_l0 : D := (seqD (seqO (oCmp gt33 gt32 iltF strLt) st34 <| normD) (seqD (condD gt34 normD (exitD 0)) (seqD (blockD 1 (seqD (seqO (oIdxS gt31 gt33 7) st35 <| seqO (oLoad gt35 7) st36 <| seqO (oAlloc 100 [(.str []), (nI .i64 0), (.bool false), (nI .i64 0), (.str []), .nils, .nils]) st7 <| seqO (oStore gt7 gt36 7) d0 <| normD) (seqD (seqD (seqO (oMv gt5) st37 <| seqO (oOff gt7 0) st38 <| seqO (oLoad1 gt38) st39 <| seqO (oLookup eqS (nI .i64 0) false gt37 gt39) st40 <| seqO (oCmp gt40 (k (nI .i64 0)) igtF strGt) st41 <| seqO (oMv gt41) st42 <| seqG gt42 false (oOff gt7 0) st43 <| seqG gt42 false (oLoad1 gt43) st44 <| seqG gt42 false (oCallF 107 [gt44]) st45 <| seqG gt42 false (oNot gt45) st46 <| seqO (oPick gt42 (k (.bool true)) gt46) st47 <| seqO (oMv gt47) st48 <| seqG gt48 false (oOff gt7 1) st49 <| seqG gt48 false (oLoad gt49 6) st50 <| seqG gt48 false (oLoad1 gt3) st51 <| seqG gt48 false (oSub gt51 (k (nI .i64 1))) st52 <| seqG gt48 false (oCallF 70 [gt50, gt52]) st53 <| seqO (oPick gt48 (k (.bool true)) gt53) st54 <| normD) (condD gt54 (seqD (seqO (oMv (k (.bool true))) st4 <| normD) retD) normD)) (seqO (oMv gt5) st55 <| seqO (oOff gt7 0) st56 <| seqO (oLoad1 gt56) st57 <| seqO (oMapUpd eqS gt55 gt57 (k (nI .i64 1))) d0 <| normD)))) (seqO (oAddS gt33 (k (nI .i64 1))) st58 <| seqO (oMv gt58) st33 <| normD))))
def c70 : CF := ⟨[(gt4, none)], (seqD (seqO (oBox gt0 72) st2 <| seqO (oBox gt1 3) st3 <| seqO (oMv (k (.bool false))) st4 <| normD) (seqD (seqD (seqO (oLoad1 gt3) st8 <| seqO (oEq gt8 (k (nI .i64 0)) eqI false) st9 <| normD) (condD gt9 (seqD (seqO (oMv (k (.bool false))) st4 <| normD) retD) normD)) (seqD (seqD (seqO (oOff gt2 0) st10 <| seqO (oLoad1 gt10) st11 <| seqO (oCmp gt11 (k (nI .i64 1)) iltF strLt) st12 <| seqO (oMv gt12) st13 <| seqG gt13 false (oOff gt2 0) st14 <| seqG gt13 false (oLoad1 gt14) st15 <| seqG gt13 false (oCmp gt15 (k (nI .i64 6)) igtF strGt) st16 <| seqO (oPick gt13 (k (.bool true)) gt16) st17 <| seqO (oMv gt17) st18 <| seqG gt18 false (oLoad gt2 6) st19 <| seqG gt18 false (oCallF 120 [gt19]) st20 <| seqG gt18 false (oNot gt20) st21 <| seqO (oPick gt18 (k (.bool true)) gt21) st22 <| seqO (oMv gt22) st23 <| seqG gt23 false (oOff gt2 3) st24 <| seqG gt23 false (oLoad1 gt24) st25 <| seqG gt23 false (oCallF 107 [gt25]) st26 <| seqG gt23 false (oNot gt26) st27 <| seqO (oPick gt23 (k (.bool true)) gt27) st28 <| normD) (condD gt28 (seqD (seqO (oMv (k (.bool true))) st4 <| normD) retD) normD)) (seqD (seqO (oMkMap) st29 <| seqO (oMv gt29) st5 <| normD) (seqD (seqD (seqO (oOff gt2 5) st30 <| seqO (oLoad1 gt30) st31 <| seqO (oLenL gt31) st32 <| seqO (oMv (k (nI .i64 0))) st33 <| normD) (blockD 0 (loopD c70_l0))) (seqD (seqO (oOff gt2 4) st59 <| seqO (oLoad1 gt59) st60 <| seqO (oFunc 122 [] [gt3]) st61 <| seqO (oCallF 121 [gt60, gt61]) st62 <| seqO (oMv gt62) st4 <| normD) retD))))))⟩
def c71 : CF := ⟨[(gt4, none)], (seqD (seqO (oBox gt0 72) st2 <| seqO (oBox gt1 3) st3 <| seqO (oMv (k (.bool false))) st4 <| normD) (seqD (seqD (seqO (oLoad1 gt3) st5 <| seqO (oEq gt5 (k (nI .i64 0)) eqI false) st6 <| normD) (condD gt6 (seqD (seqO (oMv (k (.bool true))) st4 <| normD) retD) normD)) (seqD (seqO (oOff gt2 4) st7 <| seqO (oLoad1 gt7) st8 <| seqO (oFunc 123 [] [gt3]) st9 <| seqO (oCallF 121 [gt8, gt9]) st10 <| seqO (oMv gt10) st11 <| seqG gt11 false (oOff gt2 5) st12 <| seqG gt11 false (oLoad1 gt12) st13 <| seqG gt11 false (oFunc 125 [] [gt3]) st14 <| seqG gt11 false (oCallF 124 [gt13, gt14]) st15 <| seqO (oPick gt11 (k (.bool true)) gt15) st16 <| seqO (oMv gt16) st4 <| normD) retD)))⟩
def c120 : CF := ⟨[(gt2, none)], (seqD (seqO (oBox gt0 72) st1 <| seqO (oMv (k (.bool false))) st2 <| normD) (seqD (seqO (oOff gt1 0) st3 <| seqO (oLoad1 gt3) st4 <| seqO (oEq gt4 (k (nI .i64 2)) eqI false) st5 <| seqO (oMv gt5) st6 <| seqG gt6 false (oOff gt1 1) st7 <| seqG gt6 false (oLoad1 gt7) st8 <| seqG gt6 false (oNot gt8) st9 <| seqO (oPick gt6 (k (.bool true)) gt9) st10 <| seqO (oMv gt10) st11 <| seqG gt11 true (oOff gt1 0) st12 <| seqG gt11 true (oLoad1 gt12) st13 <| seqG gt11 true (oEq gt13 (k (nI .i64 3)) eqI false) st14 <| seqG gt11 true (oMv gt14) st15 <| seqG gt15 false (oOff gt1 2) st16 <| seqG gt15 false (oLoad1 gt16) st17 <| seqG gt15 false (oEq gt17 (k (nI .i64 0)) eqI false) st18 <| seqG gt11 true (oPick gt15 (k (.bool true)) gt18) st19 <| seqO (oPick gt11 gt19 (k (.bool false))) st20 <| seqO (oMv gt20) st21 <| seqG gt21 true (oOff gt1 0) st22 <| seqG gt21 true (oLoad1 gt22) st23 <| seqG gt21 true (oEq gt23 (k (nI .i64 4)) eqI false) st24 <| seqG gt21 true (oMv gt24) st25 <| seqG gt25 false (oOff gt1 3) st26 <| seqG gt25 false (oLoad1 gt26) st27 <| seqG gt25 false (oEq gt27 (k (.str [])) eqS false) st28 <| seqG gt21 true (oPick gt25 (k (.bool true)) gt28) st29 <| seqO (oPick gt21 gt29 (k (.bool false))) st30 <| seqO (oMv gt30) st31 <| seqG gt31 true (oOff gt1 0) st32 <| seqG gt31 true (oLoad1 gt32) st33 <| seqG gt31 true (oEq gt33 (k (nI .i64 5)) eqI false) st34 <| seqG gt31 true (oMv gt34) st35 <| seqG gt35 false (oOff gt1 4) st36 <| seqG gt35 false (oLoad1 gt36) st37 <| seqG gt35 false (oLenL gt37) st38 <| seqG gt35 false (oEq gt38 (k (nI .i64 0)) eqI false) st39 <| seqG gt31 true (oPick gt35 (k (.bool true)) gt39) st40 <| seqO (oPick gt31 gt40 (k (.bool false))) st41 <| seqO (oMv gt41) st42 <| seqG gt42 true (oOff gt1 0) st43 <| seqG gt42 true (oLoad1 gt43) st44 <| seqG gt42 true (oEq gt44 (k (nI .i64 6)) eqI false) st45 <| seqG gt42 true (oMv gt45) st46 <| seqG gt46 false (oOff gt1 5) st47 <| seqG gt46 false (oLoad1 gt47) st48 <| seqG gt46 false (oLenL gt48) st49 <| seqG gt46 false (oEq gt49 (k (nI .i64 0)) eqI false) st50 <| seqG gt42 true (oPick gt46 (k (.bool true)) gt50) st51 <| seqO (oPick gt42 gt51 (k (.bool false))) st52 <| seqO (oMv gt52) st2 <| normD) retD))⟩
def c77 : CF := ⟨[], (seqD (seqO (oRecover) st6 <| normD) (blockD 0 (seqD (seqO (oEq gt6 (k .nili) (eqF true (eqC Tryz.prog (eqT Tryz.prog 9))) false) st8 <| normD) (condD gt8 (seqO (oMv gt6) st3 <| normD) (seqD (seqO (oAssert gt6 141 (.agg [(nI .i64 0), (nI .i64 0)]) true) st9 <| seqO (oExtr gt9 1) st10 <| seqO (oExtr gt9 0) st11 <| normD) (condD gt10 (seqD (seqO (oAlloc 141 [(nI .i64 0), (nI .i64 0)]) st4 <| seqO (oStore gt4 gt11 2) d0 <| normD) (drawnD [⟨oBuild [(nI .i64 0), (.bool false), (nI .i64 0), (.str []), .nils, .nils] [], none, [], st12, .free, 0, 0⟩, ⟨oOff gt4 1, none, [(st4, gt4)], st13, .free, 1, 0⟩, ⟨oLoad1 gt13, none, [(st13, gt13)], st14, .read, 2, 2⟩, ⟨oOff gt4 0, none, [(st4, gt4)], st15, .free, 3, 0⟩, ⟨oLoad1 gt15, none, [(st15, gt15)], st16, .read, 4, 8⟩, ⟨oStore gt0 gt12 6, none, [(st0, gt0), (st12, gt12)], d0, .eff, 5, 1⟩, ⟨oStore gt1 gt14 1, none, [(st1, gt1), (st14, gt14)], d0, .eff, 6, 39⟩, ⟨oStore gt2 gt16 1, none, [(st2, gt2), (st16, gt16)], d0, .eff, 7, 127⟩])) (seqD (seqO (oMv gt6) st5 <| normD) (seqO (oMv gt5) st7 <| seqO (oPanic gt7) d0 <| normD))))))))⟩
def c78 : CF := ⟨[(gt4, some (6, true))], (seqD (seqO (oAlloc 72 [(nI .i64 0), (.bool false), (nI .i64 0), (.str []), .nils, .nils]) st4 <| normD) (seqD (seqO (oMv gt0) st7 <| seqO (oCallF 79 [gt7]) st8 <| normD) (seqD (seqD (seqO (oMv gt1) st9 <| seqO (oEq gt9 (k (nI .i64 0)) eqI false) st10 <| normD) (condD gt10 (seqO (oMv gt0) st11 <| seqO (oNil gt11) st12 <| seqO (oOff gt12 1) st13 <| seqO (oLoad1 gt13) st14 <| seqO (oBuild [(nI .i64 0), (nI .i64 0)] [⟨0, 1, (k (nI .i64 23))⟩, ⟨1, 1, gt14⟩]) st15 <| seqO (oIface gt15 141) st16 <| seqO (oPanic gt16) d0 <| normD) normD)) (seqD (seqD (seqO (oMv gt0) st17 <| seqO (oCallF 129 [gt17]) st18 <| seqO (oMv gt18) st5 <| normD) (seqD (seqO (oMv gt5) st19 <| normD) (blockD 0 (seqD (seqO (oEq gt19 (k (nI .u8 110)) eqI false) st21 <| seqO (oMv gt21) st20 <| normD) (condD gt20 (seqD (seqO (oMv gt0) st22 <| seqO (oCallF 43 [(k .nili)]) st23 <| seqO (oCallF 130 [gt22, (k (.str [110, 117, 108, 108])), gt23]) st24 <| seqO (oStore gt4 gt24 6) d0 <| normD) retD) (seqD (seqO (oEq gt19 (k (nI .u8 116)) eqI false) st26 <| seqO (oMv gt26) st25 <| normD) (condD gt25 (seqD (seqO (oMv gt0) st27 <| seqO (oIface (k (.bool true)) 4) st28 <| seqO (oCallF 43 [gt28]) st29 <| seqO (oCallF 130 [gt27, (k (.str [116, 114, 117, 101])), gt29]) st30 <| seqO (oStore gt4 gt30 6) d0 <| normD) retD) (seqD (seqO (oEq gt19 (k (nI .u8 102)) eqI false) st32 <| seqO (oMv gt32) st31 <| normD) (condD gt31 (seqD (seqO (oMv gt0) st33 <| seqO (oIface (k (.bool false)) 4) st34 <| seqO (oCallF 43 [gt34]) st35 <| seqO (oCallF 130 [gt33, (k (.str [102, 97, 108, 115, 101])), gt35]) st36 <| seqO (oStore gt4 gt36 6) d0 <| normD) retD) (seqD (seqO (oEq gt19 (k (nI .u8 34)) eqI false) st38 <| seqO (oMv gt38) st37 <| normD) (condD gt37 (seqD (seqO (oMv gt0) st39 <| seqO (oCallF 131 [gt39]) st40 <| seqO (oIface gt40 9) st41 <| seqO (oCallF 43 [gt41]) st42 <| seqO (oStore gt4 gt42 6) d0 <| normD) retD) (seqD (seqD (seqO (oEq gt19 (k (nI .u8 91)) eqI false) st44 <| seqO (oMv gt44) st43 <| normD) (condD gt43 normD (seqO (oEq gt19 (k (nI .u8 123)) eqI false) st45 <| seqO (oMv gt45) st43 <| normD))) (condD gt43 (seqD (seqO (oMv gt0) st46 <| seqO (oFunc 132 [gt46] []) st47 <| seqO (oMv gt47) st6 <| normD) (seqD (seqD (seqO (oMv gt5) st48 <| seqO (oEq gt48 (k (nI .u8 123)) eqI false) st49 <| normD) (condD gt49 (seqO (oMv gt0) st50 <| seqO (oFunc 133 [gt50] []) st51 <| seqO (oMv gt51) st6 <| normD) normD)) (seqD (seqO (oMv gt0) st52 <| seqO (oNil gt52) st53 <| seqO (oOff gt53 1) st54 <| seqO (oLoad1 gt54) st55 <| seqO (oAddS gt55 (k (nI .i64 1))) st56 <| seqO (oNil gt52) st57 <| seqO (oOff gt57 1) st58 <| seqO (oStore gt58 gt56 1) d0 <| normD) (seqD (seqO (oMv gt6) st59 <| seqO (oMv gt1) st60 <| seqO (oSub gt60 (k (nI .i64 1))) st61 <| seqO (oCall gt59 Tryz.prog [gt61]) st62 <| seqO (oStore gt4 gt62 6) d0 <| normD) retD)))) normD))))))))))))) (seqD (seqO (oMv gt0) st63 <| seqO (oCallF 134 [gt63]) st64 <| seqO (oStore gt4 gt64 6) d0 <| normD) retD)))))⟩
def c79_l0 : D := (seqD (seqD (drawnD [⟨oMv gt0, none, [(st0, gt0)], st2, .free, 0, 0⟩, ⟨oNil gt2, none, [(st2, gt2)], st3, .free, 1, 1⟩, ⟨oOff gt3 1, none, [(st3, gt3)], st4, .free, 2, 3⟩, ⟨oLoad1 gt4, none, [(st4, gt4)], st5, .read, 3, 7⟩, ⟨oMv gt0, none, [(st0, gt0)], st6, .free, 4, 0⟩, ⟨oNil gt6, none, [(st6, gt6)], st7, .free, 5, 16⟩, ⟨oOff gt7 0, none, [(st7, gt7)], st8, .free, 6, 48⟩, ⟨oLoad1 gt8, none, [(st8, gt8)], st9, .read, 7, 112⟩, ⟨oLenS gt9, none, [(st9, gt9)], st10, .free, 8, 240⟩, ⟨oCmp gt5 gt10 iltF strLt, none, [(st5, gt5), (st10, gt10)], st11, .free, 9, 511⟩, ⟨oMv gt11, none, [(st11, gt11)], st12, .free, 10, 1023⟩, ⟨oMv gt0, (some (gt12, true)), [(st0, gt0)], st13, .free, 11, 2047⟩, ⟨oNil gt13, (some (gt12, true)), [(st13, gt13)], st14, .free, 12, 4095⟩, ⟨oOff gt14 0, (some (gt12, true)), [(st14, gt14)], st15, .free, 13, 8191⟩, ⟨oLoad1 gt15, (some (gt12, true)), [(st15, gt15)], st16, .read, 14, 16383⟩, ⟨oMv gt0, (some (gt12, true)), [(st0, gt0)], st17, .free, 15, 2047⟩, ⟨oNil gt17, (some (gt12, true)), [(st17, gt17)], st18, .free, 16, 34815⟩, ⟨oOff gt18 1, (some (gt12, true)), [(st18, gt18)], st19, .free, 17, 100351⟩, ⟨oLoad1 gt19, (some (gt12, true)), [(st19, gt19)], st20, .read, 18, 231423⟩, ⟨oIdxStr gt16 gt20, (some (gt12, true)), [(st16, gt16), (st20, gt20)], st21, .free, 19, 524287⟩, ⟨oCallF 36 [(k (.str [32, 9, 10, 13])), gt21], (some (gt12, true)), [(st21, gt21)], st22, .eff, 20, 1048575⟩, ⟨oCmp gt22 (k (nI .i64 0)) igeF strGe, (some (gt12, true)), [(st22, gt22)], st23, .free, 21, 2097151⟩, ⟨oPick gt12 gt23 (k (.bool false)), none, [(st12, gt12), (st23, gt23)], st24, .free, 22, 4194303⟩]) (condD gt24 normD (exitD 0))) (blockD 1 (seqO (oMv gt0) st25 <| seqO (oNil gt25) st26 <| seqO (oOff gt26 1) st27 <| seqO (oLoad1 gt27) st28 <| seqO (oAddS gt28 (k (nI .i64 1))) st29 <| seqO (oNil gt25) st30 <| seqO (oOff gt30 1) st31 <| seqO (oStore gt31 gt29 1) d0 <| normD)))
def c79 : CF := ⟨[], (blockD 0 (loopD c79_l0))⟩
def c80 : CF := ⟨[], (seqO (oMv gt0) st2 <| seqO (oNil gt2) st3 <| seqO (oOff gt3 1) st4 <| seqO (oLoad1 gt4) st5 <| seqO (oBuild [(nI .i64 0), (nI .i64 0)] [⟨0, 1, (k (nI .i64 5))⟩, ⟨1, 1, gt5⟩]) st6 <| seqO (oIface gt6 141) st7 <| seqO (oPanic gt7) d0 <| normD)⟩
def c90 : CF := ⟨[(gt4, none)], (seqD (seqO (oMv (k (.str []))) st4 <| normD) (seqD (seqD (seqO (oMv gt1) st10 <| seqO (oEq gt10 (k (nI .i64 10)) eqI false) st11 <| normD) (condD gt11 (seqD (seqD (seqO (oMv gt0) st12 <| seqO (oCmp (k (nI .i64 0)) gt12 ileF strLe) st13 <| seqO (oMv gt13) st14 <| seqG gt14 true (oMv gt0) st15 <| seqG gt14 true (oCmp gt15 (k (nI .i64 100)) iltF strLt) st16 <| seqO (oPick gt14 gt16 (k (.bool false))) st17 <| normD) (condD gt17 (seqD (seqO (oMv gt0) st18 <| seqO (oCallF 137 [gt18]) st19 <| seqO (oMv gt19) st4 <| normD) retD) normD)) (seqD (seqO (oAllocZ 193 24 (nI .u8 0)) st5 <| normD) (seqD (seqO (oMv gt0) st20 <| seqO (oInt gt20 .u64) st21 <| seqO (oMv gt21) st6 <| normD) (seqD (seqD (seqO (oMv gt0) st22 <| seqO (oCmp gt22 (k (nI .i64 0)) iltF strLt) st23 <| normD) (condD gt23 (seqO (oMv gt6) st24 <| seqO (oNeg gt24) st25 <| seqO (oMv gt25) st6 <| normD) normD)) (seqD (seqO (oMv gt6) st26 <| seqO (oCallF 138 [gt26]) st27 <| seqO (oMv gt27) st7 <| normD) (seqD (seqO (oMv gt7) st28 <| seqO (oAddS (k (nI .i64 1)) gt28) st29 <| seqO (oSlArr 24 1 gt5 (some (k (nI .i64 1))) (some gt29) none) st30 <| seqO (oMv gt6) st31 <| seqO (oCallF 139 [gt30, gt31]) st32 <| normD) (seqD (seqD (seqO (oMv gt0) st33 <| seqO (oCmp gt33 (k (nI .i64 0)) iltF strLt) st34 <| normD) (condD gt34 (seqD (seqO (oIdxA gt5 (k (nI .i64 0)) 24 1) st35 <| seqO (oStore gt35 (k (nI .u8 45)) 1) d0 <| normD) (seqD (seqO (oMv gt7) st36 <| seqO (oAddS (k (nI .i64 1)) gt36) st37 <| seqO (oSlArr 24 1 gt5 none (some gt37) none) st38 <| seqO (oStr gt38) st39 <| seqO (oMv gt39) st4 <| normD) retD)) normD)) (seqD (seqO (oMv gt7) st40 <| seqO (oAddS (k (nI .i64 1)) gt40) st41 <| seqO (oSlArr 24 1 gt5 (some (k (nI .i64 1))) (some gt41) none) st42 <| seqO (oStr gt42) st43 <| seqO (oMv gt43) st4 <| normD) retD)))))))) normD)) (seqD (seqO (oMv gt0) st45 <| seqO (oInt gt45 .u64) st46 <| seqO (oMv gt1) st47 <| seqO (oMv gt0) st48 <| seqO (oCmp gt48 (k (nI .i64 0)) iltF strLt) st49 <| seqO (oCallF 140 [(k .nils), gt46, gt47, gt49, (k (.bool false))]) st50 <| seqO (oMv gt50) st44 <| seqO (oExtr gt44 0) st51 <| seqO (oExtr gt44 1) st52 <| seqO (oMv gt51) st8 <| seqO (oMv gt52) st9 <| normD) (seqD (seqO (oMv gt9) st53 <| seqO (oMv gt53) st4 <| normD) retD))))⟩
def c121 : CF := ⟨[(gt4, none)], (seqD (seqO (oMv (k (.bool false))) st4 <| normD) (seqD (seqO (oMv gt0) st5 <| seqO (oMv gt1) st6 <| seqO (oCallF 160 [gt5, gt6]) st7 <| seqO (oCmp gt7 (k (nI .i64 0)) igeF strGe) st8 <| seqO (oMv gt8) st4 <| normD) retD))⟩
def c160_l0 : D := (seqD (seqO (oCmp gt8 gt7 iltF strLt) st9 <| normD) (seqD (condD gt9 normD (exitD 0)) (seqD (blockD 1 (seqD (seqO (oMv gt8) st10 <| seqO (oMv gt10) st5 <| normD) (seqD (seqO (oMv gt1) st11 <| seqO (oMv gt0) st12 <| seqO (oMv gt5) st13 <| seqO (oIdxS gt12 gt13 6) st14 <| seqO (oLoad gt14 6) st15 <| seqO (oCall gt11 Tryz.prog [gt15]) st16 <| normD) (condD gt16 (seqD (seqO (oMv gt5) st17 <| seqO (oMv gt17) st4 <| normD) retD) normD)))) (seqO (oAddS gt8 (k (nI .i64 1))) st18 <| seqO (oMv gt18) st8 <| normD))))
def c160 : CF := ⟨[(gt4, none)], (seqD (seqO (oMv (k (nI .i64 0))) st4 <| normD) (seqD (seqD (seqO (oMv gt0) st6 <| seqO (oLenL gt6) st7 <| seqO (oMv (k (nI .i64 0))) st8 <| normD) (blockD 0 (loopD c160_l0))) (seqD (seqO (oMv (k (.int .i64 (.negSucc 0)))) st4 <| normD) retD)))⟩
def c124 : CF := ⟨[(gt4, none)], (seqD (seqO (oMv (k (.bool false))) st4 <| normD) (seqD (seqO (oMv gt0) st5 <| seqO (oMv gt1) st6 <| seqO (oCallF 88 [gt5, gt6]) st7 <| seqO (oCmp gt7 (k (nI .i64 0)) igeF strGe) st8 <| seqO (oMv gt8) st4 <| normD) retD))⟩
def c88_l0 : D := (seqD (seqO (oCmp gt8 gt7 iltF strLt) st9 <| normD) (seqD (condD gt9 normD (exitD 0)) (seqD (blockD 1 (seqD (seqO (oMv gt8) st10 <| seqO (oMv gt10) st5 <| normD) (seqD (seqO (oMv gt1) st11 <| seqO (oMv gt0) st12 <| seqO (oMv gt5) st13 <| seqO (oIdxS gt12 gt13 7) st14 <| seqO (oLoad gt14 7) st15 <| seqO (oCall gt11 Tryz.prog [gt15]) st16 <| normD) (condD gt16 (seqD (seqO (oMv gt5) st17 <| seqO (oMv gt17) st4 <| normD) retD) normD)))) (seqO (oAddS gt8 (k (nI .i64 1))) st18 <| seqO (oMv gt18) st8 <| normD))))
def c88 : CF := ⟨[(gt4, none)], (seqD (seqO (oMv (k (nI .i64 0))) st4 <| normD) (seqD (seqD (seqO (oMv gt0) st6 <| seqO (oLenL gt6) st7 <| seqO (oMv (k (nI .i64 0))) st8 <| normD) (blockD 0 (loopD c88_l0))) (seqD (seqO (oMv (k (.int .i64 (.negSucc 0)))) st4 <| normD) retD)))⟩
def c129 : CF := ⟨[(gt2, none)], (seqD (seqO (oMv (k (nI .u8 0))) st2 <| normD) (seqD (seqD (drawnD [⟨oMv gt0, none, [(st0, gt0)], st3, .free, 0, 0⟩, ⟨oNil gt3, none, [(st3, gt3)], st4, .free, 1, 1⟩, ⟨oOff gt4 1, none, [(st4, gt4)], st5, .free, 2, 3⟩, ⟨oLoad1 gt5, none, [(st5, gt5)], st6, .read, 3, 7⟩, ⟨oMv gt0, none, [(st0, gt0)], st7, .free, 4, 0⟩, ⟨oNil gt7, none, [(st7, gt7)], st8, .free, 5, 16⟩, ⟨oOff gt8 0, none, [(st8, gt8)], st9, .free, 6, 48⟩, ⟨oLoad1 gt9, none, [(st9, gt9)], st10, .read, 7, 112⟩, ⟨oLenS gt10, none, [(st10, gt10)], st11, .free, 8, 240⟩, ⟨oCmp gt6 gt11 iltF strLt, none, [(st6, gt6), (st11, gt11)], st12, .free, 9, 511⟩]) (condD gt12 (seqD (drawnD [⟨oMv gt0, none, [(st0, gt0)], st13, .free, 0, 0⟩, ⟨oNil gt13, none, [(st13, gt13)], st14, .free, 1, 1⟩, ⟨oOff gt14 0, none, [(st14, gt14)], st15, .free, 2, 3⟩, ⟨oLoad1 gt15, none, [(st15, gt15)], st16, .read, 3, 7⟩, ⟨oMv gt0, none, [(st0, gt0)], st17, .free, 4, 0⟩, ⟨oNil gt17, none, [(st17, gt17)], st18, .free, 5, 16⟩, ⟨oOff gt18 1, none, [(st18, gt18)], st19, .free, 6, 48⟩, ⟨oLoad1 gt19, none, [(st19, gt19)], st20, .read, 7, 112⟩, ⟨oIdxStr gt16 gt20, none, [(st16, gt16), (st20, gt20)], st21, .free, 8, 255⟩, ⟨oMv gt21, none, [(st21, gt21)], st2, .eff, 9, 511⟩]) retD) normD)) (seqD (seqO (oMv (k (nI .u8 0))) st2 <| normD) retD)))⟩
def c134_l0 : D := (seqD (seqD (seqO (oMv gt5) st38 <| seqO (oNot gt38) st39 <| seqO (oMv gt39) st40 <| seqG gt40 true (oMv gt4) st41 <| seqG gt40 true (oCall gt41 Tryz.prog []) st42 <| seqO (oPick gt40 gt42 (k (.bool false))) st43 <| normD) (condD gt43 normD (exitD 0))) (blockD 1 (seqO (oLoad1 gt1) st44 <| seqO (oNil gt44) st45 <| seqO (oOff gt45 1) st46 <| seqO (oLoad1 gt46) st47 <| seqO (oAddS gt47 (k (nI .i64 1))) st48 <| seqO (oNil gt44) st49 <| seqO (oOff gt49 1) st50 <| seqO (oStore gt50 gt48 1) d0 <| normD)))
def c134_t0 : D := (seqD (seqO (oFunc 167 [] [gt1]) st22 <| seqO (oMv gt22) st4 <| normD) (seqD (seqD (seqO (oMv gt4) st23 <| seqO (oCall gt23 Tryz.prog []) st24 <| seqO (oNot gt24) st25 <| normD) (condD gt25 (seqO (oLoad1 gt1) st26 <| seqO (oCallF 80 [gt26]) st27 <| normD) normD)) (seqD (seqO (oLoad1 gt1) st28 <| seqO (oCallF 129 [gt28]) st29 <| seqO (oEq gt29 (k (nI .u8 48)) eqI false) st30 <| seqO (oMv gt30) st5 <| normD) (seqD (seqD (seqO (oLoad1 gt1) st31 <| seqO (oNil gt31) st32 <| seqO (oOff gt32 1) st33 <| seqO (oLoad1 gt33) st34 <| seqO (oAddS gt34 (k (nI .i64 1))) st35 <| seqO (oNil gt31) st36 <| seqO (oOff gt36 1) st37 <| seqO (oStore gt37 gt35 1) d0 <| normD) (blockD 0 (loopD c134_l0))) (seqD (drawnD [⟨oLoad1 gt1, none, [(st1, gt1)], st52, .read, 0, 0⟩, ⟨oNil gt52, none, [(st52, gt52)], st53, .free, 1, 1⟩, ⟨oOff gt53 0, none, [(st53, gt53)], st54, .free, 2, 3⟩, ⟨oLoad1 gt54, none, [(st54, gt54)], st55, .read, 3, 7⟩, ⟨oMv gt3, none, [(st3, gt3)], st56, .free, 4, 0⟩, ⟨oLoad1 gt1, none, [(st1, gt1)], st57, .read, 5, 0⟩, ⟨oNil gt57, none, [(st57, gt57)], st58, .free, 6, 32⟩, ⟨oOff gt58 1, none, [(st58, gt58)], st59, .free, 7, 96⟩, ⟨oLoad1 gt59, none, [(st59, gt59)], st60, .read, 8, 224⟩, ⟨oSlStr gt55 (some gt56) (some gt60) none, none, [(st55, gt55), (st56, gt56), (st60, gt60)], st61, .free, 9, 511⟩, ⟨oCallF 168 [gt61, (k (nI .i64 10)), (k (nI .i64 64))], none, [(st61, gt61)], st62, .eff, 10, 1023⟩, ⟨oMv gt62, none, [(st62, gt62)], st51, .free, 11, 2047⟩, ⟨oExtr gt51 0, none, [(st51, gt51)], st63, .free, 12, 4095⟩, ⟨oExtr gt51 1, none, [(st51, gt51)], st64, .free, 13, 4095⟩, ⟨oMv gt63, none, [(st63, gt63)], st6, .eff, 14, 8191⟩, ⟨oMv gt64, none, [(st64, gt64)], st7, .eff, 15, 32767⟩]) (seqD (seqD (seqO (oMv gt7) st65 <| seqO (oEq gt65 (k .nili) (eqF true (eqC Tryz.prog (eqT Tryz.prog 9))) true) st66 <| normD) (condD gt66 (seqO (oMv gt3) st67 <| seqO (oBuild [(nI .i64 0), (nI .i64 0)] [⟨0, 1, (k (nI .i64 5))⟩, ⟨1, 1, gt67⟩]) st68 <| seqO (oIface gt68 141) st69 <| seqO (oPanic gt69) d0 <| normD) normD)) (seqD (seqO (oMv gt6) st70 <| seqO (oIface gt70 2) st71 <| seqO (oCallF 43 [gt71]) st72 <| seqO (oStore gt2 gt72 6) d0 <| normD) retD)))))))
def c134 : CF := ⟨[(gt2, some (6, true))], (seqD (seqO (oBox gt0 142) st1 <| seqO (oAlloc 72 [(nI .i64 0), (.bool false), (nI .i64 0), (.str []), .nils, .nils]) st2 <| normD) (seqD (seqO (oLoad1 gt1) st8 <| seqO (oNil gt8) st9 <| seqO (oOff gt9 1) st10 <| seqO (oLoad1 gt10) st11 <| seqO (oMv gt11) st3 <| normD) (seqD (seqD (seqO (oLoad1 gt1) st12 <| seqO (oCallF 129 [gt12]) st13 <| seqO (oEq gt13 (k (nI .u8 45)) eqI false) st14 <| normD) (condD gt14 (seqO (oLoad1 gt1) st15 <| seqO (oNil gt15) st16 <| seqO (oOff gt16 1) st17 <| seqO (oLoad1 gt17) st18 <| seqO (oAddS gt18 (k (nI .i64 1))) st19 <| seqO (oNil gt15) st20 <| seqO (oOff gt20 1) st21 <| seqO (oStore gt21 gt19 1) d0 <| normD) normD)) c134_t0)))⟩
def c167 : CF := ⟨[(gt1, none)], (seqD (seqO (oMv (k (.bool false))) st1 <| normD) (seqD (seqO (oLoad1 gt0) st2 <| seqO (oCallF 129 [gt2]) st3 <| seqO (oCmp gt3 (k (nI .u8 48)) igeF strGe) st4 <| seqO (oMv gt4) st5 <| seqG gt5 true (oLoad1 gt0) st6 <| seqG gt5 true (oCallF 129 [gt6]) st7 <| seqG gt5 true (oCmp gt7 (k (nI .u8 57)) ileF strLe) st8 <| seqO (oPick gt5 gt8 (k (.bool false))) st9 <| seqO (oMv gt9) st1 <| normD) retD))⟩
def c137 : CF := ⟨[(gt2, none)], (seqD (seqO (oMv (k (.str []))) st2 <| normD) (seqD (seqD (seqO (oMv gt0) st3 <| seqO (oCmp gt3 (k (nI .i64 10)) iltF strLt) st4 <| normD) (condD gt4 (seqD (seqO (oMv gt0) st5 <| seqO (oMv gt0) st6 <| seqO (oAddS gt6 (k (nI .i64 1))) st7 <| seqO (oSlStr (k (.str lit21)) (some gt5) (some gt7) none) st8 <| seqO (oMv gt8) st2 <| normD) retD) normD)) (seqD (seqO (oMv gt0) st9 <| seqO (oMul gt9 (k (nI .i64 2))) st10 <| seqO (oMv gt0) st11 <| seqO (oMul gt11 (k (nI .i64 2))) st12 <| seqO (oAddS gt12 (k (nI .i64 2))) st13 <| seqO (oSlStr (k (.str lit22)) (some gt10) (some gt13) none) st14 <| seqO (oMv gt14) st2 <| normD) retD)))⟩
def c138 : CF := ⟨[(gt2, none)], (seqD (seqO (oMv (k (nI .i64 0))) st2 <| normD) (seqD (seqO (oMv gt0) st4 <| seqO (oCallF 172 [gt4]) st5 <| seqO (oCallF 171 [gt5]) st6 <| seqO (oMv gt6) st3 <| normD) (seqD (seqO (oMv gt3) st7 <| seqO (oMv gt0) st8 <| seqO (oMv gt3) st9 <| seqO (oIdxA (k (.ptr 3 0)) gt9 20 1) st10 <| seqO (oLoad1 gt10) st11 <| seqO (oCmp gt8 gt11 igeF strGe) st12 <| seqO (oCallF 173 [gt12]) st13 <| seqO (oAddS gt7 gt13) st14 <| seqO (oMv gt14) st2 <| normD) retD)))⟩
def c139_l0 : D := (seqD (seqD (seqO (oMv gt4) st19 <| seqO (oCmp gt19 (k (nI .i64 8)) igeF strGe) st20 <| normD) (condD gt20 normD (exitD 0))) (blockD 1 (seqD (seqO (oMv gt1) st21 <| seqO (oRem gt21 (k (nI .u64 100000000))) st22 <| seqO (oInt gt22 .u32) st23 <| seqO (oMv gt23) st5 <| normD) (seqD (seqO (oMv gt1) st24 <| seqO (oQuo gt24 (k (nI .u64 100000000))) st25 <| seqO (oMv gt25) st1 <| normD) (seqD (seqO (oMv gt5) st26 <| seqO (oQuo gt26 (k (nI .u32 10000))) st27 <| seqO (oMv gt5) st28 <| seqO (oRem gt28 (k (nI .u32 10000))) st29 <| seqO (oMv gt27) st6 <| seqO (oMv gt29) st7 <| normD) (seqD (seqO (oMv gt7) st30 <| seqO (oQuo gt30 (k (nI .u32 100))) st31 <| seqO (oMul gt31 (k (nI .u32 2))) st32 <| seqO (oMv gt7) st33 <| seqO (oRem gt33 (k (nI .u32 100))) st34 <| seqO (oMul gt34 (k (nI .u32 2))) st35 <| seqO (oMv gt32) st8 <| seqO (oMv gt35) st9 <| normD) (seqD (seqO (oMv gt6) st36 <| seqO (oQuo gt36 (k (nI .u32 100))) st37 <| seqO (oMul gt37 (k (nI .u32 2))) st38 <| seqO (oMv gt6) st39 <| seqO (oRem gt39 (k (nI .u32 100))) st40 <| seqO (oMul gt40 (k (nI .u32 2))) st41 <| seqO (oMv gt38) st10 <| seqO (oMv gt41) st11 <| normD) (seqD (drawnD [⟨oMv gt0, none, [(st0, gt0)], st42, .free, 0, 0⟩, ⟨oMv gt4, none, [(st4, gt4)], st43, .free, 1, 0⟩, ⟨oSub gt43 (k (nI .i64 1)), none, [(st43, gt43)], st44, .free, 2, 2⟩, ⟨oMv gt0, none, [(st0, gt0)], st45, .free, 3, 0⟩, ⟨oMv gt4, none, [(st4, gt4)], st46, .free, 4, 0⟩, ⟨oSub gt46 (k (nI .i64 2)), none, [(st46, gt46)], st47, .free, 5, 16⟩, ⟨oMv gt9, none, [(st9, gt9)], st48, .free, 6, 0⟩, ⟨oAddS gt48 (k (nI .u32 1)), none, [(st48, gt48)], st49, .free, 7, 64⟩, ⟨oIdxStr (k (.str lit22)) gt49, none, [(st49, gt49)], st50, .free, 8, 192⟩, ⟨oMv gt9, none, [(st9, gt9)], st51, .free, 9, 0⟩, ⟨oIdxStr (k (.str lit22)) gt51, none, [(st51, gt51)], st52, .free, 10, 512⟩, ⟨oIdxS gt42 gt44 1, none, [(st42, gt42), (st44, gt44)], st53, .free, 11, 455⟩, ⟨oStore gt53 gt50 1, none, [(st53, gt53), (st50, gt50)], d0, .eff, 12, 2503⟩, ⟨oIdxS gt45 gt47 1, none, [(st45, gt45), (st47, gt47)], st54, .free, 13, 8191⟩, ⟨oStore gt54 gt52 1, none, [(st54, gt54), (st52, gt52)], d0, .eff, 14, 16383⟩]) (seqD (drawnD [⟨oMv gt0, none, [(st0, gt0)], st55, .free, 0, 0⟩, ⟨oMv gt4, none, [(st4, gt4)], st56, .free, 1, 0⟩, ⟨oSub gt56 (k (nI .i64 3)), none, [(st56, gt56)], st57, .free, 2, 2⟩, ⟨oMv gt0, none, [(st0, gt0)], st58, .free, 3, 0⟩, ⟨oMv gt4, none, [(st4, gt4)], st59, .free, 4, 0⟩, ⟨oSub gt59 (k (nI .i64 4)), none, [(st59, gt59)], st60, .free, 5, 16⟩, ⟨oMv gt8, none, [(st8, gt8)], st61, .free, 6, 0⟩, ⟨oAddS gt61 (k (nI .u32 1)), none, [(st61, gt61)], st62, .free, 7, 64⟩, ⟨oIdxStr (k (.str lit22)) gt62, none, [(st62, gt62)], st63, .free, 8, 192⟩, ⟨oMv gt8, none, [(st8, gt8)], st64, .free, 9, 0⟩, ⟨oIdxStr (k (.str lit22)) gt64, none, [(st64, gt64)], st65, .free, 10, 512⟩, ⟨oIdxS gt55 gt57 1, none, [(st55, gt55), (st57, gt57)], st66, .free, 11, 455⟩, ⟨oStore gt66 gt63 1, none, [(st66, gt66), (st63, gt63)], d0, .eff, 12, 2503⟩, ⟨oIdxS gt58 gt60 1, none, [(st58, gt58), (st60, gt60)], st67, .free, 13, 8191⟩, ⟨oStore gt67 gt65 1, none, [(st67, gt67), (st65, gt65)], d0, .eff, 14, 16383⟩]) (seqD (drawnD [⟨oMv gt0, none, [(st0, gt0)], st68, .free, 0, 0⟩, ⟨oMv gt4, none, [(st4, gt4)], st69, .free, 1, 0⟩, ⟨oSub gt69 (k (nI .i64 5)), none, [(st69, gt69)], st70, .free, 2, 2⟩, ⟨oMv gt0, none, [(st0, gt0)], st71, .free, 3, 0⟩, ⟨oMv gt4, none, [(st4, gt4)], st72, .free, 4, 0⟩, ⟨oSub gt72 (k (nI .i64 6)), none, [(st72, gt72)], st73, .free, 5, 16⟩, ⟨oMv gt11, none, [(st11, gt11)], st74, .free, 6, 0⟩, ⟨oAddS gt74 (k (nI .u32 1)), none, [(st74, gt74)], st75, .free, 7, 64⟩, ⟨oIdxStr (k (.str lit22)) gt75, none, [(st75, gt75)], st76, .free, 8, 192⟩, ⟨oMv gt11, none, [(st11, gt11)], st77, .free, 9, 0⟩, ⟨oIdxStr (k (.str lit22)) gt77, none, [(st77, gt77)], st78, .free, 10, 512⟩, ⟨oIdxS gt68 gt70 1, none, [(st68, gt68), (st70, gt70)], st79, .free, 11, 455⟩, ⟨oStore gt79 gt76 1, none, [(st79, gt79), (st76, gt76)], d0, .eff, 12, 2503⟩, ⟨oIdxS gt71 gt73 1, none, [(st71, gt71), (st73, gt73)], st80, .free, 13, 8191⟩, ⟨oStore gt80 gt78 1, none, [(st80, gt80), (st78, gt78)], d0, .eff, 14, 16383⟩]) (seqD (drawnD [⟨oMv gt0, none, [(st0, gt0)], st81, .free, 0, 0⟩, ⟨oMv gt4, none, [(st4, gt4)], st82, .free, 1, 0⟩, ⟨oSub gt82 (k (nI .i64 7)), none, [(st82, gt82)], st83, .free, 2, 2⟩, ⟨oMv gt0, none, [(st0, gt0)], st84, .free, 3, 0⟩, ⟨oMv gt4, none, [(st4, gt4)], st85, .free, 4, 0⟩, ⟨oSub gt85 (k (nI .i64 8)), none, [(st85, gt85)], st86, .free, 5, 16⟩, ⟨oMv gt10, none, [(st10, gt10)], st87, .free, 6, 0⟩, ⟨oAddS gt87 (k (nI .u32 1)), none, [(st87, gt87)], st88, .free, 7, 64⟩, ⟨oIdxStr (k (.str lit22)) gt88, none, [(st88, gt88)], st89, .free, 8, 192⟩, ⟨oMv gt10, none, [(st10, gt10)], st90, .free, 9, 0⟩, ⟨oIdxStr (k (.str lit22)) gt90, none, [(st90, gt90)], st91, .free, 10, 512⟩, ⟨oIdxS gt81 gt83 1, none, [(st81, gt81), (st83, gt83)], st92, .free, 11, 455⟩, ⟨oStore gt92 gt89 1, none, [(st92, gt92), (st89, gt89)], d0, .eff, 12, 2503⟩, ⟨oIdxS gt84 gt86 1, none, [(st84, gt84), (st86, gt86)], st93, .free, 13, 8191⟩, ⟨oStore gt93 gt91 1, none, [(st93, gt93), (st91, gt91)], d0, .eff, 14, 16383⟩]) (seqO (oMv gt4) st94 <| seqO (oSub gt94 (k (nI .i64 8))) st95 <| seqO (oMv gt95) st4 <| normD))))))))))))
def c139 : CF := ⟨[], (seqD (seqO (oMv gt0) st17 <| seqO (oLenL gt17) st18 <| seqO (oMv gt18) st4 <| normD) (seqD (blockD 0 (loopD c139_l0)) (seqD (seqO (oMv gt1) st96 <| seqO (oInt gt96 .u32) st97 <| seqO (oMv gt97) st12 <| normD) (seqD (seqD (seqO (oMv gt4) st98 <| seqO (oCmp gt98 (k (nI .i64 4)) igeF strGe) st99 <| normD) (condD gt99 (seqD (seqO (oMv gt12) st100 <| seqO (oRem gt100 (k (nI .u32 10000))) st101 <| seqO (oMv gt101) st13 <| normD) (seqD (seqO (oMv gt12) st102 <| seqO (oQuo gt102 (k (nI .u32 10000))) st103 <| seqO (oMv gt103) st12 <| normD) (seqD (seqO (oMv gt13) st104 <| seqO (oQuo gt104 (k (nI .u32 100))) st105 <| seqO (oMul gt105 (k (nI .u32 2))) st106 <| seqO (oMv gt13) st107 <| seqO (oRem gt107 (k (nI .u32 100))) st108 <| seqO (oMul gt108 (k (nI .u32 2))) st109 <| seqO (oMv gt106) st14 <| seqO (oMv gt109) st15 <| normD) (seqD (drawnD [⟨oMv gt0, none, [(st0, gt0)], st110, .free, 0, 0⟩, ⟨oMv gt4, none, [(st4, gt4)], st111, .free, 1, 0⟩, ⟨oSub gt111 (k (nI .i64 1)), none, [(st111, gt111)], st112, .free, 2, 2⟩, ⟨oMv gt0, none, [(st0, gt0)], st113, .free, 3, 0⟩, ⟨oMv gt4, none, [(st4, gt4)], st114, .free, 4, 0⟩, ⟨oSub gt114 (k (nI .i64 2)), none, [(st114, gt114)], st115, .free, 5, 16⟩, ⟨oMv gt15, none, [(st15, gt15)], st116, .free, 6, 0⟩, ⟨oAddS gt116 (k (nI .u32 1)), none, [(st116, gt116)], st117, .free, 7, 64⟩, ⟨oIdxStr (k (.str lit22)) gt117, none, [(st117, gt117)], st118, .free, 8, 192⟩, ⟨oMv gt15, none, [(st15, gt15)], st119, .free, 9, 0⟩, ⟨oIdxStr (k (.str lit22)) gt119, none, [(st119, gt119)], st120, .free, 10, 512⟩, ⟨oIdxS gt110 gt112 1, none, [(st110, gt110), (st112, gt112)], st121, .free, 11, 455⟩, ⟨oStore gt121 gt118 1, none, [(st121, gt121), (st118, gt118)], d0, .eff, 12, 2503⟩, ⟨oIdxS gt113 gt115 1, none, [(st113, gt113), (st115, gt115)], st122, .free, 13, 8191⟩, ⟨oStore gt122 gt120 1, none, [(st122, gt122), (st120, gt120)], d0, .eff, 14, 16383⟩]) (seqD (drawnD [⟨oMv gt0, none, [(st0, gt0)], st123, .free, 0, 0⟩, ⟨oMv gt4, none, [(st4, gt4)], st124, .free, 1, 0⟩, ⟨oSub gt124 (k (nI .i64 3)), none, [(st124, gt124)], st125, .free, 2, 2⟩, ⟨oMv gt0, none, [(st0, gt0)], st126, .free, 3, 0⟩, ⟨oMv gt4, none, [(st4, gt4)], st127, .free, 4, 0⟩, ⟨oSub gt127 (k (nI .i64 4)), none, [(st127, gt127)], st128, .free, 5, 16⟩, ⟨oMv gt14, none, [(st14, gt14)], st129, .free, 6, 0⟩, ⟨oAddS gt129 (k (nI .u32 1)), none, [(st129, gt129)], st130, .free, 7, 64⟩, ⟨oIdxStr (k (.str lit22)) gt130, none, [(st130, gt130)], st131, .free, 8, 192⟩, ⟨oMv gt14, none, [(st14, gt14)], st132, .free, 9, 0⟩, ⟨oIdxStr (k (.str lit22)) gt132, none, [(st132, gt132)], st133, .free, 10, 512⟩, ⟨oIdxS gt123 gt125 1, none, [(st123, gt123), (st125, gt125)], st134, .free, 11, 455⟩, ⟨oStore gt134 gt131 1, none, [(st134, gt134), (st131, gt131)], d0, .eff, 12, 2503⟩, ⟨oIdxS gt126 gt128 1, none, [(st126, gt126), (st128, gt128)], st135, .free, 13, 8191⟩, ⟨oStore gt135 gt133 1, none, [(st135, gt135), (st133, gt133)], d0, .eff, 14, 16383⟩]) (seqO (oMv gt4) st136 <| seqO (oSub gt136 (k (nI .i64 4))) st137 <| seqO (oMv gt137) st4 <| normD)))))) normD)) (seqD (seqD (seqO (oMv gt4) st138 <| seqO (oCmp gt138 (k (nI .i64 2)) igeF strGe) st139 <| normD) (condD gt139 (seqD (seqO (oMv gt12) st140 <| seqO (oRem gt140 (k (nI .u32 100))) st141 <| seqO (oMul gt141 (k (nI .u32 2))) st142 <| seqO (oMv gt142) st16 <| normD) (seqD (seqO (oMv gt12) st143 <| seqO (oQuo gt143 (k (nI .u32 100))) st144 <| seqO (oMv gt144) st12 <| normD) (seqD (drawnD [⟨oMv gt0, none, [(st0, gt0)], st145, .free, 0, 0⟩, ⟨oMv gt4, none, [(st4, gt4)], st146, .free, 1, 0⟩, ⟨oSub gt146 (k (nI .i64 1)), none, [(st146, gt146)], st147, .free, 2, 2⟩, ⟨oMv gt0, none, [(st0, gt0)], st148, .free, 3, 0⟩, ⟨oMv gt4, none, [(st4, gt4)], st149, .free, 4, 0⟩, ⟨oSub gt149 (k (nI .i64 2)), none, [(st149, gt149)], st150, .free, 5, 16⟩, ⟨oMv gt16, none, [(st16, gt16)], st151, .free, 6, 0⟩, ⟨oAddS gt151 (k (nI .u32 1)), none, [(st151, gt151)], st152, .free, 7, 64⟩, ⟨oIdxStr (k (.str lit22)) gt152, none, [(st152, gt152)], st153, .free, 8, 192⟩, ⟨oMv gt16, none, [(st16, gt16)], st154, .free, 9, 0⟩, ⟨oIdxStr (k (.str lit22)) gt154, none, [(st154, gt154)], st155, .free, 10, 512⟩, ⟨oIdxS gt145 gt147 1, none, [(st145, gt145), (st147, gt147)], st156, .free, 11, 455⟩, ⟨oStore gt156 gt153 1, none, [(st156, gt156), (st153, gt153)], d0, .eff, 12, 2503⟩, ⟨oIdxS gt148 gt150 1, none, [(st148, gt148), (st150, gt150)], st157, .free, 13, 8191⟩, ⟨oStore gt157 gt155 1, none, [(st157, gt157), (st155, gt155)], d0, .eff, 14, 16383⟩]) (seqO (oMv gt4) st158 <| seqO (oSub gt158 (k (nI .i64 2))) st159 <| seqO (oMv gt159) st4 <| normD)))) normD)) (seqD (seqO (oMv gt4) st160 <| seqO (oCmp gt160 (k (nI .i64 0)) igtF strGt) st161 <| normD) (condD gt161 (seqO (oMv gt0) st162 <| seqO (oMv gt12) st163 <| seqO (oAddS (k (nI .u32 48)) gt163) st164 <| seqO (oInt gt164 .u8) st165 <| seqO (oIdxS gt162 (k (nI .i64 0)) 1) st166 <| seqO (oStore gt166 gt165 1) d0 <| normD) normD)))))))⟩
def c172 : CF := ⟨[(gt2, none)], (seqD (seqO (oMv (k (nI .i64 0))) st2 <| normD) (seqD (seqD (seqO (oMv gt0) st3 <| seqO (oCmp gt3 (k (nI .u64 4294967296)) igeF strGe) st4 <| normD) (condD gt4 (seqD (seqO (oMv gt0) st5 <| seqO (oShr gt5 (k (nI .u64 32))) st6 <| seqO (oMv gt6) st0 <| normD) (seqO (oMv (k (nI .i64 32))) st2 <| normD)) normD)) (seqD (seqD (seqO (oMv gt0) st7 <| seqO (oCmp gt7 (k (nI .u64 65536)) igeF strGe) st8 <| normD) (condD gt8 (seqD (seqO (oMv gt0) st9 <| seqO (oShr gt9 (k (nI .u64 16))) st10 <| seqO (oMv gt10) st0 <| normD) (seqO (oMv gt2) st11 <| seqO (oAddS gt11 (k (nI .i64 16))) st12 <| seqO (oMv gt12) st2 <| normD)) normD)) (seqD (seqD (seqO (oMv gt0) st13 <| seqO (oCmp gt13 (k (nI .u64 256)) igeF strGe) st14 <| normD) (condD gt14 (seqD (seqO (oMv gt0) st15 <| seqO (oShr gt15 (k (nI .u64 8))) st16 <| seqO (oMv gt16) st0 <| normD) (seqO (oMv gt2) st17 <| seqO (oAddS gt17 (k (nI .i64 8))) st18 <| seqO (oMv gt18) st2 <| normD)) normD)) (seqD (seqO (oMv gt2) st19 <| seqO (oMv gt0) st20 <| seqO (oInt gt20 .u8) st21 <| seqO (oIdxStr (k (.str lit24)) gt21) st22 <| seqO (oInt gt22 .i64) st23 <| seqO (oAddS gt19 gt23) st24 <| seqO (oMv gt24) st2 <| normD) retD)))))⟩
def c171 : CF := ⟨[(gt2, none)], (seqD (seqO (oMv (k (nI .i64 0))) st2 <| normD) (seqD (seqO (oMv gt0) st3 <| seqO (oMul gt3 (k (nI .i64 78913))) st4 <| seqO (oShr gt4 (k (nI .u64 18))) st5 <| seqO (oMv gt5) st2 <| normD) retD))⟩
def c173 : CF := ⟨[(gt2, none)], (seqD (seqO (oMv (k (nI .i64 0))) st2 <| normD) (seqD (seqD (seqO (oMv gt0) st3 <| normD) (condD gt3 (seqD (seqO (oMv (k (nI .i64 1))) st2 <| normD) retD) normD)) (seqD (seqO (oMv (k (nI .i64 0))) st2 <| normD) retD)))⟩
def c168 : CF := ⟨[(gt6, none), (gt7, none)], (seqD (seqO (oMv (k (nI .i64 0))) st6 <| seqO (oMv (k .nili)) st7 <| normD) (seqD (seqO (oMv gt0) st10 <| seqO (oMv gt1) st11 <| seqO (oMv gt2) st12 <| seqO (oCallF 189 [gt10, gt11, gt12]) st13 <| seqO (oMv gt13) st9 <| seqO (oExtr gt9 0) st14 <| seqO (oExtr gt9 1) st15 <| seqO (oMv gt14) st8 <| seqO (oMv gt15) st7 <| normD) (seqD (seqD (seqO (oMv gt7) st16 <| seqO (oEq gt16 (k .nili) (eqF true (eqC Tryz.prog (eqT Tryz.prog 9))) true) st17 <| normD) (condD gt17 (seqD (seqO (oMv gt8) st18 <| seqO (oMv gt0) st19 <| seqO (oMv gt1) st20 <| seqO (oMv gt2) st21 <| seqO (oMv gt7) st22 <| seqO (oCallF 190 [(k (.str [80, 97, 114, 115, 101, 73, 110, 116])), gt19, gt20, gt21, gt22]) st23 <| seqO (oMv gt18) st6 <| seqO (oMv gt23) st7 <| normD) retD) normD)) (seqD (seqO (oMv gt8) st24 <| seqO (oMv gt24) st6 <| seqO (oMv (k .nili)) st7 <| normD) retD))))⟩
def c189 : CF := ⟨[(gt6, none), (gt7, none)], (seqD (seqO (oMv (k (nI .i64 0))) st6 <| seqO (oMv (k .nili)) st7 <| normD) (seqD (seqD (seqO (oMv gt0) st12 <| seqO (oEq gt12 (k (.str [])) eqS false) st13 <| normD) (condD gt13 (seqD (seqO (oIface (k (nI .i64 2)) 252) st14 <| seqO (oMv (k (nI .i64 0))) st6 <| seqO (oMv gt14) st7 <| normD) retD) normD)) (seqD (seqO (oMv (k (.bool false))) st8 <| normD) (seqD (seqD (seqO (oMv gt0) st15 <| seqO (oIdxStr gt15 (k (nI .i64 0))) st16 <| normD) (blockD 0 (seqD (seqO (oEq gt16 (k (nI .u8 43)) eqI false) st18 <| seqO (oMv gt18) st17 <| normD) (condD gt17 (seqO (oMv gt0) st19 <| seqO (oSlStr gt19 (some (k (nI .i64 1))) none none) st20 <| seqO (oMv gt20) st0 <| normD) (seqD (seqO (oEq gt16 (k (nI .u8 45)) eqI false) st22 <| seqO (oMv gt22) st21 <| normD) (condD gt21 (seqD (seqO (oMv gt0) st23 <| seqO (oSlStr gt23 (some (k (nI .i64 1))) none none) st24 <| seqO (oMv gt24) st0 <| normD) (seqO (oMv (k (.bool true))) st8 <| normD)) normD)))))) (seqD (seqO (oMv (k (nI .u64 0))) st9 <| normD) (seqD (seqO (oMv gt0) st26 <| seqO (oMv gt1) st27 <| seqO (oMv gt2) st28 <| seqO (oCallF 205 [gt26, gt27, gt28]) st29 <| seqO (oMv gt29) st25 <| seqO (oExtr gt25 0) st30 <| seqO (oExtr gt25 1) st31 <| seqO (oMv gt30) st9 <| seqO (oMv gt31) st7 <| normD) (seqD (seqD (seqO (oMv gt7) st32 <| seqO (oEq gt32 (k .nili) (eqF true (eqC Tryz.prog (eqT Tryz.prog 9))) true) st33 <| seqO (oMv gt33) st34 <| seqG gt34 true (oMv gt7) st35 <| seqG gt34 true (oIface (k (nI .i64 1)) 252) st36 <| seqG gt34 true (oEq gt35 gt36 (eqF false (eqC Tryz.prog (eqT Tryz.prog 9))) true) st37 <| seqO (oPick gt34 gt37 (k (.bool false))) st38 <| normD) (condD gt38 (seqD (seqO (oMv gt7) st39 <| seqO (oMv (k (nI .i64 0))) st6 <| seqO (oMv gt39) st7 <| normD) retD) normD)) (seqD (seqD (seqO (oMv gt2) st40 <| seqO (oEq gt40 (k (nI .i64 0)) eqI false) st41 <| normD) (condD gt41 (seqO (oMv (k (nI .i64 64))) st2 <| normD) normD)) (seqD (seqO (oMv gt2) st42 <| seqO (oSub gt42 (k (nI .i64 1))) st43 <| seqO (oInt gt43 .u64) st44 <| seqO (oShl (k (nI .u64 1)) gt44) st45 <| seqO (oMv gt45) st10 <| normD) (seqD (seqD (seqO (oMv gt8) st46 <| seqO (oNot gt46) st47 <| seqO (oMv gt47) st48 <| seqG gt48 true (oMv gt9) st49 <| seqG gt48 true (oMv gt10) st50 <| seqG gt48 true (oCmp gt49 gt50 igeF strGe) st51 <| seqO (oPick gt48 gt51 (k (.bool false))) st52 <| normD) (condD gt52 (seqD (seqO (oMv gt10) st53 <| seqO (oSub gt53 (k (nI .u64 1))) st54 <| seqO (oInt gt54 .i64) st55 <| seqO (oIface (k (nI .i64 1)) 252) st56 <| seqO (oMv gt55) st6 <| seqO (oMv gt56) st7 <| normD) retD) normD)) (seqD (seqD (seqO (oMv gt8) st57 <| seqO (oMv gt57) st58 <| seqG gt58 true (oMv gt9) st59 <| seqG gt58 true (oMv gt10) st60 <| seqG gt58 true (oCmp gt59 gt60 igtF strGt) st61 <| seqO (oPick gt58 gt61 (k (.bool false))) st62 <| normD) (condD gt62 (seqD (seqO (oMv gt10) st63 <| seqO (oInt gt63 .i64) st64 <| seqO (oNeg gt64) st65 <| seqO (oIface (k (nI .i64 1)) 252) st66 <| seqO (oMv gt65) st6 <| seqO (oMv gt66) st7 <| normD) retD) normD)) (seqD (seqO (oMv gt9) st67 <| seqO (oInt gt67 .i64) st68 <| seqO (oMv gt68) st11 <| normD) (seqD (seqD (seqO (oMv gt8) st69 <| normD) (condD gt69 (seqO (oMv gt11) st70 <| seqO (oNeg gt70) st71 <| seqO (oMv gt71) st11 <| normD) normD)) (seqD (seqO (oMv gt11) st72 <| seqO (oMv gt72) st6 <| seqO (oMv (k .nili)) st7 <| normD) retD))))))))))))))⟩
def c205_l0 : D := (seqD (seqO (oCmp gt101 gt100 iltF strLt) st102 <| normD) (seqD (condD gt102 normD (exitD 3)) (seqD (blockD 4 (seqD (seqO (oIdxS gt99 gt101 1) st103 <| seqO (oLoad1 gt103) st104 <| seqO (oMv gt104) st15 <| normD) (seqD (seqO (oMv (k (nI .u8 0))) st16 <| normD) (seqD (blockD 5 (seqD (seqO (oMv gt15) st107 <| seqO (oEq gt107 (k (nI .u8 95)) eqI false) st108 <| seqO (oMv gt108) st109 <| seqG gt109 true (oMv gt8) st110 <| seqO (oPick gt109 gt110 (k (.bool false))) st111 <| seqO (oMv gt111) st106 <| normD) (condD gt106 (seqD (seqO (oMv (k (.bool true))) st12 <| normD) (exitD 4)) (seqD (seqO (oMv gt15) st113 <| seqO (oCmp (k (nI .u8 48)) gt113 ileF strLe) st114 <| seqO (oMv gt114) st115 <| seqG gt115 true (oMv gt15) st116 <| seqG gt115 true (oCmp gt116 (k (nI .u8 57)) ileF strLe) st117 <| seqO (oPick gt115 gt117 (k (.bool false))) st118 <| seqO (oMv gt118) st112 <| normD) (condD gt112 (seqO (oMv gt15) st119 <| seqO (oSub gt119 (k (nI .u8 48))) st120 <| seqO (oMv gt120) st16 <| normD) (seqD (seqO (oMv gt15) st122 <| seqO (oCallF 217 [gt122]) st123 <| seqO (oCmp (k (nI .u8 97)) gt123 ileF strLe) st124 <| seqO (oMv gt124) st125 <| seqG gt125 true (oMv gt15) st126 <| seqG gt125 true (oCallF 217 [gt126]) st127 <| seqG gt125 true (oCmp gt127 (k (nI .u8 122)) ileF strLe) st128 <| seqO (oPick gt125 gt128 (k (.bool false))) st129 <| seqO (oMv gt129) st121 <| normD) (condD gt121 (seqO (oMv gt15) st130 <| seqO (oCallF 217 [gt130]) st131 <| seqO (oSub gt131 (k (nI .u8 97))) st132 <| seqO (oAddS gt132 (k (nI .u8 10))) st133 <| seqO (oMv gt133) st16 <| normD) (seqD (seqO (oIface (k (nI .i64 2)) 252) st105 <| seqO (oMv (k (nI .u64 0))) st6 <| seqO (oMv gt105) st7 <| normD) retD)))))))) (seqD (seqD (seqO (oMv gt16) st134 <| seqO (oMv gt1) st135 <| seqO (oInt gt135 .u8) st136 <| seqO (oCmp gt134 gt136 igeF strGe) st137 <| normD) (condD gt137 (seqD (seqO (oIface (k (nI .i64 2)) 252) st138 <| seqO (oMv (k (nI .u64 0))) st6 <| seqO (oMv gt138) st7 <| normD) retD) normD)) (seqD (seqD (seqO (oMv gt13) st139 <| seqO (oMv gt10) st140 <| seqO (oCmp gt139 gt140 igeF strGe) st141 <| normD) (condD gt141 (seqD (seqO (oMv gt11) st142 <| seqO (oIface (k (nI .i64 1)) 252) st143 <| seqO (oMv gt142) st6 <| seqO (oMv gt143) st7 <| normD) retD) normD)) (seqD (seqO (oMv gt13) st144 <| seqO (oMv gt1) st145 <| seqO (oInt gt145 .u64) st146 <| seqO (oMul gt144 gt146) st147 <| seqO (oMv gt147) st13 <| normD) (seqD (seqO (oMv gt13) st148 <| seqO (oMv gt16) st149 <| seqO (oInt gt149 .u64) st150 <| seqO (oAddS gt148 gt150) st151 <| seqO (oMv gt151) st17 <| normD) (seqD (seqD (seqO (oMv gt17) st152 <| seqO (oMv gt13) st153 <| seqO (oCmp gt152 gt153 iltF strLt) st154 <| seqO (oMv gt154) st155 <| seqG gt155 false (oMv gt17) st156 <| seqG gt155 false (oMv gt11) st157 <| seqG gt155 false (oCmp gt156 gt157 igtF strGt) st158 <| seqO (oPick gt155 (k (.bool true)) gt158) st159 <| normD) (condD gt159 (seqD (seqO (oMv gt11) st160 <| seqO (oIface (k (nI .i64 1)) 252) st161 <| seqO (oMv gt160) st6 <| seqO (oMv gt161) st7 <| normD) retD) normD)) (seqO (oMv gt17) st162 <| seqO (oMv gt162) st13 <| normD)))))))))) (seqO (oAddS gt101 (k (nI .i64 1))) st163 <| seqO (oMv gt163) st101 <| normD))))
def c205 : CF := ⟨[(gt6, none), (gt7, none)], (seqD (seqO (oMv (k (nI .u64 0))) st6 <| seqO (oMv (k .nili)) st7 <| normD) (seqD (seqD (seqO (oMv gt0) st18 <| seqO (oEq gt18 (k (.str [])) eqS false) st19 <| normD) (condD gt19 (seqD (seqO (oIface (k (nI .i64 2)) 252) st20 <| seqO (oMv (k (nI .u64 0))) st6 <| seqO (oMv gt20) st7 <| normD) retD) normD)) (seqD (seqO (oMv gt1) st21 <| seqO (oEq gt21 (k (nI .i64 0)) eqI false) st22 <| seqO (oMv gt22) st8 <| normD) (seqD (seqO (oMv gt0) st23 <| seqO (oMv gt23) st9 <| normD) (seqD (blockD 0 (seqD (seqO (oMv gt1) st26 <| seqO (oCmp (k (nI .i64 2)) gt26 ileF strLe) st27 <| seqO (oMv gt27) st28 <| seqG gt28 true (oMv gt1) st29 <| seqG gt28 true (oCmp gt29 (k (nI .i64 36)) ileF strLe) st30 <| seqO (oPick gt28 gt30 (k (.bool false))) st31 <| seqO (oMv gt31) st25 <| normD) (condD gt25 normD (seqD (seqO (oMv gt1) st33 <| seqO (oEq gt33 (k (nI .i64 0)) eqI false) st34 <| seqO (oMv gt34) st32 <| normD) (condD gt32 (seqD (seqO (oMv (k (nI .i64 10))) st1 <| normD) (seqD (seqO (oMv gt0) st35 <| seqO (oIdxStr gt35 (k (nI .i64 0))) st36 <| seqO (oEq gt36 (k (nI .u8 48)) eqI false) st37 <| normD) (condD gt37 (blockD 1 (seqD (seqO (oMv gt0) st41 <| seqO (oLenS gt41) st42 <| seqO (oCmp gt42 (k (nI .i64 3)) igeF strGe) st43 <| seqO (oMv gt43) st44 <| seqG gt44 true (oMv gt0) st45 <| seqG gt44 true (oIdxStr gt45 (k (nI .i64 1))) st46 <| seqG gt44 true (oCallF 217 [gt46]) st47 <| seqG gt44 true (oEq gt47 (k (nI .u8 98)) eqI false) st48 <| seqO (oPick gt44 gt48 (k (.bool false))) st49 <| seqO (oMv gt49) st40 <| normD) (condD gt40 (seqD (seqO (oMv (k (nI .i64 2))) st1 <| normD) (seqO (oMv gt0) st50 <| seqO (oSlStr gt50 (some (k (nI .i64 2))) none none) st51 <| seqO (oMv gt51) st0 <| normD)) (seqD (seqO (oMv gt0) st53 <| seqO (oLenS gt53) st54 <| seqO (oCmp gt54 (k (nI .i64 3)) igeF strGe) st55 <| seqO (oMv gt55) st56 <| seqG gt56 true (oMv gt0) st57 <| seqG gt56 true (oIdxStr gt57 (k (nI .i64 1))) st58 <| seqG gt56 true (oCallF 217 [gt58]) st59 <| seqG gt56 true (oEq gt59 (k (nI .u8 111)) eqI false) st60 <| seqO (oPick gt56 gt60 (k (.bool false))) st61 <| seqO (oMv gt61) st52 <| normD) (condD gt52 (seqD (seqO (oMv (k (nI .i64 8))) st1 <| normD) (seqO (oMv gt0) st62 <| seqO (oSlStr gt62 (some (k (nI .i64 2))) none none) st63 <| seqO (oMv gt63) st0 <| normD)) (seqD (seqO (oMv gt0) st65 <| seqO (oLenS gt65) st66 <| seqO (oCmp gt66 (k (nI .i64 3)) igeF strGe) st67 <| seqO (oMv gt67) st68 <| seqG gt68 true (oMv gt0) st69 <| seqG gt68 true (oIdxStr gt69 (k (nI .i64 1))) st70 <| seqG gt68 true (oCallF 217 [gt70]) st71 <| seqG gt68 true (oEq gt71 (k (nI .u8 120)) eqI false) st72 <| seqO (oPick gt68 gt72 (k (.bool false))) st73 <| seqO (oMv gt73) st64 <| normD) (condD gt64 (seqD (seqO (oMv (k (nI .i64 16))) st1 <| normD) (seqO (oMv gt0) st74 <| seqO (oSlStr gt74 (some (k (nI .i64 2))) none none) st75 <| seqO (oMv gt75) st0 <| normD)) (seqD (seqO (oMv (k (nI .i64 8))) st1 <| normD) (seqO (oMv gt0) st38 <| seqO (oSlStr gt38 (some (k (nI .i64 1))) none none) st39 <| seqO (oMv gt39) st0 <| normD))))))))) normD))) (seqD (seqO (oIface (k (nI .i64 3)) 252) st24 <| seqO (oMv (k (nI .u64 0))) st6 <| seqO (oMv gt24) st7 <| normD) retD)))))) (seqD (seqD (seqO (oMv gt2) st76 <| seqO (oEq gt76 (k (nI .i64 0)) eqI false) st77 <| normD) (condD gt77 (seqO (oMv (k (nI .i64 64))) st2 <| normD) (seqD (seqO (oMv gt2) st78 <| seqO (oCmp gt78 (k (nI .i64 0)) iltF strLt) st79 <| seqO (oMv gt79) st80 <| seqG gt80 false (oMv gt2) st81 <| seqG gt80 false (oCmp gt81 (k (nI .i64 64)) igtF strGt) st82 <| seqO (oPick gt80 (k (.bool true)) gt82) st83 <| normD) (condD gt83 (seqD (seqO (oIface (k (nI .i64 4)) 252) st84 <| seqO (oMv (k (nI .u64 0))) st6 <| seqO (oMv gt84) st7 <| normD) retD) normD)))) (seqD (seqO (oMv (k (nI .u64 0))) st10 <| normD) (seqD (seqD (seqO (oMv gt1) st85 <| normD) (blockD 2 (seqD (seqO (oEq gt85 (k (nI .i64 10)) eqI false) st91 <| seqO (oMv gt91) st90 <| normD) (condD gt90 (seqO (oMv (k (nI .u64 1844674407370955162))) st10 <| normD) (seqD (seqO (oEq gt85 (k (nI .i64 16)) eqI false) st93 <| seqO (oMv gt93) st92 <| normD) (condD gt92 (seqO (oMv (k (nI .u64 1152921504606846976))) st10 <| normD) (seqO (oMv gt1) st86 <| seqO (oInt gt86 .u64) st87 <| seqO (oQuo (k (nI .u64 18446744073709551615)) gt87) st88 <| seqO (oAddS gt88 (k (nI .u64 1))) st89 <| seqO (oMv gt89) st10 <| normD))))))) (seqD (seqO (oMv gt2) st94 <| seqO (oInt gt94 .u64) st95 <| seqO (oShl (k (nI .u64 1)) gt95) st96 <| seqO (oSub gt96 (k (nI .u64 1))) st97 <| seqO (oMv gt97) st11 <| normD) (seqD (seqO (oMv (k (.bool false))) st12 <| normD) (seqD (seqO (oMv (k (nI .u64 0))) st13 <| normD) (seqD (seqD (seqO (oMv gt0) st98 <| seqO (oBytes gt98 5) st99 <| seqO (oLenL gt99) st100 <| seqO (oMv (k (nI .i64 0))) st101 <| normD) (blockD 3 (loopD c205_l0))) (seqD (seqD (seqO (oMv gt12) st164 <| seqO (oMv gt164) st165 <| seqG gt165 true (oMv gt9) st166 <| seqG gt165 true (oCallF 218 [gt166]) st167 <| seqG gt165 true (oNot gt167) st168 <| seqO (oPick gt165 gt168 (k (.bool false))) st169 <| normD) (condD gt169 (seqD (seqO (oIface (k (nI .i64 2)) 252) st170 <| seqO (oMv (k (nI .u64 0))) st6 <| seqO (oMv gt170) st7 <| normD) retD) normD)) (seqD (seqO (oMv gt13) st171 <| seqO (oMv gt171) st6 <| seqO (oMv (k .nili)) st7 <| normD) retD))))))))))))))⟩
def c217 : CF := ⟨[(gt2, none)], (seqD (seqO (oMv (k (nI .u8 0))) st2 <| normD) (seqD (seqO (oMv gt0) st3 <| seqO (oBits gt3 (k (nI .u8 32)) lorF) st4 <| seqO (oMv gt4) st2 <| normD) retD))⟩
def c190 : CF := ⟨[(gt10, none)], (seqD (seqO (oMv (k .nili)) st10 <| normD) (seqD (seqD (seqO (oMv gt4) st11 <| normD) (blockD 0 (seqD (seqO (oIface (k (nI .i64 2)) 252) st13 <| seqO (oEq gt11 gt13 (eqF false (eqC Tryz.prog (eqT Tryz.prog 9))) false) st14 <| seqO (oMv gt14) st12 <| normD) (condD gt12 (seqD (seqO (oMv gt0) st15 <| seqO (oMv gt1) st16 <| seqO (oCallF 206 [gt15, gt16]) st17 <| seqO (oIface gt17 255) st18 <| seqO (oMv gt18) st10 <| normD) retD) (seqD (seqO (oIface (k (nI .i64 1)) 252) st20 <| seqO (oEq gt11 gt20 (eqF false (eqC Tryz.prog (eqT Tryz.prog 9))) false) st21 <| seqO (oMv gt21) st19 <| normD) (condD gt19 (seqD (seqO (oMv gt0) st22 <| seqO (oMv gt1) st23 <| seqO (oCallF 207 [gt22, gt23]) st24 <| seqO (oIface gt24 255) st25 <| seqO (oMv gt25) st10 <| normD) retD) (seqD (seqO (oIface (k (nI .i64 3)) 252) st27 <| seqO (oEq gt11 gt27 (eqF false (eqC Tryz.prog (eqT Tryz.prog 9))) false) st28 <| seqO (oMv gt28) st26 <| normD) (condD gt26 (seqD (seqO (oMv gt0) st29 <| seqO (oMv gt1) st30 <| seqO (oMv gt2) st31 <| seqO (oCallF 208 [gt29, gt30, gt31]) st32 <| seqO (oIface gt32 255) st33 <| seqO (oMv gt33) st10 <| normD) retD) (seqD (seqO (oIface (k (nI .i64 4)) 252) st35 <| seqO (oEq gt11 gt35 (eqF false (eqC Tryz.prog (eqT Tryz.prog 9))) false) st36 <| seqO (oMv gt36) st34 <| normD) (condD gt34 (seqD (seqO (oMv gt0) st37 <| seqO (oMv gt1) st38 <| seqO (oMv gt3) st39 <| seqO (oCallF 209 [gt37, gt38, gt39]) st40 <| seqO (oIface gt40 255) st41 <| seqO (oMv gt41) st10 <| normD) retD) normD)))))))))) (seqD (seqO (oMv gt4) st42 <| seqO (oMv gt42) st10 <| normD) retD)))⟩
def c207 : CF := ⟨[(gt4, none)], (seqD (seqO (oMv (k .nilp)) st4 <| normD) (seqD (drawnD [⟨oMv gt0, none, [(st0, gt0)], st5, .free, 0, 0⟩, ⟨oMv gt1, none, [(st1, gt1)], st6, .free, 1, 0⟩, ⟨oLoad1 (k (.ptr 9 0)), none, [], st8, .read, 3, 0⟩, ⟨oCallF 219 [gt6], none, [(st6, gt6)], st7, .eff, 2, 2⟩, ⟨oBuild [(.str []), (.str []), .nili] [⟨0, 1, gt5⟩, ⟨1, 1, gt7⟩, ⟨2, 1, gt8⟩], none, [(st5, gt5), (st7, gt7), (st8, gt8)], st9, .free, 4, 15⟩, ⟨oBox gt9 267, none, [(st9, gt9)], st10, .free, 5, 31⟩, ⟨oMv gt10, none, [(st10, gt10)], st4, .eff, 6, 63⟩]) retD))⟩
def c219 : CF := ⟨[(gt2, none)], (seqD (seqO (oMv (k (.str []))) st2 <| normD) (seqD (seqD (seqO (oMv gt0) st4 <| seqO (oLenS gt4) st5 <| seqO (oEq gt5 (k (nI .i64 0)) eqI false) st6 <| normD) (condD gt6 (seqD (seqO (oMv (k (.str []))) st2 <| normD) retD) normD)) (seqD (seqO (oMv gt0) st7 <| seqO (oLenS gt7) st8 <| seqO (oMkSlice 5 1 1 [(nI .u8 0)] gt8 gt8) st9 <| seqO (oMv gt9) st3 <| normD) (seqD (seqO (oMv gt3) st10 <| seqO (oMv gt0) st11 <| seqO (oCopy gt10 gt11 1) st12 <| normD) (seqD (seqO (oMv gt3) st13 <| seqO (oIdxS gt13 (k (nI .i64 0)) 1) st14 <| seqO (oMv gt3) st15 <| seqO (oLenL gt15) st16 <| seqO (oUStr gt14 gt16 5) st17 <| seqO (oMv gt17) st2 <| normD) retD)))))⟩
def c36 : CF := ⟨[(gt4, none)], (seqD (seqO (oMv (k (nI .i64 0))) st4 <| normD) (seqD (seqO (oMv gt0) st5 <| seqO (oMv gt1) st6 <| seqO (oCallF 75 [gt5, gt6]) st7 <| seqO (oMv gt7) st4 <| normD) retD))⟩
def c75 : CF := ⟨[(gt4, none)], (seqD (seqO (oMv (k (nI .i64 0))) st4 <| normD) (seqD (seqO (oMv gt0) st5 <| seqO (oMv gt1) st6 <| seqO (oCallF 127 [gt5, gt6]) st7 <| seqO (oMv gt7) st4 <| normD) retD))⟩
def c107_l0 : D := (seqD (seqD (drawnD [⟨oMv gt0, none, [(st0, gt0)], st42, .free, 0, 0⟩, ⟨oLenS gt42, none, [(st42, gt42)], st43, .free, 1, 1⟩, ⟨oCmp gt43 (k (nI .i64 32)) igtF strGt, none, [(st43, gt43)], st44, .free, 2, 3⟩, ⟨oMv gt44, none, [(st44, gt44)], st45, .free, 3, 7⟩, ⟨oMv gt0, (some (gt45, true)), [(st0, gt0)], st46, .free, 4, 15⟩, ⟨oMv gt0, (some (gt45, true)), [(st0, gt0)], st48, .free, 6, 15⟩, ⟨oSlStr gt48 (some (k (nI .i64 8))) none none, (some (gt45, true)), [(st48, gt48)], st49, .free, 7, 79⟩, ⟨oMv gt0, (some (gt45, true)), [(st0, gt0)], st52, .free, 10, 15⟩, ⟨oSlStr gt52 (some (k (nI .i64 16))) none none, (some (gt45, true)), [(st52, gt52)], st53, .free, 11, 1039⟩, ⟨oMv gt0, (some (gt45, true)), [(st0, gt0)], st55, .free, 13, 15⟩, ⟨oSlStr gt55 (some (k (nI .i64 24))) none none, (some (gt45, true)), [(st55, gt55)], st56, .free, 14, 8207⟩, ⟨oCallF 151 [gt46], (some (gt45, true)), [(st46, gt46)], st47, .eff, 5, 31⟩, ⟨oCallF 151 [gt49], (some (gt45, true)), [(st49, gt49)], st50, .eff, 8, 255⟩, ⟨oBits gt47 gt50 lorF, (some (gt45, true)), [(st47, gt47), (st50, gt50)], st51, .free, 9, 511⟩, ⟨oCallF 151 [gt53], (some (gt45, true)), [(st53, gt53)], st54, .eff, 12, 3583⟩, ⟨oCallF 151 [gt56], (some (gt45, true)), [(st56, gt56)], st57, .eff, 15, 32255⟩, ⟨oBits gt54 gt57 lorF, (some (gt45, true)), [(st54, gt54), (st57, gt57)], st58, .free, 16, 65023⟩, ⟨oBits gt51 gt58 lorF, (some (gt45, true)), [(st51, gt51), (st58, gt58)], st59, .free, 17, 131071⟩, ⟨oBits gt59 (k (nI .u64 9259542123273814144)) landF, (some (gt45, true)), [(st59, gt59)], st60, .free, 18, 262143⟩, ⟨oEq gt60 (k (nI .u64 0)) eqI false, (some (gt45, true)), [(st60, gt60)], st61, .free, 19, 524287⟩, ⟨oPick gt45 gt61 (k (.bool false)), none, [(st45, gt45), (st61, gt61)], st62, .free, 20, 1048575⟩]) (condD gt62 normD (exitD 2))) (blockD 3 (seqO (oMv gt0) st63 <| seqO (oSlStr gt63 (some (k (nI .i64 32))) none none) st64 <| seqO (oMv gt64) st0 <| normD)))
def c107_l1 : D := (seqD (seqD (seqO (oMv gt0) st7 <| seqO (oLenS gt7) st8 <| seqO (oCmp gt8 (k (nI .i64 0)) igtF strGt) st9 <| normD) (condD gt9 normD (exitD 0))) (blockD 1 (seqD (seqO (oMv gt0) st10 <| seqO (oIdxStr gt10 (k (nI .i64 0))) st11 <| seqO (oMv gt11) st3 <| normD) (seqD (seqD (seqO (oMv gt3) st12 <| seqO (oCmp gt12 (k (nI .u8 128)) iltF strLt) st13 <| normD) (condD gt13 (seqD (seqO (oMv gt0) st14 <| seqO (oSlStr gt14 (some (k (nI .i64 1))) none none) st15 <| seqO (oMv gt15) st0 <| normD) (seqD (seqD (seqO (oMv gt0) st16 <| seqO (oLenS gt16) st17 <| seqO (oCmp gt17 (k (nI .i64 8)) igtF strGt) st18 <| seqO (oMv gt18) st19 <| seqG gt19 true (oMv gt0) st20 <| seqG gt19 true (oCallF 151 [gt20]) st21 <| seqG gt19 true (oBits gt21 (k (nI .u64 9259542123273814144)) landF) st22 <| seqG gt19 true (oEq gt22 (k (nI .u64 0)) eqI false) st23 <| seqO (oPick gt19 gt23 (k (.bool false))) st24 <| normD) (condD gt24 (seqD (seqO (oMv gt0) st25 <| seqO (oSlStr gt25 (some (k (nI .i64 8))) none none) st26 <| seqO (oMv gt26) st0 <| normD) (seqD (drawnD [⟨oMv gt0, none, [(st0, gt0)], st27, .free, 0, 0⟩, ⟨oLenS gt27, none, [(st27, gt27)], st28, .free, 1, 1⟩, ⟨oCmp gt28 (k (nI .i64 16)) igtF strGt, none, [(st28, gt28)], st29, .free, 2, 3⟩, ⟨oMv gt29, none, [(st29, gt29)], st30, .free, 3, 7⟩, ⟨oMv gt0, (some (gt30, true)), [(st0, gt0)], st31, .free, 4, 15⟩, ⟨oMv gt0, (some (gt30, true)), [(st0, gt0)], st33, .free, 6, 15⟩, ⟨oSlStr gt33 (some (k (nI .i64 8))) none none, (some (gt30, true)), [(st33, gt33)], st34, .free, 7, 79⟩, ⟨oCallF 151 [gt31], (some (gt30, true)), [(st31, gt31)], st32, .eff, 5, 31⟩, ⟨oCallF 151 [gt34], (some (gt30, true)), [(st34, gt34)], st35, .eff, 8, 255⟩, ⟨oBits gt32 gt35 lorF, (some (gt30, true)), [(st32, gt32), (st35, gt35)], st36, .free, 9, 511⟩, ⟨oBits gt36 (k (nI .u64 9259542123273814144)) landF, (some (gt30, true)), [(st36, gt36)], st37, .free, 10, 1023⟩, ⟨oEq gt37 (k (nI .u64 0)) eqI false, (some (gt30, true)), [(st37, gt37)], st38, .free, 11, 2047⟩, ⟨oPick gt30 gt38 (k (.bool false)), none, [(st30, gt30), (st38, gt38)], st39, .free, 12, 4095⟩]) (condD gt39 (seqD (seqO (oMv gt0) st40 <| seqO (oSlStr gt40 (some (k (nI .i64 16))) none none) st41 <| seqO (oMv gt41) st0 <| normD) (blockD 2 (loopD c107_l0))) normD))) normD)) (exitD 1))) normD)) (seqD (seqO (oMv gt3) st65 <| seqO (oIdxA (k (.ptr 0 0)) gt65 256 1) st66 <| seqO (oLoad1 gt66) st67 <| seqO (oMv gt67) st4 <| normD) (seqD (seqO (oMv gt4) st68 <| seqO (oBits gt68 (k (nI .u8 7)) landF) st69 <| seqO (oInt gt69 .i64) st70 <| seqO (oMv gt70) st5 <| normD) (seqD (seqO (oMv gt4) st71 <| seqO (oShr gt71 (k (nI .u64 4))) st72 <| seqO (oIdxA (k (.ptr 1 0)) gt72 16 2) st73 <| seqO (oLoad gt73 2) st74 <| seqO (oAlloc 208 [(nI .u8 0), (nI .u8 0)]) st6 <| seqO (oStore gt6 gt74 2) d0 <| normD) (seqD (seqO (oMv gt5) st75 <| normD) (blockD 4 (seqD (seqO (oEq gt75 (k (nI .i64 2)) eqI false) st77 <| seqO (oMv gt77) st76 <| normD) (condD gt76 (seqD (seqD (drawnD [⟨oMv gt0, none, [(st0, gt0)], st78, .free, 0, 0⟩, ⟨oLenS gt78, none, [(st78, gt78)], st79, .free, 1, 1⟩, ⟨oCmp gt79 (k (nI .i64 2)) iltF strLt, none, [(st79, gt79)], st80, .free, 2, 3⟩, ⟨oMv gt80, none, [(st80, gt80)], st81, .free, 3, 7⟩, ⟨oMv gt0, (some (gt81, false)), [(st0, gt0)], st82, .free, 4, 15⟩, ⟨oIdxStr gt82 (k (nI .i64 1)), (some (gt81, false)), [(st82, gt82)], st83, .free, 5, 31⟩, ⟨oOff gt6 0, (some (gt81, false)), [(st6, gt6)], st84, .free, 6, 15⟩, ⟨oLoad1 gt84, (some (gt81, false)), [(st84, gt84)], st85, .read, 7, 79⟩, ⟨oCmp gt83 gt85 iltF strLt, (some (gt81, false)), [(st83, gt83), (st85, gt85)], st86, .free, 8, 255⟩, ⟨oPick gt81 (k (.bool true)) gt86, none, [(st81, gt81), (st86, gt86)], st87, .free, 9, 511⟩, ⟨oMv gt87, none, [(st87, gt87)], st88, .free, 10, 1023⟩, ⟨oOff gt6 1, (some (gt88, false)), [(st6, gt6)], st89, .free, 11, 2047⟩, ⟨oLoad1 gt89, (some (gt88, false)), [(st89, gt89)], st90, .read, 12, 4095⟩, ⟨oMv gt0, (some (gt88, false)), [(st0, gt0)], st91, .free, 13, 2047⟩, ⟨oIdxStr gt91 (k (nI .i64 1)), (some (gt88, false)), [(st91, gt91)], st92, .free, 14, 10239⟩, ⟨oCmp gt90 gt92 iltF strLt, (some (gt88, false)), [(st90, gt90), (st92, gt92)], st93, .free, 15, 32767⟩, ⟨oPick gt88 (k (.bool true)) gt93, none, [(st88, gt88), (st93, gt93)], st94, .free, 16, 65535⟩]) (condD gt94 (seqD (seqO (oMv (k (.bool false))) st2 <| normD) retD) normD)) (seqO (oMv gt0) st95 <| seqO (oSlStr gt95 (some (k (nI .i64 2))) none none) st96 <| seqO (oMv gt96) st0 <| normD)) (seqD (seqO (oEq gt75 (k (nI .i64 3)) eqI false) st98 <| seqO (oMv gt98) st97 <| normD) (condD gt97 (seqD (seqD (drawnD [⟨oMv gt0, none, [(st0, gt0)], st99, .free, 0, 0⟩, ⟨oLenS gt99, none, [(st99, gt99)], st100, .free, 1, 1⟩, ⟨oCmp gt100 (k (nI .i64 3)) iltF strLt, none, [(st100, gt100)], st101, .free, 2, 3⟩, ⟨oMv gt101, none, [(st101, gt101)], st102, .free, 3, 7⟩, ⟨oMv gt0, (some (gt102, false)), [(st0, gt0)], st103, .free, 4, 15⟩, ⟨oIdxStr gt103 (k (nI .i64 1)), (some (gt102, false)), [(st103, gt103)], st104, .free, 5, 31⟩, ⟨oOff gt6 0, (some (gt102, false)), [(st6, gt6)], st105, .free, 6, 15⟩, ⟨oLoad1 gt105, (some (gt102, false)), [(st105, gt105)], st106, .read, 7, 79⟩, ⟨oCmp gt104 gt106 iltF strLt, (some (gt102, false)), [(st104, gt104), (st106, gt106)], st107, .free, 8, 255⟩, ⟨oPick gt102 (k (.bool true)) gt107, none, [(st102, gt102), (st107, gt107)], st108, .free, 9, 511⟩, ⟨oMv gt108, none, [(st108, gt108)], st109, .free, 10, 1023⟩, ⟨oOff gt6 1, (some (gt109, false)), [(st6, gt6)], st110, .free, 11, 2047⟩, ⟨oLoad1 gt110, (some (gt109, false)), [(st110, gt110)], st111, .read, 12, 4095⟩, ⟨oMv gt0, (some (gt109, false)), [(st0, gt0)], st112, .free, 13, 2047⟩, ⟨oIdxStr gt112 (k (nI .i64 1)), (some (gt109, false)), [(st112, gt112)], st113, .free, 14, 10239⟩, ⟨oCmp gt111 gt113 iltF strLt, (some (gt109, false)), [(st111, gt111), (st113, gt113)], st114, .free, 15, 32767⟩, ⟨oPick gt109 (k (.bool true)) gt114, none, [(st109, gt109), (st114, gt114)], st115, .free, 16, 65535⟩, ⟨oMv gt115, none, [(st115, gt115)], st116, .free, 17, 131071⟩, ⟨oMv gt0, (some (gt116, false)), [(st0, gt0)], st117, .free, 18, 262143⟩, ⟨oIdxStr gt117 (k (nI .i64 2)), (some (gt116, false)), [(st117, gt117)], st118, .free, 19, 524287⟩, ⟨oCmp gt118 (k (nI .u8 128)) iltF strLt, (some (gt116, false)), [(st118, gt118)], st119, .free, 20, 1048575⟩, ⟨oPick gt116 (k (.bool true)) gt119, none, [(st116, gt116), (st119, gt119)], st120, .free, 21, 2097151⟩, ⟨oMv gt120, none, [(st120, gt120)], st121, .free, 22, 4194303⟩, ⟨oMv gt0, (some (gt121, false)), [(st0, gt0)], st122, .free, 23, 8388607⟩, ⟨oIdxStr gt122 (k (nI .i64 2)), (some (gt121, false)), [(st122, gt122)], st123, .free, 24, 16777215⟩, ⟨oCmp (k (nI .u8 191)) gt123 iltF strLt, (some (gt121, false)), [(st123, gt123)], st124, .free, 25, 33554431⟩, ⟨oPick gt121 (k (.bool true)) gt124, none, [(st121, gt121), (st124, gt124)], st125, .free, 26, 67108863⟩]) (condD gt125 (seqD (seqO (oMv (k (.bool false))) st2 <| normD) retD) normD)) (seqO (oMv gt0) st126 <| seqO (oSlStr gt126 (some (k (nI .i64 3))) none none) st127 <| seqO (oMv gt127) st0 <| normD)) (seqD (seqO (oEq gt75 (k (nI .i64 4)) eqI false) st129 <| seqO (oMv gt129) st128 <| normD) (condD gt128 (seqD (seqD (drawnD [⟨oMv gt0, none, [(st0, gt0)], st130, .free, 0, 0⟩, ⟨oLenS gt130, none, [(st130, gt130)], st131, .free, 1, 1⟩, ⟨oCmp gt131 (k (nI .i64 4)) iltF strLt, none, [(st131, gt131)], st132, .free, 2, 3⟩, ⟨oMv gt132, none, [(st132, gt132)], st133, .free, 3, 7⟩, ⟨oMv gt0, (some (gt133, false)), [(st0, gt0)], st134, .free, 4, 15⟩, ⟨oIdxStr gt134 (k (nI .i64 1)), (some (gt133, false)), [(st134, gt134)], st135, .free, 5, 31⟩, ⟨oOff gt6 0, (some (gt133, false)), [(st6, gt6)], st136, .free, 6, 15⟩, ⟨oLoad1 gt136, (some (gt133, false)), [(st136, gt136)], st137, .read, 7, 79⟩, ⟨oCmp gt135 gt137 iltF strLt, (some (gt133, false)), [(st135, gt135), (st137, gt137)], st138, .free, 8, 255⟩, ⟨oPick gt133 (k (.bool true)) gt138, none, [(st133, gt133), (st138, gt138)], st139, .free, 9, 511⟩, ⟨oMv gt139, none, [(st139, gt139)], st140, .free, 10, 1023⟩, ⟨oOff gt6 1, (some (gt140, false)), [(st6, gt6)], st141, .free, 11, 2047⟩, ⟨oLoad1 gt141, (some (gt140, false)), [(st141, gt141)], st142, .read, 12, 4095⟩, ⟨oMv gt0, (some (gt140, false)), [(st0, gt0)], st143, .free, 13, 2047⟩, ⟨oIdxStr gt143 (k (nI .i64 1)), (some (gt140, false)), [(st143, gt143)], st144, .free, 14, 10239⟩, ⟨oCmp gt142 gt144 iltF strLt, (some (gt140, false)), [(st142, gt142), (st144, gt144)], st145, .free, 15, 32767⟩, ⟨oPick gt140 (k (.bool true)) gt145, none, [(st140, gt140), (st145, gt145)], st146, .free, 16, 65535⟩, ⟨oMv gt146, none, [(st146, gt146)], st147, .free, 17, 131071⟩, ⟨oMv gt0, (some (gt147, false)), [(st0, gt0)], st148, .free, 18, 262143⟩, ⟨oIdxStr gt148 (k (nI .i64 2)), (some (gt147, false)), [(st148, gt148)], st149, .free, 19, 524287⟩, ⟨oCmp gt149 (k (nI .u8 128)) iltF strLt, (some (gt147, false)), [(st149, gt149)], st150, .free, 20, 1048575⟩, ⟨oPick gt147 (k (.bool true)) gt150, none, [(st147, gt147), (st150, gt150)], st151, .free, 21, 2097151⟩, ⟨oMv gt151, none, [(st151, gt151)], st152, .free, 22, 4194303⟩, ⟨oMv gt0, (some (gt152, false)), [(st0, gt0)], st153, .free, 23, 8388607⟩, ⟨oIdxStr gt153 (k (nI .i64 2)), (some (gt152, false)), [(st153, gt153)], st154, .free, 24, 16777215⟩, ⟨oCmp (k (nI .u8 191)) gt154 iltF strLt, (some (gt152, false)), [(st154, gt154)], st155, .free, 25, 33554431⟩, ⟨oPick gt152 (k (.bool true)) gt155, none, [(st152, gt152), (st155, gt155)], st156, .free, 26, 67108863⟩, ⟨oMv gt156, none, [(st156, gt156)], st157, .free, 27, 134217727⟩, ⟨oMv gt0, (some (gt157, false)), [(st0, gt0)], st158, .free, 28, 268435455⟩, ⟨oIdxStr gt158 (k (nI .i64 3)), (some (gt157, false)), [(st158, gt158)], st159, .free, 29, 536870911⟩, ⟨oCmp gt159 (k (nI .u8 128)) iltF strLt, (some (gt157, false)), [(st159, gt159)], st160, .free, 30, 1073741823⟩, ⟨oPick gt157 (k (.bool true)) gt160, none, [(st157, gt157), (st160, gt160)], st161, .free, 31, 2147483647⟩, ⟨oMv gt161, none, [(st161, gt161)], st162, .free, 32, 4294967295⟩, ⟨oMv gt0, (some (gt162, false)), [(st0, gt0)], st163, .free, 33, 8589934591⟩, ⟨oIdxStr gt163 (k (nI .i64 3)), (some (gt162, false)), [(st163, gt163)], st164, .free, 34, 17179869183⟩, ⟨oCmp (k (nI .u8 191)) gt164 iltF strLt, (some (gt162, false)), [(st164, gt164)], st165, .free, 35, 34359738367⟩, ⟨oPick gt162 (k (.bool true)) gt165, none, [(st162, gt162), (st165, gt165)], st166, .free, 36, 68719476735⟩]) (condD gt166 (seqD (seqO (oMv (k (.bool false))) st2 <| normD) retD) normD)) (seqO (oMv gt0) st167 <| seqO (oSlStr gt167 (some (k (nI .i64 4))) none none) st168 <| seqO (oMv gt168) st0 <| normD)) (seqD (seqO (oMv (k (.bool false))) st2 <| normD) retD))))))))))))))))
def c107 : CF := ⟨[(gt2, none)], (seqD (seqO (oMv (k (.bool false))) st2 <| normD) (seqD (blockD 0 (loopD c107_l1)) (seqD (seqO (oMv (k (.bool true))) st2 <| normD) retD)))⟩
end
end Go.AI

/- What is looked up, and in which rank; what the functions that write tell. -/
namespace Go.AI
open Go
noncomputable section
def rank : Nat → Nat
  | 33 => 4
  | 36 => 2
  | 40 => 7
  | 43 => 1
  | 45 => 4
  | 68 => 5
  | 70 => 3
  | 71 => 3
  | 75 => 1
  | 79 => 3
  | 80 => 1
  | 88 => 1
  | 90 => 3
  | 107 => 1
  | 120 => 1
  | 121 => 2
  | 124 => 2
  | 129 => 1
  | 134 => 5
  | 137 => 1
  | 138 => 2
  | 160 => 1
  | 167 => 2
  | 171 => 1
  | 172 => 1
  | 173 => 1
  | 189 => 3
  | 205 => 2
  | 217 => 1
  | 219 => 1
  | _ => 0
/-! a reader -/
def rd (s : List UInt8) (i : Nat) : Obj := rG 144 1 [.str s, nI .i64 i] 0 false true true
def rdOf (o : Option Obj) : Option (List UInt8 × Nat) := match o with
  | some (.row r) => (match r.get 0, r.get 1 with | .str s, .int .i64 (.ofNat i) => some (s, i) | _, _ => none)
  | _ => none
theorem rdOf_rd (s : List UInt8) (i : Nat) : rdOf (some (rd s i)) = some (s, i) := by
  show (match Row.get ⟨144, 1, lenL [AV.str s, nI .i64 i], T.ofList [AV.str s, nI .i64 i], .unk, 0, false, true, true⟩ 0, Row.get ⟨144, 1, lenL [AV.str s, nI .i64 i], T.ofList [AV.str s, nI .i64 i], .unk, 0, false, true, true⟩ 1 with | .str s, .int .i64 (.ofNat i) => some (s, i) | _, _ => none) = _
  rw [rG_get, rG_get]; rfl
/-- a fault -/
def fltV (e i : Nat) : AV := .iface 141 (.agg [nI .i64 e, nI .i64 i])
def blk (c : UInt8) : Bool := c.toNat == 32 || c.toNat == 9 || c.toNat == 10 || c.toNat == 13
/-- behind blanks -/
def skipB (s : List UInt8) (i : Nat) : Nat := i + ((s.drop i).takeWhile blk).length
def dg (c : UInt8) : Bool := decide (48 ≤ c.toNat) && decide (c.toNat ≤ 57)
def spanD (s : List UInt8) (i : Nat) : Nat := i + ((s.drop i).takeWhile dg).length
inductive NO where
  | ok (z : Int) (q : Nat)
  | bad (at_ q : Nat)
def numFrom (s : List UInt8) (i : Nat) : Nat := if (s.getD i 0).toNat = 45 then i + 1 else i
def numTo (s : List UInt8) (p : Nat) : Nat := if (s.getD p 0).toNat = 48 then p + 1 else spanD s p
/-- a number's outcome -/
def numOut (s : List UInt8) (i : Nat) : NO :=
  let p := numFrom s i
  if dg (s.getD p 0) = false then .bad p p
  else
    let q := numTo s p
    let u := undec ((s.take q).drop p)
    if p = i then (if u < 9223372036854775808 then .ok u q else .bad i q) else (if u ≤ 9223372036854775808 then .ok (-(u : Int)) q else .bad i q)
def wholeV (z : Int) : AV := .agg [nI .i64 3, .bool false, .int .i64 z, .str [], .nils, .nils]
def spec : Lib := fun f args H => match f, args with
  | 79, [.ptr b 0] => (rdOf (H.t.get b)).map fun x => .ret (.tup []) (H.put b (rd x.1 (skipB x.1 x.2)))
  | 80, [.ptr b 0] => (rdOf (H.t.get b)).map fun x => .pan (fltV 5 x.2) H
  | 134, [.ptr b 0] => (rdOf (H.t.get b)).map fun x => match numOut x.1 x.2 with
    | .ok z q => .ret (wholeV z) (H.put b (rd x.1 q))
    | .bad p q => .pan (fltV 5 p) (H.put b (rd x.1 q))
  | _, _ => none
abbrev LK (lib0 : Lib) (fs : T CF) (fuel k : Nat) : Lib := libK lib0 fs fuel rank spec k
def pow10 : List UInt64 := [1, 10, 100, 1000, 10000, 100000, 1000000, 10000000, 100000000, 1000000000, 10000000000, 100000000000, 1000000000000, 10000000000000, 100000000000000, 1000000000000000, 10000000000000000, 100000000000000000, 1000000000000000000, 10000000000000000000]
/-- the tables that are read -/
def Glob (H : Heap) : Prop := 100 ≤ H.nx ∧ (∃ r, H.t.get 3 = some (.row r) ∧ Cells r (pow10.map u64V)) ∧ ∃ r t p, H.t.get 9 = some (.row r) ∧ 0 < r.size ∧ r.get 0 = .iface t (.ptr p 0) ∧ p < 100
theorem Glob.keep {H H' : Heap} (g : Glob H) {S : List Nat} (k : Keep H H' S) (hS : ∀ x ∈ S, 100 ≤ x) : Glob H' := by
  obtain ⟨h, ⟨r, h1, h2⟩, e, t, p, h3, h4⟩ := g
  exact ⟨Nat.le_trans h k.nx, ⟨r, by rw [k.get _ (by omega) (fun h => by have := hS _ h; omega)]; exact h1, h2⟩, e, t, p, by rw [k.get _ (by omega) (fun h => by have := hS _ h; omega)]; exact h3, h4⟩
theorem Glob.put {H : Heap} (g : Glob H) {b : Nat} (hb : 100 ≤ b) (o : Obj) : Glob (H.put b o) := g.keep (S := [b]) (Keep.put fun _ => by simp) (by simp; exact hb)
theorem Glob.new {H : Heap} (g : Glob H) (o : Obj) : Glob (H.new o) := g.keep (S := []) (Keep.new H o _) (by simp)
structure Env (lib0 : Lib) (fs : T CF) (fuel : Nat) : Prop where
  big : 100000 ≤ fuel
  f8 : fs.get 8 = some c8
  n8 : ∀ l H, lib0 8 l H = none
  f29 : fs.get 29 = some c29
  n29 : ∀ l H, lib0 29 l H = none
  f33 : fs.get 33 = some c33
  n33 : ∀ l H, lib0 33 l H = none
  f36 : fs.get 36 = some c36
  n36 : ∀ l H, lib0 36 l H = none
  f40 : fs.get 40 = some c40
  n40 : ∀ l H, lib0 40 l H = none
  f43 : fs.get 43 = some c43
  n43 : ∀ l H, lib0 43 l H = none
  f45 : fs.get 45 = some c45
  n45 : ∀ l H, lib0 45 l H = none
  f68 : fs.get 68 = some c68
  n68 : ∀ l H, lib0 68 l H = none
  f70 : fs.get 70 = some c70
  n70 : ∀ l H, lib0 70 l H = none
  f71 : fs.get 71 = some c71
  n71 : ∀ l H, lib0 71 l H = none
  f75 : fs.get 75 = some c75
  n75 : ∀ l H, lib0 75 l H = none
  f77 : fs.get 77 = some c77
  n77 : ∀ l H, lib0 77 l H = none
  f78 : fs.get 78 = some c78
  n78 : ∀ l H, lib0 78 l H = none
  f79 : fs.get 79 = some c79
  n79 : ∀ l H, lib0 79 l H = none
  f80 : fs.get 80 = some c80
  n80 : ∀ l H, lib0 80 l H = none
  f88 : fs.get 88 = some c88
  n88 : ∀ l H, lib0 88 l H = none
  f90 : fs.get 90 = some c90
  n90 : ∀ l H, lib0 90 l H = none
  f107 : fs.get 107 = some c107
  n107 : ∀ l H, lib0 107 l H = none
  f120 : fs.get 120 = some c120
  n120 : ∀ l H, lib0 120 l H = none
  f121 : fs.get 121 = some c121
  n121 : ∀ l H, lib0 121 l H = none
  f124 : fs.get 124 = some c124
  n124 : ∀ l H, lib0 124 l H = none
  f129 : fs.get 129 = some c129
  n129 : ∀ l H, lib0 129 l H = none
  f134 : fs.get 134 = some c134
  n134 : ∀ l H, lib0 134 l H = none
  f137 : fs.get 137 = some c137
  n137 : ∀ l H, lib0 137 l H = none
  f138 : fs.get 138 = some c138
  n138 : ∀ l H, lib0 138 l H = none
  f139 : fs.get 139 = some c139
  n139 : ∀ l H, lib0 139 l H = none
  f160 : fs.get 160 = some c160
  n160 : ∀ l H, lib0 160 l H = none
  f167 : fs.get 167 = some c167
  n167 : ∀ l H, lib0 167 l H = none
  f168 : fs.get 168 = some c168
  n168 : ∀ l H, lib0 168 l H = none
  f171 : fs.get 171 = some c171
  n171 : ∀ l H, lib0 171 l H = none
  f172 : fs.get 172 = some c172
  n172 : ∀ l H, lib0 172 l H = none
  f173 : fs.get 173 = some c173
  n173 : ∀ l H, lib0 173 l H = none
  f189 : fs.get 189 = some c189
  n189 : ∀ l H, lib0 189 l H = none
  f190 : fs.get 190 = some c190
  n190 : ∀ l H, lib0 190 l H = none
  f205 : fs.get 205 = some c205
  n205 : ∀ l H, lib0 205 l H = none
  f207 : fs.get 207 = some c207
  n207 : ∀ l H, lib0 207 l H = none
  f217 : fs.get 217 = some c217
  n217 : ∀ l H, lib0 217 l H = none
  f219 : fs.get 219 = some c219
  n219 : ∀ l H, lib0 219 l H = none
  ix : ∀ (s : List UInt8) (x : Nat) (H : Heap), x < 256 → lib0 127 [.str s, nI .u8 x] H = some (.ret (.int .i64 (idxByte x s 0)) H)
  nesc : ∀ (x : AV) (H : Heap), lib0 128 [x] H = some (.ret x H)
end
end Go.AI

/- Numbers' lengths; small numbers: walked. -/
namespace Go.AI
open Go
noncomputable section

/-- how many bits -/
def blen (x : Nat) : Nat := if x = 0 then 0 else Nat.log2 x + 1
theorem blen_tab : ∀ x, x < 256 → (lit24.getD x 0).toNat = blen x := by decide
theorem blen_div {x k : Nat} (h : 2 ^ k ≤ x) : blen x = k + blen (x / 2 ^ k) := by
  have hp : 0 < 2 ^ k := Nat.two_pow_pos k
  have h1 : x ≠ 0 := by omega
  have h2 : x / 2 ^ k ≠ 0 := by
    have := Nat.div_pos h hp; omega
  unfold blen
  rw [if_neg h1, if_neg h2]
  have e1 := (Nat.log2_eq_iff h2 (k := Nat.log2 (x / 2 ^ k))).1 rfl
  have : Nat.log2 x = k + Nat.log2 (x / 2 ^ k) := by
    refine (Nat.log2_eq_iff h1).2 ⟨?_, ?_⟩
    · rw [Nat.pow_add]
      calc 2 ^ k * 2 ^ Nat.log2 (x / 2 ^ k) ≤ 2 ^ k * (x / 2 ^ k) := Nat.mul_le_mul_left _ e1.1
        _ ≤ x := Nat.mul_div_le x _
    · rw [Nat.add_assoc, Nat.pow_add, Nat.mul_comm]
      exact (Nat.div_lt_iff_lt_mul hp).1 e1.2
  omega
theorem blen_32 {x : Nat} (h : 4294967296 ≤ x) : blen x = 32 + blen (x / 4294967296) := blen_div (k := 32) h
theorem blen_16 {x : Nat} (h : 65536 ≤ x) : blen x = 16 + blen (x / 65536) := blen_div (k := 16) h
theorem blen_8 {x : Nat} (h : 256 ≤ x) : blen x = 8 + blen (x / 256) := blen_div (k := 8) h
theorem blen_lt {x k : Nat} (h : x < 2 ^ k) : blen x ≤ k := by
  unfold blen
  split
  · omega
  · rename_i h0
    have := (Nat.log2_lt h0).2 h
    omega
theorem len64_run {lib0 : Lib} {fs : T CF} {fuel : Nat} (E : Env lib0 fs fuel) {n : Nat} {x : Nat} {H : Heap} (hx : x < 18446744073709551616) :
    ∃ H', callN (LK lib0 fs fuel 0) fs fuel (n + 2) 172 [nI .u64 x] H = .ret (nI .i64 (blen x)) H' ∧ Keep H H' [] := by
  rw [callN_fn (libK_none E.n172 (.inl (by decide)) _ _) E.f172]
  have hl : lit24.length = 256 := by decide
  have tab : ∀ y, y < 256 → lit24.getD (y % 256) 0 = UInt8.ofNat (blen y) := fun y hy => by
    rw [Nat.mod_eq_of_lt hy, ← blen_tab y hy]; simp
  have tb : ∀ y, y < 256 → (lit24.getD (y % 256) 0).toNat = blen y := fun y hy => by rw [Nat.mod_eq_of_lt hy, blen_tab y hy]
  have bl : ∀ y, blen (y % 256) ≤ 8 := fun y => blen_lt (k := 8) (Nat.mod_lt _ (by decide))
  by_cases h1 : 4294967296 ≤ x
  · have d1 : decide (4294967296 ≤ x) = true := decide_eq_true h1
    rw [blen_32 h1]
    generalize hy : x / 4294967296 = y
    have hy2 : y < 4294967296 := by omega
    by_cases h2 : 65536 ≤ y
    · have d2 : decide (65536 ≤ y) = true := decide_eq_true h2
      rw [blen_16 h2]
      generalize hz : y / 65536 = z
      have hz2 : z < 65536 := by omega
      by_cases h3 : 256 ≤ z
      · have d3 : decide (256 ≤ z) = true := decide_eq_true h3
        rw [blen_8 h3]
        generalize hw : z / 256 = w
        have hw2 : w < 256 := by omega
        have hm := Nat.mod_eq_of_lt hw2
        have hb := bl w
        rw [hm] at hb
        have hb2 := tb w hw2
        rw [hm] at hb2
        simp (disch := first | omega | decide) only [cmpV_ge, shrV_nu64, intM_u8, idxStr_at, intV_i64, addV_i, Nat.reducePow, d1, hy, d2, hz, d3, hw, hm, hb2, c172, RunG, N8G, CoreG, Bool.not_true, Bool.not_false, freeK_at, readK_at, freeN_at, List.nil_append, List.append_nil, Option.map_none, Option.map_some, List.map_cons, List.map_nil, cond_true, cond_false, Nat.testBit_eq_decide_div_mod_eq, Nat.reducePow, Nat.reduceDiv, Nat.reduceMod, decide_true, Nat.reduceEqDiff, decide_false, reduceCtorEq, Nat.zero_ne_one, Nat.zero_add, List.getD_cons_zero, List.getD_cons_succ, List.set_cons_zero, List.set_cons_succ, gtr0, gtr2, gtr3, gtr4, gtr5, gtr6, gtr7, gtr8, gtr9, gtr10, gtr11, gtr12, gtr13, gtr14, gtr15, gtr16, gtr17, gtr18, gtr19, gtr20, gtr21, gtr22, gtr23, gtr24, str0, str2, str3, str4, str5, str6, str7, str8, str9, str10, str11, str12, str13, str14, str15, str16, str17, str18, str19, str20, str21, str22, str23, str24]
        exact ⟨_, by first | rfl | simp only [Nat.add_assoc], Keep.refl _ _⟩
      · have d3 : decide (256 ≤ z) = false := decide_eq_false h3
        have hw2 : z < 256 := by omega
        have hm := Nat.mod_eq_of_lt hw2
        have hb := bl z
        rw [hm] at hb
        have hb2 := tb z hw2
        rw [hm] at hb2
        simp (disch := first | omega | decide) only [cmpV_ge, shrV_nu64, intM_u8, idxStr_at, intV_i64, addV_i, Nat.reducePow, d1, hy, d2, hz, d3, hm, hb2, c172, RunG, N8G, CoreG, Bool.not_true, Bool.not_false, freeK_at, readK_at, freeN_at, List.nil_append, List.append_nil, Option.map_none, Option.map_some, List.map_cons, List.map_nil, cond_true, cond_false, Nat.testBit_eq_decide_div_mod_eq, Nat.reducePow, Nat.reduceDiv, Nat.reduceMod, decide_true, Nat.reduceEqDiff, decide_false, reduceCtorEq, Nat.zero_ne_one, Nat.zero_add, List.getD_cons_zero, List.getD_cons_succ, List.set_cons_zero, List.set_cons_succ, gtr0, gtr2, gtr3, gtr4, gtr5, gtr6, gtr7, gtr8, gtr9, gtr10, gtr11, gtr12, gtr13, gtr14, gtr15, gtr16, gtr17, gtr18, gtr19, gtr20, gtr21, gtr22, gtr23, gtr24, str0, str2, str3, str4, str5, str6, str7, str8, str9, str10, str11, str12, str13, str14, str15, str16, str17, str18, str19, str20, str21, str22, str23, str24]
        exact ⟨_, by first | rfl | simp only [Nat.add_assoc], Keep.refl _ _⟩
    · have d2 : decide (65536 ≤ y) = false := decide_eq_false h2
      have hz2 : y < 65536 := by omega
      by_cases h3 : 256 ≤ y
      · have d3 : decide (256 ≤ y) = true := decide_eq_true h3
        rw [blen_8 h3]
        generalize hw : y / 256 = w
        have hw2 : w < 256 := by omega
        have hm := Nat.mod_eq_of_lt hw2
        have hb := bl w
        rw [hm] at hb
        have hb2 := tb w hw2
        rw [hm] at hb2
        simp (disch := first | omega | decide) only [cmpV_ge, shrV_nu64, intM_u8, idxStr_at, intV_i64, addV_i, Nat.reducePow, d1, hy, d2, d3, hw, hm, hb2, c172, RunG, N8G, CoreG, Bool.not_true, Bool.not_false, freeK_at, readK_at, freeN_at, List.nil_append, List.append_nil, Option.map_none, Option.map_some, List.map_cons, List.map_nil, cond_true, cond_false, Nat.testBit_eq_decide_div_mod_eq, Nat.reducePow, Nat.reduceDiv, Nat.reduceMod, decide_true, Nat.reduceEqDiff, decide_false, reduceCtorEq, Nat.zero_ne_one, Nat.zero_add, List.getD_cons_zero, List.getD_cons_succ, List.set_cons_zero, List.set_cons_succ, gtr0, gtr2, gtr3, gtr4, gtr5, gtr6, gtr7, gtr8, gtr9, gtr10, gtr11, gtr12, gtr13, gtr14, gtr15, gtr16, gtr17, gtr18, gtr19, gtr20, gtr21, gtr22, gtr23, gtr24, str0, str2, str3, str4, str5, str6, str7, str8, str9, str10, str11, str12, str13, str14, str15, str16, str17, str18, str19, str20, str21, str22, str23, str24]
        exact ⟨_, by first | rfl | simp only [Nat.add_assoc], Keep.refl _ _⟩
      · have d3 : decide (256 ≤ y) = false := decide_eq_false h3
        have hw2 : y < 256 := by omega
        have hm := Nat.mod_eq_of_lt hw2
        have hb := bl y
        rw [hm] at hb
        have hb2 := tb y hw2
        rw [hm] at hb2
        simp (disch := first | omega | decide) only [cmpV_ge, shrV_nu64, intM_u8, idxStr_at, intV_i64, addV_i, Nat.reducePow, d1, hy, d2, d3, hm, hb2, c172, RunG, N8G, CoreG, Bool.not_true, Bool.not_false, freeK_at, readK_at, freeN_at, List.nil_append, List.append_nil, Option.map_none, Option.map_some, List.map_cons, List.map_nil, cond_true, cond_false, Nat.testBit_eq_decide_div_mod_eq, Nat.reducePow, Nat.reduceDiv, Nat.reduceMod, decide_true, Nat.reduceEqDiff, decide_false, reduceCtorEq, Nat.zero_ne_one, Nat.zero_add, List.getD_cons_zero, List.getD_cons_succ, List.set_cons_zero, List.set_cons_succ, gtr0, gtr2, gtr3, gtr4, gtr5, gtr6, gtr7, gtr8, gtr9, gtr10, gtr11, gtr12, gtr13, gtr14, gtr15, gtr16, gtr17, gtr18, gtr19, gtr20, gtr21, gtr22, gtr23, gtr24, str0, str2, str3, str4, str5, str6, str7, str8, str9, str10, str11, str12, str13, str14, str15, str16, str17, str18, str19, str20, str21, str22, str23, str24]
        exact ⟨_, by first | rfl | simp only [Nat.add_assoc], Keep.refl _ _⟩
  · have d1 : decide (4294967296 ≤ x) = false := decide_eq_false h1
    have hy2 : x < 4294967296 := by omega
    by_cases h2 : 65536 ≤ x
    · have d2 : decide (65536 ≤ x) = true := decide_eq_true h2
      rw [blen_16 h2]
      generalize hz : x / 65536 = z
      have hz2 : z < 65536 := by omega
      by_cases h3 : 256 ≤ z
      · have d3 : decide (256 ≤ z) = true := decide_eq_true h3
        rw [blen_8 h3]
        generalize hw : z / 256 = w
        have hw2 : w < 256 := by omega
        have hm := Nat.mod_eq_of_lt hw2
        have hb := bl w
        rw [hm] at hb
        have hb2 := tb w hw2
        rw [hm] at hb2
        simp (disch := first | omega | decide) only [cmpV_ge, shrV_nu64, intM_u8, idxStr_at, intV_i64, addV_i, Nat.reducePow, d1, d2, hz, d3, hw, hm, hb2, c172, RunG, N8G, CoreG, Bool.not_true, Bool.not_false, freeK_at, readK_at, freeN_at, List.nil_append, List.append_nil, Option.map_none, Option.map_some, List.map_cons, List.map_nil, cond_true, cond_false, Nat.testBit_eq_decide_div_mod_eq, Nat.reducePow, Nat.reduceDiv, Nat.reduceMod, decide_true, Nat.reduceEqDiff, decide_false, reduceCtorEq, Nat.zero_ne_one, Nat.zero_add, List.getD_cons_zero, List.getD_cons_succ, List.set_cons_zero, List.set_cons_succ, gtr0, gtr2, gtr3, gtr4, gtr5, gtr6, gtr7, gtr8, gtr9, gtr10, gtr11, gtr12, gtr13, gtr14, gtr15, gtr16, gtr17, gtr18, gtr19, gtr20, gtr21, gtr22, gtr23, gtr24, str0, str2, str3, str4, str5, str6, str7, str8, str9, str10, str11, str12, str13, str14, str15, str16, str17, str18, str19, str20, str21, str22, str23, str24]
        exact ⟨_, by first | rfl | simp only [Nat.add_assoc], Keep.refl _ _⟩
      · have d3 : decide (256 ≤ z) = false := decide_eq_false h3
        have hw2 : z < 256 := by omega
        have hm := Nat.mod_eq_of_lt hw2
        have hb := bl z
        rw [hm] at hb
        have hb2 := tb z hw2
        rw [hm] at hb2
        simp (disch := first | omega | decide) only [cmpV_ge, shrV_nu64, intM_u8, idxStr_at, intV_i64, addV_i, Nat.reducePow, d1, d2, hz, d3, hm, hb2, c172, RunG, N8G, CoreG, Bool.not_true, Bool.not_false, freeK_at, readK_at, freeN_at, List.nil_append, List.append_nil, Option.map_none, Option.map_some, List.map_cons, List.map_nil, cond_true, cond_false, Nat.testBit_eq_decide_div_mod_eq, Nat.reducePow, Nat.reduceDiv, Nat.reduceMod, decide_true, Nat.reduceEqDiff, decide_false, reduceCtorEq, Nat.zero_ne_one, Nat.zero_add, List.getD_cons_zero, List.getD_cons_succ, List.set_cons_zero, List.set_cons_succ, gtr0, gtr2, gtr3, gtr4, gtr5, gtr6, gtr7, gtr8, gtr9, gtr10, gtr11, gtr12, gtr13, gtr14, gtr15, gtr16, gtr17, gtr18, gtr19, gtr20, gtr21, gtr22, gtr23, gtr24, str0, str2, str3, str4, str5, str6, str7, str8, str9, str10, str11, str12, str13, str14, str15, str16, str17, str18, str19, str20, str21, str22, str23, str24]
        exact ⟨_, by first | rfl | simp only [Nat.add_assoc], Keep.refl _ _⟩
    · have d2 : decide (65536 ≤ x) = false := decide_eq_false h2
      have hz2 : x < 65536 := by omega
      by_cases h3 : 256 ≤ x
      · have d3 : decide (256 ≤ x) = true := decide_eq_true h3
        rw [blen_8 h3]
        generalize hw : x / 256 = w
        have hw2 : w < 256 := by omega
        have hm := Nat.mod_eq_of_lt hw2
        have hb := bl w
        rw [hm] at hb
        have hb2 := tb w hw2
        rw [hm] at hb2
        simp (disch := first | omega | decide) only [cmpV_ge, shrV_nu64, intM_u8, idxStr_at, intV_i64, addV_i, Nat.reducePow, d1, d2, d3, hw, hm, hb2, c172, RunG, N8G, CoreG, Bool.not_true, Bool.not_false, freeK_at, readK_at, freeN_at, List.nil_append, List.append_nil, Option.map_none, Option.map_some, List.map_cons, List.map_nil, cond_true, cond_false, Nat.testBit_eq_decide_div_mod_eq, Nat.reducePow, Nat.reduceDiv, Nat.reduceMod, decide_true, Nat.reduceEqDiff, decide_false, reduceCtorEq, Nat.zero_ne_one, Nat.zero_add, List.getD_cons_zero, List.getD_cons_succ, List.set_cons_zero, List.set_cons_succ, gtr0, gtr2, gtr3, gtr4, gtr5, gtr6, gtr7, gtr8, gtr9, gtr10, gtr11, gtr12, gtr13, gtr14, gtr15, gtr16, gtr17, gtr18, gtr19, gtr20, gtr21, gtr22, gtr23, gtr24, str0, str2, str3, str4, str5, str6, str7, str8, str9, str10, str11, str12, str13, str14, str15, str16, str17, str18, str19, str20, str21, str22, str23, str24]
        exact ⟨_, by first | rfl | simp only [Nat.add_assoc], Keep.refl _ _⟩
      · have d3 : decide (256 ≤ x) = false := decide_eq_false h3
        have hw2 : x < 256 := by omega
        have hm := Nat.mod_eq_of_lt hw2
        have hb := bl x
        rw [hm] at hb
        have hb2 := tb x hw2
        rw [hm] at hb2
        simp (disch := first | omega | decide) only [cmpV_ge, shrV_nu64, intM_u8, idxStr_at, intV_i64, addV_i, Nat.reducePow, d1, d2, d3, hm, hb2, c172, RunG, N8G, CoreG, Bool.not_true, Bool.not_false, freeK_at, readK_at, freeN_at, List.nil_append, List.append_nil, Option.map_none, Option.map_some, List.map_cons, List.map_nil, cond_true, cond_false, Nat.testBit_eq_decide_div_mod_eq, Nat.reducePow, Nat.reduceDiv, Nat.reduceMod, decide_true, Nat.reduceEqDiff, decide_false, reduceCtorEq, Nat.zero_ne_one, Nat.zero_add, List.getD_cons_zero, List.getD_cons_succ, List.set_cons_zero, List.set_cons_succ, gtr0, gtr2, gtr3, gtr4, gtr5, gtr6, gtr7, gtr8, gtr9, gtr10, gtr11, gtr12, gtr13, gtr14, gtr15, gtr16, gtr17, gtr18, gtr19, gtr20, gtr21, gtr22, gtr23, gtr24, str0, str2, str3, str4, str5, str6, str7, str8, str9, str10, str11, str12, str13, str14, str15, str16, str17, str18, str19, str20, str21, str22, str23, str24]
        exact ⟨_, by first | rfl | simp only [Nat.add_assoc], Keep.refl _ _⟩
theorem len64 {lib0 : Lib} {fs : T CF} {fuel : Nat} (E : Env lib0 fs fuel) {k n : Nat} (hk : 1 ≤ k) {x : Nat} {H : Heap} (hx : x < 18446744073709551616) :
    callN (LK lib0 fs fuel k) fs fuel (n + 1) 172 [nI .u64 x] H = .ret (nI .i64 (blen x)) H := by
  obtain ⟨H', e, g⟩ := len64_run E (n := 898) (H := H) hx
  exact keep_hit (r := 0) rfl rfl e g (rfl) hk
theorem log10p_run {lib0 : Lib} {fs : T CF} {fuel : Nat} (E : Env lib0 fs fuel) {n : Nat} {x : Nat} {H : Heap} (hx : x ≤ 64) :
    ∃ H', callN (LK lib0 fs fuel 0) fs fuel (n + 2) 171 [nI .i64 x] H = .ret (nI .i64 (x * 78913 / 262144)) H' ∧ Keep H H' [] := by
  rw [callN_fn (libK_none E.n171 (.inl (by decide)) _ _) E.f171]
  simp (disch := first | omega | decide) only [mulV_i, shrV_ni64, Nat.reducePow, c171, RunG, N8G, CoreG, Bool.not_true, Bool.not_false, freeK_at, readK_at, freeN_at, List.nil_append, List.append_nil, Option.map_none, Option.map_some, List.map_cons, List.map_nil, cond_true, cond_false, Nat.testBit_eq_decide_div_mod_eq, Nat.reducePow, Nat.reduceDiv, Nat.reduceMod, decide_true, Nat.reduceEqDiff, decide_false, reduceCtorEq, Nat.zero_ne_one, Nat.zero_add, List.getD_cons_zero, List.getD_cons_succ, List.set_cons_zero, List.set_cons_succ, gtr0, gtr2, gtr3, gtr4, gtr5, str0, str2, str3, str4, str5]
  exact ⟨_, rfl, Keep.refl _ _⟩
theorem log10p {lib0 : Lib} {fs : T CF} {fuel : Nat} (E : Env lib0 fs fuel) {k n : Nat} (hk : 1 ≤ k) {x : Nat} {H : Heap} (hx : x ≤ 64) :
    callN (LK lib0 fs fuel k) fs fuel (n + 1) 171 [nI .i64 x] H = .ret (nI .i64 (x * 78913 / 262144)) H := by
  obtain ⟨H', e, g⟩ := log10p_run E (n := 898) (H := H) hx
  exact keep_hit (r := 0) rfl rfl e g (rfl) hk
theorem bool2_run {lib0 : Lib} {fs : T CF} {fuel : Nat} (E : Env lib0 fs fuel) {n : Nat} {b : Bool} {H : Heap}  :
    ∃ H', callN (LK lib0 fs fuel 0) fs fuel (n + 2) 173 [.bool b] H = .ret (nI .i64 (if b then 1 else 0)) H' ∧ Keep H H' [] := by
  rw [callN_fn (libK_none E.n173 (.inl (by decide)) _ _) E.f173]
  cases b
  · simp (disch := first | omega | decide) only [c173, RunG, N8G, CoreG, Bool.not_true, Bool.not_false, freeK_at, readK_at, freeN_at, List.nil_append, List.append_nil, Option.map_none, Option.map_some, List.map_cons, List.map_nil, cond_true, cond_false, Nat.testBit_eq_decide_div_mod_eq, Nat.reducePow, Nat.reduceDiv, Nat.reduceMod, decide_true, Nat.reduceEqDiff, decide_false, reduceCtorEq, Nat.zero_ne_one, Nat.zero_add, List.getD_cons_zero, List.getD_cons_succ, List.set_cons_zero, List.set_cons_succ, gtr0, gtr2, gtr3, str0, str2, str3]
    exact ⟨_, rfl, Keep.refl _ _⟩
  · simp (disch := first | omega | decide) only [c173, RunG, N8G, CoreG, Bool.not_true, Bool.not_false, freeK_at, readK_at, freeN_at, List.nil_append, List.append_nil, Option.map_none, Option.map_some, List.map_cons, List.map_nil, cond_true, cond_false, Nat.testBit_eq_decide_div_mod_eq, Nat.reducePow, Nat.reduceDiv, Nat.reduceMod, decide_true, Nat.reduceEqDiff, decide_false, reduceCtorEq, Nat.zero_ne_one, Nat.zero_add, List.getD_cons_zero, List.getD_cons_succ, List.set_cons_zero, List.set_cons_succ, gtr0, gtr2, gtr3, str0, str2, str3]
    exact ⟨_, rfl, Keep.refl _ _⟩
theorem bool2 {lib0 : Lib} {fs : T CF} {fuel : Nat} (E : Env lib0 fs fuel) {k n : Nat} (hk : 1 ≤ k) {b : Bool} {H : Heap}  :
    callN (LK lib0 fs fuel k) fs fuel (n + 1) 173 [.bool b] H = .ret (nI .i64 (if b then 1 else 0)) H := by
  obtain ⟨H', e, g⟩ := bool2_run E (n := 898) (H := H) 
  exact keep_hit (r := 0) rfl rfl e g (rfl) hk
theorem small_tab : ∀ x, x < 100 → (if x < 10 then (lit21.take (x + 1)).drop x else (lit22.take (x * 2 + 2)).drop (x * 2)) = dec x := by
  intro x hx
  by_cases h : x < 10
  · rw [if_pos h, dec_lt h]
    have : ∀ x, x < 10 → (lit21.take (x + 1)).drop x = [dig x] := by decide
    exact this x h
  · rw [if_neg h, dec_ge (by omega), dec_lt (by omega)]
    have : ∀ x, x < 100 → (lit22.take (x * 2 + 2)).drop (x * 2) = [dig (x / 10)] ++ [dig (x % 10)] := by decide
    exact this x hx
theorem small_run {lib0 : Lib} {fs : T CF} {fuel : Nat} (E : Env lib0 fs fuel) {n : Nat} {x : Nat} {H : Heap} (hx : x < 100) :
    ∃ H', callN (LK lib0 fs fuel 0) fs fuel (n + 2) 137 [nI .i64 x] H = .ret (.str (dec x)) H' ∧ Keep H H' [] := by
  rw [callN_fn (libK_none E.n137 (.inl (by decide)) _ _) E.f137]
  have l1 : lit21.length = 36 := by decide
  have l2 : lit22.length = 200 := by decide
  have st := small_tab x hx
  by_cases h : x < 10
  · have d : decide (x < 10) = true := decide_eq_true h
    rw [if_pos h] at st
    simp (disch := first | omega | decide) only [cmpV_lt, addV_i, mulV_i, slStr_mid, d, st, c137, RunG, N8G, CoreG, Bool.not_true, Bool.not_false, freeK_at, readK_at, freeN_at, List.nil_append, List.append_nil, Option.map_none, Option.map_some, List.map_cons, List.map_nil, cond_true, cond_false, Nat.testBit_eq_decide_div_mod_eq, Nat.reducePow, Nat.reduceDiv, Nat.reduceMod, decide_true, Nat.reduceEqDiff, decide_false, reduceCtorEq, Nat.zero_ne_one, Nat.zero_add, List.getD_cons_zero, List.getD_cons_succ, List.set_cons_zero, List.set_cons_succ, gtr0, gtr2, gtr3, gtr4, gtr5, gtr6, gtr7, gtr8, gtr9, gtr10, gtr11, gtr12, gtr13, gtr14, str0, str2, str3, str4, str5, str6, str7, str8, str9, str10, str11, str12, str13, str14]
    exact ⟨_, rfl, Keep.refl _ _⟩
  · have d : decide (x < 10) = false := decide_eq_false h
    rw [if_neg h] at st
    simp (disch := first | omega | decide) only [cmpV_lt, addV_i, mulV_i, slStr_mid, d, st, c137, RunG, N8G, CoreG, Bool.not_true, Bool.not_false, freeK_at, readK_at, freeN_at, List.nil_append, List.append_nil, Option.map_none, Option.map_some, List.map_cons, List.map_nil, cond_true, cond_false, Nat.testBit_eq_decide_div_mod_eq, Nat.reducePow, Nat.reduceDiv, Nat.reduceMod, decide_true, Nat.reduceEqDiff, decide_false, reduceCtorEq, Nat.zero_ne_one, Nat.zero_add, List.getD_cons_zero, List.getD_cons_succ, List.set_cons_zero, List.set_cons_succ, gtr0, gtr2, gtr3, gtr4, gtr5, gtr6, gtr7, gtr8, gtr9, gtr10, gtr11, gtr12, gtr13, gtr14, str0, str2, str3, str4, str5, str6, str7, str8, str9, str10, str11, str12, str13, str14]
    exact ⟨_, rfl, Keep.refl _ _⟩
theorem small {lib0 : Lib} {fs : T CF} {fuel : Nat} (E : Env lib0 fs fuel) {k n : Nat} (hk : 1 ≤ k) {x : Nat} {H : Heap} (hx : x < 100) :
    callN (LK lib0 fs fuel k) fs fuel (n + 1) 137 [nI .i64 x] H = .ret (.str (dec x)) H := by
  obtain ⟨H', e, g⟩ := small_run E (n := 898) (H := H) hx
  exact keep_hit (r := 0) rfl rfl e g (rfl) hk
/-! how many digits -/
def ndF (d : Nat) : Nat := blen d * 78913 / 262144
theorem pows : ∀ L, L < 65 → 1 ≤ L → (L * 78913 / 262144 ≤ 19 ∧ 10 ^ (L * 78913 / 262144) ≤ 2 ^ (L - 1) * 10 ∧ 2 ^ L ≤ 10 ^ (L * 78913 / 262144 + 1) ∧ (L * 78913 / 262144 = 0 ∨ 10 ^ (L * 78913 / 262144 - 1) ≤ 2 ^ (L - 1))) := by decide
theorem nd_is {d : Nat} (h0 : d ≠ 0) (h : d < 18446744073709551616) : ndF d ≤ 19 ∧ nd10 d = ndF d + (if 10 ^ ndF d ≤ d then 1 else 0) := by
  have hb : blen d = Nat.log2 d + 1 := by unfold blen; rw [if_neg h0]
  have e1 := (Nat.log2_eq_iff h0 (k := Nat.log2 d)).1 rfl
  have hL : blen d ≤ 64 := blen_lt (k := 64) h
  obtain ⟨p0, p1, p2, p3⟩ := pows (blen d) (by omega) (by omega)
  have g : blen d - 1 = Nat.log2 d := by omega
  rw [g] at p1 p3
  have p2' : d < 10 ^ (ndF d + 1) := Nat.lt_of_lt_of_le (by rw [hb]; exact e1.2) p2
  refine ⟨p0, ?_⟩
  by_cases hc : 10 ^ ndF d ≤ d
  · rw [if_pos hc]
    exact nd10_is _ _ hc p2'
  · rw [if_neg hc]
    rcases p3 with p3 | p3
    · have : ndF d = 0 := p3
      rw [this] at hc
      simp at hc; omega
    · by_cases hz : ndF d = 0
      · rw [hz] at hc; simp at hc; omega
      · have : nd10 d = (ndF d - 1) + 1 := nd10_is _ _ (Nat.le_trans p3 e1.1) (by rw [show ndF d - 1 + 1 = ndF d by omega]; omega)
        omega
theorem pow_tab : ∀ i, i < 20 → (pow10.getD i 0).toNat = 10 ^ i := by decide
theorem numDigits_run {lib0 : Lib} {fs : T CF} {fuel : Nat} (E : Env lib0 fs fuel) {n : Nat} {d : Nat} {H : Heap} (g : Glob H) (h0 : d ≠ 0) (hd : d < 18446744073709551616) :
    ∃ H', callN (LK lib0 fs fuel 1) fs fuel (n + 2) 138 [nI .u64 d] H = .ret (nI .i64 (nd10 d)) H' ∧ Keep H H' [] := by
  rw [callN_fn (libK_none E.n138 (.inl (by decide)) _ _) E.f138]
  obtain ⟨g0, ⟨r, gr, gc⟩, _⟩ := g
  obtain ⟨p1, p2⟩ := nd_is h0 hd
  have hbl : blen d ≤ 64 := blen_lt (k := 64) hd
  have e1 := fun {k m} (hk : 1 ≤ k) => len64 (lib0 := lib0) (fs := fs) (fuel := fuel) E (k := k) (n := m) hk (H := H) hd
  have e2 := fun {k m} (hk : 1 ≤ k) => log10p (lib0 := lib0) (fs := fs) (fuel := fuel) E (k := k) (n := m) hk (H := H) hbl
  have e3 := fun {k m} (hk : 1 ≤ k) (b) => bool2 (lib0 := lib0) (fs := fs) (fuel := fuel) E (k := k) (n := m) hk (b := b) (H := H)
  have ld : load1V (.ptr 3 (ndF d)) H = .val (nI .u64 (10 ^ ndF d)) H := by
    rw [load1V_row gr gc (by rw [List.length_map]; show _ < 20; omega), List.getD_eq_getElem?_getD, List.getElem?_map]
    have := pow_tab (ndF d) (by omega)
    rw [List.getD_eq_getElem?_getD] at this
    rw [List.getElem?_eq_getElem (show ndF d < pow10.length by show _ < 20; omega)] at this ⊢
    show OR.val (u64V _) H = _
    unfold u64V nI
    rw [← this]; rfl
  unfold ndF at ld p1 p2
  simp (disch := first | omega | decide) only [e1, e2, e3, onCR_ret, idxAV_ptr, cmpV_ge, addV_i, Nat.zero_add, c138, RunG, N8G, CoreG, Bool.not_true, Bool.not_false, freeK_at, readK_at, freeN_at, List.nil_append, List.append_nil, Option.map_none, Option.map_some, List.map_cons, List.map_nil, cond_true, cond_false, Nat.testBit_eq_decide_div_mod_eq, Nat.reducePow, Nat.reduceDiv, Nat.reduceMod, decide_true, Nat.reduceEqDiff, decide_false, reduceCtorEq, Nat.zero_ne_one, Nat.zero_add, List.getD_cons_zero, List.getD_cons_succ, List.set_cons_zero, List.set_cons_succ, gtr0, gtr2, gtr3, gtr4, gtr5, gtr6, gtr7, gtr8, gtr9, gtr10, gtr11, gtr12, gtr13, gtr14, str0, str2, str3, str4, str5, str6, str7, str8, str9, str10, str11, str12, str13, str14]
  rw [load1V_at] at ld
  simp (disch := first | omega | decide) only [ld, e3, onCR_ret, cmpV_ge, c138, RunG, N8G, CoreG, Bool.not_true, Bool.not_false, freeK_at, readK_at, freeN_at, List.nil_append, List.append_nil, Option.map_none, Option.map_some, List.map_cons, List.map_nil, cond_true, cond_false, Nat.testBit_eq_decide_div_mod_eq, Nat.reducePow, Nat.reduceDiv, Nat.reduceMod, decide_true, Nat.reduceEqDiff, decide_false, reduceCtorEq, Nat.zero_ne_one, Nat.zero_add, List.getD_cons_zero, List.getD_cons_succ, List.set_cons_zero, List.set_cons_succ, gtr0, gtr2, gtr3, gtr4, gtr5, gtr6, gtr7, gtr8, gtr9, gtr10, gtr11, gtr12, gtr13, gtr14, str0, str2, str3, str4, str5, str6, str7, str8, str9, str10, str11, str12, str13, str14]
  by_cases hc : 10 ^ (blen d * 78913 / 262144) ≤ d
  · rw [if_pos hc] at p2
    have dc : decide (10 ^ (blen d * 78913 / 262144) ≤ d) = true := decide_eq_true hc
    simp (disch := first | omega | decide) only [dc, e3, onCR_ret, if_true, addV_i, c138, RunG, N8G, CoreG, Bool.not_true, Bool.not_false, freeK_at, readK_at, freeN_at, List.nil_append, List.append_nil, Option.map_none, Option.map_some, List.map_cons, List.map_nil, cond_true, cond_false, Nat.testBit_eq_decide_div_mod_eq, Nat.reducePow, Nat.reduceDiv, Nat.reduceMod, decide_true, Nat.reduceEqDiff, decide_false, reduceCtorEq, Nat.zero_ne_one, Nat.zero_add, List.getD_cons_zero, List.getD_cons_succ, List.set_cons_zero, List.set_cons_succ, gtr0, gtr2, gtr3, gtr4, gtr5, gtr6, gtr7, gtr8, gtr9, gtr10, gtr11, gtr12, gtr13, gtr14, str0, str2, str3, str4, str5, str6, str7, str8, str9, str10, str11, str12, str13, str14]
    exact ⟨_, by rw [p2], Keep.refl _ _⟩
  · rw [if_neg hc] at p2
    have dc : decide (10 ^ (blen d * 78913 / 262144) ≤ d) = false := decide_eq_false hc
    simp (disch := first | omega | decide) only [dc, e3, onCR_ret, Bool.false_eq_true, if_false, addV_i, c138, RunG, N8G, CoreG, Bool.not_true, Bool.not_false, freeK_at, readK_at, freeN_at, List.nil_append, List.append_nil, Option.map_none, Option.map_some, List.map_cons, List.map_nil, cond_true, cond_false, Nat.testBit_eq_decide_div_mod_eq, Nat.reducePow, Nat.reduceDiv, Nat.reduceMod, decide_true, Nat.reduceEqDiff, decide_false, reduceCtorEq, Nat.zero_ne_one, Nat.zero_add, List.getD_cons_zero, List.getD_cons_succ, List.set_cons_zero, List.set_cons_succ, gtr0, gtr2, gtr3, gtr4, gtr5, gtr6, gtr7, gtr8, gtr9, gtr10, gtr11, gtr12, gtr13, gtr14, str0, str2, str3, str4, str5, str6, str7, str8, str9, str10, str11, str12, str13, str14]
    exact ⟨_, by rw [p2], Keep.refl _ _⟩
theorem numDigits {lib0 : Lib} {fs : T CF} {fuel : Nat} (E : Env lib0 fs fuel) {k n : Nat} (hk : 2 ≤ k) {d : Nat} {H : Heap} (g : Glob H) (h0 : d ≠ 0) (hd : d < 18446744073709551616) :
    callN (LK lib0 fs fuel k) fs fuel (n + 1) 138 [nI .u64 d] H = .ret (nI .i64 (nd10 d)) H := by
  obtain ⟨H', e, g⟩ := numDigits_run E (n := 898) (H := H) g h0 hd
  exact keep_hit (r := 1) rfl rfl e g (rfl) hk
end
end Go.AI

/- Numbers put into digits: walked. -/
namespace Go.AI
open Go
noncomputable section

namespace T
variable {α : Type}
theorem setB_same (x : α) : ∀ (t : T α) (bs : List Bool), t.getB bs = some x → setB x t bs = t
  | leaf, bs, h => by cases h
  | node l v r, [], h => by
    have h : v = some x := h
    subst h; rfl
  | node l v r, true :: bs, h => by rw [setB_t, setB_same x l bs h]
  | node l v r, false :: bs, h => by rw [setB_f, setB_same x r bs h]
end T
theorem put_self {H : Heap} {b : Nat} {o : Obj} (h : H.t.get b = some o) : H.put b o = H := by
  unfold Heap.put T.set
  rw [T.setB_same o H.t (bits b) h]
theorem decP_get : ∀ k n i, i < k → (decP k n).getD i 0 = dig (n / 10 ^ (k - 1 - i) % 10)
  | 0, _, _, h => by omega
  | k + 1, n, i, h => by
    show (decP k (n / 10) ++ [dig (n % 10)]).getD i 0 = _
    rw [List.getD_eq_getElem?_getD]
    by_cases hi : i < k
    · rw [List.getElem?_append_left (by rw [decP_len]; exact hi), ← List.getD_eq_getElem?_getD, decP_get k (n / 10) i hi, Nat.div_div_eq_div_mul]
      congr 3
      rw [show k + 1 - 1 - i = (k - 1 - i) + 1 by omega, Nat.pow_succ, Nat.mul_comm]
    · obtain rfl : i = k := by omega
      rw [List.getElem?_append_right (by rw [decP_len]; exact Nat.le_refl _), decP_len, Nat.sub_self, show i + 1 - 1 - i = 0 by omega, Nat.pow_zero, Nat.div_one]; rfl
theorem sm_len : lit22.length = 200 := by decide
theorem sm_0 : ∀ x, x < 100 → lit22.getD (x * 2) 0 = dig (x / 10) := by decide
theorem sm_1 : ∀ x, x < 100 → lit22.getD (x * 2 + 1) 0 = dig (x % 10) := by decide
theorem smV0 {x : Nat} (hx : x < 100) (H : Heap) : idxStrV (.str lit22) (nI .u32 (x * 2)) H = .val (u8V (dig (x / 10))) H := by rw [idxStrV_at (by rw [sm_len]; omega), sm_0 x hx]
theorem smV1 {x : Nat} (hx : x < 100) (H : Heap) : idxStrV (.str lit22) (nI .u32 (x * 2 + 1)) H = .val (u8V (dig (x % 10))) H := by rw [idxStrV_at (by rw [sm_len]; omega), sm_1 x hx]
/-- a row of 24 bytes, of which the digits from m on are laid -/
structure FB (r R : Row) (nd m : Nat) (ds : List UInt8) : Prop where
  size : R.size = 24
  own : R.own = true
  fz : R.fz = 0
  get : ∀ i, R.get i = if 1 + m ≤ i ∧ i < 1 + nd then u8V (ds.getD (i - 1) 0) else r.get i
theorem FB.pair {r R : Row} {nd m p q d1 d2 : Nat} {ds : List UInt8} (h : FB r R nd m ds) (hm : m ≤ nd) (hp : p + 1 = m) (hq : q + 2 = m) (h1 : ds.getD p 0 = dig d1) (h2 : ds.getD q 0 = dig d2) :
    FB r ((R.st (1 + p) (u8V (dig d1))).st (1 + q) (u8V (dig d2))) nd q ds := by
  refine ⟨h.size, h.own, h.fz, fun i => ?_⟩
  rw [Row.st_get, Row.st_get, h.get]
  by_cases e2 : 1 + q = i
  · rw [if_pos e2, if_pos (by omega), ← h2, show i - 1 = q by omega]
  · rw [if_neg e2]
    by_cases e1 : 1 + p = i
    · rw [if_pos e1, if_pos (by omega), ← h1, show i - 1 = p by omega]
    · rw [if_neg e1]
      by_cases e : 1 + m ≤ i ∧ i < 1 + nd
      · rw [if_pos e, if_pos (by omega)]
      · rw [if_neg e, if_neg (by omega)]
theorem FB.one {r R : Row} {nd d : Nat} {ds : List UInt8} (h : FB r R nd 1 ds) (hm : 1 ≤ nd) (h1 : ds.getD 0 0 = dig d) : FB r (R.st 1 (u8V (dig d))) nd 0 ds := by
  refine ⟨h.size, h.own, h.fz, fun i => ?_⟩
  rw [Row.st_get, h.get]
  by_cases e1 : 1 = i
  · rw [if_pos e1, if_pos (by omega), ← h1, show i - 1 = 0 by omega]
  · rw [if_neg e1]
    by_cases e : 1 + 1 ≤ i ∧ i < 1 + nd
    · rw [if_pos e, if_pos (by omega)]
    · rw [if_neg e, if_neg (by omega)]
theorem ds_at {nd m u j p : Nat} (hm : m ≤ nd) (hp : p + 1 + j = m) : (decP nd u).getD p 0 = dig (u / 10 ^ (nd - m) / 10 ^ j % 10) := by
  rw [decP_get nd u p (by omega), Nat.div_div_eq_div_mul, ← Nat.pow_add]
  congr 3; congr 1; omega
structure FL (H0 : Heap) (b nd u : Nat) (c : Option Nat) (r : Row) (m : Nat) (tm : TM) (H : Heap) : Prop where
  t0 : gt0 tm = .slice b 1 nd c
  t1 : gt1 tm = nI .u64 (u / 10 ^ (nd - m))
  t4 : gt4 tm = nI .i64 m
  le : m ≤ nd
  heap : ∃ R, H = H0.put b (.row R) ∧ FB r R nd m (decP nd u)
theorem fl_step {H0 : Heap} {b nd u : Nat} {c : Option Nat} {r : Row} (hb : b < H0.nx) (hro : H0.ro ≤ b) (hnd : nd ≤ 20) (hu : u < 18446744073709551616) (cx : Ctx) (x : X) (m : Nat) (tm : TM) (H : Heap) (h : FL H0 b nd u c r m tm H) :
    ∃ o tm' H', c139_l0 cx tm H x = .ok o tm' H' x ∧ ((o = .normal ∧ ∃ k, k < m ∧ FL H0 b nd u c r k tm' H') ∨ (o ≠ .normal ∧ o = .exit 0 ∧ m < 8 ∧ FL H0 b nd u c r m tm' H')) := by
  have t0 := h.t0; have t1 := h.t1; have t4 := h.t4; have hle := h.le
  simp only [gtr0, gtr1, gtr4] at t0 t1 t4
  obtain ⟨R, rfl, fb⟩ := h.heap
  generalize hv : u / 10 ^ (nd - m) = v at t1
  have hv2 : v < 18446744073709551616 := by rw [← hv]; exact Nat.lt_of_le_of_lt (Nat.div_le_self ..) hu
  have s1 := fb.size; have s2 := fb.own; have s3 := fb.fz
  by_cases h8 : 8 ≤ m
  · have d1 : decide (8 ≤ m) = true := decide_eq_true h8
    simp (disch := first | assumption | omega | (simp -implicitDefEqProofs only [SideG, List.length_cons, List.length_nil, List.length_set, List.length_map] <;> first | assumption | omega) | decide) only [c139_l0, t0, t1, t4, d1, s1, s2, s3, idxSV_slice, lowV_slice, lowV_ptr, smV0, smV1, cmpV_ge, cmpV_gt, subV_i, addV_u32, mulV_u32, quoV_u32, remV_u32, quoV_u64, remV_u64, intV_u32, intV_u8, stN_row, Row.st_size, Row.st_own, Row.st_fz, Nat.add_zero, c139_l0, RunG, N8G, CoreG, Bool.not_true, Bool.not_false, freeK_at, readK_at, freeN_at, List.nil_append, List.append_nil, Option.map_none, Option.map_some, List.map_cons, List.map_nil, cond_true, cond_false, Nat.testBit_eq_decide_div_mod_eq, Nat.reducePow, Nat.reduceDiv, Nat.reduceMod, decide_true, Nat.reduceEqDiff, decide_false, reduceCtorEq, Nat.zero_ne_one, Nat.zero_add, List.getD_cons_zero, List.getD_cons_succ, List.set_cons_zero, List.set_cons_succ, gtr0, gtr1, gtr4, gtr5, gtr6, gtr7, gtr8, gtr9, gtr10, gtr11, gtr19, gtr20, gtr21, gtr22, gtr23, gtr24, gtr25, gtr26, gtr27, gtr28, gtr29, gtr30, gtr31, gtr32, gtr33, gtr34, gtr35, gtr36, gtr37, gtr38, gtr39, gtr40, gtr41, gtr42, gtr43, gtr44, gtr45, gtr46, gtr47, gtr48, gtr49, gtr50, gtr51, gtr52, gtr53, gtr54, gtr55, gtr56, gtr57, gtr58, gtr59, gtr60, gtr61, gtr62, gtr63, gtr64, gtr65, gtr66, gtr67, gtr68, gtr69, gtr70, gtr71, gtr72, gtr73, gtr74, gtr75, gtr76, gtr77, gtr78, gtr79, gtr80, gtr81, gtr82, gtr83, gtr84, gtr85, gtr86, gtr87, gtr88, gtr89, gtr90, gtr91, gtr92, gtr93, gtr94, gtr95, str0, str1, str4, str5, str6, str7, str8, str9, str10, str11, str19, str20, str21, str22, str23, str24, str25, str26, str27, str28, str29, str30, str31, str32, str33, str34, str35, str36, str37, str38, str39, str40, str41, str42, str43, str44, str45, str46, str47, str48, str49, str50, str51, str52, str53, str54, str55, str56, str57, str58, str59, str60, str61, str62, str63, str64, str65, str66, str67, str68, str69, str70, str71, str72, str73, str74, str75, str76, str77, str78, str79, str80, str81, str82, str83, str84, str85, str86, str87, str88, str89, str90, str91, str92, str93, str94, str95]
    refine ⟨_, _, _, rfl, .inl ⟨rfl, m - 8, by omega, t0, ?_, rfl, by omega, _, rfl, ?_⟩⟩
    · show nI .u64 (v / 100000000) = _
      rw [← hv, Nat.div_div_eq_div_mul, show (100000000 : Nat) = 10 ^ 8 from rfl, ← Nat.pow_add, show nd - m + 8 = nd - (m - 8) by omega]
    · have dd := fun (p j : Nat) (hp : p + 1 + j = m) => ds_at (u := u) hle hp
      rw [hv] at dd
      refine FB.pair (m := m - 6) (FB.pair (m := m - 4) (FB.pair (m := m - 2) (FB.pair fb hle (by omega) (by omega) ?_ ?_) (by omega) (by omega) (by omega) ?_ ?_) (by omega) (by omega) (by omega) ?_ ?_) (by omega) (by omega) (by omega) ?_ ?_
      · rw [dd (m - 1) 0 (by omega)]; congr 1; omega
      · rw [dd (m - 2) 1 (by omega)]; congr 1; omega
      · rw [dd (m - 3) 2 (by omega)]; congr 1; omega
      · rw [dd (m - 4) 3 (by omega)]; congr 1; omega
      · rw [dd (m - 5) 4 (by omega)]; congr 1; omega
      · rw [dd (m - 6) 5 (by omega)]; congr 1; omega
      · rw [dd (m - 7) 6 (by omega)]; congr 1; omega
      · rw [dd (m - 8) 7 (by omega)]; congr 1; omega
  · have d1 : decide (8 ≤ m) = false := decide_eq_false h8
    simp (disch := first | assumption | omega | (simp -implicitDefEqProofs only [SideG, List.length_cons, List.length_nil, List.length_set, List.length_map] <;> first | assumption | omega) | decide) only [c139_l0, t0, t1, t4, d1, idxSV_slice, lowV_slice, lowV_ptr, smV0, smV1, cmpV_ge, cmpV_gt, subV_i, addV_u32, mulV_u32, quoV_u32, remV_u32, quoV_u64, remV_u64, intV_u32, intV_u8, stN_row, Row.st_size, Row.st_own, Row.st_fz, Nat.add_zero, c139_l0, RunG, N8G, CoreG, Bool.not_true, Bool.not_false, freeK_at, readK_at, freeN_at, List.nil_append, List.append_nil, Option.map_none, Option.map_some, List.map_cons, List.map_nil, cond_true, cond_false, Nat.testBit_eq_decide_div_mod_eq, Nat.reducePow, Nat.reduceDiv, Nat.reduceMod, decide_true, Nat.reduceEqDiff, decide_false, reduceCtorEq, Nat.zero_ne_one, Nat.zero_add, List.getD_cons_zero, List.getD_cons_succ, List.set_cons_zero, List.set_cons_succ, gtr0, gtr1, gtr4, gtr5, gtr6, gtr7, gtr8, gtr9, gtr10, gtr11, gtr19, gtr20, gtr21, gtr22, gtr23, gtr24, gtr25, gtr26, gtr27, gtr28, gtr29, gtr30, gtr31, gtr32, gtr33, gtr34, gtr35, gtr36, gtr37, gtr38, gtr39, gtr40, gtr41, gtr42, gtr43, gtr44, gtr45, gtr46, gtr47, gtr48, gtr49, gtr50, gtr51, gtr52, gtr53, gtr54, gtr55, gtr56, gtr57, gtr58, gtr59, gtr60, gtr61, gtr62, gtr63, gtr64, gtr65, gtr66, gtr67, gtr68, gtr69, gtr70, gtr71, gtr72, gtr73, gtr74, gtr75, gtr76, gtr77, gtr78, gtr79, gtr80, gtr81, gtr82, gtr83, gtr84, gtr85, gtr86, gtr87, gtr88, gtr89, gtr90, gtr91, gtr92, gtr93, gtr94, gtr95, str0, str1, str4, str5, str6, str7, str8, str9, str10, str11, str19, str20, str21, str22, str23, str24, str25, str26, str27, str28, str29, str30, str31, str32, str33, str34, str35, str36, str37, str38, str39, str40, str41, str42, str43, str44, str45, str46, str47, str48, str49, str50, str51, str52, str53, str54, str55, str56, str57, str58, str59, str60, str61, str62, str63, str64, str65, str66, str67, str68, str69, str70, str71, str72, str73, str74, str75, str76, str77, str78, str79, str80, str81, str82, str83, str84, str85, str86, str87, str88, str89, str90, str91, str92, str93, str94, str95]
    exact ⟨_, _, _, rfl, .inr ⟨by simp, rfl, by omega, t0, by rw [hv]; exact t1, t4, hle, _, rfl, fb⟩⟩
theorem fb_run {lib0 : Lib} {fs : T CF} {fuel : Nat} (E : Env lib0 fs fuel) {k n : Nat} (hk : k < 3) {H : Heap} {b nd u : Nat} {c : Option Nat} {r : Row} (hr : H.t.get b = some (.row r)) (hb : b < H.nx) (hro : H.ro ≤ b) (hs : r.size = 24) (how : r.own = true) (hfz : r.fz = 0) (hnd : nd ≤ 20) (hu : u < 18446744073709551616) (hud : u < 10 ^ nd) :
    ∃ R, callN (LK lib0 fs fuel k) fs fuel (n + 1) 139 [.slice b 1 nd c, nI .u64 u] H = .ret (.tup []) (H.put b (.row R)) ∧ FB r R nd 0 (decP nd u) := by
  have nn : libK lib0 fs fuel rank spec k 139 [.slice b 1 nd c, nI .u64 u] H = none := libK_none E.n139 (.inr rfl) _ _
  rw [callN_fn nn E.f139]
  simp (disch := first | assumption | omega | (simp -implicitDefEqProofs only [SideG, List.length_cons, List.length_nil, List.length_set, List.length_map] <;> first | assumption | omega) | decide) only [c139, RunG, N8G, CoreG, Bool.not_true, Bool.not_false, freeK_at, readK_at, freeN_at, List.nil_append, List.append_nil, Option.map_none, Option.map_some, List.map_cons, List.map_nil, cond_true, cond_false, Nat.testBit_eq_decide_div_mod_eq, Nat.reducePow, Nat.reduceDiv, Nat.reduceMod, decide_true, Nat.reduceEqDiff, decide_false, reduceCtorEq, Nat.zero_ne_one, Nat.zero_add, List.getD_cons_zero, List.getD_cons_succ, List.set_cons_zero, List.set_cons_succ, gtr0, gtr1, gtr4, gtr12, gtr13, gtr14, gtr15, gtr16, gtr17, gtr18, gtr96, gtr97, gtr98, gtr99, gtr100, gtr101, gtr102, gtr103, gtr104, gtr105, gtr106, gtr107, gtr108, gtr109, gtr110, gtr111, gtr112, gtr113, gtr114, gtr115, gtr116, gtr117, gtr118, gtr119, gtr120, gtr121, gtr122, gtr123, gtr124, gtr125, gtr126, gtr127, gtr128, gtr129, gtr130, gtr131, gtr132, gtr133, gtr134, gtr135, gtr136, gtr137, gtr138, gtr139, gtr140, gtr141, gtr142, gtr143, gtr144, gtr145, gtr146, gtr147, gtr148, gtr149, gtr150, gtr151, gtr152, gtr153, gtr154, gtr155, gtr156, gtr157, gtr158, gtr159, gtr160, gtr161, gtr162, gtr163, gtr164, gtr165, gtr166, str0, str1, str4, str12, str13, str14, str15, str16, str17, str18, str96, str97, str98, str99, str100, str101, str102, str103, str104, str105, str106, str107, str108, str109, str110, str111, str112, str113, str114, str115, str116, str117, str118, str119, str120, str121, str122, str123, str124, str125, str126, str127, str128, str129, str130, str131, str132, str133, str134, str135, str136, str137, str138, str139, str140, str141, str142, str143, str144, str145, str146, str147, str148, str149, str150, str151, str152, str153, str154, str155, str156, str157, str158, str159, str160, str161, str162, str163, str164, str165, str166]
  generalize hL : loopN (c139_l0 _) fuel _ _ _ = L
  obtain ⟨o, tm1, H1, rfl, _, rfl, h8, z⟩ := after_rule (P := fun T => FL H b nd u c r nd T H) (Q := fun o tm H' => o = .exit 0 ∧ ∃ m, m < 8 ∧ FL H b nd u c r m tm H')
    (fun T hi => loop_rule (FL H b nd u c r) (fun o tm H' => o = .exit 0 ∧ ∃ m, m < 8 ∧ FL H b nd u c r m tm H')
      (fun m tm H' h => by
        obtain ⟨o, tm', H2, e, h⟩ := fl_step hb hro hnd hu _ _ m tm H' h
        refine ⟨o, tm', H2, e, ?_⟩
        rcases h with h | ⟨h1, h2, h3, h4⟩
        · exact .inl h
        · exact .inr ⟨h1, h2, m, h3, h4⟩) fuel nd T H (by have := E.big; omega) hi) hL
    ⟨rfl, by rw [Nat.sub_self, Nat.pow_zero, Nat.div_one]; rfl, rfl, Nat.le_refl _, r, (put_self hr).symm, hs, how, hfz, fun i => by rw [if_neg (by omega)]⟩
  obtain ⟨z8, z⟩ := z
  have t0 := z.t0; have t1 := z.t1; have t4 := z.t4; have hle := z.le
  simp only [gtr0, gtr1, gtr4] at t0 t1 t4
  obtain ⟨R, rfl, fb⟩ := z.heap
  have dd := fun (p j : Nat) (hp : p + 1 + j = h8) => ds_at (u := u) hle hp
  have hv2 : u / 10 ^ (nd - h8) < 10 ^ h8 := by
    rw [Nat.div_lt_iff_lt_mul (Nat.pow_pos (by decide)), ← Nat.pow_add, show h8 + (nd - h8) = nd by omega]; exact hud
  generalize hv : u / 10 ^ (nd - h8) = v at t1 dd hv2
  have s1 := fb.size; have s2 := fb.own; have s3 := fb.fz
  have z0 : decide (0 < 0) = false := rfl
  have z1 : decide (0 < 1) = true := rfl
  have hm : h8 = 0 ∨ h8 = 1 ∨ h8 = 2 ∨ h8 = 3 ∨ h8 = 4 ∨ h8 = 5 ∨ h8 = 6 ∨ h8 = 7 := by omega
  rcases hm with rfl | rfl | rfl | rfl | rfl | rfl | rfl | rfl
  · have hv3 : v < 1 := hv2
    simp (disch := first | assumption | omega | (simp -implicitDefEqProofs only [SideG, List.length_cons, List.length_nil, List.length_set, List.length_map] <;> first | assumption | omega) | decide) only [leaveB_same, thenR_normal, t0, t1, t4, s1, s2, s3, z0, z1, addV_u32, Nat.reduceLeDiff, Nat.reduceSub, Nat.reduceAdd, idxSV_slice, lowV_slice, lowV_ptr, smV0, smV1, cmpV_ge, cmpV_gt, subV_i, addV_u32, mulV_u32, quoV_u32, remV_u32, quoV_u64, remV_u64, intV_u32, intV_u8, stN_row, Row.st_size, Row.st_own, Row.st_fz, Nat.add_zero, c139, RunG, N8G, CoreG, Bool.not_true, Bool.not_false, freeK_at, readK_at, freeN_at, List.nil_append, List.append_nil, Option.map_none, Option.map_some, List.map_cons, List.map_nil, cond_true, cond_false, Nat.testBit_eq_decide_div_mod_eq, Nat.reducePow, Nat.reduceDiv, Nat.reduceMod, decide_true, Nat.reduceEqDiff, decide_false, reduceCtorEq, Nat.zero_ne_one, Nat.zero_add, List.getD_cons_zero, List.getD_cons_succ, List.set_cons_zero, List.set_cons_succ, gtr0, gtr1, gtr4, gtr12, gtr13, gtr14, gtr15, gtr16, gtr17, gtr18, gtr96, gtr97, gtr98, gtr99, gtr100, gtr101, gtr102, gtr103, gtr104, gtr105, gtr106, gtr107, gtr108, gtr109, gtr110, gtr111, gtr112, gtr113, gtr114, gtr115, gtr116, gtr117, gtr118, gtr119, gtr120, gtr121, gtr122, gtr123, gtr124, gtr125, gtr126, gtr127, gtr128, gtr129, gtr130, gtr131, gtr132, gtr133, gtr134, gtr135, gtr136, gtr137, gtr138, gtr139, gtr140, gtr141, gtr142, gtr143, gtr144, gtr145, gtr146, gtr147, gtr148, gtr149, gtr150, gtr151, gtr152, gtr153, gtr154, gtr155, gtr156, gtr157, gtr158, gtr159, gtr160, gtr161, gtr162, gtr163, gtr164, gtr165, gtr166, str0, str1, str4, str12, str13, str14, str15, str16, str17, str18, str96, str97, str98, str99, str100, str101, str102, str103, str104, str105, str106, str107, str108, str109, str110, str111, str112, str113, str114, str115, str116, str117, str118, str119, str120, str121, str122, str123, str124, str125, str126, str127, str128, str129, str130, str131, str132, str133, str134, str135, str136, str137, str138, str139, str140, str141, str142, str143, str144, str145, str146, str147, str148, str149, str150, str151, str152, str153, str154, str155, str156, str157, str158, str159, str160, str161, str162, str163, str164, str165, str166]
    refine ⟨_, rfl, ?_⟩
    exact fb
  · have hv3 : v < 10 := hv2
    simp (disch := first | assumption | omega | (simp -implicitDefEqProofs only [SideG, List.length_cons, List.length_nil, List.length_set, List.length_map] <;> first | assumption | omega) | decide) only [leaveB_same, thenR_normal, t0, t1, t4, s1, s2, s3, z0, z1, addV_u32, Nat.reduceLeDiff, Nat.reduceSub, Nat.reduceAdd, idxSV_slice, lowV_slice, lowV_ptr, smV0, smV1, cmpV_ge, cmpV_gt, subV_i, addV_u32, mulV_u32, quoV_u32, remV_u32, quoV_u64, remV_u64, intV_u32, intV_u8, stN_row, Row.st_size, Row.st_own, Row.st_fz, Nat.add_zero, c139, RunG, N8G, CoreG, Bool.not_true, Bool.not_false, freeK_at, readK_at, freeN_at, List.nil_append, List.append_nil, Option.map_none, Option.map_some, List.map_cons, List.map_nil, cond_true, cond_false, Nat.testBit_eq_decide_div_mod_eq, Nat.reducePow, Nat.reduceDiv, Nat.reduceMod, decide_true, Nat.reduceEqDiff, decide_false, reduceCtorEq, Nat.zero_ne_one, Nat.zero_add, List.getD_cons_zero, List.getD_cons_succ, List.set_cons_zero, List.set_cons_succ, gtr0, gtr1, gtr4, gtr12, gtr13, gtr14, gtr15, gtr16, gtr17, gtr18, gtr96, gtr97, gtr98, gtr99, gtr100, gtr101, gtr102, gtr103, gtr104, gtr105, gtr106, gtr107, gtr108, gtr109, gtr110, gtr111, gtr112, gtr113, gtr114, gtr115, gtr116, gtr117, gtr118, gtr119, gtr120, gtr121, gtr122, gtr123, gtr124, gtr125, gtr126, gtr127, gtr128, gtr129, gtr130, gtr131, gtr132, gtr133, gtr134, gtr135, gtr136, gtr137, gtr138, gtr139, gtr140, gtr141, gtr142, gtr143, gtr144, gtr145, gtr146, gtr147, gtr148, gtr149, gtr150, gtr151, gtr152, gtr153, gtr154, gtr155, gtr156, gtr157, gtr158, gtr159, gtr160, gtr161, gtr162, gtr163, gtr164, gtr165, gtr166, str0, str1, str4, str12, str13, str14, str15, str16, str17, str18, str96, str97, str98, str99, str100, str101, str102, str103, str104, str105, str106, str107, str108, str109, str110, str111, str112, str113, str114, str115, str116, str117, str118, str119, str120, str121, str122, str123, str124, str125, str126, str127, str128, str129, str130, str131, str132, str133, str134, str135, str136, str137, str138, str139, str140, str141, str142, str143, str144, str145, str146, str147, str148, str149, str150, str151, str152, str153, str154, str155, str156, str157, str158, str159, str160, str161, str162, str163, str164, str165, str166]
    refine ⟨_, rfl, ?_⟩
    have e0 : nI .u8 (48 + v) = u8V (dig (v)) := by
      show AV.int .u8 (.ofNat _) = AV.int .u8 (.ofNat _)
      rw [dig_nat (by omega)]
    rw [e0]
    refine FB.one (fb) (by omega) ?_
    · rw [dd 0 0 rfl]; congr 1; omega
  · have hv3 : v < 100 := hv2
    simp (disch := first | assumption | omega | (simp -implicitDefEqProofs only [SideG, List.length_cons, List.length_nil, List.length_set, List.length_map] <;> first | assumption | omega) | decide) only [leaveB_same, thenR_normal, t0, t1, t4, s1, s2, s3, z0, z1, addV_u32, Nat.reduceLeDiff, Nat.reduceSub, Nat.reduceAdd, idxSV_slice, lowV_slice, lowV_ptr, smV0, smV1, cmpV_ge, cmpV_gt, subV_i, addV_u32, mulV_u32, quoV_u32, remV_u32, quoV_u64, remV_u64, intV_u32, intV_u8, stN_row, Row.st_size, Row.st_own, Row.st_fz, Nat.add_zero, c139, RunG, N8G, CoreG, Bool.not_true, Bool.not_false, freeK_at, readK_at, freeN_at, List.nil_append, List.append_nil, Option.map_none, Option.map_some, List.map_cons, List.map_nil, cond_true, cond_false, Nat.testBit_eq_decide_div_mod_eq, Nat.reducePow, Nat.reduceDiv, Nat.reduceMod, decide_true, Nat.reduceEqDiff, decide_false, reduceCtorEq, Nat.zero_ne_one, Nat.zero_add, List.getD_cons_zero, List.getD_cons_succ, List.set_cons_zero, List.set_cons_succ, gtr0, gtr1, gtr4, gtr12, gtr13, gtr14, gtr15, gtr16, gtr17, gtr18, gtr96, gtr97, gtr98, gtr99, gtr100, gtr101, gtr102, gtr103, gtr104, gtr105, gtr106, gtr107, gtr108, gtr109, gtr110, gtr111, gtr112, gtr113, gtr114, gtr115, gtr116, gtr117, gtr118, gtr119, gtr120, gtr121, gtr122, gtr123, gtr124, gtr125, gtr126, gtr127, gtr128, gtr129, gtr130, gtr131, gtr132, gtr133, gtr134, gtr135, gtr136, gtr137, gtr138, gtr139, gtr140, gtr141, gtr142, gtr143, gtr144, gtr145, gtr146, gtr147, gtr148, gtr149, gtr150, gtr151, gtr152, gtr153, gtr154, gtr155, gtr156, gtr157, gtr158, gtr159, gtr160, gtr161, gtr162, gtr163, gtr164, gtr165, gtr166, str0, str1, str4, str12, str13, str14, str15, str16, str17, str18, str96, str97, str98, str99, str100, str101, str102, str103, str104, str105, str106, str107, str108, str109, str110, str111, str112, str113, str114, str115, str116, str117, str118, str119, str120, str121, str122, str123, str124, str125, str126, str127, str128, str129, str130, str131, str132, str133, str134, str135, str136, str137, str138, str139, str140, str141, str142, str143, str144, str145, str146, str147, str148, str149, str150, str151, str152, str153, str154, str155, str156, str157, str158, str159, str160, str161, str162, str163, str164, str165, str166]
    refine ⟨_, rfl, ?_⟩
    refine FB.pair (m := 2) (fb) (by omega) rfl rfl ?_ ?_
    · rw [dd 1 0 rfl]; congr 1; omega
    · rw [dd 0 1 rfl]; congr 1; omega
  · have hv3 : v < 1000 := hv2
    simp (disch := first | assumption | omega | (simp -implicitDefEqProofs only [SideG, List.length_cons, List.length_nil, List.length_set, List.length_map] <;> first | assumption | omega) | decide) only [leaveB_same, thenR_normal, t0, t1, t4, s1, s2, s3, z0, z1, addV_u32, Nat.reduceLeDiff, Nat.reduceSub, Nat.reduceAdd, idxSV_slice, lowV_slice, lowV_ptr, smV0, smV1, cmpV_ge, cmpV_gt, subV_i, addV_u32, mulV_u32, quoV_u32, remV_u32, quoV_u64, remV_u64, intV_u32, intV_u8, stN_row, Row.st_size, Row.st_own, Row.st_fz, Nat.add_zero, c139, RunG, N8G, CoreG, Bool.not_true, Bool.not_false, freeK_at, readK_at, freeN_at, List.nil_append, List.append_nil, Option.map_none, Option.map_some, List.map_cons, List.map_nil, cond_true, cond_false, Nat.testBit_eq_decide_div_mod_eq, Nat.reducePow, Nat.reduceDiv, Nat.reduceMod, decide_true, Nat.reduceEqDiff, decide_false, reduceCtorEq, Nat.zero_ne_one, Nat.zero_add, List.getD_cons_zero, List.getD_cons_succ, List.set_cons_zero, List.set_cons_succ, gtr0, gtr1, gtr4, gtr12, gtr13, gtr14, gtr15, gtr16, gtr17, gtr18, gtr96, gtr97, gtr98, gtr99, gtr100, gtr101, gtr102, gtr103, gtr104, gtr105, gtr106, gtr107, gtr108, gtr109, gtr110, gtr111, gtr112, gtr113, gtr114, gtr115, gtr116, gtr117, gtr118, gtr119, gtr120, gtr121, gtr122, gtr123, gtr124, gtr125, gtr126, gtr127, gtr128, gtr129, gtr130, gtr131, gtr132, gtr133, gtr134, gtr135, gtr136, gtr137, gtr138, gtr139, gtr140, gtr141, gtr142, gtr143, gtr144, gtr145, gtr146, gtr147, gtr148, gtr149, gtr150, gtr151, gtr152, gtr153, gtr154, gtr155, gtr156, gtr157, gtr158, gtr159, gtr160, gtr161, gtr162, gtr163, gtr164, gtr165, gtr166, str0, str1, str4, str12, str13, str14, str15, str16, str17, str18, str96, str97, str98, str99, str100, str101, str102, str103, str104, str105, str106, str107, str108, str109, str110, str111, str112, str113, str114, str115, str116, str117, str118, str119, str120, str121, str122, str123, str124, str125, str126, str127, str128, str129, str130, str131, str132, str133, str134, str135, str136, str137, str138, str139, str140, str141, str142, str143, str144, str145, str146, str147, str148, str149, str150, str151, str152, str153, str154, str155, str156, str157, str158, str159, str160, str161, str162, str163, str164, str165, str166]
    refine ⟨_, rfl, ?_⟩
    have e0 : nI .u8 (48 + v / 100) = u8V (dig (v / 100)) := by
      show AV.int .u8 (.ofNat _) = AV.int .u8 (.ofNat _)
      rw [dig_nat (by omega)]
    rw [e0]
    refine FB.one (FB.pair (m := 3) (fb) (by omega) rfl rfl ?_ ?_) (by omega) ?_
    · rw [dd 2 0 rfl]; congr 1; omega
    · rw [dd 1 1 rfl]; congr 1; omega
    · rw [dd 0 2 rfl]; congr 1; omega
  · have hv3 : v < 10000 := hv2
    simp (disch := first | assumption | omega | (simp -implicitDefEqProofs only [SideG, List.length_cons, List.length_nil, List.length_set, List.length_map] <;> first | assumption | omega) | decide) only [leaveB_same, thenR_normal, t0, t1, t4, s1, s2, s3, z0, z1, addV_u32, Nat.reduceLeDiff, Nat.reduceSub, Nat.reduceAdd, idxSV_slice, lowV_slice, lowV_ptr, smV0, smV1, cmpV_ge, cmpV_gt, subV_i, addV_u32, mulV_u32, quoV_u32, remV_u32, quoV_u64, remV_u64, intV_u32, intV_u8, stN_row, Row.st_size, Row.st_own, Row.st_fz, Nat.add_zero, c139, RunG, N8G, CoreG, Bool.not_true, Bool.not_false, freeK_at, readK_at, freeN_at, List.nil_append, List.append_nil, Option.map_none, Option.map_some, List.map_cons, List.map_nil, cond_true, cond_false, Nat.testBit_eq_decide_div_mod_eq, Nat.reducePow, Nat.reduceDiv, Nat.reduceMod, decide_true, Nat.reduceEqDiff, decide_false, reduceCtorEq, Nat.zero_ne_one, Nat.zero_add, List.getD_cons_zero, List.getD_cons_succ, List.set_cons_zero, List.set_cons_succ, gtr0, gtr1, gtr4, gtr12, gtr13, gtr14, gtr15, gtr16, gtr17, gtr18, gtr96, gtr97, gtr98, gtr99, gtr100, gtr101, gtr102, gtr103, gtr104, gtr105, gtr106, gtr107, gtr108, gtr109, gtr110, gtr111, gtr112, gtr113, gtr114, gtr115, gtr116, gtr117, gtr118, gtr119, gtr120, gtr121, gtr122, gtr123, gtr124, gtr125, gtr126, gtr127, gtr128, gtr129, gtr130, gtr131, gtr132, gtr133, gtr134, gtr135, gtr136, gtr137, gtr138, gtr139, gtr140, gtr141, gtr142, gtr143, gtr144, gtr145, gtr146, gtr147, gtr148, gtr149, gtr150, gtr151, gtr152, gtr153, gtr154, gtr155, gtr156, gtr157, gtr158, gtr159, gtr160, gtr161, gtr162, gtr163, gtr164, gtr165, gtr166, str0, str1, str4, str12, str13, str14, str15, str16, str17, str18, str96, str97, str98, str99, str100, str101, str102, str103, str104, str105, str106, str107, str108, str109, str110, str111, str112, str113, str114, str115, str116, str117, str118, str119, str120, str121, str122, str123, str124, str125, str126, str127, str128, str129, str130, str131, str132, str133, str134, str135, str136, str137, str138, str139, str140, str141, str142, str143, str144, str145, str146, str147, str148, str149, str150, str151, str152, str153, str154, str155, str156, str157, str158, str159, str160, str161, str162, str163, str164, str165, str166]
    refine ⟨_, rfl, ?_⟩
    refine FB.pair (m := 2) (FB.pair (m := 4) (fb) (by omega) rfl rfl ?_ ?_) (by omega) rfl rfl ?_ ?_
    · rw [dd 3 0 rfl]; congr 1; omega
    · rw [dd 2 1 rfl]; congr 1; omega
    · rw [dd 1 2 rfl]; congr 1; omega
    · rw [dd 0 3 rfl]; congr 1; omega
  · have hv3 : v < 100000 := hv2
    simp (disch := first | assumption | omega | (simp -implicitDefEqProofs only [SideG, List.length_cons, List.length_nil, List.length_set, List.length_map] <;> first | assumption | omega) | decide) only [leaveB_same, thenR_normal, t0, t1, t4, s1, s2, s3, z0, z1, addV_u32, Nat.reduceLeDiff, Nat.reduceSub, Nat.reduceAdd, idxSV_slice, lowV_slice, lowV_ptr, smV0, smV1, cmpV_ge, cmpV_gt, subV_i, addV_u32, mulV_u32, quoV_u32, remV_u32, quoV_u64, remV_u64, intV_u32, intV_u8, stN_row, Row.st_size, Row.st_own, Row.st_fz, Nat.add_zero, c139, RunG, N8G, CoreG, Bool.not_true, Bool.not_false, freeK_at, readK_at, freeN_at, List.nil_append, List.append_nil, Option.map_none, Option.map_some, List.map_cons, List.map_nil, cond_true, cond_false, Nat.testBit_eq_decide_div_mod_eq, Nat.reducePow, Nat.reduceDiv, Nat.reduceMod, decide_true, Nat.reduceEqDiff, decide_false, reduceCtorEq, Nat.zero_ne_one, Nat.zero_add, List.getD_cons_zero, List.getD_cons_succ, List.set_cons_zero, List.set_cons_succ, gtr0, gtr1, gtr4, gtr12, gtr13, gtr14, gtr15, gtr16, gtr17, gtr18, gtr96, gtr97, gtr98, gtr99, gtr100, gtr101, gtr102, gtr103, gtr104, gtr105, gtr106, gtr107, gtr108, gtr109, gtr110, gtr111, gtr112, gtr113, gtr114, gtr115, gtr116, gtr117, gtr118, gtr119, gtr120, gtr121, gtr122, gtr123, gtr124, gtr125, gtr126, gtr127, gtr128, gtr129, gtr130, gtr131, gtr132, gtr133, gtr134, gtr135, gtr136, gtr137, gtr138, gtr139, gtr140, gtr141, gtr142, gtr143, gtr144, gtr145, gtr146, gtr147, gtr148, gtr149, gtr150, gtr151, gtr152, gtr153, gtr154, gtr155, gtr156, gtr157, gtr158, gtr159, gtr160, gtr161, gtr162, gtr163, gtr164, gtr165, gtr166, str0, str1, str4, str12, str13, str14, str15, str16, str17, str18, str96, str97, str98, str99, str100, str101, str102, str103, str104, str105, str106, str107, str108, str109, str110, str111, str112, str113, str114, str115, str116, str117, str118, str119, str120, str121, str122, str123, str124, str125, str126, str127, str128, str129, str130, str131, str132, str133, str134, str135, str136, str137, str138, str139, str140, str141, str142, str143, str144, str145, str146, str147, str148, str149, str150, str151, str152, str153, str154, str155, str156, str157, str158, str159, str160, str161, str162, str163, str164, str165, str166]
    refine ⟨_, rfl, ?_⟩
    have e0 : nI .u8 (48 + v / 10000) = u8V (dig (v / 10000)) := by
      show AV.int .u8 (.ofNat _) = AV.int .u8 (.ofNat _)
      rw [dig_nat (by omega)]
    rw [e0]
    refine FB.one (FB.pair (m := 3) (FB.pair (m := 5) (fb) (by omega) rfl rfl ?_ ?_) (by omega) rfl rfl ?_ ?_) (by omega) ?_
    · rw [dd 4 0 rfl]; congr 1; omega
    · rw [dd 3 1 rfl]; congr 1; omega
    · rw [dd 2 2 rfl]; congr 1; omega
    · rw [dd 1 3 rfl]; congr 1; omega
    · rw [dd 0 4 rfl]; congr 1; omega
  · have hv3 : v < 1000000 := hv2
    simp (disch := first | assumption | omega | (simp -implicitDefEqProofs only [SideG, List.length_cons, List.length_nil, List.length_set, List.length_map] <;> first | assumption | omega) | decide) only [leaveB_same, thenR_normal, t0, t1, t4, s1, s2, s3, z0, z1, addV_u32, Nat.reduceLeDiff, Nat.reduceSub, Nat.reduceAdd, idxSV_slice, lowV_slice, lowV_ptr, smV0, smV1, cmpV_ge, cmpV_gt, subV_i, addV_u32, mulV_u32, quoV_u32, remV_u32, quoV_u64, remV_u64, intV_u32, intV_u8, stN_row, Row.st_size, Row.st_own, Row.st_fz, Nat.add_zero, c139, RunG, N8G, CoreG, Bool.not_true, Bool.not_false, freeK_at, readK_at, freeN_at, List.nil_append, List.append_nil, Option.map_none, Option.map_some, List.map_cons, List.map_nil, cond_true, cond_false, Nat.testBit_eq_decide_div_mod_eq, Nat.reducePow, Nat.reduceDiv, Nat.reduceMod, decide_true, Nat.reduceEqDiff, decide_false, reduceCtorEq, Nat.zero_ne_one, Nat.zero_add, List.getD_cons_zero, List.getD_cons_succ, List.set_cons_zero, List.set_cons_succ, gtr0, gtr1, gtr4, gtr12, gtr13, gtr14, gtr15, gtr16, gtr17, gtr18, gtr96, gtr97, gtr98, gtr99, gtr100, gtr101, gtr102, gtr103, gtr104, gtr105, gtr106, gtr107, gtr108, gtr109, gtr110, gtr111, gtr112, gtr113, gtr114, gtr115, gtr116, gtr117, gtr118, gtr119, gtr120, gtr121, gtr122, gtr123, gtr124, gtr125, gtr126, gtr127, gtr128, gtr129, gtr130, gtr131, gtr132, gtr133, gtr134, gtr135, gtr136, gtr137, gtr138, gtr139, gtr140, gtr141, gtr142, gtr143, gtr144, gtr145, gtr146, gtr147, gtr148, gtr149, gtr150, gtr151, gtr152, gtr153, gtr154, gtr155, gtr156, gtr157, gtr158, gtr159, gtr160, gtr161, gtr162, gtr163, gtr164, gtr165, gtr166, str0, str1, str4, str12, str13, str14, str15, str16, str17, str18, str96, str97, str98, str99, str100, str101, str102, str103, str104, str105, str106, str107, str108, str109, str110, str111, str112, str113, str114, str115, str116, str117, str118, str119, str120, str121, str122, str123, str124, str125, str126, str127, str128, str129, str130, str131, str132, str133, str134, str135, str136, str137, str138, str139, str140, str141, str142, str143, str144, str145, str146, str147, str148, str149, str150, str151, str152, str153, str154, str155, str156, str157, str158, str159, str160, str161, str162, str163, str164, str165, str166]
    refine ⟨_, rfl, ?_⟩
    refine FB.pair (m := 2) (FB.pair (m := 4) (FB.pair (m := 6) (fb) (by omega) rfl rfl ?_ ?_) (by omega) rfl rfl ?_ ?_) (by omega) rfl rfl ?_ ?_
    · rw [dd 5 0 rfl]; congr 1; omega
    · rw [dd 4 1 rfl]; congr 1; omega
    · rw [dd 3 2 rfl]; congr 1; omega
    · rw [dd 2 3 rfl]; congr 1; omega
    · rw [dd 1 4 rfl]; congr 1; omega
    · rw [dd 0 5 rfl]; congr 1; omega
  · have hv3 : v < 10000000 := hv2
    simp (disch := first | assumption | omega | (simp -implicitDefEqProofs only [SideG, List.length_cons, List.length_nil, List.length_set, List.length_map] <;> first | assumption | omega) | decide) only [leaveB_same, thenR_normal, t0, t1, t4, s1, s2, s3, z0, z1, addV_u32, Nat.reduceLeDiff, Nat.reduceSub, Nat.reduceAdd, idxSV_slice, lowV_slice, lowV_ptr, smV0, smV1, cmpV_ge, cmpV_gt, subV_i, addV_u32, mulV_u32, quoV_u32, remV_u32, quoV_u64, remV_u64, intV_u32, intV_u8, stN_row, Row.st_size, Row.st_own, Row.st_fz, Nat.add_zero, c139, RunG, N8G, CoreG, Bool.not_true, Bool.not_false, freeK_at, readK_at, freeN_at, List.nil_append, List.append_nil, Option.map_none, Option.map_some, List.map_cons, List.map_nil, cond_true, cond_false, Nat.testBit_eq_decide_div_mod_eq, Nat.reducePow, Nat.reduceDiv, Nat.reduceMod, decide_true, Nat.reduceEqDiff, decide_false, reduceCtorEq, Nat.zero_ne_one, Nat.zero_add, List.getD_cons_zero, List.getD_cons_succ, List.set_cons_zero, List.set_cons_succ, gtr0, gtr1, gtr4, gtr12, gtr13, gtr14, gtr15, gtr16, gtr17, gtr18, gtr96, gtr97, gtr98, gtr99, gtr100, gtr101, gtr102, gtr103, gtr104, gtr105, gtr106, gtr107, gtr108, gtr109, gtr110, gtr111, gtr112, gtr113, gtr114, gtr115, gtr116, gtr117, gtr118, gtr119, gtr120, gtr121, gtr122, gtr123, gtr124, gtr125, gtr126, gtr127, gtr128, gtr129, gtr130, gtr131, gtr132, gtr133, gtr134, gtr135, gtr136, gtr137, gtr138, gtr139, gtr140, gtr141, gtr142, gtr143, gtr144, gtr145, gtr146, gtr147, gtr148, gtr149, gtr150, gtr151, gtr152, gtr153, gtr154, gtr155, gtr156, gtr157, gtr158, gtr159, gtr160, gtr161, gtr162, gtr163, gtr164, gtr165, gtr166, str0, str1, str4, str12, str13, str14, str15, str16, str17, str18, str96, str97, str98, str99, str100, str101, str102, str103, str104, str105, str106, str107, str108, str109, str110, str111, str112, str113, str114, str115, str116, str117, str118, str119, str120, str121, str122, str123, str124, str125, str126, str127, str128, str129, str130, str131, str132, str133, str134, str135, str136, str137, str138, str139, str140, str141, str142, str143, str144, str145, str146, str147, str148, str149, str150, str151, str152, str153, str154, str155, str156, str157, str158, str159, str160, str161, str162, str163, str164, str165, str166]
    refine ⟨_, rfl, ?_⟩
    have e0 : nI .u8 (48 + v / 10000 / 100) = u8V (dig (v / 10000 / 100)) := by
      show AV.int .u8 (.ofNat _) = AV.int .u8 (.ofNat _)
      rw [dig_nat (by omega)]
    rw [e0]
    refine FB.one (FB.pair (m := 3) (FB.pair (m := 5) (FB.pair (m := 7) (fb) (by omega) rfl rfl ?_ ?_) (by omega) rfl rfl ?_ ?_) (by omega) rfl rfl ?_ ?_) (by omega) ?_
    · rw [dd 6 0 rfl]; congr 1; omega
    · rw [dd 5 1 rfl]; congr 1; omega
    · rw [dd 4 2 rfl]; congr 1; omega
    · rw [dd 3 3 rfl]; congr 1; omega
    · rw [dd 2 4 rfl]; congr 1; omega
    · rw [dd 1 5 rfl]; congr 1; omega
    · rw [dd 0 6 rfl]; congr 1; omega
end
end Go.AI

/- Numbers as texts: walked. -/
namespace Go.AI
open Go
noncomputable section

theorem slArrM {n l h : Nat} (hl : l < n) (hlh : l ≤ h) (hh : h ≤ n) (b o : Nat) (k j : IntKind) (H : Heap) : slArrV n 1 (.ptr b o) (some (nI k l)) (some (nI j h)) H = .val (.slice b (o + l) (h - l) (some (n - l))) H := by
  show onIf (Nat.ble h n) (onIf (Nat.ble l h) (cond (Nat.beq l n) _ (OR.val (.slice b (o + l * 1) (h - l) (some (n - l))) H))) = _
  rw [Nat.ble_eq_true_of_le hh, Nat.ble_eq_true_of_le hlh, beq_nat, decide_eq_false (by omega), Nat.mul_one]; rfl
theorem fmtI_nat (m : Nat) : fmtI (.ofNat m) = dec m := rfl
theorem fmtI_neg (m : Nat) : fmtI (.negSucc m) = 45 :: dec (m + 1) := by unfold fmtI; rw [if_pos (Int.negSucc_lt_zero m)]; rfl
theorem fmtI_nI (k : IntKind) (m : Nat) : AV.int k (.ofNat m) = nI k m := rfl
theorem fmtInt_run {lib0 : Lib} {fs : T CF} {fuel : Nat} (E : Env lib0 fs fuel) {n : Nat} {z : Int} {H : Heap} (g : Glob H) (hro : H.ro ≤ H.nx) (hz1 : -9223372036854775808 ≤ z) (hz2 : z < 9223372036854775808) :
    ∃ H', callN (LK lib0 fs fuel 2) fs fuel (n + 2) 90 [.int .i64 z, nI .i64 10] H = .ret (.str (fmtI z)) H' ∧ Keep H H' [] := by
  rw [callN_fn (libK_none E.n90 (.inl (by decide)) _ _) E.f90]
  cases z with
  | ofNat m =>
    have hz2 : m < 9223372036854775808 := by simp at hz2; omega
    by_cases h : m < 100
    · have es := fun {j} => small (lib0 := lib0) (fs := fs) (fuel := fuel) E (k := 2) (n := j) (by decide) (H := H) h
      have d0 : decide (0 ≤ m) = true := decide_eq_true (Nat.zero_le _)
      have d1 : decide (m < 100) = true := decide_eq_true h
      simp (disch := first | assumption | omega | (simp -implicitDefEqProofs only [SideG, List.length_cons, List.length_nil, List.length_set, List.length_map] <;> first | assumption | omega) | decide) only [fmtI_nI, d0, d1, es, oStr_at, slArrM, slArrV_hi, slArrV_lo, Nat.zero_add, Nat.add_sub_cancel_left, Nat.reduceSub, addV_i, cmpV_lt, cmpV_le, ltV_neg, leV_neg, intV_u64, intV_neg64, negV_u64, idxAV_ptr, stN_row, Row.st_size, Row.st_own, Row.st_fz, Nat.add_zero, eqV_eq, c90, RunG, N8G, CoreG, Bool.not_true, Bool.not_false, freeK_at, readK_at, freeN_at, List.nil_append, List.append_nil, Option.map_none, Option.map_some, List.map_cons, List.map_nil, cond_true, cond_false, Nat.testBit_eq_decide_div_mod_eq, Nat.reducePow, Nat.reduceDiv, Nat.reduceMod, decide_true, Nat.reduceEqDiff, decide_false, reduceCtorEq, Nat.zero_ne_one, Nat.zero_add, List.getD_cons_zero, List.getD_cons_succ, List.set_cons_zero, List.set_cons_succ, gtr0, gtr1, gtr4, gtr5, gtr6, gtr7, gtr9, gtr10, gtr11, gtr12, gtr13, gtr14, gtr15, gtr16, gtr17, gtr18, gtr19, gtr20, gtr21, gtr22, gtr23, gtr24, gtr25, gtr26, gtr27, gtr28, gtr29, gtr30, gtr31, gtr33, gtr34, gtr35, gtr36, gtr37, gtr38, gtr39, gtr40, gtr41, gtr42, gtr43, gtr44, gtr45, gtr46, gtr47, gtr48, gtr49, gtr50, gtr51, gtr52, gtr53, str0, str1, str4, str5, str6, str7, str8, str9, str10, str11, str12, str13, str14, str15, str16, str17, str18, str19, str20, str21, str22, str23, str24, str25, str26, str27, str28, str29, str30, str31, str32, str33, str34, str35, str36, str37, str38, str39, str40, str41, str42, str43, str44, str45, str46, str47, str48, str49, str50, str51, str52, str53]
      exact ⟨_, rfl, Keep.refl _ _⟩
    · skip
      obtain ⟨H1, hH1⟩ : ∃ H1, H.new (.row ⟨193, 1, 24, .leaf, nI .u8 0, 0, false, true, true⟩) = H1 := ⟨_, rfl⟩
      have nx1 : H1.nx = H.nx + 1 := by rw [← hH1]; rfl
      have ro1 : H1.ro = H.ro := by rw [← hH1]; rfl
      have k1 : Keep H H1 [] := by rw [← hH1]; exact Keep.new H _ []
      have ga : H1.t.get H.nx = some (.row ⟨193, 1, 24, .leaf, nI .u8 0, 0, false, true, true⟩) := by rw [← hH1, get_new_eq rfl]
      have hl := nd10_pos (m)
      have hl2 : nd10 (m) ≤ 20 := nd10_le (by decide) (Nat.lt_trans (show m < 18446744073709551616 by omega) (by decide))
      have en := fun {j} => numDigits (lib0 := lib0) (fs := fs) (fuel := fuel) E (k := 2) (n := j) (by decide) (H := H1) (g.keep k1 (by simp)) (d := m) (by omega) (by omega)
      obtain ⟨R, ef, fb⟩ := fb_run (lib0 := lib0) (fs := fs) (fuel := fuel) E (k := 2) (n := n) (by decide) (H := H1) (b := H.nx) (nd := nd10 (m)) (u := m) (c := some 23) ga (by omega) (by rw [ro1]; exact hro) rfl rfl rfl hl2 (by omega) (lt_nd10 _)
      have s1 := fb.size; have s2 := fb.own; have s3 := fb.fz
      have el : ∀ c, strW (.slice H.nx 1 (nd10 m) c) (H1.put H.nx (.row R)) = .val (.str (fmtI (.ofNat m))) (H1.put H.nx (.row R)) := fun c => by
        refine strV_row (get_put_eq _ _ _) (by rw [fmtI_nat, dec_len]) (by rw [s1]; omega) fun i hi => ?_
        rw [fb.get, fmtI_nat, if_pos (by omega), show 1 + i - 1 = i by omega]; rfl
      have d0 : decide (0 ≤ m) = true := decide_eq_true (Nat.zero_le _)
      have d1 : decide (m < 100) = false := decide_eq_false h
      have d2 : decide (m < 0) = false := decide_eq_false (Nat.not_lt_zero _)
      simp (disch := first | assumption | omega | (simp -implicitDefEqProofs only [SideG, List.length_cons, List.length_nil, List.length_set, List.length_map] <;> first | assumption | omega) | decide) only [fmtI_nI, d0, d1, d2, en, ef, el, hH1, nx1, ro1, s1, s2, s3, oStr_at, slArrM, slArrV_hi, slArrV_lo, Nat.zero_add, Nat.add_sub_cancel_left, Nat.reduceSub, addV_i, cmpV_lt, cmpV_le, ltV_neg, leV_neg, intV_u64, intV_neg64, negV_u64, idxAV_ptr, stN_row, Row.st_size, Row.st_own, Row.st_fz, Nat.add_zero, eqV_eq, c90, RunG, N8G, CoreG, Bool.not_true, Bool.not_false, freeK_at, readK_at, freeN_at, List.nil_append, List.append_nil, Option.map_none, Option.map_some, List.map_cons, List.map_nil, cond_true, cond_false, Nat.testBit_eq_decide_div_mod_eq, Nat.reducePow, Nat.reduceDiv, Nat.reduceMod, decide_true, Nat.reduceEqDiff, decide_false, reduceCtorEq, Nat.zero_ne_one, Nat.zero_add, List.getD_cons_zero, List.getD_cons_succ, List.set_cons_zero, List.set_cons_succ, gtr0, gtr1, gtr4, gtr5, gtr6, gtr7, gtr9, gtr10, gtr11, gtr12, gtr13, gtr14, gtr15, gtr16, gtr17, gtr18, gtr19, gtr20, gtr21, gtr22, gtr23, gtr24, gtr25, gtr26, gtr27, gtr28, gtr29, gtr30, gtr31, gtr33, gtr34, gtr35, gtr36, gtr37, gtr38, gtr39, gtr40, gtr41, gtr42, gtr43, gtr44, gtr45, gtr46, gtr47, gtr48, gtr49, gtr50, gtr51, gtr52, gtr53, str0, str1, str4, str5, str6, str7, str8, str9, str10, str11, str12, str13, str14, str15, str16, str17, str18, str19, str20, str21, str22, str23, str24, str25, str26, str27, str28, str29, str30, str31, str32, str33, str34, str35, str36, str37, str38, str39, str40, str41, str42, str43, str44, str45, str46, str47, str48, str49, str50, str51, str52, str53]
      exact ⟨_, rfl, k1.then_put fun h => absurd h (Nat.lt_irrefl _)⟩
  | negSucc m =>
    have hz1 : m < 9223372036854775808 := by omega
    obtain ⟨H1, hH1⟩ : ∃ H1, H.new (.row ⟨193, 1, 24, .leaf, nI .u8 0, 0, false, true, true⟩) = H1 := ⟨_, rfl⟩
    have nx1 : H1.nx = H.nx + 1 := by rw [← hH1]; rfl
    have ro1 : H1.ro = H.ro := by rw [← hH1]; rfl
    have k1 : Keep H H1 [] := by rw [← hH1]; exact Keep.new H _ []
    have ga : H1.t.get H.nx = some (.row ⟨193, 1, 24, .leaf, nI .u8 0, 0, false, true, true⟩) := by rw [← hH1, get_new_eq rfl]
    have hl := nd10_pos (m + 1)
    have hl2 : nd10 (m + 1) ≤ 20 := nd10_le (by decide) (Nat.lt_trans (show m + 1 < 18446744073709551616 by omega) (by decide))
    have en := fun {j} => numDigits (lib0 := lib0) (fs := fs) (fuel := fuel) E (k := 2) (n := j) (by decide) (H := H1) (g.keep k1 (by simp)) (d := m + 1) (by omega) (by omega)
    obtain ⟨R, ef, fb⟩ := fb_run (lib0 := lib0) (fs := fs) (fuel := fuel) E (k := 2) (n := n) (by decide) (H := H1) (b := H.nx) (nd := nd10 (m + 1)) (u := m + 1) (c := some 23) ga (by omega) (by rw [ro1]; exact hro) rfl rfl rfl hl2 (by omega) (lt_nd10 _)
    have s1 := fb.size; have s2 := fb.own; have s3 := fb.fz
    have el : ∀ c, strW (.slice H.nx 0 (1 + nd10 (m + 1)) c) (H1.put H.nx (.row (R.st 0 (nI .u8 45)))) = .val (.str (fmtI (.negSucc m))) (H1.put H.nx (.row (R.st 0 (nI .u8 45)))) := fun c => by
      refine strV_row (get_put_eq _ _ _) (by rw [fmtI_neg, List.length_cons, dec_len]; omega) (by rw [Row.st_size, s1]; omega) fun i hi => ?_
      rw [Nat.zero_add, Row.st_get, fb.get, fmtI_neg]
      by_cases h0 : 0 = i
      · subst h0; rw [if_pos rfl]; rfl
      · rw [if_neg h0, if_pos (by omega)]
        obtain ⟨j, rfl⟩ : ∃ j, i = j + 1 := ⟨i - 1, by omega⟩
        rfl
    have e9 : 18446744073709551616 - (18446744073709551615 - m) = m + 1 := by omega
    simp (disch := first | assumption | omega | (simp -implicitDefEqProofs only [SideG, List.length_cons, List.length_nil, List.length_set, List.length_map] <;> first | assumption | omega) | decide) only [en, ef, el, hH1, e9, nx1, ro1, s1, s2, s3, oStr_at, slArrM, slArrV_hi, slArrV_lo, Nat.zero_add, Nat.add_sub_cancel_left, Nat.reduceSub, addV_i, cmpV_lt, cmpV_le, ltV_neg, leV_neg, intV_u64, intV_neg64, negV_u64, idxAV_ptr, stN_row, Row.st_size, Row.st_own, Row.st_fz, Nat.add_zero, eqV_eq, c90, RunG, N8G, CoreG, Bool.not_true, Bool.not_false, freeK_at, readK_at, freeN_at, List.nil_append, List.append_nil, Option.map_none, Option.map_some, List.map_cons, List.map_nil, cond_true, cond_false, Nat.testBit_eq_decide_div_mod_eq, Nat.reducePow, Nat.reduceDiv, Nat.reduceMod, decide_true, Nat.reduceEqDiff, decide_false, reduceCtorEq, Nat.zero_ne_one, Nat.zero_add, List.getD_cons_zero, List.getD_cons_succ, List.set_cons_zero, List.set_cons_succ, gtr0, gtr1, gtr4, gtr5, gtr6, gtr7, gtr9, gtr10, gtr11, gtr12, gtr13, gtr14, gtr15, gtr16, gtr17, gtr18, gtr19, gtr20, gtr21, gtr22, gtr23, gtr24, gtr25, gtr26, gtr27, gtr28, gtr29, gtr30, gtr31, gtr33, gtr34, gtr35, gtr36, gtr37, gtr38, gtr39, gtr40, gtr41, gtr42, gtr43, gtr44, gtr45, gtr46, gtr47, gtr48, gtr49, gtr50, gtr51, gtr52, gtr53, str0, str1, str4, str5, str6, str7, str8, str9, str10, str11, str12, str13, str14, str15, str16, str17, str18, str19, str20, str21, str22, str23, str24, str25, str26, str27, str28, str29, str30, str31, str32, str33, str34, str35, str36, str37, str38, str39, str40, str41, str42, str43, str44, str45, str46, str47, str48, str49, str50, str51, str52, str53]
    exact ⟨_, rfl, k1.then_put fun h => absurd h (Nat.lt_irrefl _)⟩
theorem fmtInt {lib0 : Lib} {fs : T CF} {fuel : Nat} (E : Env lib0 fs fuel) {k n : Nat} (hk : 3 ≤ k) {z : Int} {H : Heap} (g : Glob H) (hro : H.ro ≤ H.nx) (hz1 : -9223372036854775808 ≤ z) (hz2 : z < 9223372036854775808) :
    callN (LK lib0 fs fuel k) fs fuel (n + 1) 90 [.int .i64 z, nI .i64 10] H = .ret (.str (fmtI z)) H := by
  obtain ⟨H', e, g⟩ := fmtInt_run E (n := 898) (H := H) g hro hz1 hz2
  exact keep_hit (r := 2) rfl rfl e g (rfl) hk
theorem fmtI_hit_run {lib0 : Lib} {fs : T CF} {fuel : Nat} (E : Env lib0 fs fuel) {n : Nat} {z : Int} {H : Heap} (g : Glob H) (hro : H.ro ≤ H.nx) (hz1 : -9223372036854775808 ≤ z) (hz2 : z < 9223372036854775808) :
    ∃ H', callN (LK lib0 fs fuel 3) fs fuel (n + 2) 45 [.int .i64 z, nI .i64 10] H = .ret (.str (fmtI z)) H' ∧ Keep H H' [] := by
  rw [callN_fn (libK_none E.n45 (.inl (by decide)) _ _) E.f45]
  have es := fun {j} => fmtInt (lib0 := lib0) (fs := fs) (fuel := fuel) E (k := 3) (n := j) (by decide) g hro hz1 hz2
  simp (disch := first | assumption | omega | (simp -implicitDefEqProofs only [SideG, List.length_cons, List.length_nil, List.length_set, List.length_map] <;> first | assumption | omega) | decide) only [es, c45, RunG, N8G, CoreG, Bool.not_true, Bool.not_false, freeK_at, readK_at, freeN_at, List.nil_append, List.append_nil, Option.map_none, Option.map_some, List.map_cons, List.map_nil, cond_true, cond_false, Nat.testBit_eq_decide_div_mod_eq, Nat.reducePow, Nat.reduceDiv, Nat.reduceMod, decide_true, Nat.reduceEqDiff, decide_false, reduceCtorEq, Nat.zero_ne_one, Nat.zero_add, List.getD_cons_zero, List.getD_cons_succ, List.set_cons_zero, List.set_cons_succ, gtr0, gtr1, gtr4, gtr5, gtr6, gtr7, str0, str1, str4, str5, str6, str7]
  exact ⟨_, rfl, Keep.refl _ _⟩
theorem fmtI_hit {lib0 : Lib} {fs : T CF} {fuel : Nat} (E : Env lib0 fs fuel) {k n : Nat} (hk : 4 ≤ k) {z : Int} {H : Heap} (g : Glob H) (hro : H.ro ≤ H.nx) (hz1 : -9223372036854775808 ≤ z) (hz2 : z < 9223372036854775808) :
    callN (LK lib0 fs fuel k) fs fuel (n + 1) 45 [.int .i64 z, nI .i64 10] H = .ret (.str (fmtI z)) H := by
  obtain ⟨H', e, g⟩ := fmtI_hit_run E (n := 898) (H := H) g hro hz1 hz2
  exact keep_hit (r := 3) rfl rfl e g (rfl) hk
end
end Go.AI

/- Texts of digits read: walked. -/
namespace Go.AI
open Go
noncomputable section

theorem mapu_getD {s : List UInt8} {i : Nat} (h : i < s.length) : (s.map u8V).getD i .unk = nI .u8 (s.getD i 0).toNat := by
  rw [List.getD_eq_getElem?_getD, List.getElem?_map, List.getElem?_eq_getElem h, List.getD_eq_getElem?_getD, List.getElem?_eq_getElem h]; rfl
theorem undec_app (a b : List UInt8) : undec a * 10 ^ b.length ≤ undec (a ++ b) := by
  have : ∀ (k : Nat) (b : List UInt8), b.length = k → undec a * 10 ^ k ≤ undec (a ++ b) := by
    intro k
    induction k with
    | zero => intro b h; have : b = [] := List.length_eq_zero_iff.1 h; subst this; simp
    | succ k ih =>
      intro b h
      obtain ⟨b, x, rfl⟩ : ∃ b' x, b = b' ++ [x] := ⟨b.dropLast, b.getLast (by intro e; subst e; simp at h), (List.dropLast_concat_getLast _).symm⟩
      rw [List.length_append] at h
      have := ih b (by simp at h; omega)
      rw [← List.append_assoc, undec_push, Nat.pow_succ, ← Nat.mul_assoc]
      omega
  exact this _ b rfl
theorem take_push {s : List UInt8} {i : Nat} (h : i < s.length) : s.take (i + 1) = s.take i ++ [s.getD i 0] := by
  rw [List.take_add_one, List.getElem?_eq_getElem h, List.getD_eq_getElem?_getD, List.getElem?_eq_getElem h]; rfl
theorem undec_take {s : List UInt8} {i : Nat} (h : i < s.length) : undec (s.take (i + 1)) = 10 * undec (s.take i) + ((s.getD i 0).toNat - 48) := by rw [take_push h, undec_push]
/-- more digits make no less -/
theorem undec_more {s : List UInt8} {i : Nat} (h : i < s.length) : 10 * undec (s.take i) ≤ undec s := by
  have e := undec_app (s.take i) (s.drop i)
  rw [List.take_append_drop, List.length_drop] at e
  have : 10 ≤ 10 ^ (s.length - i) := by
    obtain ⟨k, hk⟩ : ∃ k, s.length - i = k + 1 := ⟨s.length - i - 1, by omega⟩
    rw [hk, Nat.pow_succ]
    have := Nat.one_le_pow k 10 (by decide)
    omega
  have := Nat.mul_le_mul_left (undec (s.take i)) this
  omega
theorem undec_mono {s : List UInt8} {i : Nat} (h : i ≤ s.length) : undec (s.take i) ≤ undec s := by
  have e := undec_app (s.take i) (s.drop i)
  rw [List.take_append_drop] at e
  have := Nat.one_le_pow (s.drop i).length 10 (by decide)
  have := Nat.mul_le_mul_left (undec (s.take i)) this
  omega
def allD (s : List UInt8) : Prop := ∀ i, i < s.length → 48 ≤ (s.getD i 0).toNat ∧ (s.getD i 0).toNat ≤ 57
def errV (k : Nat) : AV := .iface 252 (nI .i64 k)
def puV (s : List UInt8) : AV := if undec s < 18446744073709551616 then .tup [nI .u64 (undec s), .nili] else .tup [nI .u64 18446744073709551615, errV 1]
structure PU (H1 : Heap) (b : Nat) (s : List UInt8) (m : Nat) (tm : TM) (H : Heap) : Prop where
  heap : H = H1
  t1 : gt1 tm = nI .i64 10
  t8 : gt8 tm = .bool false
  t10 : gt10 tm = nI .u64 1844674407370955162
  t11 : gt11 tm = nI .u64 18446744073709551615
  t12 : gt12 tm = .bool false
  t99 : gt99 tm = .slice b 0 s.length none
  t100 : gt100 tm = nI .i64 s.length
  i : ∃ i, i + m = s.length ∧ gt101 tm = nI .i64 i ∧ gt13 tm = nI .u64 (undec (s.take i)) ∧ undec (s.take i) < 18446744073709551616
def PQ (H1 : Heap) (s : List UInt8) (o : Out) (tm : TM) (H : Heap) : Prop := H = H1 ∧ ((o = .ret ∧ gt6 tm = nI .u64 18446744073709551615 ∧ gt7 tm = errV 1 ∧ 18446744073709551616 ≤ undec s) ∨ (o = .exit 3 ∧ gt12 tm = .bool false ∧ gt13 tm = nI .u64 (undec s) ∧ undec s < 18446744073709551616))
theorem pu_step {H1 : Heap} {b : Nat} {s : List UInt8} (hs : allD s) (hl : s.length < 9223372036854775807) (gb : H1.t.get b = some (rG 5 1 (s.map u8V) 0 true true false)) (cx : Ctx) (x : X) (m : Nat) (tm : TM) (H : Heap) (h : PU H1 b s m tm H) :
    ∃ o tm' H', c205_l0 cx tm H x = .ok o tm' H' x ∧ ((o = .normal ∧ ∃ k, k < m ∧ PU H1 b s k tm' H') ∨ (o ≠ .normal ∧ PQ H1 s o tm' H')) := by
  obtain ⟨rfl, t1, t8, t10, t11, t12, t99, t100, i, him, t101, t13, hn⟩ := h
  simp only [gtr1, gtr8, gtr10, gtr11, gtr12, gtr13, gtr99, gtr100, gtr101] at t1 t8 t10 t11 t12 t13 t99 t100 t101
  by_cases hi : i < s.length
  · have d1 : decide (i < s.length) = true := decide_eq_true hi
    obtain ⟨g1, g2⟩ := hs i hi
    have eu := undec_take hi
    have em := undec_more hi
    have ee := undec_mono (s := s) (i := i + 1) hi
    generalize hx : (s.getD i 0).toNat = y at g1 g2 eu
    generalize hu : undec (s.take i) = u at t13 hn eu em
    have d2 : decide (y = 95) = false := decide_eq_false (by omega)
    have d3 : decide (48 ≤ y) = true := decide_eq_true g1
    have d4 : decide (y ≤ 57) = true := decide_eq_true g2
    have d5 : decide (10 ≤ y - 48) = false := decide_eq_false (by omega)
    by_cases hc : 1844674407370955162 ≤ u
    · have d6 : decide (1844674407370955162 ≤ u) = true := decide_eq_true hc
      simp (disch := first | assumption | omega | (simp -implicitDefEqProofs only [SideG, List.length_cons, List.length_nil, List.length_set, List.length_map] <;> first | assumption | omega) | decide) only [c205_l0, t1, t8, t10, t11, t13, t99, t100, t101, d1, d2, d3, d4, d5, d6, hx, gb, ld1_rG, mapu_getD, idxSV_slice, cmpV_lt, cmpV_le, cmpV_ge, eqV_eq, subV_u8, intV_u8, c205_l0, RunG, N8G, CoreG, Bool.not_true, Bool.not_false, freeK_at, readK_at, freeN_at, List.nil_append, List.append_nil, Option.map_none, Option.map_some, List.map_cons, List.map_nil, cond_true, cond_false, Nat.testBit_eq_decide_div_mod_eq, Nat.reducePow, Nat.reduceDiv, Nat.reduceMod, decide_true, Nat.reduceEqDiff, decide_false, reduceCtorEq, Nat.zero_ne_one, Nat.zero_add, List.getD_cons_zero, List.getD_cons_succ, List.set_cons_zero, List.set_cons_succ, gtr0, gtr1, gtr2, gtr8, gtr10, gtr11, gtr13, gtr15, gtr16, gtr17, gtr99, gtr100, gtr101, gtr102, gtr103, gtr104, gtr105, gtr106, gtr107, gtr108, gtr109, gtr110, gtr111, gtr112, gtr113, gtr114, gtr115, gtr116, gtr117, gtr118, gtr119, gtr120, gtr121, gtr122, gtr123, gtr124, gtr125, gtr126, gtr127, gtr128, gtr129, gtr130, gtr131, gtr132, gtr133, gtr134, gtr135, gtr136, gtr137, gtr138, gtr139, gtr140, gtr141, gtr142, gtr143, gtr144, gtr145, gtr146, gtr147, gtr148, gtr149, gtr150, gtr151, gtr152, gtr153, gtr154, gtr155, gtr156, gtr157, gtr158, gtr159, gtr160, gtr161, gtr162, gtr163, str0, str1, str2, str6, str7, str12, str13, str15, str16, str17, str101, str102, str103, str104, str105, str106, str107, str108, str109, str110, str111, str112, str113, str114, str115, str116, str117, str118, str119, str120, str121, str122, str123, str124, str125, str126, str127, str128, str129, str130, str131, str132, str133, str134, str135, str136, str137, str138, str139, str140, str141, str142, str143, str144, str145, str146, str147, str148, str149, str150, str151, str152, str153, str154, str155, str156, str157, str158, str159, str160, str161, str162, str163]
      exact ⟨_, _, _, rfl, .inr ⟨by simp, rfl, .inl ⟨rfl, rfl, rfl, by omega⟩⟩⟩
    · have d6 : decide (1844674407370955162 ≤ u) = false := decide_eq_false hc
      by_cases ho : u * 10 + (y - 48) < 18446744073709551616
      · have e1 : (u * 10 + (y - 48)) % 18446744073709551616 = u * 10 + (y - 48) := Nat.mod_eq_of_lt ho
        have d7 : decide (u * 10 + (y - 48) < u * 10) = false := decide_eq_false (by omega)
        have d8 : decide (18446744073709551615 < u * 10 + (y - 48)) = false := decide_eq_false (by omega)
        simp (disch := first | assumption | omega | (simp -implicitDefEqProofs only [SideG, List.length_cons, List.length_nil, List.length_set, List.length_map] <;> first | assumption | omega) | decide) only [c205_l0, t1, t8, t10, t11, t13, t99, t100, t101, d1, d2, d3, d4, d5, d6, d7, d8, e1, hx, gb, ld1_rG, mapu_getD, idxSV_slice, cmpV_lt, cmpV_le, cmpV_ge, cmpV_gt, eqV_eq, subV_u8, intV_u8, intV_u64, mulV_u64, addM_u64, addV_i, c205_l0, RunG, N8G, CoreG, Bool.not_true, Bool.not_false, freeK_at, readK_at, freeN_at, List.nil_append, List.append_nil, Option.map_none, Option.map_some, List.map_cons, List.map_nil, cond_true, cond_false, Nat.testBit_eq_decide_div_mod_eq, Nat.reducePow, Nat.reduceDiv, Nat.reduceMod, decide_true, Nat.reduceEqDiff, decide_false, reduceCtorEq, Nat.zero_ne_one, Nat.zero_add, List.getD_cons_zero, List.getD_cons_succ, List.set_cons_zero, List.set_cons_succ, gtr0, gtr1, gtr2, gtr8, gtr10, gtr11, gtr13, gtr15, gtr16, gtr17, gtr99, gtr100, gtr101, gtr102, gtr103, gtr104, gtr105, gtr106, gtr107, gtr108, gtr109, gtr110, gtr111, gtr112, gtr113, gtr114, gtr115, gtr116, gtr117, gtr118, gtr119, gtr120, gtr121, gtr122, gtr123, gtr124, gtr125, gtr126, gtr127, gtr128, gtr129, gtr130, gtr131, gtr132, gtr133, gtr134, gtr135, gtr136, gtr137, gtr138, gtr139, gtr140, gtr141, gtr142, gtr143, gtr144, gtr145, gtr146, gtr147, gtr148, gtr149, gtr150, gtr151, gtr152, gtr153, gtr154, gtr155, gtr156, gtr157, gtr158, gtr159, gtr160, gtr161, gtr162, gtr163, str0, str1, str2, str6, str7, str12, str13, str15, str16, str17, str101, str102, str103, str104, str105, str106, str107, str108, str109, str110, str111, str112, str113, str114, str115, str116, str117, str118, str119, str120, str121, str122, str123, str124, str125, str126, str127, str128, str129, str130, str131, str132, str133, str134, str135, str136, str137, str138, str139, str140, str141, str142, str143, str144, str145, str146, str147, str148, str149, str150, str151, str152, str153, str154, str155, str156, str157, str158, str159, str160, str161, str162, str163]
        exact ⟨_, _, _, rfl, .inl ⟨rfl, m - 1, by omega, rfl, t1, t8, t10, t11, t12, t99, t100, i + 1, by omega, rfl, by rw [eu, Nat.mul_comm 10 u]; rfl, by rw [eu]; omega⟩⟩
      · have e1 : (u * 10 + (y - 48)) % 18446744073709551616 = u * 10 + (y - 48) - 18446744073709551616 := by omega
        have d7 : decide (u * 10 + (y - 48) - 18446744073709551616 < u * 10) = true := decide_eq_true (by omega)
        simp (disch := first | assumption | omega | (simp -implicitDefEqProofs only [SideG, List.length_cons, List.length_nil, List.length_set, List.length_map] <;> first | assumption | omega) | decide) only [c205_l0, t1, t8, t10, t11, t13, t99, t100, t101, d1, d2, d3, d4, d5, d6, d7, e1, hx, gb, ld1_rG, mapu_getD, idxSV_slice, cmpV_lt, cmpV_le, cmpV_ge, cmpV_gt, eqV_eq, subV_u8, intV_u8, intV_u64, mulV_u64, addM_u64, addV_i, c205_l0, RunG, N8G, CoreG, Bool.not_true, Bool.not_false, freeK_at, readK_at, freeN_at, List.nil_append, List.append_nil, Option.map_none, Option.map_some, List.map_cons, List.map_nil, cond_true, cond_false, Nat.testBit_eq_decide_div_mod_eq, Nat.reducePow, Nat.reduceDiv, Nat.reduceMod, decide_true, Nat.reduceEqDiff, decide_false, reduceCtorEq, Nat.zero_ne_one, Nat.zero_add, List.getD_cons_zero, List.getD_cons_succ, List.set_cons_zero, List.set_cons_succ, gtr0, gtr1, gtr2, gtr8, gtr10, gtr11, gtr13, gtr15, gtr16, gtr17, gtr99, gtr100, gtr101, gtr102, gtr103, gtr104, gtr105, gtr106, gtr107, gtr108, gtr109, gtr110, gtr111, gtr112, gtr113, gtr114, gtr115, gtr116, gtr117, gtr118, gtr119, gtr120, gtr121, gtr122, gtr123, gtr124, gtr125, gtr126, gtr127, gtr128, gtr129, gtr130, gtr131, gtr132, gtr133, gtr134, gtr135, gtr136, gtr137, gtr138, gtr139, gtr140, gtr141, gtr142, gtr143, gtr144, gtr145, gtr146, gtr147, gtr148, gtr149, gtr150, gtr151, gtr152, gtr153, gtr154, gtr155, gtr156, gtr157, gtr158, gtr159, gtr160, gtr161, gtr162, gtr163, str0, str1, str2, str6, str7, str12, str13, str15, str16, str17, str101, str102, str103, str104, str105, str106, str107, str108, str109, str110, str111, str112, str113, str114, str115, str116, str117, str118, str119, str120, str121, str122, str123, str124, str125, str126, str127, str128, str129, str130, str131, str132, str133, str134, str135, str136, str137, str138, str139, str140, str141, str142, str143, str144, str145, str146, str147, str148, str149, str150, str151, str152, str153, str154, str155, str156, str157, str158, str159, str160, str161, str162, str163]
        exact ⟨_, _, _, rfl, .inr ⟨by simp, rfl, .inl ⟨rfl, rfl, rfl, by omega⟩⟩⟩
  · have d1 : decide (i < s.length) = false := decide_eq_false hi
    obtain rfl : i = s.length := by omega
    rw [List.take_length] at t13 hn
    simp (disch := first | assumption | omega | (simp -implicitDefEqProofs only [SideG, List.length_cons, List.length_nil, List.length_set, List.length_map] <;> first | assumption | omega) | decide) only [c205_l0, t99, t100, t101, d1, cmpV_lt, c205_l0, RunG, N8G, CoreG, Bool.not_true, Bool.not_false, freeK_at, readK_at, freeN_at, List.nil_append, List.append_nil, Option.map_none, Option.map_some, List.map_cons, List.map_nil, cond_true, cond_false, Nat.testBit_eq_decide_div_mod_eq, Nat.reducePow, Nat.reduceDiv, Nat.reduceMod, decide_true, Nat.reduceEqDiff, decide_false, reduceCtorEq, Nat.zero_ne_one, Nat.zero_add, List.getD_cons_zero, List.getD_cons_succ, List.set_cons_zero, List.set_cons_succ, gtr0, gtr1, gtr2, gtr8, gtr10, gtr11, gtr13, gtr15, gtr16, gtr17, gtr99, gtr100, gtr101, gtr102, gtr103, gtr104, gtr105, gtr106, gtr107, gtr108, gtr109, gtr110, gtr111, gtr112, gtr113, gtr114, gtr115, gtr116, gtr117, gtr118, gtr119, gtr120, gtr121, gtr122, gtr123, gtr124, gtr125, gtr126, gtr127, gtr128, gtr129, gtr130, gtr131, gtr132, gtr133, gtr134, gtr135, gtr136, gtr137, gtr138, gtr139, gtr140, gtr141, gtr142, gtr143, gtr144, gtr145, gtr146, gtr147, gtr148, gtr149, gtr150, gtr151, gtr152, gtr153, gtr154, gtr155, gtr156, gtr157, gtr158, gtr159, gtr160, gtr161, gtr162, gtr163, str0, str1, str2, str6, str7, str12, str13, str15, str16, str17, str101, str102, str103, str104, str105, str106, str107, str108, str109, str110, str111, str112, str113, str114, str115, str116, str117, str118, str119, str120, str121, str122, str123, str124, str125, str126, str127, str128, str129, str130, str131, str132, str133, str134, str135, str136, str137, str138, str139, str140, str141, str142, str143, str144, str145, str146, str147, str148, str149, str150, str151, str152, str153, str154, str155, str156, str157, str158, str159, str160, str161, str162, str163]
    exact ⟨_, _, _, rfl, .inr ⟨by simp, rfl, .inr ⟨rfl, t12, t13, hn⟩⟩⟩
theorem parseUint_run {lib0 : Lib} {fs : T CF} {fuel : Nat} (E : Env lib0 fs fuel) {n : Nat} {s : List UInt8} {H : Heap} (hs : allD s) (hne : s ≠ []) (hl : s.length < 100000) :
    ∃ H', callN (LK lib0 fs fuel 1) fs fuel (n + 2) 205 [.str s, nI .i64 10, nI .i64 64] H = .ret (puV s) H' ∧ Keep H H' [] := by
  rw [callN_fn (libK_none E.n205 (.inl (by decide)) _ _) E.f205]
  have d0 : decide (s = []) = false := decide_eq_false hne
  have m1 : (1 * 2 ^ 64) % 18446744073709551616 = 0 := rfl
  obtain ⟨H1, hH1⟩ : ∃ H1, H.new (rG 5 1 (s.map u8V) 0 true true false) = H1 := ⟨_, rfl⟩
  have k1 : Keep H H1 [] := by rw [← hH1]; exact Keep.new H _ []
  have gb : H1.t.get H.nx = some (rG 5 1 (s.map u8V) 0 true true false) := by rw [← hH1, get_new_eq rfl]
  have es : ∀ H, subV (nI .u64 0) (nI .u64 1) H = .val (nI .u64 18446744073709551615) H := fun H => rfl
  simp (disch := first | assumption | omega | (simp -implicitDefEqProofs only [SideG, List.length_cons, List.length_nil, List.length_set, List.length_map] <;> first | assumption | omega) | decide) only [d0, m1, es, hH1, eqV_eq, cmpV_lt, cmpV_le, cmpV_ge, cmpV_gt, intV_u64, shlV_mu64, Nat.reduceLeDiff, Nat.reduceEqDiff, Nat.not_lt_zero, decide_false, Nat.lt_irrefl, c205, RunG, N8G, CoreG, Bool.not_true, Bool.not_false, freeK_at, readK_at, freeN_at, List.nil_append, List.append_nil, Option.map_none, Option.map_some, List.map_cons, List.map_nil, cond_true, cond_false, Nat.testBit_eq_decide_div_mod_eq, Nat.reducePow, Nat.reduceDiv, Nat.reduceMod, decide_true, Nat.reduceEqDiff, decide_false, reduceCtorEq, Nat.zero_ne_one, Nat.zero_add, List.getD_cons_zero, List.getD_cons_succ, List.set_cons_zero, List.set_cons_succ, gtr0, gtr1, gtr2, gtr6, gtr7, gtr9, gtr12, gtr13, gtr18, gtr19, gtr20, gtr21, gtr22, gtr23, gtr24, gtr25, gtr26, gtr27, gtr28, gtr29, gtr30, gtr31, gtr32, gtr33, gtr34, gtr35, gtr36, gtr37, gtr38, gtr39, gtr40, gtr41, gtr42, gtr43, gtr44, gtr45, gtr46, gtr47, gtr48, gtr49, gtr50, gtr51, gtr52, gtr53, gtr54, gtr55, gtr56, gtr57, gtr58, gtr59, gtr60, gtr61, gtr62, gtr63, gtr64, gtr65, gtr66, gtr67, gtr68, gtr69, gtr70, gtr71, gtr72, gtr73, gtr74, gtr75, gtr76, gtr77, gtr78, gtr79, gtr80, gtr81, gtr82, gtr83, gtr84, gtr85, gtr86, gtr87, gtr88, gtr89, gtr90, gtr91, gtr92, gtr93, gtr94, gtr95, gtr96, gtr97, gtr98, gtr99, gtr164, gtr165, gtr166, gtr167, gtr168, gtr169, gtr170, gtr171, str0, str1, str2, str6, str7, str8, str9, str10, str11, str12, str13, str18, str19, str20, str21, str22, str23, str24, str25, str26, str27, str28, str29, str30, str31, str32, str33, str34, str35, str36, str37, str38, str39, str40, str41, str42, str43, str44, str45, str46, str47, str48, str49, str50, str51, str52, str53, str54, str55, str56, str57, str58, str59, str60, str61, str62, str63, str64, str65, str66, str67, str68, str69, str70, str71, str72, str73, str74, str75, str76, str77, str78, str79, str80, str81, str82, str83, str84, str85, str86, str87, str88, str89, str90, str91, str92, str93, str94, str95, str96, str97, str98, str99, str100, str101, str164, str165, str166, str167, str168, str169, str170, str171]
  generalize hL : loopN (c205_l0 _) fuel _ _ _ = L
  obtain ⟨o, tm1, H2, rfl, _, rfl, z⟩ := after_rule (P := fun T => PU H1 H.nx s s.length T H1) (Q := PQ H1 s)
    (fun T hi => loop_rule (PU H1 H.nx s) (PQ H1 s) (fun m tm H' h => pu_step hs (by omega) gb _ _ m tm H' h) fuel s.length T H1 (by have := E.big; omega) hi) hL
    ⟨rfl, rfl, rfl, rfl, rfl, rfl, rfl, rfl, 0, by omega, rfl, rfl, by rw [List.take_zero]; decide⟩
  unfold puV
  rcases z with ⟨rfl, z6, z7, hu⟩ | ⟨rfl, z12, z13, hu⟩
  · simp only [gtr6, gtr7] at z6 z7
    rw [if_neg (by omega)]
    simp (disch := first | assumption | omega | (simp -implicitDefEqProofs only [SideG, List.length_cons, List.length_nil, List.length_set, List.length_map] <;> first | assumption | omega) | decide) only [z6, z7, c205, RunG, N8G, CoreG, Bool.not_true, Bool.not_false, freeK_at, readK_at, freeN_at, List.nil_append, List.append_nil, Option.map_none, Option.map_some, List.map_cons, List.map_nil, cond_true, cond_false, Nat.testBit_eq_decide_div_mod_eq, Nat.reducePow, Nat.reduceDiv, Nat.reduceMod, decide_true, Nat.reduceEqDiff, decide_false, reduceCtorEq, Nat.zero_ne_one, Nat.zero_add, List.getD_cons_zero, List.getD_cons_succ, List.set_cons_zero, List.set_cons_succ, gtr0, gtr1, gtr2, gtr6, gtr7, gtr9, gtr12, gtr13, gtr18, gtr19, gtr20, gtr21, gtr22, gtr23, gtr24, gtr25, gtr26, gtr27, gtr28, gtr29, gtr30, gtr31, gtr32, gtr33, gtr34, gtr35, gtr36, gtr37, gtr38, gtr39, gtr40, gtr41, gtr42, gtr43, gtr44, gtr45, gtr46, gtr47, gtr48, gtr49, gtr50, gtr51, gtr52, gtr53, gtr54, gtr55, gtr56, gtr57, gtr58, gtr59, gtr60, gtr61, gtr62, gtr63, gtr64, gtr65, gtr66, gtr67, gtr68, gtr69, gtr70, gtr71, gtr72, gtr73, gtr74, gtr75, gtr76, gtr77, gtr78, gtr79, gtr80, gtr81, gtr82, gtr83, gtr84, gtr85, gtr86, gtr87, gtr88, gtr89, gtr90, gtr91, gtr92, gtr93, gtr94, gtr95, gtr96, gtr97, gtr98, gtr99, gtr164, gtr165, gtr166, gtr167, gtr168, gtr169, gtr170, gtr171, str0, str1, str2, str6, str7, str8, str9, str10, str11, str12, str13, str18, str19, str20, str21, str22, str23, str24, str25, str26, str27, str28, str29, str30, str31, str32, str33, str34, str35, str36, str37, str38, str39, str40, str41, str42, str43, str44, str45, str46, str47, str48, str49, str50, str51, str52, str53, str54, str55, str56, str57, str58, str59, str60, str61, str62, str63, str64, str65, str66, str67, str68, str69, str70, str71, str72, str73, str74, str75, str76, str77, str78, str79, str80, str81, str82, str83, str84, str85, str86, str87, str88, str89, str90, str91, str92, str93, str94, str95, str96, str97, str98, str99, str100, str101, str164, str165, str166, str167, str168, str169, str170, str171]
    exact ⟨_, rfl, k1⟩
  · simp only [gtr12, gtr13] at z12 z13
    rw [if_pos hu]
    simp (disch := first | assumption | omega | (simp -implicitDefEqProofs only [SideG, List.length_cons, List.length_nil, List.length_set, List.length_map] <;> first | assumption | omega) | decide) only [z12, z13, c205, RunG, N8G, CoreG, Bool.not_true, Bool.not_false, freeK_at, readK_at, freeN_at, List.nil_append, List.append_nil, Option.map_none, Option.map_some, List.map_cons, List.map_nil, cond_true, cond_false, Nat.testBit_eq_decide_div_mod_eq, Nat.reducePow, Nat.reduceDiv, Nat.reduceMod, decide_true, Nat.reduceEqDiff, decide_false, reduceCtorEq, Nat.zero_ne_one, Nat.zero_add, List.getD_cons_zero, List.getD_cons_succ, List.set_cons_zero, List.set_cons_succ, gtr0, gtr1, gtr2, gtr6, gtr7, gtr9, gtr12, gtr13, gtr18, gtr19, gtr20, gtr21, gtr22, gtr23, gtr24, gtr25, gtr26, gtr27, gtr28, gtr29, gtr30, gtr31, gtr32, gtr33, gtr34, gtr35, gtr36, gtr37, gtr38, gtr39, gtr40, gtr41, gtr42, gtr43, gtr44, gtr45, gtr46, gtr47, gtr48, gtr49, gtr50, gtr51, gtr52, gtr53, gtr54, gtr55, gtr56, gtr57, gtr58, gtr59, gtr60, gtr61, gtr62, gtr63, gtr64, gtr65, gtr66, gtr67, gtr68, gtr69, gtr70, gtr71, gtr72, gtr73, gtr74, gtr75, gtr76, gtr77, gtr78, gtr79, gtr80, gtr81, gtr82, gtr83, gtr84, gtr85, gtr86, gtr87, gtr88, gtr89, gtr90, gtr91, gtr92, gtr93, gtr94, gtr95, gtr96, gtr97, gtr98, gtr99, gtr164, gtr165, gtr166, gtr167, gtr168, gtr169, gtr170, gtr171, str0, str1, str2, str6, str7, str8, str9, str10, str11, str12, str13, str18, str19, str20, str21, str22, str23, str24, str25, str26, str27, str28, str29, str30, str31, str32, str33, str34, str35, str36, str37, str38, str39, str40, str41, str42, str43, str44, str45, str46, str47, str48, str49, str50, str51, str52, str53, str54, str55, str56, str57, str58, str59, str60, str61, str62, str63, str64, str65, str66, str67, str68, str69, str70, str71, str72, str73, str74, str75, str76, str77, str78, str79, str80, str81, str82, str83, str84, str85, str86, str87, str88, str89, str90, str91, str92, str93, str94, str95, str96, str97, str98, str99, str100, str101, str164, str165, str166, str167, str168, str169, str170, str171]
    exact ⟨_, rfl, k1⟩
theorem parseUint {lib0 : Lib} {fs : T CF} {fuel : Nat} (E : Env lib0 fs fuel) {k n : Nat} (hk : 2 ≤ k) {s : List UInt8} {H : Heap} (hs : allD s) (hne : s ≠ []) (hl : s.length < 100000) :
    callN (LK lib0 fs fuel k) fs fuel (n + 1) 205 [.str s, nI .i64 10, nI .i64 64] H = .ret (puV s) H := by
  obtain ⟨H', e, g⟩ := parseUint_run E (n := 898) (H := H) hs hne hl
  exact keep_hit (r := 1) rfl rfl e g (by unfold puV; split <;> rfl) hk
theorem eq11 : eqC Go.Proofs.Tryz.prog (eqT Go.Proofs.Tryz.prog 9) 252 (nI .i64 1) (nI .i64 1) = some true := by kernel_rfl
theorem eq12 : eqC Go.Proofs.Tryz.prog (eqT Go.Proofs.Tryz.prog 9) 252 (nI .i64 1) (nI .i64 2) = some false := by kernel_rfl
/-- a number's text: digits, a minus ahead or not -/
def piV (neg : Bool) (u : Nat) : AV := if neg then (if u ≤ 9223372036854775808 then .tup [.int .i64 (-(u : Int)), .nili] else .tup [.int .i64 (.negSucc 9223372036854775807), errV 1]) else (if u < 9223372036854775808 then .tup [nI .i64 u, .nili] else .tup [nI .i64 9223372036854775807, errV 1])
theorem negI (u : Nat) (h : 0 < u) : AV.int .i64 (.negSucc (u - 1)) = AV.int .i64 (-(u : Int)) := by congr 1; omega
theorem parseInt0_run {lib0 : Lib} {fs : T CF} {fuel : Nat} (E : Env lib0 fs fuel) {n : Nat} {neg : Bool} {s : List UInt8} {H : Heap} (hs : allD s) (hne : s ≠ []) (hl : s.length < 100000) :
    ∃ H', callN (LK lib0 fs fuel 2) fs fuel (n + 2) 189 [.str (if neg then 45 :: s else s), nI .i64 10, nI .i64 64] H = .ret (piV neg (undec s)) H' ∧ Keep H H' [] := by
  rw [callN_fn (libK_none E.n189 (.inl (by decide)) _ _) E.f189]
  have hp : 0 < s.length := List.length_pos_iff.2 hne
  obtain ⟨g1, g2⟩ := hs 0 hp
  have z0 : decide (0 < 0) = false := rfl
  have m1 : (1 * 2 ^ 63) % 18446744073709551616 = 9223372036854775808 := rfl
  have ep := fun {j} => parseUint (lib0 := lib0) (fs := fs) (fuel := fuel) E (k := 2) (n := j) (by decide) (H := H) hs hne hl
  unfold puV errV at ep
  have hx : (s.getD 0 0).toNat = (s.getD 0 0).toNat := rfl
  cases neg with
  | false =>
    have e0 : (if (false : Bool) = true then (45 :: s : List UInt8) else s) = s := rfl
    have d0 : decide (s = []) = false := decide_eq_false hne
    have d1 : decide ((s.getD 0 0).toNat = 43) = false := decide_eq_false (by omega)
    have d2 : decide ((s.getD 0 0).toNat = 45) = false := decide_eq_false (by omega)
    unfold piV errV
    rw [e0, if_neg (by simp)]
    by_cases h1 : undec s < 18446744073709551616
    · rw [if_pos h1] at ep
      by_cases h2 : undec s < 9223372036854775808
      · have d3 : decide (9223372036854775808 ≤ undec s) = false := decide_eq_false (by omega)
        rw [if_pos h2]
        simp (disch := first | assumption | omega | (simp -implicitDefEqProofs only [SideG, List.length_cons, List.length_nil, List.length_set, List.length_map] <;> first | assumption | omega) | decide) only [d0, d1, d2, d3, m1, ep, eq11, cmpV_ge, cmpV_gt, cmpV_lt, eqV_eq, idxStr_at, slStr_drop, subV_i, intV_u64, shlV_mu64, subV_u64, intV_i64, negV_i64, neg_zero_i64, least_i64, neg_least, Nat.reduceEqDiff, Nat.reduceSub, Nat.reducePow, Nat.reduceMul, Nat.reduceMod, c189, RunG, N8G, CoreG, Bool.not_true, Bool.not_false, freeK_at, readK_at, freeN_at, List.nil_append, List.append_nil, Option.map_none, Option.map_some, List.map_cons, List.map_nil, cond_true, cond_false, Nat.testBit_eq_decide_div_mod_eq, Nat.reducePow, Nat.reduceDiv, Nat.reduceMod, decide_true, Nat.reduceEqDiff, decide_false, reduceCtorEq, Nat.zero_ne_one, Nat.zero_add, List.getD_cons_zero, List.getD_cons_succ, List.set_cons_zero, List.set_cons_succ, gtr0, gtr1, gtr2, gtr6, gtr7, gtr8, gtr9, gtr10, gtr11, gtr12, gtr13, gtr14, gtr15, gtr16, gtr17, gtr18, gtr19, gtr20, gtr21, gtr22, gtr23, gtr24, gtr25, gtr26, gtr27, gtr28, gtr29, gtr30, gtr31, gtr32, gtr33, gtr34, gtr35, gtr36, gtr37, gtr38, gtr39, gtr40, gtr41, gtr42, gtr43, gtr44, gtr45, gtr46, gtr47, gtr48, gtr49, gtr50, gtr51, gtr52, gtr53, gtr54, gtr55, gtr56, gtr57, gtr58, gtr59, gtr60, gtr61, gtr62, gtr63, gtr64, gtr65, gtr66, gtr67, gtr68, gtr69, gtr70, gtr71, gtr72, str0, str1, str2, str6, str7, str8, str9, str10, str11, str12, str13, str14, str15, str16, str17, str18, str19, str20, str21, str22, str23, str24, str25, str26, str27, str28, str29, str30, str31, str32, str33, str34, str35, str36, str37, str38, str39, str40, str41, str42, str43, str44, str45, str46, str47, str48, str49, str50, str51, str52, str53, str54, str55, str56, str57, str58, str59, str60, str61, str62, str63, str64, str65, str66, str67, str68, str69, str70, str71, str72]
        exact ⟨_, rfl, Keep.refl _ _⟩
      · have d3 : decide (9223372036854775808 ≤ undec s) = true := decide_eq_true (by omega)
        rw [if_neg h2]
        simp (disch := first | assumption | omega | (simp -implicitDefEqProofs only [SideG, List.length_cons, List.length_nil, List.length_set, List.length_map] <;> first | assumption | omega) | decide) only [d0, d1, d2, d3, m1, ep, eq11, cmpV_ge, cmpV_gt, cmpV_lt, eqV_eq, idxStr_at, slStr_drop, subV_i, intV_u64, shlV_mu64, subV_u64, intV_i64, negV_i64, neg_zero_i64, least_i64, neg_least, Nat.reduceEqDiff, Nat.reduceSub, Nat.reducePow, Nat.reduceMul, Nat.reduceMod, c189, RunG, N8G, CoreG, Bool.not_true, Bool.not_false, freeK_at, readK_at, freeN_at, List.nil_append, List.append_nil, Option.map_none, Option.map_some, List.map_cons, List.map_nil, cond_true, cond_false, Nat.testBit_eq_decide_div_mod_eq, Nat.reducePow, Nat.reduceDiv, Nat.reduceMod, decide_true, Nat.reduceEqDiff, decide_false, reduceCtorEq, Nat.zero_ne_one, Nat.zero_add, List.getD_cons_zero, List.getD_cons_succ, List.set_cons_zero, List.set_cons_succ, gtr0, gtr1, gtr2, gtr6, gtr7, gtr8, gtr9, gtr10, gtr11, gtr12, gtr13, gtr14, gtr15, gtr16, gtr17, gtr18, gtr19, gtr20, gtr21, gtr22, gtr23, gtr24, gtr25, gtr26, gtr27, gtr28, gtr29, gtr30, gtr31, gtr32, gtr33, gtr34, gtr35, gtr36, gtr37, gtr38, gtr39, gtr40, gtr41, gtr42, gtr43, gtr44, gtr45, gtr46, gtr47, gtr48, gtr49, gtr50, gtr51, gtr52, gtr53, gtr54, gtr55, gtr56, gtr57, gtr58, gtr59, gtr60, gtr61, gtr62, gtr63, gtr64, gtr65, gtr66, gtr67, gtr68, gtr69, gtr70, gtr71, gtr72, str0, str1, str2, str6, str7, str8, str9, str10, str11, str12, str13, str14, str15, str16, str17, str18, str19, str20, str21, str22, str23, str24, str25, str26, str27, str28, str29, str30, str31, str32, str33, str34, str35, str36, str37, str38, str39, str40, str41, str42, str43, str44, str45, str46, str47, str48, str49, str50, str51, str52, str53, str54, str55, str56, str57, str58, str59, str60, str61, str62, str63, str64, str65, str66, str67, str68, str69, str70, str71, str72]
        exact ⟨_, rfl, Keep.refl _ _⟩
    · rw [if_neg h1] at ep
      rw [if_neg (by omega)]
      simp (disch := first | assumption | omega | (simp -implicitDefEqProofs only [SideG, List.length_cons, List.length_nil, List.length_set, List.length_map] <;> first | assumption | omega) | decide) only [d0, d1, d2, m1, ep, Nat.reduceLeDiff, eq11, cmpV_ge, cmpV_gt, cmpV_lt, eqV_eq, idxStr_at, slStr_drop, subV_i, intV_u64, shlV_mu64, subV_u64, intV_i64, negV_i64, neg_zero_i64, least_i64, neg_least, Nat.reduceEqDiff, Nat.reduceSub, Nat.reducePow, Nat.reduceMul, Nat.reduceMod, c189, RunG, N8G, CoreG, Bool.not_true, Bool.not_false, freeK_at, readK_at, freeN_at, List.nil_append, List.append_nil, Option.map_none, Option.map_some, List.map_cons, List.map_nil, cond_true, cond_false, Nat.testBit_eq_decide_div_mod_eq, Nat.reducePow, Nat.reduceDiv, Nat.reduceMod, decide_true, Nat.reduceEqDiff, decide_false, reduceCtorEq, Nat.zero_ne_one, Nat.zero_add, List.getD_cons_zero, List.getD_cons_succ, List.set_cons_zero, List.set_cons_succ, gtr0, gtr1, gtr2, gtr6, gtr7, gtr8, gtr9, gtr10, gtr11, gtr12, gtr13, gtr14, gtr15, gtr16, gtr17, gtr18, gtr19, gtr20, gtr21, gtr22, gtr23, gtr24, gtr25, gtr26, gtr27, gtr28, gtr29, gtr30, gtr31, gtr32, gtr33, gtr34, gtr35, gtr36, gtr37, gtr38, gtr39, gtr40, gtr41, gtr42, gtr43, gtr44, gtr45, gtr46, gtr47, gtr48, gtr49, gtr50, gtr51, gtr52, gtr53, gtr54, gtr55, gtr56, gtr57, gtr58, gtr59, gtr60, gtr61, gtr62, gtr63, gtr64, gtr65, gtr66, gtr67, gtr68, gtr69, gtr70, gtr71, gtr72, str0, str1, str2, str6, str7, str8, str9, str10, str11, str12, str13, str14, str15, str16, str17, str18, str19, str20, str21, str22, str23, str24, str25, str26, str27, str28, str29, str30, str31, str32, str33, str34, str35, str36, str37, str38, str39, str40, str41, str42, str43, str44, str45, str46, str47, str48, str49, str50, str51, str52, str53, str54, str55, str56, str57, str58, str59, str60, str61, str62, str63, str64, str65, str66, str67, str68, str69, str70, str71, str72]
      exact ⟨_, rfl, Keep.refl _ _⟩
  | true =>
    have e0 : (if (true : Bool) = true then (45 :: s : List UInt8) else s) = 45 :: s := rfl
    have d0 : decide ((45 :: s : List UInt8) = []) = false := decide_eq_false (by simp)
    have d1 : UInt8.toNat 45 = 45 := rfl
    have d2 : (45 :: s : List UInt8).drop 1 = s := rfl
    have d4 : 0 < (45 :: s : List UInt8).length := by simp
    have d5 : 1 ≤ (45 :: s : List UInt8).length := by simp
    unfold piV errV
    rw [e0, if_pos rfl]
    by_cases h1 : undec s < 18446744073709551616
    · rw [if_pos h1] at ep
      by_cases h2 : undec s ≤ 9223372036854775808
      · have d3 : decide (9223372036854775808 < undec s) = false := decide_eq_false (by omega)
        rw [if_pos h2]
        by_cases h3 : undec s = 0
        · rw [h3] at ep d3 ⊢
          simp (disch := first | assumption | omega | (simp -implicitDefEqProofs only [SideG, List.length_cons, List.length_nil, List.length_set, List.length_map] <;> first | assumption | omega) | decide) only [d0, d1, d2, d3, m1, ep, eq11, cmpV_ge, cmpV_gt, cmpV_lt, eqV_eq, idxStr_at, slStr_drop, subV_i, intV_u64, shlV_mu64, subV_u64, intV_i64, negV_i64, neg_zero_i64, least_i64, neg_least, Nat.reduceEqDiff, Nat.reduceSub, Nat.reducePow, Nat.reduceMul, Nat.reduceMod, c189, RunG, N8G, CoreG, Bool.not_true, Bool.not_false, freeK_at, readK_at, freeN_at, List.nil_append, List.append_nil, Option.map_none, Option.map_some, List.map_cons, List.map_nil, cond_true, cond_false, Nat.testBit_eq_decide_div_mod_eq, Nat.reducePow, Nat.reduceDiv, Nat.reduceMod, decide_true, Nat.reduceEqDiff, decide_false, reduceCtorEq, Nat.zero_ne_one, Nat.zero_add, List.getD_cons_zero, List.getD_cons_succ, List.set_cons_zero, List.set_cons_succ, gtr0, gtr1, gtr2, gtr6, gtr7, gtr8, gtr9, gtr10, gtr11, gtr12, gtr13, gtr14, gtr15, gtr16, gtr17, gtr18, gtr19, gtr20, gtr21, gtr22, gtr23, gtr24, gtr25, gtr26, gtr27, gtr28, gtr29, gtr30, gtr31, gtr32, gtr33, gtr34, gtr35, gtr36, gtr37, gtr38, gtr39, gtr40, gtr41, gtr42, gtr43, gtr44, gtr45, gtr46, gtr47, gtr48, gtr49, gtr50, gtr51, gtr52, gtr53, gtr54, gtr55, gtr56, gtr57, gtr58, gtr59, gtr60, gtr61, gtr62, gtr63, gtr64, gtr65, gtr66, gtr67, gtr68, gtr69, gtr70, gtr71, gtr72, str0, str1, str2, str6, str7, str8, str9, str10, str11, str12, str13, str14, str15, str16, str17, str18, str19, str20, str21, str22, str23, str24, str25, str26, str27, str28, str29, str30, str31, str32, str33, str34, str35, str36, str37, str38, str39, str40, str41, str42, str43, str44, str45, str46, str47, str48, str49, str50, str51, str52, str53, str54, str55, str56, str57, str58, str59, str60, str61, str62, str63, str64, str65, str66, str67, str68, str69, str70, str71, str72]
          exact ⟨_, rfl, Keep.refl _ _⟩
        · rw [← negI _ (by omega)]
          by_cases h4 : undec s = 9223372036854775808
          · rw [h4] at ep d3 ⊢
            simp (disch := first | assumption | omega | (simp -implicitDefEqProofs only [SideG, List.length_cons, List.length_nil, List.length_set, List.length_map] <;> first | assumption | omega) | decide) only [d0, d1, d2, d3, m1, ep, eq11, cmpV_ge, cmpV_gt, cmpV_lt, eqV_eq, idxStr_at, slStr_drop, subV_i, intV_u64, shlV_mu64, subV_u64, intV_i64, negV_i64, neg_zero_i64, least_i64, neg_least, Nat.reduceEqDiff, Nat.reduceSub, Nat.reducePow, Nat.reduceMul, Nat.reduceMod, c189, RunG, N8G, CoreG, Bool.not_true, Bool.not_false, freeK_at, readK_at, freeN_at, List.nil_append, List.append_nil, Option.map_none, Option.map_some, List.map_cons, List.map_nil, cond_true, cond_false, Nat.testBit_eq_decide_div_mod_eq, Nat.reducePow, Nat.reduceDiv, Nat.reduceMod, decide_true, Nat.reduceEqDiff, decide_false, reduceCtorEq, Nat.zero_ne_one, Nat.zero_add, List.getD_cons_zero, List.getD_cons_succ, List.set_cons_zero, List.set_cons_succ, gtr0, gtr1, gtr2, gtr6, gtr7, gtr8, gtr9, gtr10, gtr11, gtr12, gtr13, gtr14, gtr15, gtr16, gtr17, gtr18, gtr19, gtr20, gtr21, gtr22, gtr23, gtr24, gtr25, gtr26, gtr27, gtr28, gtr29, gtr30, gtr31, gtr32, gtr33, gtr34, gtr35, gtr36, gtr37, gtr38, gtr39, gtr40, gtr41, gtr42, gtr43, gtr44, gtr45, gtr46, gtr47, gtr48, gtr49, gtr50, gtr51, gtr52, gtr53, gtr54, gtr55, gtr56, gtr57, gtr58, gtr59, gtr60, gtr61, gtr62, gtr63, gtr64, gtr65, gtr66, gtr67, gtr68, gtr69, gtr70, gtr71, gtr72, str0, str1, str2, str6, str7, str8, str9, str10, str11, str12, str13, str14, str15, str16, str17, str18, str19, str20, str21, str22, str23, str24, str25, str26, str27, str28, str29, str30, str31, str32, str33, str34, str35, str36, str37, str38, str39, str40, str41, str42, str43, str44, str45, str46, str47, str48, str49, str50, str51, str52, str53, str54, str55, str56, str57, str58, str59, str60, str61, str62, str63, str64, str65, str66, str67, str68, str69, str70, str71, str72]
            exact ⟨_, rfl, Keep.refl _ _⟩
          · simp (disch := first | assumption | omega | (simp -implicitDefEqProofs only [SideG, List.length_cons, List.length_nil, List.length_set, List.length_map] <;> first | assumption | omega) | decide) only [d0, d1, d2, d3, m1, ep, eq11, cmpV_ge, cmpV_gt, cmpV_lt, eqV_eq, idxStr_at, slStr_drop, subV_i, intV_u64, shlV_mu64, subV_u64, intV_i64, negV_i64, neg_zero_i64, least_i64, neg_least, Nat.reduceEqDiff, Nat.reduceSub, Nat.reducePow, Nat.reduceMul, Nat.reduceMod, c189, RunG, N8G, CoreG, Bool.not_true, Bool.not_false, freeK_at, readK_at, freeN_at, List.nil_append, List.append_nil, Option.map_none, Option.map_some, List.map_cons, List.map_nil, cond_true, cond_false, Nat.testBit_eq_decide_div_mod_eq, Nat.reducePow, Nat.reduceDiv, Nat.reduceMod, decide_true, Nat.reduceEqDiff, decide_false, reduceCtorEq, Nat.zero_ne_one, Nat.zero_add, List.getD_cons_zero, List.getD_cons_succ, List.set_cons_zero, List.set_cons_succ, gtr0, gtr1, gtr2, gtr6, gtr7, gtr8, gtr9, gtr10, gtr11, gtr12, gtr13, gtr14, gtr15, gtr16, gtr17, gtr18, gtr19, gtr20, gtr21, gtr22, gtr23, gtr24, gtr25, gtr26, gtr27, gtr28, gtr29, gtr30, gtr31, gtr32, gtr33, gtr34, gtr35, gtr36, gtr37, gtr38, gtr39, gtr40, gtr41, gtr42, gtr43, gtr44, gtr45, gtr46, gtr47, gtr48, gtr49, gtr50, gtr51, gtr52, gtr53, gtr54, gtr55, gtr56, gtr57, gtr58, gtr59, gtr60, gtr61, gtr62, gtr63, gtr64, gtr65, gtr66, gtr67, gtr68, gtr69, gtr70, gtr71, gtr72, str0, str1, str2, str6, str7, str8, str9, str10, str11, str12, str13, str14, str15, str16, str17, str18, str19, str20, str21, str22, str23, str24, str25, str26, str27, str28, str29, str30, str31, str32, str33, str34, str35, str36, str37, str38, str39, str40, str41, str42, str43, str44, str45, str46, str47, str48, str49, str50, str51, str52, str53, str54, str55, str56, str57, str58, str59, str60, str61, str62, str63, str64, str65, str66, str67, str68, str69, str70, str71, str72]
            exact ⟨_, rfl, Keep.refl _ _⟩
      · have d3 : decide (9223372036854775808 < undec s) = true := decide_eq_true (by omega)
        rw [if_neg h2]
        simp (disch := first | assumption | omega | (simp -implicitDefEqProofs only [SideG, List.length_cons, List.length_nil, List.length_set, List.length_map] <;> first | assumption | omega) | decide) only [d0, d1, d2, d3, m1, ep, eq11, cmpV_ge, cmpV_gt, cmpV_lt, eqV_eq, idxStr_at, slStr_drop, subV_i, intV_u64, shlV_mu64, subV_u64, intV_i64, negV_i64, neg_zero_i64, least_i64, neg_least, Nat.reduceEqDiff, Nat.reduceSub, Nat.reducePow, Nat.reduceMul, Nat.reduceMod, c189, RunG, N8G, CoreG, Bool.not_true, Bool.not_false, freeK_at, readK_at, freeN_at, List.nil_append, List.append_nil, Option.map_none, Option.map_some, List.map_cons, List.map_nil, cond_true, cond_false, Nat.testBit_eq_decide_div_mod_eq, Nat.reducePow, Nat.reduceDiv, Nat.reduceMod, decide_true, Nat.reduceEqDiff, decide_false, reduceCtorEq, Nat.zero_ne_one, Nat.zero_add, List.getD_cons_zero, List.getD_cons_succ, List.set_cons_zero, List.set_cons_succ, gtr0, gtr1, gtr2, gtr6, gtr7, gtr8, gtr9, gtr10, gtr11, gtr12, gtr13, gtr14, gtr15, gtr16, gtr17, gtr18, gtr19, gtr20, gtr21, gtr22, gtr23, gtr24, gtr25, gtr26, gtr27, gtr28, gtr29, gtr30, gtr31, gtr32, gtr33, gtr34, gtr35, gtr36, gtr37, gtr38, gtr39, gtr40, gtr41, gtr42, gtr43, gtr44, gtr45, gtr46, gtr47, gtr48, gtr49, gtr50, gtr51, gtr52, gtr53, gtr54, gtr55, gtr56, gtr57, gtr58, gtr59, gtr60, gtr61, gtr62, gtr63, gtr64, gtr65, gtr66, gtr67, gtr68, gtr69, gtr70, gtr71, gtr72, str0, str1, str2, str6, str7, str8, str9, str10, str11, str12, str13, str14, str15, str16, str17, str18, str19, str20, str21, str22, str23, str24, str25, str26, str27, str28, str29, str30, str31, str32, str33, str34, str35, str36, str37, str38, str39, str40, str41, str42, str43, str44, str45, str46, str47, str48, str49, str50, str51, str52, str53, str54, str55, str56, str57, str58, str59, str60, str61, str62, str63, str64, str65, str66, str67, str68, str69, str70, str71, str72]
        exact ⟨_, rfl, Keep.refl _ _⟩
    · rw [if_neg h1] at ep
      rw [if_neg (by omega)]
      simp (disch := first | assumption | omega | (simp -implicitDefEqProofs only [SideG, List.length_cons, List.length_nil, List.length_set, List.length_map] <;> first | assumption | omega) | decide) only [d0, d1, d2, m1, ep, Nat.reduceLeDiff, eq11, cmpV_ge, cmpV_gt, cmpV_lt, eqV_eq, idxStr_at, slStr_drop, subV_i, intV_u64, shlV_mu64, subV_u64, intV_i64, negV_i64, neg_zero_i64, least_i64, neg_least, Nat.reduceEqDiff, Nat.reduceSub, Nat.reducePow, Nat.reduceMul, Nat.reduceMod, c189, RunG, N8G, CoreG, Bool.not_true, Bool.not_false, freeK_at, readK_at, freeN_at, List.nil_append, List.append_nil, Option.map_none, Option.map_some, List.map_cons, List.map_nil, cond_true, cond_false, Nat.testBit_eq_decide_div_mod_eq, Nat.reducePow, Nat.reduceDiv, Nat.reduceMod, decide_true, Nat.reduceEqDiff, decide_false, reduceCtorEq, Nat.zero_ne_one, Nat.zero_add, List.getD_cons_zero, List.getD_cons_succ, List.set_cons_zero, List.set_cons_succ, gtr0, gtr1, gtr2, gtr6, gtr7, gtr8, gtr9, gtr10, gtr11, gtr12, gtr13, gtr14, gtr15, gtr16, gtr17, gtr18, gtr19, gtr20, gtr21, gtr22, gtr23, gtr24, gtr25, gtr26, gtr27, gtr28, gtr29, gtr30, gtr31, gtr32, gtr33, gtr34, gtr35, gtr36, gtr37, gtr38, gtr39, gtr40, gtr41, gtr42, gtr43, gtr44, gtr45, gtr46, gtr47, gtr48, gtr49, gtr50, gtr51, gtr52, gtr53, gtr54, gtr55, gtr56, gtr57, gtr58, gtr59, gtr60, gtr61, gtr62, gtr63, gtr64, gtr65, gtr66, gtr67, gtr68, gtr69, gtr70, gtr71, gtr72, str0, str1, str2, str6, str7, str8, str9, str10, str11, str12, str13, str14, str15, str16, str17, str18, str19, str20, str21, str22, str23, str24, str25, str26, str27, str28, str29, str30, str31, str32, str33, str34, str35, str36, str37, str38, str39, str40, str41, str42, str43, str44, str45, str46, str47, str48, str49, str50, str51, str52, str53, str54, str55, str56, str57, str58, str59, str60, str61, str62, str63, str64, str65, str66, str67, str68, str69, str70, str71, str72]
      exact ⟨_, rfl, Keep.refl _ _⟩
theorem parseInt0 {lib0 : Lib} {fs : T CF} {fuel : Nat} (E : Env lib0 fs fuel) {k n : Nat} (hk : 3 ≤ k) {neg : Bool} {s : List UInt8} {H : Heap} (hs : allD s) (hne : s ≠ []) (hl : s.length < 100000) :
    callN (LK lib0 fs fuel k) fs fuel (n + 1) 189 [.str (if neg then 45 :: s else s), nI .i64 10, nI .i64 64] H = .ret (piV neg (undec s)) H := by
  obtain ⟨H', e, g⟩ := parseInt0_run E (n := 898) (H := H) hs hne hl
  exact keep_hit (r := 2) rfl rfl e g (by unfold piV; split <;> split <;> rfl) hk
end
end Go.AI

/- Errors of numbers: walked. -/
namespace Go.AI
open Go
noncomputable section

theorem Cells.all {r : Row} {l vs : List AV} (h : Cells r l) (hv : vs.length = l.length) : Cells (r.setCells (storeN r.cells 0 vs)) vs := by
  have := h.store (o := 0) (vs := vs) (by omega)
  rw [List.take_zero, Nat.zero_add, hv, List.drop_length, List.append_nil, List.nil_append] at this
  exact this
def mkSV (e sz bytes : Nat) (zs : List AV) (l c : AV) (H : Heap) : OR := onNat l fun l => onNat c fun c => onIf (Nat.ble 1 sz) <| onIf (Nat.ble l c) (onIf (Nat.ble c 140737488355328) <| onIf (Nat.ble (Nat.mul c bytes) 140737488355328) (mkRow H e sz l c zs))
theorem oMkSlice_at (e sz bytes : Nat) (zs : List AV) (l c : EvF) (tm : TM) (H : Heap) : oMkSlice e sz bytes zs l c tm H = mkSV e sz bytes zs (l tm) (c tm) H := rfl
/-- a row of zeros -/
def rZ (e n : Nat) (v : AV) : Row := ⟨e, 1, n, .leaf, v, 0, false, true, true⟩
theorem mkSV_bytes {n : Nat} (h : n ≤ 140737488355328) (k j : IntKind) (e : Nat) (v : AV) (H : Heap) : mkSV e 1 1 [v] (nI k n) (nI j n) H = .val (.slice H.nx 0 n none) (H.new (.row (rZ e n v))) := by
  show onIf (Nat.ble 1 1) (onIf (Nat.ble n n) (onIf (Nat.ble n 140737488355328) (onIf (Nat.ble (n * 1) 140737488355328) (onIf (Nat.beq 1 1) _)))) = _
  rw [Nat.ble_eq_true_of_le (Nat.le_refl n), Nat.mul_one, Nat.ble_eq_true_of_le h]; rfl
theorem copyV_str {H : Heap} {b : Nat} {r : Row} {s : List UInt8} {c : Option Nat} (h0 : s ≠ []) (hr : H.t.get b = some (.row r)) (hs : r.size = s.length) (how : r.own = true) (hro : H.ro ≤ b) (hfz : r.fz = 0) :
    copyV 1 (.slice b 0 s.length c) (.str s) H = .val (nI .i64 s.length) (H.put b (.row (r.setCells (storeN r.cells 0 (s.map u8V))))) := by
  have hp := List.length_pos_iff.2 h0
  have hm : mapB (takeB s.length s) = s.map u8V := by rw [takeB_eq, List.take_length, mapB_eq]; rfl
  have e : minN s.length s.length = s.length := by unfold minN; rw [Nat.ble_eq_true_of_le (Nat.le_refl _)]; rfl
  show forceN (minN s.length (lenL s)) (fun n => contents H 1 (.str s) n fun new => cond (Nat.beq n 0) (.val (.int .i64 0) H) (onRow H b fun r => onIf (H.may r b) (onIf (Nat.ble r.fz 0) (onIf (Nat.ble (0 + n * 1) r.size) (.val (.int .i64 (.ofNat n)) (H.put b (.row (r.setCells (storeN r.cells 0 new)))))))) ) = _
  have e2 : Nat.beq s.length 0 = false := by rw [beq_nat]; exact decide_eq_false (by omega)
  have h1 : H.may r b = true := by unfold Heap.may; rw [how, Nat.ble_eq_true_of_le hro]; rfl
  rw [forceN_eq, lenL_eq, e]
  unfold contents
  rw [e2]
  simp only [cond_false]
  show onRow H b (fun r => onIf (H.may r b) (onIf (Nat.ble r.fz 0) (onIf (Nat.ble (0 + s.length * 1) r.size) (.val (nI .i64 s.length) (H.put b (.row (r.setCells (storeN r.cells 0 (mapB (takeB s.length s))))))))) ) = _
  unfold onRow
  rw [hr]
  show onIf (H.may r b) (onIf (Nat.ble r.fz 0) (onIf (Nat.ble (0 + s.length * 1) r.size) (.val (nI .i64 s.length) (H.put b (.row (r.setCells (storeN r.cells 0 (mapB (takeB s.length s)))))) ))) = _
  rw [h1, hfz, hs, hm, Nat.mul_one, Nat.zero_add, Nat.ble_eq_true_of_le (Nat.le_refl s.length)]; rfl
theorem uStrV_row {H : Heap} {b : Nat} {r : Row} {s : List UInt8} (h0 : s ≠ []) (hl : s.length ≤ 140737488355328) (hr : H.t.get b = some (.row r)) (hc : Cells r (s.map u8V)) (he : r.elem = 5) (hsm : r.sm = false) (how : r.own = true) (hro : H.ro ≤ b) (k : IntKind) :
    ∃ r', uStrV 5 (.ptr b 0) (nI k s.length) H = .val (.str s) (H.put b (.row r')) := by
  have hp := List.length_pos_iff.2 h0
  have hsz : r.size = s.length := by rw [hc.size, List.length_map]
  refine ⟨⟨r.elem, r.sz, r.size, r.cells, r.dflt, cond (Nat.ble r.fz (Nat.add 0 s.length)) (Nat.add 0 s.length) r.fz, r.sm, r.own, r.exact⟩, ?_⟩
  · show cond (Nat.beq s.length 0) _ (onIf (Nat.ble s.length 140737488355328) (onRow H b _)) = _
    rw [beq_nat, decide_eq_false (by omega), Nat.ble_eq_true_of_le hl]
    unfold onRow
    rw [hr]
    show onIf (Nat.beq r.elem 5) (onIf (cond r.sm false (H.may r b)) (onIf (Nat.ble (0 + s.length) r.size) (toBytes _ (loadN r 0 s.length)))) = _
    have hmay : H.may r b = true := by unfold Heap.may; rw [how, Nat.ble_eq_true_of_le hro]; rfl
    rw [he, hsm, hmay, Nat.ble_eq_true_of_le (by omega), hc.load (by rw [List.length_map]; omega), List.drop_zero, List.take_of_length_le (by rw [List.length_map]; exact Nat.le_refl _), toBytes_u8]
    rfl
theorem cloneS_run {lib0 : Lib} {fs : T CF} {fuel : Nat} (E : Env lib0 fs fuel) {n : Nat} {s : List UInt8} {H : Heap} (hne : s ≠ []) (hl : s.length < 100000) (hro : H.ro ≤ H.nx) :
    ∃ H', callN (LK lib0 fs fuel 0) fs fuel (n + 2) 219 [.str s] H = .ret (.str s) H' ∧ Keep H H' [] := by
  rw [callN_fn (libK_none E.n219 (.inl (by decide)) _ _) E.f219]
  have hp := List.length_pos_iff.2 hne
  have d0 : decide (s.length = 0) = false := decide_eq_false (by omega)
  obtain ⟨H1, hH1⟩ : ∃ H1, H.new (.row (rZ 5 s.length (nI .u8 0))) = H1 := ⟨_, rfl⟩
  have k1 : Keep H H1 [] := by rw [← hH1]; exact Keep.new H _ []
  have nx1 : H1.nx = H.nx + 1 := by rw [← hH1]; rfl
  have ro1 : H1.ro = H.ro := by rw [← hH1]; rfl
  have ga : H1.t.get H.nx = some (.row (rZ 5 s.length (nI .u8 0))) := by rw [← hH1, get_new_eq rfl]
  have cz : Cells (rZ 5 s.length (nI .u8 0)) (List.replicate s.length (nI .u8 0)) := Cells.zero ..
  have cp := copyV_str (c := none) hne ga rfl rfl (by rw [ro1]; exact hro) rfl
  generalize hr2 : (rZ 5 s.length (nI .u8 0)).setCells (storeN (rZ 5 s.length (nI .u8 0)).cells 0 (s.map u8V)) = r2 at cp
  have c2 : Cells r2 (s.map u8V) := by rw [← hr2]; exact cz.all (by simp)
  obtain ⟨r3, us⟩ := uStrV_row (H := H1.put H.nx (.row r2)) hne (by omega) (get_put_eq ..) c2 (by rw [← hr2]; rfl) (by rw [← hr2]; rfl) (by rw [← hr2]; rfl) (by rw [put_ro, ro1]; exact hro) .i64
  simp (disch := first | assumption | omega | (simp -implicitDefEqProofs only [SideG, List.length_cons, List.length_nil, List.length_set, List.length_map] <;> first | assumption | omega) | decide) only [d0, hH1, nx1, cp, us, eqV_eq, lenSV_str, oMkSlice_at, mkSV_bytes, idxSV_slice, Nat.add_zero, c219, RunG, N8G, CoreG, Bool.not_true, Bool.not_false, freeK_at, readK_at, freeN_at, List.nil_append, List.append_nil, Option.map_none, Option.map_some, List.map_cons, List.map_nil, cond_true, cond_false, Nat.testBit_eq_decide_div_mod_eq, Nat.reducePow, Nat.reduceDiv, Nat.reduceMod, decide_true, Nat.reduceEqDiff, decide_false, reduceCtorEq, Nat.zero_ne_one, Nat.zero_add, List.getD_cons_zero, List.getD_cons_succ, List.set_cons_zero, List.set_cons_succ, gtr0, gtr2, gtr3, gtr4, gtr5, gtr6, gtr7, gtr8, gtr9, gtr10, gtr11, gtr13, gtr14, gtr15, gtr16, gtr17, str0, str2, str3, str4, str5, str6, str7, str8, str9, str10, str11, str12, str13, str14, str15, str16, str17]
  exact ⟨_, rfl, k1.then_put fun h => absurd h (Nat.lt_irrefl _)⟩
theorem cloneS {lib0 : Lib} {fs : T CF} {fuel : Nat} (E : Env lib0 fs fuel) {k n : Nat} (hk : 1 ≤ k) {s : List UInt8} {H : Heap} (hne : s ≠ []) (hl : s.length < 100000) (hro : H.ro ≤ H.nx) :
    callN (LK lib0 fs fuel k) fs fuel (n + 1) 219 [.str s] H = .ret (.str s) H := by
  obtain ⟨H', e, g⟩ := cloneS_run E (n := 898) (H := H) hne hl hro
  exact keep_hit (r := 0) rfl rfl e g (rfl) hk
/-- an error of a number -/
theorem rangeErr_run {lib0 : Lib} {fs : T CF} {fuel : Nat} (E : Env lib0 fs fuel) {k n : Nat} (hk : 1 ≤ k) {f s : List UInt8} {H : Heap} (g : Glob H) (hro : H.ro ≤ H.nx) (hne : s ≠ []) (hl : s.length < 100000) :
    ∃ H', callN (LK lib0 fs fuel k) fs fuel (n + 2) 207 [.str f, .str s] H = .ret (.ptr H.nx 0) H' ∧ Keep H H' [] ∧ H.nx < H'.nx := by
  have nn : libK lib0 fs fuel rank spec k 207 [.str f, .str s] H = none := libK_none E.n207 (.inr rfl) _ _
  rw [callN_fn nn E.f207]
  obtain ⟨h100, _, r, et, p, gr, hs, hv, hp⟩ := g
  have ec := fun {j} => cloneS (lib0 := lib0) (fs := fs) (fuel := fuel) E (k := k) (n := j) hk (H := H) hne hl hro
  have iv := fun (n : Nat) (t : T Obj) => isSame_val (.iface et (.ptr p 0)) n t (by unfold same; rw [Nat.beq_refl]; unfold same; rw [Nat.beq_refl, Nat.beq_refl]; rfl)
  have lv : lowV H.nx (.ptr p 0) = true := lowV_ptr (by omega) 0
  simp (disch := first | assumption | omega | (simp -implicitDefEqProofs only [SideG, List.length_cons, List.length_nil, List.length_set, List.length_map] <;> first | assumption | omega) | decide) only [ec, gr, ld1_row, hv, iv, lv, boxW_agg, c207, RunG, N8G, CoreG, Bool.not_true, Bool.not_false, freeK_at, readK_at, freeN_at, List.nil_append, List.append_nil, Option.map_none, Option.map_some, List.map_cons, List.map_nil, cond_true, cond_false, Nat.testBit_eq_decide_div_mod_eq, Nat.reducePow, Nat.reduceDiv, Nat.reduceMod, decide_true, Nat.reduceEqDiff, decide_false, reduceCtorEq, Nat.zero_ne_one, Nat.zero_add, List.getD_cons_zero, List.getD_cons_succ, List.set_cons_zero, List.set_cons_succ, gtr0, gtr1, gtr4, gtr5, gtr6, gtr7, gtr8, gtr9, gtr10, str0, str1, str4, str5, str6, str7, str8, str9, str10]
  exact ⟨_, rfl, Keep.new H _ [], Nat.lt_succ_self _⟩
theorem toErr_run {lib0 : Lib} {fs : T CF} {fuel : Nat} (E : Env lib0 fs fuel) {k n : Nat} (hk : 1 ≤ k) {f s : List UInt8} {a b : AV} {H : Heap} (g : Glob H) (hro : H.ro ≤ H.nx) (hne : s ≠ []) (hl : s.length < 100000) :
    ∃ H', callN (LK lib0 fs fuel k) fs fuel (n + 3) 190 [.str f, .str s, a, b, errV 1] H = .ret (.iface 255 (.ptr H.nx 0)) H' ∧ Keep H H' [] ∧ H.nx < H'.nx := by
  have nn : libK lib0 fs fuel rank spec k 190 [.str f, .str s, a, b, errV 1] H = none := libK_none E.n190 (.inr rfl) _ _
  rw [callN_fn nn E.f190]
  obtain ⟨H', er, kr⟩ := rangeErr_run E (n := n) hk (f := f) g hro hne hl
  unfold errV
  simp (disch := first | assumption | omega | (simp -implicitDefEqProofs only [SideG, List.length_cons, List.length_nil, List.length_set, List.length_map] <;> first | assumption | omega) | decide) only [argsT_5, eq11, eq12, er, c190, RunG, N8G, CoreG, Bool.not_true, Bool.not_false, freeK_at, readK_at, freeN_at, List.nil_append, List.append_nil, Option.map_none, Option.map_some, List.map_cons, List.map_nil, cond_true, cond_false, Nat.testBit_eq_decide_div_mod_eq, Nat.reducePow, Nat.reduceDiv, Nat.reduceMod, decide_true, Nat.reduceEqDiff, decide_false, reduceCtorEq, Nat.zero_ne_one, Nat.zero_add, List.getD_cons_zero, List.getD_cons_succ, List.set_cons_zero, List.set_cons_succ, gtr0, gtr1, gtr2, gtr3, gtr4, gtr10, gtr11, gtr12, gtr13, gtr14, gtr15, gtr16, gtr17, gtr18, gtr19, gtr20, gtr21, gtr22, gtr23, gtr24, gtr25, gtr26, gtr27, gtr28, gtr29, gtr30, gtr31, gtr32, gtr33, gtr34, gtr35, gtr36, gtr37, gtr38, gtr39, gtr40, gtr41, gtr42, str0, str1, str2, str3, str4, str10, str11, str12, str13, str14, str15, str16, str17, str18, str19, str20, str21, str22, str23, str24, str25, str26, str27, str28, str29, str30, str31, str32, str33, str34, str35, str36, str37, str38, str39, str40, str41, str42]
  exact ⟨_, rfl, kr⟩
theorem parseOk {lib0 : Lib} {fs : T CF} {fuel : Nat} (E : Env lib0 fs fuel) {k n : Nat} (hk : 3 ≤ k) {neg : Bool} {s : List UInt8} {z : Int} {H : Heap} (hs : allD s) (hne : s ≠ []) (hl : s.length < 99999) (hz : piV neg (undec s) = .tup [.int .i64 z, .nili]) :
    callN (LK lib0 fs fuel k) fs fuel (n + 2) 168 [.str (if neg then 45 :: s else s), nI .i64 10, nI .i64 64] H = .ret (.tup [.int .i64 z, .nili]) H := by
  have nn : libK lib0 fs fuel rank spec k 168 [.str (if neg then 45 :: s else s), nI .i64 10, nI .i64 64] H = none := libK_none E.n168 (.inr rfl) _ _
  rw [callN_fn nn E.f168]
  have ep := fun {j} => parseInt0 (lib0 := lib0) (fs := fs) (fuel := fuel) E (k := k) (n := j) hk (neg := neg) (H := H) hs hne (by omega)
  rw [hz] at ep
  simp (disch := first | assumption | omega | (simp -implicitDefEqProofs only [SideG, List.length_cons, List.length_nil, List.length_set, List.length_map] <;> first | assumption | omega) | decide) only [ep, c168, RunG, N8G, CoreG, Bool.not_true, Bool.not_false, freeK_at, readK_at, freeN_at, List.nil_append, List.append_nil, Option.map_none, Option.map_some, List.map_cons, List.map_nil, cond_true, cond_false, Nat.testBit_eq_decide_div_mod_eq, Nat.reducePow, Nat.reduceDiv, Nat.reduceMod, decide_true, Nat.reduceEqDiff, decide_false, reduceCtorEq, Nat.zero_ne_one, Nat.zero_add, List.getD_cons_zero, List.getD_cons_succ, List.set_cons_zero, List.set_cons_succ, gtr0, gtr1, gtr2, gtr6, gtr7, gtr8, gtr9, gtr10, gtr11, gtr12, gtr13, gtr14, gtr15, gtr16, gtr17, gtr18, gtr19, gtr20, gtr21, gtr22, gtr23, gtr24, str0, str1, str2, str6, str7, str8, str9, str10, str11, str12, str13, str14, str15, str16, str17, str18, str19, str20, str21, str22, str23, str24]
theorem parseBad {lib0 : Lib} {fs : T CF} {fuel : Nat} (E : Env lib0 fs fuel) {k n : Nat} (hk : 3 ≤ k) {neg : Bool} {s : List UInt8} {z : Int} {H : Heap} (g : Glob H) (hro : H.ro ≤ H.nx) (hs : allD s) (hne : s ≠ []) (hl : s.length < 99999) (hz : piV neg (undec s) = .tup [.int .i64 z, errV 1]) :
    ∃ H', callN (LK lib0 fs fuel k) fs fuel (n + 4) 168 [.str (if neg then 45 :: s else s), nI .i64 10, nI .i64 64] H = .ret (.tup [.int .i64 z, .iface 255 (.ptr H.nx 0)]) H' ∧ Keep H H' [] ∧ H.nx < H'.nx := by
  have nn : libK lib0 fs fuel rank spec k 168 [.str (if neg then 45 :: s else s), nI .i64 10, nI .i64 64] H = none := libK_none E.n168 (.inr rfl) _ _
  rw [callN_fn nn E.f168]
  have ep := fun {j} => parseInt0 (lib0 := lib0) (fs := fs) (fuel := fuel) E (k := k) (n := j) hk (neg := neg) (H := H) hs hne (by omega)
  rw [hz] at ep
  unfold errV at ep
  have hw : (if neg = true then 45 :: s else s) ≠ [] := by cases neg <;> simp [hne]
  have hw2 : (if neg = true then 45 :: s else s).length < 100000 := by cases neg <;> simp <;> omega
  generalize (if neg = true then 45 :: s else s) = w at ep hw hw2
  obtain ⟨H', et, kt⟩ := toErr_run E (n := n) (k := k) (by omega) (f := [80, 97, 114, 115, 101, 73, 110, 116]) (s := w) (a := nI .i64 10) (b := nI .i64 64) g hro hw hw2
  unfold errV at et
  simp (disch := first | assumption | omega | (simp -implicitDefEqProofs only [SideG, List.length_cons, List.length_nil, List.length_set, List.length_map] <;> first | assumption | omega) | decide) only [ep, et, c168, RunG, N8G, CoreG, Bool.not_true, Bool.not_false, freeK_at, readK_at, freeN_at, List.nil_append, List.append_nil, Option.map_none, Option.map_some, List.map_cons, List.map_nil, cond_true, cond_false, Nat.testBit_eq_decide_div_mod_eq, Nat.reducePow, Nat.reduceDiv, Nat.reduceMod, decide_true, Nat.reduceEqDiff, decide_false, reduceCtorEq, Nat.zero_ne_one, Nat.zero_add, List.getD_cons_zero, List.getD_cons_succ, List.set_cons_zero, List.set_cons_succ, gtr0, gtr1, gtr2, gtr6, gtr7, gtr8, gtr9, gtr10, gtr11, gtr12, gtr13, gtr14, gtr15, gtr16, gtr17, gtr18, gtr19, gtr20, gtr21, gtr22, gtr23, gtr24, str0, str1, str2, str6, str7, str8, str9, str10, str11, str12, str13, str14, str15, str16, str17, str18, str19, str20, str21, str22, str23, str24]
  exact ⟨_, rfl, kt⟩
end
end Go.AI
