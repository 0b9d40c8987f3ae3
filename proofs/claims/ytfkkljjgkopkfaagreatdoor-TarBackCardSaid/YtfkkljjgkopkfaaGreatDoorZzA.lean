/- pax.Last on the machine: the iterator slices.Backward, for every loop body. -/
import Derived.RangeFuncNested
import Derived.RangeFuncBox
import Derived.RangeFuncLeaves
import Derived.Shelf.Abstract
import Derived.Sort.EncStr
import Derived.WalkKit
import Derived.OwnWalkIn
import Derived.TacticsInMore
import Derived.LoopNIn
import Derived.LoopIn
import Derived.Test.YtfkkljjgkopkfaaGreatDoorProg
set_option maxRecDepth 1000000
set_option maxHeartbeats 0
set_option linter.all false
namespace Go.Proofs
open Go.RowKit Go.Shelf

attribute [local go_sem] Oper.semAt_some

abbrev BkE := Nat × (List UInt8 × List UInt8)
/-- the k-th that comes, of n -/
def bkN (zs : List (List UInt8 × List UInt8)) (k : Nat) : BkE := (zs.length - 1 - k, zs[zs.length - 1 - k]?.getD ([], []))
def bkU (zs : List (List UInt8 × List UInt8)) (k : Nat) : List BkE := (List.range k).map (bkN zs)
theorem bkU_succ (zs : List (List UInt8 × List UInt8)) (k : Nat) : bkU zs (k + 1) = bkU zs k ++ [bkN zs k] := by simp [bkU, List.range_succ]
theorem bkU_length (zs : List (List UInt8 × List UInt8)) (k : Nat) : (bkU zs k).length = k := by simp [bkU]
abbrev bkV (x : BkE) : Array Value := #[.int .i64 (x.1 : Int), .agg #[encStr x.2.1, encStr x.2.2]]

def KpB (n₀ Bs : Nat) (W W' : World) : Prop := Below n₀ W W' ∧ ∀ v, W.cell? ⟨Bs, 0, none⟩ = some v → W'.cell? ⟨Bs, 0, none⟩ = some v
theorem KpB.refl (n₀ Bs : Nat) (W : World) : KpB n₀ Bs W W := ⟨Below.refl _ _, fun _ h => h⟩
theorem KpB.trans {n₀ Bs : Nat} {A B C : World} (h : KpB n₀ Bs A B) (h' : KpB n₀ Bs B C) : KpB n₀ Bs A C := ⟨h.1.trans h'.1, fun v e => h'.2 v (h.2 v e)⟩

set_option maxRecDepth 100000 in
set_option maxHeartbeats 2000000 in
theorem bk1_in (F : Fence) (n : Nat) (h8 : F.fn 163) (hro : F.round = none) (hn : 1 ≤ n) (l Bs n₀ b off cap : Nat) (zs : List (List UInt8 × List UInt8)) (hreach : zs.length * 32 ≤ 140737488351232) (hb : b < n₀) (J Jx : List BkE → World → Prop)
    (hY : ∀ pre x W, J pre W → pre.length < zs.length → YieldAt F (n - 1) Tryz.prog l (bkV x) W fun e W' =>
      (e = .returned (.bool true) ∧ J (pre ++ [x]) W' ∧ KpB n₀ Bs W W') ∨ (e = .returned (.bool false) ∧ Jx (pre ++ [x]) W'))
    (W : World) (hBs : W.cell? ⟨Bs, 0, none⟩ = some (.slice (some ⟨b, off, none⟩) zs.length cap))
    (hc : ∀ j, j < zs.length → W.cell? ⟨b, off + j * 2, none⟩ = some (encStr (zs[j]?.getD ([], [])).1) ∧ W.cell? ⟨b, off + j * 2 + 1, none⟩ = some (encStr (zs[j]?.getD ([], [])).2)) (h0 : J [] W) :
    CallsIn F n Tryz.prog 163 #[.func (.yield l) #[] #[], .pointer (some ⟨Bs, 0, none⟩)] W fun e W' => (∃ v, e = .returned v) ∧
      ((∃ ys, ys = bkU zs zs.length ∧ J ys W') ∨ (∃ pre, (∃ k, k ≤ zs.length ∧ pre = bkU zs k) ∧ Jx pre W')) := by
  refine callsIn_of_wp Tryz.func163 rfl h8 ?_ hro
  simp only [Tryz.ntmps163, List.size_toArray, List.length_cons, List.length_nil, Nat.reduceAdd, Nat.reduceSub, Array.replicate_succ, Array.replicate_zero, List.push_toArray, List.append_toArray, List.nil_append, List.cons_append]
  gi_wp2
  gi_loopw [3] (fun i wr => ∃ k : Nat, k ≤ zs.length ∧ i = .int .i64 ((zs.length : Int) - 1 - k) ∧ J (bkU zs k) wr ∧ KpB n₀ Bs W wr)
    (fun i _ => (intOf i + 1).toNat)
  case atStart => exact ⟨0, Nat.zero_le _, by simp, h0, KpB.refl _ _ _⟩
  case round =>
    obtain ⟨k, hk, rfl, hJs, hnx, hbs⟩ := hrel
    have hBs' := hbs _ hBs
    by_cases hlt : k < zs.length
    · have hi : (zs.length : Int) - 1 - k = ((zs.length - 1 - k : Nat) : Int) := by omega
      obtain ⟨fn, tmps, assign, body, hy, hR⟩ := hY _ (bkN zs k) wr hJs (by rw [bkU_length]; exact hlt)
      have hlt2 : zs.length - 1 - k < zs.length := by omega
      obtain ⟨c1', c2'⟩ := hc (zs.length - 1 - k) hlt2
      have d1 := (hnx.cell (p := ⟨b, off + (zs.length - 1 - k) * 2, none⟩) hb).trans c1'
      have d2 := (hnx.cell (p := ⟨b, off + (zs.length - 1 - k) * 2 + 1, none⟩) hb).trans c2'
      rw [hi]
      dsimp only [bkN, bkV] at hy
      generalize hj : zs.length - 1 - k = j at *
      clear c1' c2'
      obtain ⟨z, hz⟩ : ∃ z, zs[j]?.getD ([], []) = z := ⟨_, rfl⟩
      rw [hz] at hy d1 d2
      gi_wp2
      refine hR.mono ?_
      rintro e W3 (⟨rfl, hJ3, hk3⟩ | ⟨rfl, hJx3⟩)
      · gi_wp2
        go_roundw
        case rel => exact ⟨k + 1, by omega, by simp; omega, by rw [bkU_succ]; exact hJ3, KpB.trans ⟨hnx, hbs⟩ hk3⟩
        case measure => simp [intOf]
      · gi_wp2
        refine bodyPost_ret (results_none rfl _ _ _) rfl ?_
        exact ⟨⟨_, rfl⟩, .inr ⟨_, ⟨k + 1, by omega, (bkU_succ _ _).symm⟩, hJx3⟩⟩
    · obtain rfl : k = zs.length := by omega
      gi_wp2
      go_end0
      exact ⟨⟨_, rfl⟩, .inl ⟨_, rfl, hJs⟩⟩

set_option maxRecDepth 100000 in
set_option maxHeartbeats 1000000 in
theorem bk1_nil_in (F : Fence) (n : Nat) (h8 : F.fn 163) (hro : F.round = none) (l Bs : Nat) (J : List BkE → World → Prop) (W : World) (hBs : W.cell? ⟨Bs, 0, none⟩ = some (.slice none 0 0)) (h0 : J [] W) :
    CallsIn F n Tryz.prog 163 #[.func (.yield l) #[] #[], .pointer (some ⟨Bs, 0, none⟩)] W fun e W' => (∃ v, e = .returned v) ∧ J [] W' := by
  refine callsIn_of_wp Tryz.func163 rfl h8 ?_ hro
  simp only [Tryz.ntmps163, List.size_toArray, List.length_cons, List.length_nil, Nat.reduceAdd, Nat.reduceSub, Array.replicate_succ, Array.replicate_zero, List.push_toArray, List.append_toArray, List.nil_append, List.cons_append]
  gi_wp2
  gi_loopw [3] (fun i wr => i = .int .i64 (-1) ∧ J [] wr) (fun _ _ => 0)
  case atStart => exact ⟨rfl, h0⟩
  case round =>
    obtain ⟨rfl, hJs⟩ := hrel
    gi_wp2
    go_end0
    exact ⟨⟨_, rfl⟩, hJs⟩

set_option maxHeartbeats 1000000 in
theorem bk_in (F : Fence) (n : Nat) (h6 : F.fn 138) (hro : F.round = none) (a : Option Addr) (len cap : Nat) (w : World) :
    CallsIn F n Tryz.prog 138 #[.slice a len cap] w fun e w' => e = .returned (.func (.func 163) #[] #[.pointer (some ⟨w.heap.size, 0, none⟩)]) ∧ w' = w.alloc (.cells #[.slice a len cap] 48) := by
  refine callsIn_of_wp Tryz.func138 rfl h6 ?_ hro
  simp only [Tryz.ntmps138, List.size_toArray, List.length_cons, List.length_nil, Nat.reduceAdd, Nat.reduceSub, Array.replicate_succ, Array.replicate_zero, List.push_toArray, List.append_toArray, List.nil_append, List.cons_append]
  gi_wp2
  go_ret
  exact ⟨rfl, rfl⟩

/-- a slice value that holds records, in a block below n₀; or it is nil and there are none -/
def RecsAt (n₀ : Nat) (W : World) (sv : Value) (zs : List (List UInt8 × List UInt8)) : Prop :=
  (sv = .slice none 0 0 ∧ zs = []) ∨ ∃ b off cap, sv = .slice (some ⟨b, off, none⟩) zs.length cap ∧ b < n₀ ∧ ∀ j, j < zs.length → W.cell? ⟨b, off + j * 2, none⟩ = some (encStr (zs[j]?.getD ([], [])).1) ∧ W.cell? ⟨b, off + j * 2 + 1, none⟩ = some (encStr (zs[j]?.getD ([], [])).2)
theorem RecsAt.below {n₀ : Nat} {A B : World} (h : Below n₀ A B) {sv : Value} {zs : List (List UInt8 × List UInt8)} : RecsAt n₀ A sv zs → RecsAt n₀ B sv zs
  | .inl e => .inl e
  | .inr ⟨b, off, cap, e, hb, hc⟩ => .inr ⟨b, off, cap, e, hb, fun j hj => ⟨(h.cell (p := ⟨b, off + j * 2, none⟩) hb).trans (hc j hj).1, (h.cell (p := ⟨b, off + j * 2 + 1, none⟩) hb).trans (hc j hj).2⟩⟩

theorem bk_stops (F : Fence) (n : Nat) (h8 : F.fn 163) (hro : F.round = none) (hn : 1 ≤ n) (Bs n₀ : Nat) (sv : Value) (zs : List (List UInt8 × List UInt8)) (hreach : zs.length * 32 ≤ 140737488351232) (w : World) (hBs : Bs < w.heap.size) (hn₀ : n₀ ≤ w.heap.size)
    (hc : w.cell? ⟨Bs, 0, none⟩ = some sv) (hI : RecsAt n₀ w sv zs) :
    SeqStopsK F n Tryz.prog 163 #[.pointer (some ⟨Bs, 0, none⟩)] bkV (KpB n₀ Bs) (fun ys => ys = bkU zs zs.length) (fun pre => ∃ k, k ≤ zs.length ∧ pre = bkU zs k) zs.length w := fun l J Jx W hW _ _ hY h0 => by
  have hc' := (hW.cell (p := ⟨Bs, 0, none⟩) hBs).trans hc
  rcases hI.below (hW.mono hn₀) with ⟨rfl, rfl⟩ | ⟨b, off, cap, rfl, hb, hcs⟩
  · exact (bk1_nil_in F n h8 hro l Bs J W hc' h0).mono fun e W' ⟨he, hj⟩ => ⟨he, .inl ⟨_, rfl, hj⟩⟩
  · exact bk1_in F n h8 hro hn l Bs n₀ b off cap zs hreach hb J Jx hY W hc' hcs h0
end Go.Proofs
