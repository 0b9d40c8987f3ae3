/- What is looked up in SeekFoot: calls that were evaluated by themselves, some over a row of bytes, one over a sum that is walked; and the law comes out true: proved; no conditions but those that are named. -/
import Derived.Test.YtlnelphabohehaaGreatDoorSS
import Derived.Test.YtlnelphabohehaaGreatDoorKS2
import Derived.Test.YtlnelphabohehaaGreatDoorP8
import Derived.Test.YtlnelphabohehaaGreatDoorP6
set_option maxRecDepth 1000000
set_option maxHeartbeats 0
set_option linter.unusedVariables false
set_option linter.unusedSimpArgs false
namespace Go.AI
open Go Go.Proofs Go.Proofs.YtlnelphabohehaaGreatDoor
noncomputable section
theorem libE_ok : LibOk Tryz.prog libE := libT_ok lib0_ok tab7 tab7_ok
theorem envC : EnvC libE fs 100000 where
  big := by decide
  f54 := by kernel_rfl
  n54 := fun _ _ => rfl
  f91 := by kernel_rfl
  n91 := fun _ _ => rfl
  f92 := by kernel_rfl
  n92 := fun _ _ => rfl
  f145 := by kernel_rfl
  n145 := fun _ _ => rfl
  f187 := by kernel_rfl
  n187 := fun _ _ => rfl
abbrev callOf : Nat → List AV → Heap → CR := callN (LK libE fs 100000 3) fs 100000 1000
theorem callOf_ok : CallOk Tryz.prog callOf := calls_ok mixed (libK_ok (fun _ h => calls_ok mixed h fs_get 100000 900) libE_ok 3) fs_get 100000 1000
theorem libC_ok : LibOk Tryz.prog (crcLib 12 54 callOf libE) := crcLib_ok callOf_ok libE_ok fun args H h => crc_of envC (n := 999) args H h
def subs2 : List SubE := subs ++ [⟨14, [], .bool true⟩]
theorem parts0 (e : Nat → Nat) (b : Nat) (o : Obj) (h : (H0 e).t.get b = some o) : b < 100 ∧ lowO 100 o ∧ (Soft o ∨ ∃ es, o = .cmap es) :=
  begin_parts (n := 100) (by kernel_rfl) (by kernel_rfl) h
def libS : Nat → List AV → Heap → Option CR := subLib 100 (fun e => (H0 e).t) lib0 subs2
theorem glob100 : Tryz.prog.globals.size ≤ 100 := of_decide_eq_true (by kernel_rfl)
theorem libS_ok : LibOk Tryz.prog libS := by
  refine subLib_ok glob100 parts0 lib0_ok subs2 fun x hx => ?_
  refine ⟨_, known_ok, ?_, ?_, fun e => ?_⟩
  · have : (subs2.all fun x => lowL 0 x.args) = true := by kernel_rfl
    exact List.all_eq_true.1 this x hx
  · have : (subs2.all fun x => lowV 0 x.v) = true := by kernel_rfl
    exact List.all_eq_true.1 this x hx
  · rcases List.mem_append.1 hx with hx | hx
    · exact List.all_eq_true.1 (known_subs e) x hx
    · rw [List.mem_singleton.1 hx]; exact known_tells e
def rowA : List RowE := [⟨12, 0, 48, [nI .i64 0, nI .i64 0], .tup [.nils, nI .i64 48, nI .i64 0]⟩]
def libR : Nat → List AV → Heap → Option CR := rowLib (fun e => (H0 e).t) libS rowA
theorem libR_ok : LibOk Tryz.prog libR := by
  refine rowLib_ok glob100 parts0 libS_ok rowA fun x hx => ?_
  unfold rowA at hx
  rw [List.mem_singleton.1 hx]
  exact ⟨_, calls_ok mixed libC_ok fs_get 100000 1000, rfl, rfl, known_at callOf⟩
def libP : Nat → List AV → Heap → Option CR := putLib (fun e => (H0 e).t) libR 29
theorem libP_ok : LibOk Tryz.prog libP := putLib_ok glob100 parts0 libR_ok known_ok known_put
theorem known7 : CallOk Tryz.prog (callN (LK libP fs 100000 4) fs 100000 1000) :=
  calls_ok mixed (libK_ok (fun _ h => calls_ok mixed h fs_get 100000 900) libP_ok 4) fs_get 100000 1000
/-- the heap bears the variables -/
def BB (H : Heap) : Prop := ∃ e, Bears 100 (H0 e).t H
theorem sub_hit {H : Heap} (h : BB H) {x : SubE} (hx : x ∈ subs2) (h1 : Nat.beq 12 x.f = false) (h2 : Nat.beq 29 x.f = false) (hu : ∀ y ∈ subs2, y.f = x.f → y.args = x.args → y.v = x.v) : libP x.f x.args H = some (.ret x.v H) := by
  obtain ⟨e, hb⟩ := h
  unfold libP libR
  rw [putLib_miss h2, rowLib_miss fun y hy => by unfold rowA at hy; rw [List.mem_singleton.1 hy]; exact h1]
  exact subLib_hit hb hx hu
theorem env : Env libP fs 100000 BB where
  big := by decide
  keep := fun ⟨e, hb⟩ k => ⟨e, hb.keep (fun b o h => (parts0 e b o h).1) k.nx fun c hc => k.get c hc (by simp)⟩
  f4 := by kernel_rfl
  n4 := fun _ _ => rfl
  f11 := by kernel_rfl
  n11 := fun _ _ => rfl
  f13 := by kernel_rfl
  n13 := fun _ _ => rfl
  f27 := by kernel_rfl
  n27 := fun _ _ => rfl
  f30 := by kernel_rfl
  n30 := fun _ _ => rfl
  f31 := by kernel_rfl
  n31 := fun _ _ => rfl
  f32 := by kernel_rfl
  n32 := fun _ _ => rfl
  f42 := by kernel_rfl
  n42 := fun _ _ => rfl
  f54 := by kernel_rfl
  n54 := fun _ _ => rfl
  f55 := by kernel_rfl
  n55 := fun _ _ => rfl
  f58 := by kernel_rfl
  n58 := fun _ _ => rfl
  f59 := by kernel_rfl
  n59 := fun _ _ => rfl
  f79 := by kernel_rfl
  n79 := fun _ _ => rfl
  f87 := by kernel_rfl
  n87 := fun _ _ => rfl
  f91 := by kernel_rfl
  n91 := fun _ _ => rfl
  f92 := by kernel_rfl
  n92 := fun _ _ => rfl
  f94 := by kernel_rfl
  n94 := fun _ _ => rfl
  f98 := by kernel_rfl
  n98 := fun _ _ => rfl
  f101 := by kernel_rfl
  n101 := fun _ _ => rfl
  f102 := by kernel_rfl
  n102 := fun _ _ => rfl
  f103 := by kernel_rfl
  n103 := fun _ _ => rfl
  f145 := by kernel_rfl
  n145 := fun _ _ => rfl
  f152 := by kernel_rfl
  n152 := fun _ _ => rfl
  f154 := by kernel_rfl
  n154 := fun _ _ => rfl
  f187 := by kernel_rfl
  n187 := fun _ _ => rfl
  pw := fun H h => sub_hit h (x := ⟨132, [nI .i64 16], .bool true⟩) (by unfold subs2 subs; simp) rfl rfl (by unfold subs2 subs; simp)
  tz := fun H h => sub_hit h (x := ⟨133, [nI .u64 16], nI .i64 4⟩) (by unfold subs2 subs; simp) rfl rfl (by unfold subs2 subs; simp)
  rp := fun H k h hk => by
    rcases hk with rfl | rfl | rfl
    · exact sub_hit h (x := ⟨28, [.str [48], nI .i64 13], .str (List.replicate 13 48)⟩) (by unfold subs2 subs; simp) rfl rfl (by unfold subs2 subs; simp [nI])
    · exact sub_hit h (x := ⟨28, [.str [48], nI .i64 14], .str (List.replicate 14 48)⟩) (by unfold subs2 subs; simp) rfl rfl (by unfold subs2 subs; simp [nI])
    · exact sub_hit h (x := ⟨28, [.str [48], nI .i64 15], .str (List.replicate 15 48)⟩) (by unfold subs2 subs; simp) rfl rfl (by unfold subs2 subs; simp [nI])
  put := fun H b z ⟨e, hb⟩ hr => putLib_hit (t := fun e => (H0 e).t) (e := e) hb hr
  at_ := fun H b z ⟨e, hb⟩ hr => by
    unfold libP
    rw [putLib_miss rfl]
    exact rowLib_hit (t := fun e => (H0 e).t) (e := e) hb hr (x := ⟨12, 0, 48, [nI .i64 0, nI .i64 0], .tup [.nils, nI .i64 48, nI .i64 0]⟩) (by unfold rowA; simp) (by unfold rowA; simp)
  tells := fun H h => sub_hit h (x := ⟨14, [], .bool true⟩) (by unfold subs2 subs; simp) rfl rfl (by unfold subs2 subs; simp)
  nx := fun H ⟨e, hb⟩ => hb.1
  er4 := fun H ⟨e, hb⟩ => by
    have h : (H0 e).t.get 4 = some (.row ⟨e 4, 1, 1, T.ofList [.iface 286 (.ptr 20 0)], .unk, 0, false, false, true⟩) := by kernel_rfl
    exact ⟨_, 286, 20, hb.2 _ _ h, Nat.le_refl 1, rfl, Nat.lt_of_lt_of_le (by decide) hb.1⟩
  er5 := fun H ⟨e, hb⟩ => by
    have h : (H0 e).t.get 5 = some (.row ⟨e 5, 1, 1, T.ofList [.iface 286 (.ptr 21 0)], .unk, 0, false, false, true⟩) := by kernel_rfl
    exact ⟨_, 286, 21, hb.2 _ _ h, Nat.le_refl 1, rfl, Nat.lt_of_lt_of_le (by decide) hb.1⟩
theorem law_true (e : Nat → Nat) {x a y : Nat} (hx : x < 65536) (ha : a < 256) (hy : y < 256) :
    ∃ H', callN (LK libP fs 100000 4) fs 100000 1000 4 [nI .u16 x, nI .u8 a, nI .u8 y] (H0 e) = .ret (.bool true) H' :=
  law_run (n := 992) env ⟨e, Nat.le_refl 100, fun _ _ h => h⟩ (Nat.le_refl _) hx ha hy
end
end Go.AI
