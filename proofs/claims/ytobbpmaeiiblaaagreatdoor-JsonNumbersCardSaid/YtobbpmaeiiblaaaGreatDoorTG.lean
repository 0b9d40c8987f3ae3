/- What is looked up in JsonNumbers: two closed calls that were evaluated by themselves, and the library's Replace; and the law comes out true: proved; no conditions but those that are named. -/
import Derived.Test.YtobbpmaeiiblaaaGreatDoorSG
import Derived.Test.YtobbpmaeiiblaaaGreatDoorZG
import Derived.Test.YtobbpmaeiiblaaaGreatDoorP9
import Derived.Test.YtobbpmaeiiblaaaGreatDoorP7
import Derived.Test.YtobbpmaeiiblaaaGreatDoorP6
set_option maxRecDepth 1000000
set_option maxHeartbeats 0
set_option linter.unusedVariables false
set_option linter.unusedSimpArgs false
namespace Go.AI
open Go Go.Proofs Go.Proofs.YtobbpmaeiiblaaaGreatDoor
noncomputable section
def subs : List SubE := [⟨35, [], .bool true⟩, ⟨47, [.str [48], nI .i64 20], .str (List.replicate 20 48)⟩]
def libW : Nat → List AV → Heap → Option CR := subLib 100 (fun e => (H0 e).t) lib0 subs
theorem parts0 (e : Nat → Nat) (b : Nat) (o : Obj) (h : (H0 e).t.get b = some o) : b < 100 ∧ lowO 100 o ∧ (Soft o ∨ ∃ es, o = .cmap es) :=
  begin_parts (n := 100) (by kernel_rfl) (by kernel_rfl) h
theorem libW_ok : LibOk Tryz.prog libW := by
  refine subLib_ok (of_decide_eq_true (by kernel_rfl)) parts0 lib0_ok subs fun x hx => ?_
  unfold subs at hx
  simp only [List.mem_cons, List.not_mem_nil, or_false] at hx
  rcases hx with rfl | rfl
  · exact ⟨_, known_ok, rfl, rfl, known_wak⟩
  · exact ⟨_, known_ok, rfl, by kernel_rfl, known_rep⟩
/-- a number in the library's variable -/
def NumAt (H : Heap) : Prop := ∃ r m, H.t.get 2 = some (.row r) ∧ 1 ≤ r.size ∧ r.get 0 = .int .i64 m
def RplOk (args : List AV) (H : Heap) (s : List UInt8) : Prop := args = [.str s, .str [48, 45], .str [45, 48], nI .i64 1] ∧ s.length ≤ 1000 ∧ NumAt H
def libR : Nat → List AV → Heap → Option CR := fun f args H => cond (Nat.beq f 46) (open Classical in if h : ∃ s, RplOk args H s then some (.ret (.str (Lib.replace h.choose [48, 45] [45, 48] 1)) H) else libW f args H) (libW f args H)
theorem libR_ok : LibOk Tryz.prog libR := by
  intro f args H r h σ w vs hs hv
  unfold libR at h
  cases hf : Nat.beq f 46 with
  | false => rw [hf, cond_false] at h; exact libW_ok f args H r h σ w vs hs hv
  | true =>
    have := Nat.eq_of_beq_eq_true hf
    subst this
    rw [hf, cond_true] at h
    split at h
    · rename_i hx
      cases h
      have hc := hx.choose_spec
      generalize hx.choose = s at hc
      obtain ⟨rfl, hl, r0, m, g1, g2, g3⟩ := hc
      have hcell := var_cell hs (g := 2) (of_decide_eq_true (by kernel_rfl)) g1 g2 g3
      have e0 : vs = [.string ⟨s.toArray⟩, .string ⟨#[48, 45]⟩, .string ⟨#[45, 48]⟩, .int .i64 1] := by
        simp only [RelL, Rel, nI] at hv
        obtain ⟨_, _, rfl, ⟨_, _, rfl, ⟨_, _, rfl, ⟨_, _, rfl, rfl, rfl⟩, rfl⟩, rfl⟩, rfl⟩ := hv
        rfl
      subst e0
      have hsz : (ByteArray.mk s.toArray).size = s.length := by show s.toArray.size = _; rw [List.size_toArray]
      have hcm := Lib.countB_mul_le ⟨#[48, 45]⟩ (by decide) _ (ByteArray.mk s.toArray) (Nat.le_refl _)
      have hcm : Lib.countB ⟨s.toArray⟩ ⟨#[48, 45]⟩ * 2 ≤ (ByteArray.mk s.toArray).size := hcm
      have hc := replace_calls ⟨s.toArray⟩ ⟨#[48, 45]⟩ ⟨#[45, 48]⟩ 1 m w (by omega) hcell (by decide) (by show _ + _ * 2 ≤ _; omega)
      obtain ⟨fn, h1, h2, h3⟩ : ∃ fn, Tryz.prog.funcs[46]? = some fn ∧ fn.name ≠ "runtime.NumGoroutine" ∧ fn.body.isSome = true := ⟨_, Tryz.func46, by decide +kernel, by kernel_rfl⟩
      obtain ⟨c, hb⟩ := Option.isSome_iff_exists.1 h3
      exact shelf_ok hs (run_callFunc_own h1 h2 hb) hc (by simp only [Rel])
    · exact libW_ok _ args H r h σ w vs hs hv
theorem known7 : CallOk Tryz.prog (callN (LK libR fs 100000 7) fs 100000 1000) :=
  calls_ok mixed (libK_ok (fun _ h => calls_ok mixed h fs_get 100000 900) libR_ok 7) fs_get 100000 1000
theorem env : Env libR fs 100000 where
  big := Nat.le_refl _
  f8 := by kernel_rfl
  n8 := fun _ _ => rfl
  f29 := by kernel_rfl
  n29 := fun _ _ => rfl
  f33 := by kernel_rfl
  n33 := fun _ _ => rfl
  f36 := by kernel_rfl
  n36 := fun _ _ => rfl
  f40 := by kernel_rfl
  n40 := fun _ _ => rfl
  f43 := by kernel_rfl
  n43 := fun _ _ => rfl
  f45 := by kernel_rfl
  n45 := fun _ _ => rfl
  f68 := by kernel_rfl
  n68 := fun _ _ => rfl
  f70 := by kernel_rfl
  n70 := fun _ _ => rfl
  f71 := by kernel_rfl
  n71 := fun _ _ => rfl
  f75 := by kernel_rfl
  n75 := fun _ _ => rfl
  f77 := by kernel_rfl
  n77 := fun _ _ => rfl
  f78 := by kernel_rfl
  n78 := fun _ _ => rfl
  f79 := by kernel_rfl
  n79 := fun _ _ => rfl
  f80 := by kernel_rfl
  n80 := fun _ _ => rfl
  f88 := by kernel_rfl
  n88 := fun _ _ => rfl
  f90 := by kernel_rfl
  n90 := fun _ _ => rfl
  f107 := by kernel_rfl
  n107 := fun _ _ => rfl
  f120 := by kernel_rfl
  n120 := fun _ _ => rfl
  f121 := by kernel_rfl
  n121 := fun _ _ => rfl
  f124 := by kernel_rfl
  n124 := fun _ _ => rfl
  f129 := by kernel_rfl
  n129 := fun _ _ => rfl
  f134 := by kernel_rfl
  n134 := fun _ _ => rfl
  f137 := by kernel_rfl
  n137 := fun _ _ => rfl
  f138 := by kernel_rfl
  n138 := fun _ _ => rfl
  f139 := by kernel_rfl
  n139 := fun _ _ => rfl
  f160 := by kernel_rfl
  n160 := fun _ _ => rfl
  f167 := by kernel_rfl
  n167 := fun _ _ => rfl
  f168 := by kernel_rfl
  n168 := fun _ _ => rfl
  f171 := by kernel_rfl
  n171 := fun _ _ => rfl
  f172 := by kernel_rfl
  n172 := fun _ _ => rfl
  f173 := by kernel_rfl
  n173 := fun _ _ => rfl
  f189 := by kernel_rfl
  n189 := fun _ _ => rfl
  f190 := by kernel_rfl
  n190 := fun _ _ => rfl
  f205 := by kernel_rfl
  n205 := fun _ _ => rfl
  f207 := by kernel_rfl
  n207 := fun _ _ => rfl
  f217 := by kernel_rfl
  n217 := fun _ _ => rfl
  f219 := by kernel_rfl
  n219 := fun _ _ => rfl
  ix := fun s x H h => by
    show (cond (Nat.ble x 255) (some (CR.ret (.int .i64 (idxByte x s 0)) H)) none) = _
    rw [Nat.ble_eq_true_of_le (by omega)]; rfl
  nesc := fun _ _ => rfl
theorem pow_is : litAV Rows.laid_internal_strconv_uint64pow10 = pow10.map u64V := by kernel_rfl
section
variable {e : Nat → Nat} {H : Heap}
theorem glob_of (hb : Bears 100 (H0 e).t H) : Glob H := by
  have h : (H0 e).t.get 3 = some (.row ⟨e 3, 1, lenL (litAV Rows.laid_internal_strconv_uint64pow10), T.ofList (litAV Rows.laid_internal_strconv_uint64pow10), .unk, 0, false, false, true⟩) := by kernel_rfl
  have h2 : (H0 e).t.get 9 = some (.row ⟨e 9, 1, 1, T.ofList [.iface 272 (.ptr 11 0)], .unk, 0, false, false, true⟩) := by kernel_rfl
  exact ⟨hb.1, ⟨_, hb.2 _ _ h, by rw [← pow_is]; exact Cells.new ..⟩, _, 272, 11, hb.2 _ _ h2, (show 0 < 1 by decide), rfl, by decide⟩
theorem sub_hit (hb : Bears 100 (H0 e).t H) {x : SubE} (hx : x ∈ subs) (hne : x.f ≠ 46) (hu : ∀ y ∈ subs, y.f = x.f → y.args = x.args → y.v = x.v) : libR x.f x.args H = some (.ret x.v H) := by
  unfold libR
  rw [beq_nat, decide_eq_false hne, cond_false]
  exact subLib_hit hb hx hu
theorem rpl_hit (hn : NumAt H) {s : List UInt8} (hl : s.length ≤ 1000) : libR 46 [.str s, .str [48, 45], .str [45, 48], nI .i64 1] H = some (.ret (.str (Lib.replace s [48, 45] [45, 48] 1)) H) := by
  have hx : ∃ t, RplOk [.str s, .str [48, 45], .str [45, 48], nI .i64 1] H t := ⟨s, rfl, hl, hn⟩
  unfold libR
  rw [show Nat.beq 46 46 = true from rfl, cond_true, dif_pos hx]
  have hs := hx.choose_spec.1
  generalize hx.choose = t at hs
  injection hs with h1 _
  injection h1 with h1
  rw [h1]
theorem law_true (hb : Bears 100 (H0 e).t H) (hro : H.ro ≤ H.nx) (hn : NumAt H) {z : Int} (h1 : -9223372036854775808 ≤ z) (h2 : z < 9223372036854775808) :
    ∃ H', callN (LK libR fs 100000 7) fs 100000 1000 8 [.int .i64 z] H = .ret (.bool true) H' := by
  have hb' : ∀ H', Keep H H' [] → Bears 100 (H0 e).t H' := fun H' k => hb.keep (fun b o h => (parts0 e b o h).1) k.nx fun c hc => k.get c hc (by simp)
  have hn' : ∀ H', Keep H H' [] → NumAt H' := fun H' k => by
    obtain ⟨r, m, g1, g2⟩ := hn
    exact ⟨r, m, by rw [k.get _ (by have := hb.1; omega) (by simp)]; exact g1, g2⟩
  refine law_run (n := 997) env (glob_of hb) hro h1 h2 (fun H' k => ?_) (fun H' k => ?_) (fun H' k => ?_)
  · rw [← rpl_is]
    exact rpl_hit (hn' H' k) (by have := fmt_len h1 h2; rw [List.length_cons]; omega)
  · exact sub_hit (x := ⟨47, [.str [48], nI .i64 20], .str (List.replicate 20 48)⟩) (hb' H' k) (by unfold subs; simp) (by decide) (by unfold subs; simp)
  · exact sub_hit (x := ⟨35, [], .bool true⟩) (hb' H' k) (by unfold subs; simp) (by decide) (by unfold subs; simp)
end
end
end Go.AI
