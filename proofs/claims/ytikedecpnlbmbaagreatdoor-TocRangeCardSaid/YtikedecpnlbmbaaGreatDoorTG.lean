/- What is looked up in TocRange: the digest of bytes, and three closed calls that were evaluated by themselves: proved; no conditions. -/
import Derived.Test.YtikedecpnlbmbaaGreatDoorSG
import Derived.Test.YtikedecpnlbmbaaGreatDoorP9
import Derived.Test.YtikedecpnlbmbaaGreatDoorP8
import Derived.Test.YtikedecpnlbmbaaGreatDoorP6
set_option maxRecDepth 1000000
set_option linter.unusedVariables false
set_option linter.unusedSimpArgs false
set_option maxRecDepth 1000000
set_option maxHeartbeats 0
namespace Go.AI
open Go Go.Proofs Go.Proofs.YtikedecpnlbmbaaGreatDoor
noncomputable section
def kk : List UInt32 := [1116352408, 1899447441, 3049323471, 3921009573, 961987163, 1508970993, 2453635748, 2870763221, 3624381080, 310598401, 607225278, 1426881987, 1925078388, 2162078206, 2614888103, 3248222580, 3835390401, 4022224774, 264347078, 604807628, 770255983, 1249150122, 1555081692, 1996064986, 2554220882, 2821834349, 2952996808, 3210313671, 3336571891, 3584528711, 113926993, 338241895, 666307205, 773529912, 1294757372, 1396182291, 1695183700, 1986661051, 2177026350, 2456956037, 2730485921, 2820302411, 3259730800, 3345764771, 3516065817, 3600352804, 4094571909, 275423344, 430227734, 506948616, 659060556, 883997877, 958139571, 1322822218, 1537002063, 1747873779, 1955562222, 2024104815, 2227730452, 2361852424, 2428436474, 2756734187, 3204031479, 3329325298]
def bb : List UInt32 := [1779033703, 3144134277, 1013904242, 2773480762, 1359893119, 2600822924, 528734635, 1541459225]
theorem kk_is : litAV Rows.laid_portolan_sha_constants = kk.map u32V := by kernel_rfl
theorem bb_is : litAV Rows.laid_portolan_sha_beginning = bb.map u32V := by kernel_rfl
def subs : List SubE := [⟨9, [], .bool true⟩, ⟨47, [.str [102]], .tup [nI .i64 1, .str [102]]⟩, ⟨48, [.agg memL], .bool true⟩]
def libW : Nat → List AV → Heap → Option CR := subLib 100 (fun e => (H0 e).t) lib0 subs
def libA : Nat → List AV → Heap → Option CR := shaLib 10 8 kk bb libW
theorem parts0 (e : Nat → Nat) (b : Nat) (o : Obj) (h : (H0 e).t.get b = some o) : b < 100 ∧ lowO 100 o ∧ (Soft o ∨ ∃ es, o = .cmap es) :=
  begin_parts (n := 100) (by kernel_rfl) (by kernel_rfl) h
theorem libW_ok : LibOk Tryz.prog libW := by
  refine subLib_ok (of_decide_eq_true (by kernel_rfl)) parts0 lib0_ok subs fun x hx => ?_
  unfold subs at hx
  simp only [List.mem_cons, List.not_mem_nil, or_false] at hx
  rcases hx with rfl | rfl | rfl
  · exact ⟨_, known_ok, rfl, rfl, known⟩
  · exact ⟨_, known_ok, rfl, rfl, known_cls⟩
  · exact ⟨_, known_ok, rfl, rfl, known_tm⟩
theorem libA_ok : LibOk Tryz.prog libA :=
  shaLib_ok (lib := lib0) (fs := fs) (fuel := 100000) (n := 992) (fun _ _ => rfl) (fun _ _ => rfl) (fun _ _ => rfl) (fun _ _ => rfl) (by kernel_rfl) (by kernel_rfl) (by kernel_rfl) (by kernel_rfl) (by decide)
    (fun _ _ => rfl) (by kernel_rfl) (fun _ _ => rfl) (by kernel_rfl) (fun _ _ => rfl) (by kernel_rfl) (fun _ _ => rfl) (by kernel_rfl) (fun _ _ => rfl) (by kernel_rfl) (fun _ _ => rfl) (by kernel_rfl) (fun _ _ => rfl) (by kernel_rfl) call0_ok rfl rfl (by decide) (by decide) libW_ok
theorem callA_ok : CallOk Tryz.prog (callN libA fs 100000 1000) := calls_ok mixed libA_ok fs_get 100000 1000
theorem rowK (e : Nat → Nat) : ∃ r, (H0 e).t.get 5 = some (.row r) ∧ Cells r (kk.map u32V) := by
  have h : (H0 e).t.get 5 = some (.row ⟨e 5, 1, lenL (litAV Rows.laid_portolan_sha_constants), T.ofList (litAV Rows.laid_portolan_sha_constants), .unk, 0, false, false, true⟩) := by kernel_rfl
  exact ⟨_, h, by rw [← kk_is]; exact Cells.new ..⟩
theorem rowB (e : Nat → Nat) : ∃ r, (H0 e).t.get 1 = some (.row r) ∧ Cells r (bb.map u32V) := by
  have h : (H0 e).t.get 1 = some (.row ⟨e 1, 1, lenL (litAV Rows.laid_portolan_sha_beginning), T.ofList (litAV Rows.laid_portolan_sha_beginning), .unk, 0, false, false, true⟩) := by kernel_rfl
  exact ⟨_, h, by rw [← bb_is]; exact Cells.new ..⟩
section
variable {e : Nat → Nat} {H H' : Heap}
theorem sub_hit (hb : Bears 100 (H0 e).t H) (k : Keep H H' []) {x : SubE} (hx : x ∈ subs) (hne : x.f ≠ 10) (hu : ∀ y ∈ subs, y.f = x.f → y.args = x.args → y.v = x.v) : libA x.f x.args H' = some (.ret x.v H') := by
  have hb' : Bears 100 (H0 e).t H' := hb.keep (fun b o h => (parts0 e b o h).1) k.nx fun c hc => k.get c hc (by simp)
  unfold libA shaLib
  rw [beq_nat, decide_eq_false hne, cond_false]
  exact subLib_hit hb' hx hu
theorem sum_hit (hb : Bears 100 (H0 e).t H) (hro : H.ro ≤ H.nx) {w : AV} {l : List UInt8} (h : ArgS H w l) (hl : l.length ≤ 300) (k : Keep H H' []) : libA 10 [w] H' = some (.ret (.agg ((shaF kk bb l).map u8V)) H') := by
  have h' := h.keep k
  have hb' : Bears 100 (H0 e).t H' := hb.keep (fun b o h => (parts0 e b o h).1) k.nx fun c hc => k.get c hc (by simp)
  obtain ⟨rK, gK, cK⟩ := rowK e
  obtain ⟨rB, gB, cB⟩ := rowB e
  exact shaLib_is (f0 := 10) (base := libW) ⟨h'.1, by omega, ⟨rK, hb'.2 _ _ gK, cK⟩, ⟨rB, hb'.2 _ _ gB, cB⟩, by have := hb'.1; omega, by rw [k.ro]; exact Nat.le_trans hro k.nx⟩ h'.far
theorem law_true (hb : Bears 100 (H0 e).t H) (hro : H.ro ≤ H.nx) {a : AV} {l : List UInt8} (h0 : ArgS H a l) {s : Nat} {z1 z2 : Int} (hz1 : -32768 ≤ z1) (hz2 : z1 < 32768) (hz3 : -32768 ≤ z2) (hz4 : z2 < 32768) :
    ∃ H', callN libA fs 100000 1000 4 [a, nI .u8 s, .agg [.int .i16 z1, .int .i16 z2]] H = .ret (.bool true) H' := by
  refine law_run (lib := libA) (fs := fs) (fuel := 100000) (n := 996) (fun _ _ => rfl) (by kernel_rfl) (fun _ _ => rfl) (by kernel_rfl) (fun _ _ => rfl) (by kernel_rfl) (fun _ _ => rfl) (by kernel_rfl) (fun _ _ => rfl) (by kernel_rfl) (fun _ _ => rfl) (by kernel_rfl) (sh := shaF kk bb) (fun l => digs_length _ _) (by decide) h0 hro hz1 hz2 hz3 hz4 (fun w l h hl H' k => sum_hit hb hro h hl k) (tg := .str [102]) (fun H' k => ?_) (fun H' k => ?_) (fun H' k => ?_)
  · exact sub_hit (x := ⟨47, [.str [102]], .tup [nI .i64 1, .str [102]]⟩) hb k (by unfold subs; simp) (by decide) (by unfold subs; simp)
  · exact sub_hit (x := ⟨48, [.agg memL], .bool true⟩) hb k (by unfold subs; simp) (by decide) (by unfold subs; simp)
  · exact sub_hit (x := ⟨9, [], .bool true⟩) hb k (by unfold subs; simp) (by decide) (by unfold subs; simp)
end
end
end Go.AI
