/- What is looked up in ManifestMatches: the digest of bytes, and a closed call that was evaluated by itself: proved; no conditions. -/
import Derived.Test.YtfipbmnpbadcnaaGreatDoorSO
import Derived.Test.YtfipbmnpbadcnaaGreatDoorP9
import Derived.Test.YtfipbmnpbadcnaaGreatDoorP6
import Derived.Test.YtfipbmnpbadcnaaGreatDoorP8
set_option maxRecDepth 1000000
set_option linter.unusedVariables false
set_option linter.unusedSimpArgs false
set_option maxRecDepth 1000000
set_option maxHeartbeats 0
namespace Go.AI
open Go Go.Proofs Go.Proofs.YtfipbmnpbadcnaaGreatDoor
noncomputable section
def kk : List UInt32 := [1116352408, 1899447441, 3049323471, 3921009573, 961987163, 1508970993, 2453635748, 2870763221, 3624381080, 310598401, 607225278, 1426881987, 1925078388, 2162078206, 2614888103, 3248222580, 3835390401, 4022224774, 264347078, 604807628, 770255983, 1249150122, 1555081692, 1996064986, 2554220882, 2821834349, 2952996808, 3210313671, 3336571891, 3584528711, 113926993, 338241895, 666307205, 773529912, 1294757372, 1396182291, 1695183700, 1986661051, 2177026350, 2456956037, 2730485921, 2820302411, 3259730800, 3345764771, 3516065817, 3600352804, 4094571909, 275423344, 430227734, 506948616, 659060556, 883997877, 958139571, 1322822218, 1537002063, 1747873779, 1955562222, 2024104815, 2227730452, 2361852424, 2428436474, 2756734187, 3204031479, 3329325298]
def bb : List UInt32 := [1779033703, 3144134277, 1013904242, 2773480762, 1359893119, 2600822924, 528734635, 1541459225]
theorem kk_is : litAV Rows.laid_portolan_sha_constants = kk.map u32V := by kernel_rfl
theorem bb_is : litAV Rows.laid_portolan_sha_beginning = bb.map u32V := by kernel_rfl
theorem tells_ev (e : Nat → Nat) : isRet (.bool true) (callN lib0 fs 100000 1000 30 [] (varH gs0 e)) = true := by kernel_rfl
theorem gs0_low : ∀ x ∈ gs0, x.1 < Tryz.prog.globals.size ∧ lowL 0 x.2 = true := by
  intro x hx
  have hall : (gs0.all fun x => Nat.ble (Nat.succ x.1) Tryz.prog.globals.size && lowL 0 x.2) = true := by kernel_rfl
  have h2 := List.all_eq_true.1 hall x hx
  rw [Bool.and_eq_true] at h2
  exact ⟨Nat.le_of_ble_eq_true h2.1, h2.2⟩
def libS : Nat → List AV → Heap → Option CR := shaLib 83 8 kk bb lib0
def libA : Nat → List AV → Heap → Option CR := constLib gs0 30 (.bool true) libS
theorem libS_ok : LibOk Tryz.prog libS :=
  shaLib_ok (lib := lib0) (fs := fs) (fuel := 100000) (n := 992) (fun _ _ => rfl) (fun _ _ => rfl) (fun _ _ => rfl) (fun _ _ => rfl) (by kernel_rfl) (by kernel_rfl) (by kernel_rfl) (by kernel_rfl) (by decide)
    (fun _ _ => rfl) (by kernel_rfl) (fun _ _ => rfl) (by kernel_rfl) (fun _ _ => rfl) (by kernel_rfl) (fun _ _ => rfl) (by kernel_rfl) (fun _ _ => rfl) (by kernel_rfl) (fun _ _ => rfl) (by kernel_rfl) (fun _ _ => rfl) (by kernel_rfl) call0_ok rfl rfl (by decide) (by decide) lib0_ok
theorem libA_ok : LibOk Tryz.prog libA := constLib_ok call0_ok libS_ok (of_decide_eq_true (by kernel_rfl)) gs0_low rfl tells_ev
theorem callA_ok : CallOk Tryz.prog (callN libA fs 100000 1000) := calls_ok mixed libA_ok fs_get 100000 1000
theorem gws_mem (e : Nat → Nat) {g : Nat} {l : List AV} (h : (g, l) ∈ gs0) : ∃ x, (g, x) ∈ gws e ∧ x.cells = l := by
  unfold gs0 at h
  simp only [List.mem_cons, Prod.mk.injEq, List.not_mem_nil, or_false] at h
  unfold gws
  rcases h with ⟨rfl, rfl⟩ | ⟨rfl, rfl⟩ | ⟨rfl, rfl⟩ | ⟨rfl, rfl⟩ | ⟨rfl, rfl⟩ | ⟨rfl, rfl⟩ | ⟨rfl, rfl⟩
  · exact ⟨_, List.mem_cons_self .., rfl⟩
  · exact ⟨_, List.mem_cons_of_mem _ (List.mem_cons_self ..), rfl⟩
  · exact ⟨_, List.mem_cons_of_mem _ (List.mem_cons_of_mem _ (List.mem_cons_self ..)), rfl⟩
  · exact ⟨_, List.mem_cons_of_mem _ (List.mem_cons_of_mem _ (List.mem_cons_of_mem _ (List.mem_cons_self ..))), rfl⟩
  · exact ⟨_, List.mem_cons_of_mem _ (List.mem_cons_of_mem _ (List.mem_cons_of_mem _ (List.mem_cons_of_mem _ (List.mem_cons_self ..)))), rfl⟩
  · exact ⟨_, List.mem_cons_of_mem _ (List.mem_cons_of_mem _ (List.mem_cons_of_mem _ (List.mem_cons_of_mem _ (List.mem_cons_of_mem _ (List.mem_cons_self ..))))), rfl⟩
  · exact ⟨_, List.mem_cons_of_mem _ (List.mem_cons_of_mem _ (List.mem_cons_of_mem _ (List.mem_cons_of_mem _ (List.mem_cons_of_mem _ (List.mem_cons_of_mem _ (List.mem_cons_self ..)))))), rfl⟩
theorem cells_row (x : Win) : Cells x.row x.cells := ⟨(win_cells x).1, (win_cells x).2⟩
theorem gsOk_open {H : Heap} {e : Nat → Nat} (hr : ∀ b x, (b, x) ∈ gws e → H.t.get b = some (.row x.row)) : gsOk H gs0 = true := by
  have hall : (gs0.all fun x => sameL x.2 x.2) = true := by kernel_rfl
  refine gsOk_of fun y hy => ?_
  obtain ⟨x, h1, h2⟩ := gws_mem e hy
  refine ⟨x.row, hr _ _ h1, rfl, ?_, ?_, List.all_eq_true.1 hall y hy⟩
  · rw [← h2]; exact Nat.le_refl _
  · rw [← h2, lenL_eq, (cells_row x).load (by omega), List.drop_zero, List.take_length]
theorem sum_hit {H H' : Heap} {e : Nat → Nat} (hn : 9 < H.nx) (hro : H.ro ≤ H.nx) (hr : ∀ b x, (b, x) ∈ gws e → H.t.get b = some (.row x.row)) (hlt : ∀ b x, (b, x) ∈ gws e → b < H.nx) {v : AV} {l : List UInt8} (h : ArgS H v l) (hl : l.length ≤ 500) (k : Keep H H' []) :
    libA 83 [v] H' = some (.ret (.agg ((shaF kk bb l).map u8V)) H') := by
  have h' := h.keep k
  have row : ∀ {g : Nat} {d : List AV}, (g, d) ∈ gs0 → ∃ r, H'.t.get g = some (.row r) ∧ Cells r d := by
    intro g d hg
    obtain ⟨x, h1, h2⟩ := gws_mem e hg
    exact ⟨x.row, by rw [k.get g (hlt _ _ h1) (by simp)]; exact hr _ _ h1, by rw [← h2]; exact cells_row x⟩
  have hK := row (g := 9) (d := litAV Rows.laid_portolan_sha_constants) (by unfold gs0; simp)
  have hB := row (g := 7) (d := litAV Rows.laid_portolan_sha_beginning) (by unfold gs0; simp)
  rw [kk_is] at hK
  rw [bb_is] at hB
  exact shaLib_is (f0 := 83) (base := lib0) ⟨h'.1, by omega, hK, hB, Nat.lt_of_lt_of_le hn k.nx, by rw [k.ro]; exact Nat.le_trans hro k.nx⟩ h'.far
theorem tells_hit {H H' : Heap} {e : Nat → Nat} (hr : ∀ b x, (b, x) ∈ gws e → H.t.get b = some (.row x.row)) (hlt : ∀ b x, (b, x) ∈ gws e → b < H.nx) (k : Keep H H' []) : libA 30 [] H' = some (.ret (.bool true) H') :=
  constLib_is (gsOk_open (e := e) fun b x h => by rw [k.get b (hlt _ _ h) (by simp)]; exact hr _ _ h)
end
end Go.AI
