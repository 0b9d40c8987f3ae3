/- ChunkKnown, evaluated up to its loop, walked behind it, is true: proved whatever numbers the types of the variables' rows have. -/
import Derived.Test.YtlnelphabohehaaGreatDoorXQ6
import Derived.Test.YtlnelphabohehaaGreatDoorP8
set_option maxRecDepth 1000000
set_option maxHeartbeats 0
set_option linter.unusedVariables false
set_option linter.unusedSimpArgs false
namespace Go.AI
open Go Go.Proofs Go.Proofs.YtlnelphabohehaaGreatDoor
noncomputable section
def bigM (f : Nat) (args : List AV) : Bool := cond (Nat.beq f 9) (match args with | [.slice _ _ n _] => Nat.ble 4096 n | _ => false) false
def libM : Lib := fun f args H => cond (bigM f args) (LK lib0 fs 100000 14 f args H) (libT gs0 lib0 tab17 f args H)
theorem libM_ok : LibOk Tryz.prog libM := by
  intro f args H r h
  unfold libM at h
  cases hb : bigM f args with
  | true => rw [hb] at h; exact libK_ok (fun _ h => calls_ok mixed h fs_get 100000 900) lib0_ok 14 f args H r h
  | false => rw [hb] at h; exact libT_ok lib0_ok tab17 tab17_ok f args H r h
theorem known_ok : CallOk Tryz.prog (callN libM fs 100000 1000) := calls_ok mixed libM_ok fs_get 100000 1000
theorem env : Env lib0 fs 100000 where
  big := by decide
  f9 := by kernel_rfl
  n9 := fun _ _ => rfl
  f26 := by kernel_rfl
  n26 := fun _ _ => rfl
  f40 := by kernel_rfl
  n40 := fun _ _ => rfl
  f41 := by kernel_rfl
  n41 := fun _ _ => rfl
  f44 := by kernel_rfl
  n44 := fun _ _ => rfl
  f69 := by kernel_rfl
  n69 := fun _ _ => rfl
  f70 := by kernel_rfl
  n70 := fun _ _ => rfl
  f71 := by kernel_rfl
  n71 := fun _ _ => rfl
  f72 := by kernel_rfl
  n72 := fun _ _ => rfl
  f73 := by kernel_rfl
  n73 := fun _ _ => rfl
  f74 := by kernel_rfl
  n74 := fun _ _ => rfl
  f75 := by kernel_rfl
  n75 := fun _ _ => rfl
  f82 := by kernel_rfl
  n82 := fun _ _ => rfl
  f86 := by kernel_rfl
  n86 := fun _ _ => rfl
  f123 := by kernel_rfl
  n123 := fun _ _ => rfl
  f124 := by kernel_rfl
  n124 := fun _ _ => rfl
  f125 := by kernel_rfl
  n125 := fun _ _ => rfl
  f126 := by kernel_rfl
  n126 := fun _ _ => rfl
  f127 := by kernel_rfl
  n127 := fun _ _ => rfl
  f128 := by kernel_rfl
  n128 := fun _ _ => rfl
  f136 := by kernel_rfl
  n136 := fun _ _ => rfl
  f165 := by kernel_rfl
  n165 := fun _ _ => rfl
  f166 := by kernel_rfl
  n166 := fun _ _ => rfl
  f167 := by kernel_rfl
  n167 := fun _ _ => rfl
  f168 := by kernel_rfl
  n168 := fun _ _ => rfl
  f169 := by kernel_rfl
  n169 := fun _ _ => rfl
  f198 := by kernel_rfl
  n198 := fun _ _ => rfl
  f199 := by kernel_rfl
  n199 := fun _ _ => rfl
  f200 := by kernel_rfl
  n200 := fun _ _ => rfl
  f231 := by kernel_rfl
  n231 := fun _ _ => rfl
  f297 := by kernel_rfl
  n297 := fun _ _ => rfl
  ix := fun s x H h => by
    show (cond (Nat.ble x 255) (some (CR.ret (.int .i64 (idxByte x s 0)) H)) none) = _
    rw [Nat.ble_eq_true_of_le (by omega)]; rfl
  cn := fun s x H h => by
    show (cond (Nat.ble x 255) (some (CR.ret (.int .i64 (.ofNat (cntByte x s 0))) H)) none) = _
    rw [Nat.ble_eq_true_of_le (by omega)]; rfl
def told (tm : TM) : Bool := cond (same (gt7 tm) (nI .i64 1)) (cond (same (gt9 tm) (nI .i64 1)) (cond (same (gt11 tm) (nI .i64 1)) (cond (same (gt13 tm) (nI .i64 1)) (cond (same (gt15 tm) (nI .i64 1)) (cond (same (gt17 tm) (nI .i64 1)) (cond (same (gt19 tm) (nI .i64 1)) (cond (same (gt21 tm) (nI .i64 0)) (cond (same (gt23 tm) (nI .i64 1)) (cond (same (gt25 tm) (nI .i64 1)) (cond (same (gt27 tm) (nI .i64 1)) (cond (same (gt29 tm) (nI .i64 0)) (cond (same (gt31 tm) (nI .i64 21)) (cond (same (gt33 tm) (nI .i64 5)) (true) false) false) false) false) false) false) false) false) false) false) false) false) false) false
def s28B (tm : TM) (H : Heap) : Bool := match gt28 tm with
  | .slice b o n _ => cond (Nat.ble (Nat.succ b) H.nx) (cond (Nat.beq n 16) (match H.t.get b with | some (.row r) => cond (Nat.ble (Nat.add o 16) r.size) (sameL (loadN r o 16) (lit0.map u8V)) false | _ => false) false) false
  | _ => false
def chkA (r : Res) : Bool := match r with
  | .ok .normal tm H ⟨[], none⟩ => cond (told tm) (cond (s28B tm H) (cond (Nat.beq H.nx 1910) (cond (Nat.beq H.ro 100) (cond (gsOk H gs0) (hasAll H pre0) false) false) false) false) false
  | _ => false
def cx0 : Ctx := ⟨callN libM fs 100000 999, noYield, rangeK fs 100000 (callN libM fs 100000 999), 100000, false⟩
theorem a_true (e : Nat → Nat) : chkA (c3_a normD cx0 (argsT []) (H0 e) ⟨[], none⟩) = true := by kernel_rfl
theorem thenR_assoc (r : Res) (k j : TM → Heap → X → Res) : thenR (thenR r k) j = thenR r fun tm H x => thenR (k tm H x) j := by
  cases r with
  | fail => rfl
  | ok o tm H x => cases o <;> rfl
theorem seqD_fn (a b : D) (c : Ctx) : seqD a b c = fun tm H x => thenR (a c tm H x) (b c) := rfl
theorem normD_fn (c : Ctx) : normD c = fun tm H x => .ok .normal tm H x := rfl
theorem a_eq (r : D) (cx : Ctx) (tm : TM) (H : Heap) (x : X) : c3_a r cx tm H x = thenR (c3_a normD cx tm H x) (r cx) := by
  unfold c3_a
  simp only [seqD_fn, thenR_assoc, normD_fn, thenR_normal]
theorem gsOk_congr {H H' : Heap} : ∀ {gs : List (Nat × List AV)}, (∀ x ∈ gs, H'.t.get x.1 = H.t.get x.1) → gsOk H' gs = gsOk H gs
  | [], _ => rfl
  | x :: l, h => by
    show cond (match H'.t.get x.1 with | some (.row r) => cond (Nat.beq r.sz 1) (cond (Nat.ble (lenL x.2) r.size) (sameL (loadN r 0 (lenL x.2)) x.2) false) false | _ => false) (gsOk H' l) false = cond (match H.t.get x.1 with | some (.row r) => cond (Nat.beq r.sz 1) (cond (Nat.ble (lenL x.2) r.size) (sameL (loadN r 0 (lenL x.2)) x.2) false) false | _ => false) (gsOk H l) false
    rw [h x (List.mem_cons_self ..), gsOk_congr fun y hy => h y (List.mem_cons_of_mem _ hy)]
theorem hasAll_congr {H H' : Heap} : ∀ {l : List (Nat × LO)}, (∀ x ∈ l, H'.t.get x.1 = H.t.get x.1) → hasAll H' l = hasAll H l
  | [], _ => rfl
  | x :: l, h => by
    show cond (hasO H' x.1 x.2) (hasAll H' l) false = cond (hasO H x.1 x.2) (hasAll H l) false
    rw [hasAll_congr fun y hy => h y (List.mem_cons_of_mem _ hy)]
    unfold hasO
    rw [h x (List.mem_cons_self ..)]
theorem gs_low : ∀ x ∈ gs0, x.1 < 100 := fun x hx => by
  have h : (gs0.all fun x => Nat.ble (Nat.succ x.1) 100) = true := by kernel_rfl
  exact Nat.le_of_ble_eq_true (List.all_eq_true.1 h x hx)
theorem pre_low : ∀ x ∈ pre0, x.1 < 100 := fun x hx => by
  have h : (pre0.all fun x => Nat.ble (Nat.succ x.1) 100) = true := by kernel_rfl
  exact Nat.le_of_ble_eq_true (List.all_eq_true.1 h x hx)
theorem map_at {H : Heap} {g o : Nat} (h : gsOk H gs0 = true) (hg : (g, [AV.map o]) ∈ gs0) : ∃ r, H.t.get g = some (.row r) ∧ 0 < r.size ∧ r.get 0 = .map o := by
  obtain ⟨r, h1, _, h3, h4⟩ := gsOk_mem h _ hg
  have h3 : 1 ≤ r.size := h3
  have h4 : [r.get 0] = [AV.map o] := h4
  exact ⟨r, h1, h3, (List.cons.inj h4).1⟩
theorem cm_at {H : Heap} {b : Nat} {es : List Ent} (h : hasAll H pre0 = true) (hb : (b, LO.cmap es) ∈ pre0) : H.t.get b = some (.cmap es) := by
  obtain ⟨o, h1, _, h3⟩ := hasAll_mem h _ hb
  have h1 : H.t.get b = some o := h1
  have h3 : isO o (.cmap es) = true := h3
  rw [h1]
  cases o with
  | cmap fs => rw [sameE_eq (show sameE fs es = true from h3)]
  | row r => cases h3
  | map fs c => cases h3
  | _ => cases h3
theorem globP_of {H : Heap} (hn : 100 ≤ H.nx) (hr : H.ro ≤ H.nx) (h1 : gsOk H gs0 = true) (h2 : hasAll H pre0 = true) : GlobP H :=
  ⟨hn, hr, map_at h1 (List.mem_of_getElem? (i := 0) (by kernel_rfl)), cm_at h2 (List.mem_of_getElem? (i := 0) (by kernel_rfl)), map_at h1 (List.mem_of_getElem? (i := 1) (by kernel_rfl)), cm_at h2 (List.mem_of_getElem? (i := 1) (by kernel_rfl))⟩
/-- what the evaluation leaves -/
theorem a_run (e : Nat → Nat) : ∃ tm H, c3_a normD cx0 (argsT []) (H0 e) ⟨[], none⟩ = .ok .normal tm H ⟨[], none⟩ ∧ Told (gt28 tm) tm ∧ s28B tm H = true ∧ H.nx = 1910 ∧ H.ro = 100 ∧ gsOk H gs0 = true ∧ hasAll H pre0 = true := by
  have h := a_true e
  generalize c3_a normD cx0 (argsT []) (H0 e) ⟨[], none⟩ = r at h
  unfold chkA at h
  split at h
  · rename_i tm H
    obtain ⟨h1, h⟩ := cond_true_iff h
    obtain ⟨h2, h⟩ := cond_true_iff h
    obtain ⟨h3, h⟩ := cond_true_iff h
    obtain ⟨h4, h⟩ := cond_true_iff h
    obtain ⟨h5, h6⟩ := cond_true_iff h
    refine ⟨tm, H, rfl, ?_, h2, Nat.eq_of_beq_eq_true h3, Nat.eq_of_beq_eq_true h4, h5, h6⟩
    unfold told at h1
    obtain ⟨a7, h1⟩ := cond_true_iff h1
    obtain ⟨a9, h1⟩ := cond_true_iff h1
    obtain ⟨a11, h1⟩ := cond_true_iff h1
    obtain ⟨a13, h1⟩ := cond_true_iff h1
    obtain ⟨a15, h1⟩ := cond_true_iff h1
    obtain ⟨a17, h1⟩ := cond_true_iff h1
    obtain ⟨a19, h1⟩ := cond_true_iff h1
    obtain ⟨a21, h1⟩ := cond_true_iff h1
    obtain ⟨a23, h1⟩ := cond_true_iff h1
    obtain ⟨a25, h1⟩ := cond_true_iff h1
    obtain ⟨a27, h1⟩ := cond_true_iff h1
    obtain ⟨a29, h1⟩ := cond_true_iff h1
    obtain ⟨a31, h1⟩ := cond_true_iff h1
    obtain ⟨a33, h1⟩ := cond_true_iff h1
    exact ⟨same_eq _ _ a7, same_eq _ _ a9, same_eq _ _ a11, same_eq _ _ a13, same_eq _ _ a15, same_eq _ _ a17, same_eq _ _ a19, same_eq _ _ a21, same_eq _ _ a23, same_eq _ _ a25, same_eq _ _ a27, rfl, same_eq _ _ a29, same_eq _ _ a31, same_eq _ _ a33⟩
  · cases h
theorem s28_of {tm : TM} {H : Heap} (h : s28B tm H = true) : ∃ b, b < H.nx ∧ ∀ H' : Heap, H'.t.get b = H.t.get b → strW (gt28 tm) H' = .val (.str lit0) H' := by
  unfold s28B at h
  split at h
  · rename_i b o n c hv
    obtain ⟨h1, g1⟩ := cond_true_iff h
    obtain ⟨h2, g2⟩ := cond_true_iff g1
    clear h g1
    have h2 := Nat.eq_of_beq_eq_true h2
    subst h2
    split at g2
    · rename_i r hr
      obtain ⟨h3, h4⟩ := cond_true_iff g2
      have h4 := sameL_eq _ _ h4
      refine ⟨b, Nat.le_of_ble_eq_true h1, fun H' hk => ?_⟩
      rw [hv]
      refine strV_row (r := r) (by rw [hk]; exact hr) rfl (Nat.le_of_ble_eq_true h3) fun i hi => ?_
      have g := loadN_get r 16 o i hi
      rw [h4, List.getElem?_map] at g
      rw [List.getD_eq_getElem?_getD]
      cases hq : lit0[i]? with
      | none => rw [hq] at g; cases g
      | some x => rw [hq] at g; exact (Option.some.inj g).symm
    · cases g2
  · cases h
theorem mayHit {H : Heap} {b L n : Nat} (hL : L = 4097 ∨ L = 4096) (g : GlobP H) (M : Many H b) : callN libM fs 100000 (n + 1) 9 [.slice b 0 L none] H = .ret (nI .i64 (if 4096 < L then 42 else 0)) H := by
  refine callN_hit ?_
  have hb : bigM 9 [.slice b 0 L none] = true := by
    show Nat.ble 4096 L = true
    exact Nat.ble_eq_true_of_le (by omega)
  unfold libM
  rw [hb, cond_true]
  obtain ⟨H', hr, k⟩ := may__run env (n := 898) hL g M
  exact layer_keep rfl rfl hr k rfl
theorem wakesHit {H : Heap} {n : Nat} (h1 : H.nx = 6008) (h2 : H.ro = 100) (h3 : gsOk H gs0 = true) (h4 : hasAll H pre0 = true) : ∃ H', callN libM fs 100000 (n + 1) 10 [] H = .ret (.bool true) H' := by
  refine ⟨x17.2.after H, callN_hit ?_⟩
  show cond (cond (Nat.beq H.nx 6008) (cond (Nat.beq H.ro 100) (cond (sameL [] []) (cond (gsOk H gs0) (hasAll H pre0) false) false) false) false) (some (CR.ret (.bool true) (x17.2.after H))) _ = _
  rw [h1, h2, h3, h4]; rfl
theorem known (e : Nat → Nat) : isTrue (callN libM fs 100000 1000 3 [] (H0 e)) = true := by
  obtain ⟨tm1, H1, hA, T, hs, hn, hr, hg, hp⟩ := a_run e
  obtain ⟨b28, hb28, s28⟩ := s28_of hs
  have hl : libM 3 [] (H0 e) = none := by kernel_rfl
  have hf : fs.get 3 = some c3 := by kernel_rfl
  rw [callN_fn (n := 999) hl hf]
  show isTrue (outF _ [(gt0, none)] (c3_a (seqD c3_mk (seqD c3_lp c3_tl)) cx0 (argsT []) (H0 e) ⟨[], none⟩)) = true
  rw [a_eq, hA, thenR_normal, seqD_run]
  obtain ⟨tm2, e2, T2, t2⟩ := law_mk (call := cx0.call) (y := cx0.yld) (f := cx0.rng) (d := cx0.fuel) (r := cx0.rnd) (x := ⟨[], none⟩) (H := H1) T
  have e2 : c3_mk cx0 tm1 H1 ⟨[], none⟩ = .ok .normal tm2 (H1.new (rG 40 9 (lst 0).flatten 0 false true true)) ⟨[], none⟩ := e2
  rw [e2, thenR_normal, seqD_run]
  obtain ⟨H2, hH2⟩ : ∃ G, H1.new (rG 40 9 (lst 0).flatten 0 false true true) = G := ⟨_, rfl⟩
  have k12 : Keep H1 H2 [] := by rw [← hH2]; exact Keep.new _ _ _
  have nx2 : H2.nx = H1.nx + 1 := by rw [← hH2]; rfl
  have ro2 := k12.ro
  have g2 : H2.t.get H1.nx = some (rG 40 9 (lst 0).flatten 0 false true true) := by rw [← hH2, get_new_eq rfl]
  rw [hH2]
  obtain ⟨tm3, H3, e3, T3, t3, nx3, k23, M⟩ := law_lp (call := cx0.call) (d := cx0.fuel) (H0 := H2) (b := H1.nx) (show 5000 < 100000 by decide) (by omega) (by omega) cx0.yld cx0.rng cx0.rnd ⟨[], none⟩ tm2 T2 t2 g2
  have e3 : c3_lp cx0 tm2 H2 ⟨[], none⟩ = .ok .normal tm3 H3 ⟨[], none⟩ := e3
  rw [e3, thenR_normal]
  have low : ∀ x, x < H1.nx → H3.t.get x = H1.t.get x := fun x hx => by rw [k23.get x (by omega) (by simp; omega), k12.get x hx (by simp)]
  have g3 : gsOk H3 gs0 = true := by rw [gsOk_congr fun x hx => low x.1 (by have := gs_low x hx; omega)]; exact hg
  have p3 : hasAll H3 pre0 = true := by rw [hasAll_congr fun x hx => low x.1 (by have := pre_low x hx; omega)]; exact hp
  have ro3 := k23.ro
  have gp := globP_of (H := H3) (by omega) (by omega) g3 p3
  obtain ⟨H4, w⟩ := wakesHit (H := H3) (n := 998) (by omega) (by omega) g3 p3
  have m1 := mayHit (n := 998) (.inl rfl) gp M
  have m2 := mayHit (n := 998) (.inr rfl) gp M
  rw [if_pos (by decide)] at m1
  rw [if_neg (by decide)] at m2
  obtain ⟨tm4, e4, t4⟩ := law_tl (call := cx0.call) cx0.yld cx0.rng cx0.fuel cx0.rnd tm3 T3 t3 M (s28 H3 (low b28 hb28)) m1 m2 w
  have e4 : c3_tl cx0 tm3 H3 ⟨[], none⟩ = .ok .ret tm4 H4 ⟨[], none⟩ := e4
  rw [e4, outF_ret, results_one, t4]; rfl
end
end Go.AI
