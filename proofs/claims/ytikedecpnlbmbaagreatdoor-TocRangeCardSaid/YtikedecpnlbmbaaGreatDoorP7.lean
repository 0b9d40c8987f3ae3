/- Running the interpreter's code on values that are not known: equations, proved without conditions but those that each names. -/
import Derived.Test.YtikedecpnlbmbaaGreatDoorP6
import Derived.Test.YtikedecpnlbmbaaGreatDoorP5
set_option maxRecDepth 1000000
set_option linter.unusedVariables false
set_option linter.unusedSimpArgs false
/- Running the interpreter on values that are not known: equations to rewrite with. -/
namespace Go.AI
open Go
section
variable {α : Type}
namespace N8
theorem g00 (f : α → α) (n : N8 α) : a0 (u0 f n) = f (a0 n) := rfl
theorem g01 (f : α → α) (n : N8 α) : a0 (u1 f n) = a0 n := rfl
theorem g02 (f : α → α) (n : N8 α) : a0 (u2 f n) = a0 n := rfl
theorem g03 (f : α → α) (n : N8 α) : a0 (u3 f n) = a0 n := rfl
theorem g04 (f : α → α) (n : N8 α) : a0 (u4 f n) = a0 n := rfl
theorem g05 (f : α → α) (n : N8 α) : a0 (u5 f n) = a0 n := rfl
theorem g06 (f : α → α) (n : N8 α) : a0 (u6 f n) = a0 n := rfl
theorem g07 (f : α → α) (n : N8 α) : a0 (u7 f n) = a0 n := rfl
theorem g10 (f : α → α) (n : N8 α) : a1 (u0 f n) = a1 n := rfl
theorem g11 (f : α → α) (n : N8 α) : a1 (u1 f n) = f (a1 n) := rfl
theorem g12 (f : α → α) (n : N8 α) : a1 (u2 f n) = a1 n := rfl
theorem g13 (f : α → α) (n : N8 α) : a1 (u3 f n) = a1 n := rfl
theorem g14 (f : α → α) (n : N8 α) : a1 (u4 f n) = a1 n := rfl
theorem g15 (f : α → α) (n : N8 α) : a1 (u5 f n) = a1 n := rfl
theorem g16 (f : α → α) (n : N8 α) : a1 (u6 f n) = a1 n := rfl
theorem g17 (f : α → α) (n : N8 α) : a1 (u7 f n) = a1 n := rfl
theorem g20 (f : α → α) (n : N8 α) : a2 (u0 f n) = a2 n := rfl
theorem g21 (f : α → α) (n : N8 α) : a2 (u1 f n) = a2 n := rfl
theorem g22 (f : α → α) (n : N8 α) : a2 (u2 f n) = f (a2 n) := rfl
theorem g23 (f : α → α) (n : N8 α) : a2 (u3 f n) = a2 n := rfl
theorem g24 (f : α → α) (n : N8 α) : a2 (u4 f n) = a2 n := rfl
theorem g25 (f : α → α) (n : N8 α) : a2 (u5 f n) = a2 n := rfl
theorem g26 (f : α → α) (n : N8 α) : a2 (u6 f n) = a2 n := rfl
theorem g27 (f : α → α) (n : N8 α) : a2 (u7 f n) = a2 n := rfl
theorem g30 (f : α → α) (n : N8 α) : a3 (u0 f n) = a3 n := rfl
theorem g31 (f : α → α) (n : N8 α) : a3 (u1 f n) = a3 n := rfl
theorem g32 (f : α → α) (n : N8 α) : a3 (u2 f n) = a3 n := rfl
theorem g33 (f : α → α) (n : N8 α) : a3 (u3 f n) = f (a3 n) := rfl
theorem g34 (f : α → α) (n : N8 α) : a3 (u4 f n) = a3 n := rfl
theorem g35 (f : α → α) (n : N8 α) : a3 (u5 f n) = a3 n := rfl
theorem g36 (f : α → α) (n : N8 α) : a3 (u6 f n) = a3 n := rfl
theorem g37 (f : α → α) (n : N8 α) : a3 (u7 f n) = a3 n := rfl
theorem g40 (f : α → α) (n : N8 α) : a4 (u0 f n) = a4 n := rfl
theorem g41 (f : α → α) (n : N8 α) : a4 (u1 f n) = a4 n := rfl
theorem g42 (f : α → α) (n : N8 α) : a4 (u2 f n) = a4 n := rfl
theorem g43 (f : α → α) (n : N8 α) : a4 (u3 f n) = a4 n := rfl
theorem g44 (f : α → α) (n : N8 α) : a4 (u4 f n) = f (a4 n) := rfl
theorem g45 (f : α → α) (n : N8 α) : a4 (u5 f n) = a4 n := rfl
theorem g46 (f : α → α) (n : N8 α) : a4 (u6 f n) = a4 n := rfl
theorem g47 (f : α → α) (n : N8 α) : a4 (u7 f n) = a4 n := rfl
theorem g50 (f : α → α) (n : N8 α) : a5 (u0 f n) = a5 n := rfl
theorem g51 (f : α → α) (n : N8 α) : a5 (u1 f n) = a5 n := rfl
theorem g52 (f : α → α) (n : N8 α) : a5 (u2 f n) = a5 n := rfl
theorem g53 (f : α → α) (n : N8 α) : a5 (u3 f n) = a5 n := rfl
theorem g54 (f : α → α) (n : N8 α) : a5 (u4 f n) = a5 n := rfl
theorem g55 (f : α → α) (n : N8 α) : a5 (u5 f n) = f (a5 n) := rfl
theorem g56 (f : α → α) (n : N8 α) : a5 (u6 f n) = a5 n := rfl
theorem g57 (f : α → α) (n : N8 α) : a5 (u7 f n) = a5 n := rfl
theorem g60 (f : α → α) (n : N8 α) : a6 (u0 f n) = a6 n := rfl
theorem g61 (f : α → α) (n : N8 α) : a6 (u1 f n) = a6 n := rfl
theorem g62 (f : α → α) (n : N8 α) : a6 (u2 f n) = a6 n := rfl
theorem g63 (f : α → α) (n : N8 α) : a6 (u3 f n) = a6 n := rfl
theorem g64 (f : α → α) (n : N8 α) : a6 (u4 f n) = a6 n := rfl
theorem g65 (f : α → α) (n : N8 α) : a6 (u5 f n) = a6 n := rfl
theorem g66 (f : α → α) (n : N8 α) : a6 (u6 f n) = f (a6 n) := rfl
theorem g67 (f : α → α) (n : N8 α) : a6 (u7 f n) = a6 n := rfl
theorem g70 (f : α → α) (n : N8 α) : a7 (u0 f n) = a7 n := rfl
theorem g71 (f : α → α) (n : N8 α) : a7 (u1 f n) = a7 n := rfl
theorem g72 (f : α → α) (n : N8 α) : a7 (u2 f n) = a7 n := rfl
theorem g73 (f : α → α) (n : N8 α) : a7 (u3 f n) = a7 n := rfl
theorem g74 (f : α → α) (n : N8 α) : a7 (u4 f n) = a7 n := rfl
theorem g75 (f : α → α) (n : N8 α) : a7 (u5 f n) = a7 n := rfl
theorem g76 (f : α → α) (n : N8 α) : a7 (u6 f n) = a7 n := rfl
theorem g77 (f : α → α) (n : N8 α) : a7 (u7 f n) = f (a7 n) := rfl
end N8
end
section
/-! ### Code -/
theorem seqO_run (f : OpF) (dst : SetF) (next : D) (c : Ctx) (tm : TM) (H : Heap) (x : X) : seqO f dst next c tm H x = goOn (next c) dst c tm H x (f tm H) := rfl
theorem seqG_run (g : EvF) (b : Bool) (f : OpF) (dst : SetF) (next : D) (c : Ctx) (tm : TM) (H : Heap) (x : X) : seqG g b f dst next c tm H x = guardK (g tm) b (goOn (next c) dst c tm H x (f tm H)) (next c (dst tm undefA) H x) := rfl
theorem guardK_tt (yes no : Res) : guardK (.bool true) true yes no = yes := rfl
theorem guardK_ff (yes no : Res) : guardK (.bool false) false yes no = yes := rfl
theorem guardK_tf (yes no : Res) : guardK (.bool true) false yes no = no := rfl
theorem guardK_ft (yes no : Res) : guardK (.bool false) true yes no = no := rfl
theorem goOn_val (next : TM → Heap → X → Res) (dst : SetF) (c : Ctx) (tm : TM) (H : Heap) (x : X) (v : AV) (H' : Heap) : goOn next dst c tm H x (.val v H') = next (dst tm v) H' x := rfl
theorem goOn_call (next : TM → Heap → X → Res) (dst : SetF) (c : Ctx) (tm : TM) (H : Heap) (x : X) (f : Nat) (args : List AV) (H' : Heap) : goOn next dst c tm H x (.oth (.call f args H')) = onCR next dst tm x (c.call f args H') := rfl
theorem onCR_ret (next : TM → Heap → X → Res) (dst : SetF) (tm : TM) (x : X) (v : AV) (H : Heap) : onCR next dst tm x (.ret v H) = next (dst tm v) H x := rfl
theorem seqD_run (a b : D) (c : Ctx) (tm : TM) (H : Heap) (x : X) : seqD a b c tm H x = thenR (a c tm H x) (b c) := rfl
theorem thenR_normal (tm : TM) (H : Heap) (x : X) (k : TM → Heap → X → Res) : thenR (.ok .normal tm H x) k = k tm H x := rfl
theorem thenR_ret (tm : TM) (H : Heap) (x : X) (k : TM → Heap → X → Res) : thenR (.ok .ret tm H x) k = .ok .ret tm H x := rfl
theorem thenR_exit (i : Nat) (tm : TM) (H : Heap) (x : X) (k : TM → Heap → X → Res) : thenR (.ok (.exit i) tm H x) k = .ok (.exit i) tm H x := rfl
theorem normD_run (c : Ctx) (tm : TM) (H : Heap) (x : X) : normD c tm H x = .ok .normal tm H x := rfl
theorem retD_run (c : Ctx) (tm : TM) (H : Heap) (x : X) : retD c tm H x = .ok .ret tm H x := rfl
theorem exitD_run (i : Nat) (c : Ctx) (tm : TM) (H : Heap) (x : X) : exitD i c tm H x = .ok (.exit i) tm H x := rfl
theorem condD_run (q : EvF) (a b : D) (c : Ctx) (tm : TM) (H : Heap) (x : X) : condD q a b c tm H x = isBn (q tm) fun v => condK (a c) (b c) v tm H x := rfl
theorem isBn_bool (b : Bool) (k : Bool → Res) : isBn (.bool b) k = k b := rfl
theorem condK_true (a b : TM → Heap → X → Res) (tm : TM) (H : Heap) (x : X) : condK a b true tm H x = a tm H x := rfl
theorem condK_false (a b : TM → Heap → X → Res) (tm : TM) (H : Heap) (x : X) : condK a b false tm H x = b tm H x := rfl
theorem blockD_run (i : Nat) (a : D) (c : Ctx) (tm : TM) (H : Heap) (x : X) : blockD i a c tm H x = leaveB i (a c tm H x) := rfl
theorem loopD_run (a : D) (c : Ctx) (tm : TM) (H : Heap) (x : X) : loopD a c tm H x = loopN (a c) c.fuel tm H x := rfl
theorem leaveB_normal (i : Nat) (tm : TM) (H : Heap) (x : X) : leaveB i (.ok .normal tm H x) = .ok .normal tm H x := rfl
theorem leaveB_same (i : Nat) (tm : TM) (H : Heap) (x : X) : leaveB i (.ok (.exit i) tm H x) = .ok .normal tm H x := by
  show @Bool.rec (fun _ => Res) (.ok (.exit i) tm H x) (.ok .normal tm H x) (Nat.beq i i) = _
  rw [Nat.beq_refl]
theorem leaveB_ret (i : Nat) (tm : TM) (H : Heap) (x : X) : leaveB i (.ok .ret tm H x) = .ok .ret tm H x := rfl
theorem d0_run (tm : TM) (v : AV) : d0 tm v = tm := rfl
theorem k_run (v : AV) (tm : TM) : k v tm = v := rfl
theorem argsT_0 : argsT [] = tm0 := rfl
theorem argsT_1 (a : AV) : argsT [a] = st0 tm0 a := rfl
theorem argsT_2 (a b : AV) : argsT [a, b] = st1 (st0 tm0 a) b := rfl
theorem argsT_3 (a b c : AV) : argsT [a, b, c] = st2 (st1 (st0 tm0 a) b) c := rfl
theorem evs_nil (tm : TM) : evs tm [] = [] := rfl
theorem evs_cons (tm : TM) (f : EvF) (l : List EvF) : evs tm (f :: l) = f tm :: evs tm l := rfl
/-! ### Calls -/
/-- a call of a function of the table -/
theorem callN_fn {lib : Nat → List AV → Heap → Option CR} {fs : T CF} {fuel n f : Nat} {args : List AV} {H : Heap} {cf : CF} (hl : lib f args H = none) (hf : fs.get f = some cf) : callN lib fs fuel (n + 1) f args H =
    outF (fun pn g as H => onCF .fail fs g fun cg => outD pn cg.rs (cg.body ⟨callN lib fs fuel n, noYield, noRange, fuel, false⟩ (argsT as) H ⟨[], pn⟩))
      cf.rs (cf.body ⟨callN lib fs fuel n, noYield, rangeK fs fuel (callN lib fs fuel n), fuel, false⟩ (argsT args) H ⟨[], none⟩) := by
  show libOr (lib f args H) _ = _
  rw [hl]
  unfold onCF
  rw [hf]
  rfl
theorem outF_ret (dc : Option AV → Nat → List AV → Heap → DR) (rs : List (EvF × Option (Nat × Bool))) (tm : TM) (H : Heap) (rc : Option AV) : outF dc rs (.ok .ret tm H ⟨[], rc⟩) = results rs tm H := rfl
theorem outF_normal (dc : Option AV → Nat → List AV → Heap → DR) (rs : List (EvF × Option (Nat × Bool))) (tm : TM) (H : Heap) (rc : Option AV) : outF dc rs (.ok .normal tm H ⟨[], rc⟩) = results rs tm H := rfl
theorem results_one (f : EvF) (tm : TM) (H : Heap) : results [(f, none)] tm H = .ret (f tm) H := rfl
theorem results_none (tm : TM) (H : Heap) : results [] tm H = .ret (.tup []) H := rfl
/-! ### Loops -/
theorem loopN_exit {a : TM → Heap → X → Res} {x : X} {i : Nat} (inv : Nat → TM → Heap → Prop) (fin : TM → Heap → Prop) (n : Nat)
    (step : ∀ k tm H, k < n → inv k tm H → ∃ tm' H', a tm H x = .ok .normal tm' H' x ∧ inv (k + 1) tm' H')
    (last : ∀ tm H, inv n tm H → ∃ tm' H', a tm H x = .ok (.exit i) tm' H' x ∧ fin tm' H') : ∀ (j k : Nat) (F : Nat) (tm : TM) (H : Heap), k + j = n → j < F → inv k tm H → ∃ tm' H', loopN a F tm H x = .ok (.exit i) tm' H' x ∧ fin tm' H'
  | 0, k, F, tm, H, hk, hF, h => by
    obtain ⟨F, rfl⟩ : ∃ G, F = G + 1 := ⟨F - 1, by omega⟩
    obtain rfl : k = n := by omega
    obtain ⟨tm', H', h1, h2⟩ := last tm H h
    refine ⟨tm', H', ?_, h2⟩
    show thenR (a tm H x) (loopN a F) = _
    rw [h1]; rfl
  | j + 1, k, F, tm, H, hk, hF, h => by
    obtain ⟨F, rfl⟩ : ∃ G, F = G + 1 := ⟨F - 1, by omega⟩
    obtain ⟨tm', H', h1, h2⟩ := step k tm H (by omega) h
    obtain ⟨tm2, H2, h3, h4⟩ := loopN_exit inv fin n step last j (k + 1) F tm' H' (by omega) (by omega) h2
    refine ⟨tm2, H2, ?_, h4⟩
    show thenR (a tm H x) (loopN a F) = _
    rw [h1]
    exact h3
/-! ### Operations, by values -/
theorem oMv_run (x : EvF) (tm : TM) (H : Heap) : oMv x tm H = .val (x tm) H := rfl
noncomputable def negV (a : AV) (H : Heap) : OR := onInt a fun k a => valI k (isub 0 a) H
noncomputable def intV (k : IntKind) (a : AV) (H : Heap) : OR := onInt a fun _ a => valI k a H
noncomputable def addV (a b : AV) (H : Heap) : OR := match a with
  | .int j a => onInt b fun l b => onIf (kEq j l) (valI j (iadd a b) H)
  | .str a => onStr b fun b => onIf (Nat.ble (Nat.add (lenL a) (lenL b)) 4611686018427387904) (.val (.str (a ++ b)) H)
  | _ => .fail
noncomputable def subV (a b : AV) (H : Heap) : OR := int2 a b fun k a b => valI k (isub a b) H
noncomputable def mulV (a b : AV) (H : Heap) : OR := int2 a b fun k a b => valI k (imul a b) H
noncomputable def quoV (a b : AV) (H : Heap) : OR := int2 a b fun k a b => cond (ieq b 0) .fail (valI k (idiv a b) H)
noncomputable def remV (a b : AV) (H : Heap) : OR := int2 a b fun k a b => cond (ieq b 0) .fail (forceI (imod a b) fun n => .val (.int k n) H)
noncomputable def bitsV (f : Nat → Nat → Nat → Nat) (a b : AV) (H : Heap) : OR := int2 a b fun k a b => valI k (.ofNat (f (modOf k) (bitsOf (modOf k) a) (bitsOf (modOf k) b))) H
noncomputable def shlV (a b : AV) (H : Heap) : OR := onInt a fun k a => onNat b fun b => valI k (imul a (.ofNat (Nat.pow 2 (cond (Nat.ble b 64) b 64)))) H
noncomputable def shrV (a b : AV) (H : Heap) : OR := onInt a fun k a => onNat b fun b => forceI (ishr a (minN b (bitsK k))) fun n => .val (.int k n) H
noncomputable def xorUV (a : AV) (H : Heap) : OR := onInt a fun k a => valI k (.ofNat (Nat.sub (Nat.sub (modOf k) 1) (bitsOf (modOf k) a))) H
noncomputable def cmpV (f : Int → Int → Bool) (g : List UInt8 → List UInt8 → Bool) (a b : AV) (H : Heap) : OR := match a with
  | .int j a => onInt b fun l b => onIf (kEq j l) (vBool (f a b) H)
  | .str a => onStr b fun b => vBool (g a b) H
  | _ => .fail
noncomputable def eqV (f : AV → AV → Option Bool) (neg : Bool) (a b : AV) (H : Heap) : OR := onSome (f a b) fun b => vBool (cond neg (cond b false true) b) H
noncomputable def notV (a : AV) (H : Heap) : OR := onBool a fun b => .val (.bool (cond b false true)) H
noncomputable def pickV (a b c : AV) (H : Heap) : OR := onBool a fun t => .val (cond t b c) H
theorem oNeg_run (x : EvF) (tm : TM) (H : Heap) : oNeg x tm H = negV (x tm) H := rfl
theorem oInt_run (x : EvF) (k : IntKind) (tm : TM) (H : Heap) : oInt x k tm H = intV k (x tm) H := rfl
theorem oAddS_run (x y : EvF) (tm : TM) (H : Heap) : oAddS x y tm H = addV (x tm) (y tm) H := rfl
theorem oSub_run (x y : EvF) (tm : TM) (H : Heap) : oSub x y tm H = subV (x tm) (y tm) H := rfl
theorem oMul_run (x y : EvF) (tm : TM) (H : Heap) : oMul x y tm H = mulV (x tm) (y tm) H := rfl
theorem oQuo_run (x y : EvF) (tm : TM) (H : Heap) : oQuo x y tm H = quoV (x tm) (y tm) H := rfl
theorem oRem_run (x y : EvF) (tm : TM) (H : Heap) : oRem x y tm H = remV (x tm) (y tm) H := rfl
theorem oBits_run (x y : EvF) (f : Nat → Nat → Nat → Nat) (tm : TM) (H : Heap) : oBits x y f tm H = bitsV f (x tm) (y tm) H := rfl
theorem oShl_run (x y : EvF) (tm : TM) (H : Heap) : oShl x y tm H = shlV (x tm) (y tm) H := rfl
theorem oShr_run (x y : EvF) (tm : TM) (H : Heap) : oShr x y tm H = shrV (x tm) (y tm) H := rfl
theorem oXorU_run (x : EvF) (tm : TM) (H : Heap) : oXorU x tm H = xorUV (x tm) H := rfl
theorem oCmp_run (x y : EvF) (f : Int → Int → Bool) (g : List UInt8 → List UInt8 → Bool) (tm : TM) (H : Heap) : oCmp x y f g tm H = cmpV f g (x tm) (y tm) H := rfl
theorem oEq_run (x y : EvF) (f : AV → AV → Option Bool) (neg : Bool) (tm : TM) (H : Heap) : oEq x y f neg tm H = eqV f neg (x tm) (y tm) H := rfl
theorem oNot_run (x : EvF) (tm : TM) (H : Heap) : oNot x tm H = notV (x tm) H := rfl
theorem oPick_run (x y z : EvF) (tm : TM) (H : Heap) : oPick x y z tm H = pickV (x tm) (y tm) (z tm) H := rfl
theorem oCallF_run (f : Nat) (args : List EvF) (tm : TM) (H : Heap) : oCallF f args tm H = .oth (.call f (evs tm args) H) := rfl
/-! numbers -/
theorem vBool_run (b : Bool) (H : Heap) : vBool b H = .val (.bool b) H := by cases b <;> rfl
theorem valI_run (k : IntKind) (n : Int) (H : Heap) : valI k n H = .val (.int k (k.wrap n)) H := by simp only [valI, forceI_eq, wrapI_eq]
theorem wrapU_nat (k : IntKind) (m n : Nat) : wrapU k m (.ofNat n) = .ofNat (n % m) := by
  show cond (Nat.ble m n) (Int.ofNat (Nat.mod n m)) (.ofNat n) = _
  cases h : Nat.ble m n with
  | true => rfl
  | false =>
    have : n < m := by
      have h2 : ¬ m ≤ n := fun hh => by rw [Nat.ble_eq_true_of_le hh] at h; cases h
      omega
    rw [Nat.mod_eq_of_lt this]; rfl
theorem wrap_u8 (n : Nat) : IntKind.u8.wrap (.ofNat n) = .ofNat (n % 256) := by rw [← wrapI_eq]; exact wrapU_nat .u8 256 n
theorem wrap_u32 (n : Nat) : IntKind.u32.wrap (.ofNat n) = .ofNat (n % 4294967296) := by rw [← wrapI_eq]; exact wrapU_nat .u32 4294967296 n
theorem wrap_u64 (n : Nat) : IntKind.u64.wrap (.ofNat n) = .ofNat (n % 18446744073709551616) := by rw [← wrapI_eq]; exact wrapU_nat .u64 18446744073709551616 n
theorem wrap_i64 {n : Nat} (h : n < 9223372036854775808) : IntKind.i64.wrap (.ofNat n) = .ofNat n := by
  rw [← wrapI_eq]
  show cond (Nat.ble 9223372036854775808 n) _ (Int.ofNat n) = _
  cases h2 : Nat.ble 9223372036854775808 n with
  | true => have := Nat.le_of_ble_eq_true h2; omega
  | false => rfl
theorem iadd_nat (a b : Nat) : iadd (.ofNat a) (.ofNat b) = .ofNat (a + b) := rfl
theorem imul_nat (a b : Nat) : imul (.ofNat a) (.ofNat b) = .ofNat (a * b) := rfl
theorem isub_nat {a b : Nat} (h : b ≤ a) : isub (.ofNat a) (.ofNat b) = .ofNat (a - b) := by
  show cond (Nat.ble b a) (Int.ofNat (Nat.sub a b)) (Int.ofNat a - Int.ofNat b) = _
  rw [Nat.ble_eq_true_of_le h]; rfl
theorem bitsOf_nat (m n : Nat) : bitsOf m (.ofNat n) = n % m := rfl
theorem ilt_nat (a b : Nat) : ilt (.ofNat a) (.ofNat b) = decide (a < b) := by
  show Nat.ble (Nat.succ a) b = _
  cases h : Nat.ble (Nat.succ a) b with
  | true => have := Nat.le_of_ble_eq_true h; exact (decide_eq_true this).symm
  | false =>
    have h2 : ¬ Nat.succ a ≤ b := fun hh => by rw [Nat.ble_eq_true_of_le hh] at h; cases h
    exact (decide_eq_false h2).symm
theorem ieq_nat (a b : Nat) : ieq (.ofNat a) (.ofNat b) = decide (a = b) := beq_nat a b
theorem kEq_self (k : IntKind) : kEq k k = true := by cases k <;> rfl
/-- the kinds of numbers -/
def i64 (n : Nat) : AV := nI .i64 n
def u8V (x : UInt8) : AV := .int .u8 (.ofNat x.toNat)
def u32V (x : UInt32) : AV := .int .u32 (.ofNat x.toNat)
theorem addV_i {a b : Nat} (h : a + b < 9223372036854775808) (H : Heap) : addV (nI .i64 a) (nI .i64 b) H = .val (nI .i64 (a + b)) H := by
  show onIf (kEq .i64 .i64) (valI .i64 (iadd (.ofNat a) (.ofNat b)) H) = _
  rw [kEq_self, valI_run, iadd_nat, wrap_i64 h]; rfl
theorem subV_i {a b : Nat} (h : b ≤ a) (h2 : a < 9223372036854775808) (H : Heap) : subV (nI .i64 a) (nI .i64 b) H = .val (nI .i64 (a - b)) H := by
  show onIf (kEq .i64 .i64) (valI .i64 (isub (.ofNat a) (.ofNat b)) H) = _
  rw [kEq_self, valI_run, isub_nat h, wrap_i64 (by omega)]; rfl
theorem mulV_i {a b : Nat} (h : a * b < 9223372036854775808) (H : Heap) : mulV (nI .i64 a) (nI .i64 b) H = .val (nI .i64 (a * b)) H := by
  show onIf (kEq .i64 .i64) (valI .i64 (imul (.ofNat a) (.ofNat b)) H) = _
  rw [kEq_self, valI_run, imul_nat, wrap_i64 h]; rfl
theorem remV_i {a b : Nat} (h : 0 < b) (H : Heap) : remV (nI .i64 a) (nI .i64 b) H = .val (nI .i64 (a % b)) H := by
  show onIf (kEq .i64 .i64) (cond (ieq (.ofNat b) (.ofNat 0)) .fail (forceI (.ofNat (Nat.mod a b)) fun n => .val (.int .i64 n) H)) = _
  rw [kEq_self, ieq_nat, decide_eq_false (by omega), forceI_eq]; rfl
theorem quoV_i {a b : Nat} (h : 0 < b) (h2 : a < 9223372036854775808) (H : Heap) : quoV (nI .i64 a) (nI .i64 b) H = .val (nI .i64 (a / b)) H := by
  show onIf (kEq .i64 .i64) (cond (ieq (.ofNat b) (.ofNat 0)) .fail (valI .i64 (.ofNat (Nat.div a b)) H)) = _
  rw [kEq_self, ieq_nat, decide_eq_false (by omega), valI_run, show (Int.ofNat (Nat.div a b)) = Int.ofNat (a / b) from rfl, wrap_i64 (Nat.lt_of_le_of_lt (Nat.div_le_self a b) h2)]; rfl
theorem cmpV_lt (k : IntKind) (a b : Nat) (H : Heap) : cmpV iltF strLt (nI k a) (nI k b) H = .val (.bool (decide (a < b))) H := by
  show onIf (kEq k k) (vBool (ilt (.ofNat a) (.ofNat b)) H) = _
  rw [kEq_self, vBool_run, ilt_nat]; rfl
theorem cmpV_ge (k : IntKind) (a b : Nat) (H : Heap) : cmpV igeF strGe (nI k a) (nI k b) H = .val (.bool (decide (b ≤ a))) H := by
  show onIf (kEq k k) (vBool (!ilt (.ofNat a) (.ofNat b)) H) = _
  rw [kEq_self, vBool_run, ilt_nat]
  show OR.val (.bool (!decide (a < b))) H = _
  congr 2
  by_cases h : a < b
  · rw [decide_eq_true h, decide_eq_false (by omega)]; rfl
  · rw [decide_eq_false h, decide_eq_true (by omega)]; rfl
theorem eqV_ne (k : IntKind) (a b : Nat) (H : Heap) : eqV eqI true (nI k a) (nI k b) H = .val (.bool (decide (a ≠ b))) H := by
  show onSome (cond (kEq k k) (some (ieq (.ofNat a) (.ofNat b))) none) _ = _
  rw [kEq_self, ieq_nat]
  show vBool (cond true (cond (decide (a = b)) false true) (decide (a = b))) H = _
  rw [vBool_run]
  congr 2
  by_cases h : a = b
  · rw [decide_eq_true h, decide_eq_false (by omega)]; rfl
  · rw [decide_eq_false h, decide_eq_true h]; rfl
theorem eqV_eq (k : IntKind) (a b : Nat) (H : Heap) : eqV eqI false (nI k a) (nI k b) H = .val (.bool (decide (a = b))) H := by
  show onSome (cond (kEq k k) (some (ieq (.ofNat a) (.ofNat b))) none) _ = _
  rw [kEq_self, ieq_nat]
  exact vBool_run _ _
/-! 32 bits -/
theorem addV_32 (a b : UInt32) (H : Heap) : addV (u32V a) (u32V b) H = .val (u32V (a + b)) H := by
  show onIf (kEq .u32 .u32) (valI .u32 (iadd (.ofNat a.toNat) (.ofNat b.toNat)) H) = _
  rw [kEq_self, valI_run, iadd_nat, wrap_u32]; unfold u32V; rw [UInt32.toNat_add]; rfl
theorem lt32 (a : UInt32) : a.toNat < 4294967296 := a.toNat_lt
theorem bits_32 {f : Nat → Nat → Nat → Nat} {a b c : UInt32} (h : f 4294967296 a.toNat b.toNat = c.toNat) (H : Heap) : bitsV f (u32V a) (u32V b) H = .val (u32V c) H := by
  show onIf (kEq .u32 .u32) (valI .u32 (.ofNat (f 4294967296 (bitsOf 4294967296 (.ofNat a.toNat)) (bitsOf 4294967296 (.ofNat b.toNat)))) H) = _
  rw [kEq_self, valI_run, bitsOf_nat, bitsOf_nat, Nat.mod_eq_of_lt (lt32 a), Nat.mod_eq_of_lt (lt32 b), h, wrap_u32, Nat.mod_eq_of_lt (lt32 c)]; rfl
theorem andV_32 (a b : UInt32) (H : Heap) : bitsV landF (u32V a) (u32V b) H = .val (u32V (a &&& b)) H := bits_32 (UInt32.toNat_and a b).symm H
theorem orV_32 (a b : UInt32) (H : Heap) : bitsV lorF (u32V a) (u32V b) H = .val (u32V (a ||| b)) H := bits_32 (UInt32.toNat_or a b).symm H
theorem xorV_32 (a b : UInt32) (H : Heap) : bitsV xorF (u32V a) (u32V b) H = .val (u32V (a ^^^ b)) H := bits_32 (UInt32.toNat_xor a b).symm H
theorem notV_32 (a : UInt32) (H : Heap) : xorUV (u32V a) H = .val (u32V (~~~a)) H := by
  show valI .u32 (.ofNat (Nat.sub (Nat.sub 4294967296 1) (bitsOf 4294967296 (.ofNat a.toNat)))) H = _
  rw [valI_run, bitsOf_nat, Nat.mod_eq_of_lt (lt32 a), wrap_u32]
  unfold u32V
  rw [UInt32.toNat_not]
  have := lt32 a
  congr 3
  show (4294967296 - 1 - a.toNat) % 4294967296 = 4294967296 - 1 - a.toNat
  omega
theorem shrV_32 (a : UInt32) {n : Nat} (h : n < 32) (H : Heap) : shrV (u32V a) (nI .u64 n) H = .val (u32V (a >>> UInt32.ofNat n)) H := by
  show forceI (.ofNat (Nat.div a.toNat (Nat.pow 2 (minN n 32)))) (fun n => OR.val (.int .u32 n) H) = _
  rw [forceI_eq]
  unfold u32V
  rw [UInt32.toNat_shiftRight, UInt32.toNat_ofNat_of_lt' (show n < UInt32.size from Nat.lt_trans h (by decide)), Nat.mod_eq_of_lt h, Nat.shiftRight_eq_div_pow]
  have : minN n 32 = n := by unfold minN; rw [Nat.ble_eq_true_of_le (by omega)]; rfl
  rw [this]; rfl
theorem shlV_32 (a : UInt32) {n : Nat} (h : n < 32) (H : Heap) : shlV (u32V a) (nI .u64 n) H = .val (u32V (a <<< UInt32.ofNat n)) H := by
  show valI .u32 (imul (.ofNat a.toNat) (.ofNat (Nat.pow 2 (cond (Nat.ble n 64) n 64)))) H = _
  rw [valI_run, imul_nat, wrap_u32, Nat.ble_eq_true_of_le (show n ≤ 64 by omega)]
  unfold u32V
  rw [UInt32.toNat_shiftLeft, UInt32.toNat_ofNat_of_lt' (show n < UInt32.size from Nat.lt_trans h (by decide)), Nat.mod_eq_of_lt h, Nat.shiftLeft_eq]
  rfl
end
end Go.AI

/- Running the interpreter on rows whose cells are told by a list. -/
namespace Go.AI
open Go
section
/-! ### Rows -/
structure Cells (r : Row) (l : List AV) : Prop where
  size : r.size = l.length
  get : ∀ i, i < l.length → r.get i = l.getD i .unk
theorem Cells.load {r : Row} {l : List AV} (h : Cells r l) {o n : Nat} (hn : o + n ≤ l.length) : loadN r o n = (l.drop o).take n := by
  refine List.ext_getElem? fun j => ?_
  by_cases hj : j < n
  · rw [loadN_get r n o j hj, List.getElem?_take_of_lt hj, List.getElem?_drop, h.get (o + j) (by omega), List.getD_eq_getElem?_getD]
    rw [List.getElem?_eq_getElem (show o + j < l.length by omega)]; rfl
  · rw [List.getElem?_eq_none (by rw [loadN_length]; omega), List.getElem?_eq_none (by rw [List.length_take, List.length_drop]; omega)]
theorem Cells.store {r : Row} {l : List AV} (h : Cells r l) {o : Nat} {vs : List AV} (ho : o + vs.length ≤ l.length) : Cells (r.setCells (storeN r.cells o vs)) (l.take o ++ (vs ++ l.drop (o + vs.length))) := by
  have hlen : (l.take o ++ (vs ++ l.drop (o + vs.length))).length = l.length := by
    rw [List.length_append, List.length_append, List.length_take, List.length_drop]; omega
  refine ⟨by rw [hlen]; exact h.size, fun i hi => ?_⟩
  rw [hlen] at hi
  rw [Row.get_eq]
  show ((storeN r.cells o vs).get i).getD r.dflt = _
  rw [storeN_get, List.getD_eq_getElem?_getD]
  by_cases h1 : o ≤ i ∧ i < o + vs.length
  · rw [if_pos h1, List.getElem?_append_right (by rw [List.length_take]; omega), List.length_take, Nat.min_eq_left (by omega), List.getElem?_append_left (by omega),
      List.getElem?_eq_getElem (show i - o < vs.length by omega)]; rfl
  · rw [if_neg h1]
    have h2 := h.get i hi
    rw [Row.get_eq, List.getD_eq_getElem?_getD] at h2
    rw [h2]
    by_cases h3 : i < o
    · rw [List.getElem?_append_left (by rw [List.length_take]; omega), List.getElem?_take_of_lt h3]
    · rw [List.getElem?_append_right (by rw [List.length_take]; omega), List.length_take, Nat.min_eq_left (by omega), List.getElem?_append_right (by omega), List.getElem?_drop,
        show o + vs.length + (i - o - vs.length) = i by omega]
theorem Cells.store1 {r : Row} {l : List AV} (h : Cells r l) {o : Nat} {v : AV} (ho : o < l.length) : Cells (r.setCells (storeN r.cells o [v])) (l.set o v) := by
  have := h.store (o := o) (vs := [v]) (by simp; omega)
  rw [List.set_eq_take_append_cons_drop, if_pos ho]
  exact this
theorem Cells.new (e sz : Nat) (l : List AV) (fz : Nat) (sm own ex : Bool) : Cells ⟨e, sz, lenL l, T.ofList l, .unk, fz, sm, own, ex⟩ l := by
  refine ⟨lenL_eq l, fun i hi => ?_⟩
  rw [Row.get_eq]
  show ((T.ofList l).get i).getD .unk = _
  rw [T.get_ofList, List.getD_eq_getElem?_getD]
theorem Cells.zero (e n : Nat) (v : AV) (fz : Nat) (sm own ex : Bool) : Cells ⟨e, 1, n, .leaf, v, fz, sm, own, ex⟩ (List.replicate n v) := by
  refine ⟨by simp, fun i hi => ?_⟩
  rw [List.length_replicate] at hi
  rw [Row.get_eq]
  show ((T.leaf : T AV).get i).getD v = _
  rw [T.get_leaf, List.getD_eq_getElem?_getD, List.getElem?_replicate, if_pos hi]; rfl
/-- a row of the call's own, of single cells -/
structure Own (H : Heap) (b e : Nat) (l : List AV) (r : Row) : Prop where
  at_ : H.t.get b = some (.row r)
  elem : r.elem = e
  sz : r.sz = 1
  own : r.own = true
  fz : r.fz = 0
  sm : r.sm = false
  cells : Cells r l
  ro : H.ro ≤ b
/-! ### Operations -/
noncomputable def load1V (a : AV) (H : Heap) : OR := onPtr a fun b o => onRow H b fun r => onIf (Nat.ble (Nat.succ o) r.size) (.val (r.get o) H)
noncomputable def loadV (n : Nat) (a : AV) (H : Heap) : OR := onPtr a fun b o => onRow H b fun r => onIf (Nat.ble (Nat.add o n) r.size) (.val (.agg (loadN r o n)) H)
noncomputable def storeV (n : Nat) (a v : AV) (H : Heap) : OR := onPtr a fun b o => onRow H b fun r =>
  onIf (Nat.ble 1 n) <| onIf (H.may r b) (onIf (Nat.ble (Nat.add o n) r.size) (onIf (Nat.ble r.fz o) (onIf (Nat.beq (lenL v.cells) n)
    (.val undefA (H.put b (.row (r.setCells (storeN r.cells o v.cells))))))))
def offV (n : Nat) (a : AV) (H : Heap) : OR := onPtr a fun b o => .val (.ptr b (Nat.add o n)) H
def idxAV (n sz : Nat) (a i : AV) (H : Heap) : OR := onNat i fun i => onPtr a fun b o => onIf (Nat.ble (Nat.succ i) n) (.val (.ptr b (Nat.add o (Nat.mul i sz))) H)
def idxSV (sz : Nat) (a i : AV) (H : Heap) : OR := onNat i fun i => onSlice a .fail fun b o len _ => onIf (Nat.ble (Nat.succ i) len) (.val (.ptr b (Nat.add o (Nat.mul i sz))) H)
def nilV (a : AV) (H : Heap) : OR := nonNil a (.val a H)
noncomputable def lenV (a : AV) (H : Heap) : OR := onSlice a (.val (.int .i64 0) H) fun _ _ n _ => forceN n fun n => .val (.int .i64 (.ofNat n)) H
theorem oLoad1_run (x : EvF) (tm : TM) (H : Heap) : oLoad1 x tm H = load1V (x tm) H := rfl
theorem oLoad_run (x : EvF) (n : Nat) (tm : TM) (H : Heap) : oLoad x n tm H = loadV n (x tm) H := rfl
theorem oStore_run (x y : EvF) (n : Nat) (tm : TM) (H : Heap) : oStore x y n tm H = storeV n (x tm) (y tm) H := rfl
theorem oOff_run (x : EvF) (n : Nat) (tm : TM) (H : Heap) : oOff x n tm H = offV n (x tm) H := rfl
theorem oIdxA_run (x y : EvF) (n sz : Nat) (tm : TM) (H : Heap) : oIdxA x y n sz tm H = idxAV n sz (x tm) (y tm) H := rfl
theorem oIdxS_run (x y : EvF) (sz : Nat) (tm : TM) (H : Heap) : oIdxS x y sz tm H = idxSV sz (x tm) (y tm) H := rfl
theorem oNil_run (x : EvF) (tm : TM) (H : Heap) : oNil x tm H = nilV (x tm) H := rfl
theorem oLenL_run (x : EvF) (tm : TM) (H : Heap) : oLenL x tm H = lenV (x tm) H := rfl
theorem oAllocZ_run (e n : Nat) (v : AV) (tm : TM) (H : Heap) : oAllocZ e n v tm H = .val (.ptr H.nx 0) (H.new (.row ⟨e, 1, n, .leaf, v, 0, false, true, true⟩)) := rfl
theorem oAlloc_run (e : Nat) (cs : List AV) (h : 1 ≤ lenL cs) (tm : TM) (H : Heap) : oAlloc e cs tm H = .val (.ptr H.nx 0) (H.newRow e 1 cs true) := by
  show onIf (Nat.ble 1 (lenL cs)) _ = _
  rw [Nat.ble_eq_true_of_le h]; rfl
theorem offV_ptr (n b o : Nat) (H : Heap) : offV n (.ptr b o) H = .val (.ptr b (o + n)) H := rfl
theorem nilV_ptr (b o : Nat) (H : Heap) : nilV (.ptr b o) H = .val (.ptr b o) H := rfl
theorem lenV_slice (b o n : Nat) (c : Option Nat) (H : Heap) : lenV (.slice b o n c) H = .val (nI .i64 n) H := by
  show forceN n (fun n => OR.val (.int .i64 (.ofNat n)) H) = _
  rw [forceN_eq]; rfl
theorem lenV_nil (H : Heap) : lenV .nils H = .val (nI .i64 0) H := rfl
theorem idxAV_ptr {n i : Nat} (h : i < n) (b o : Nat) (k : IntKind) (H : Heap) : idxAV n 1 (.ptr b o) (nI k i) H = .val (.ptr b (o + i)) H := by
  show onIf (Nat.ble (Nat.succ i) n) (.val (.ptr b (o + i * 1)) H) = _
  rw [Nat.ble_eq_true_of_le h, Nat.mul_one]; rfl
theorem idxSV_slice {n i : Nat} (h : i < n) (b o : Nat) (c : Option Nat) (k : IntKind) (H : Heap) : idxSV 1 (.slice b o n c) (nI k i) H = .val (.ptr b (o + i)) H := by
  show onIf (Nat.ble (Nat.succ i) n) (.val (.ptr b (o + i * 1)) H) = _
  rw [Nat.ble_eq_true_of_le h, Nat.mul_one]; rfl
theorem load1V_row {H : Heap} {b o : Nat} {r : Row} {l : List AV} (hr : H.t.get b = some (.row r)) (hc : Cells r l) (ho : o < l.length) : load1V (.ptr b o) H = .val (l.getD o .unk) H := by
  show onRow H b _ = _
  unfold onRow
  rw [hr]
  show onIf (Nat.ble (Nat.succ o) r.size) _ = _
  rw [hc.size, Nat.ble_eq_true_of_le ho, hc.get o ho]; rfl
theorem loadV_row {H : Heap} {b o n : Nat} {r : Row} {l : List AV} (hr : H.t.get b = some (.row r)) (hc : Cells r l) (ho : o + n ≤ l.length) : loadV n (.ptr b o) H = .val (.agg ((l.drop o).take n)) H := by
  show onRow H b _ = _
  unfold onRow
  rw [hr]
  show onIf (Nat.ble (o + n) r.size) _ = _
  rw [hc.size, Nat.ble_eq_true_of_le ho, hc.load ho]; rfl
theorem storeV_row {H : Heap} {b o n : Nat} {r : Row} {l : List AV} {v : AV} (hr : H.t.get b = some (.row r)) (hc : Cells r l) (how : r.own = true) (hro : H.ro ≤ b) (hfz : r.fz = 0) (hn : 1 ≤ n) (hv : v.cells.length = n) (ho : o + n ≤ l.length) :
    storeV n (.ptr b o) v H = .val undefA (H.put b (.row (r.setCells (storeN r.cells o v.cells)))) := by
  show onRow H b _ = _
  unfold onRow
  rw [hr]
  show onIf (Nat.ble 1 n) (onIf (H.may r b) (onIf (Nat.ble (o + n) r.size) (onIf (Nat.ble r.fz o) (onIf (Nat.beq (lenL v.cells) n) _)))) = _
  have h1 : H.may r b = true := by unfold Heap.may; rw [how, Nat.ble_eq_true_of_le hro]; rfl
  rw [Nat.ble_eq_true_of_le hn, h1, hc.size, Nat.ble_eq_true_of_le ho, hfz, Nat.ble_eq_true_of_le (Nat.zero_le _), lenL_eq, hv, Nat.beq_refl]; rfl
/-! ### Heaps -/
theorem put_get (H : Heap) (b c : Nat) (o : Obj) : (H.put b o).t.get c = if b = c then some o else H.t.get c := T.get_set _ _ _ _
theorem new_get (H : Heap) (c : Nat) (o : Obj) : (H.new o).t.get c = if H.nx = c then some o else H.t.get c := T.get_set _ _ _ _
theorem put_nx (H : Heap) (b : Nat) (o : Obj) : (H.put b o).nx = H.nx := rfl
theorem put_ro (H : Heap) (b : Nat) (o : Obj) : (H.put b o).ro = H.ro := rfl
theorem new_nx (H : Heap) (o : Obj) : (H.new o).nx = H.nx + 1 := rfl
theorem new_ro (H : Heap) (o : Obj) : (H.new o).ro = H.ro := rfl
theorem newRow_eq (H : Heap) (e sz : Nat) (l : List AV) (ex : Bool) : H.newRow e sz l ex = H.new (.row ⟨e, sz, lenL l, T.ofList l, .unk, 0, false, true, ex⟩) := rfl
end
end Go.AI

/- Running drawn regions on values that are not known. -/
namespace Go.AI
open Go
section
theorem drawnD_run (l : List PI) (c : Ctx) (tm : TM) (H : Heap) (x : X) : drawnD l c tm H x = planD (l.map (·.dst)) normF l c [] tm H x := rfl
theorem planD_nil (ds : List SetF) (fin : PK) (c : Ctx) (rs : List RD) (tm : TM) (H : Heap) (x : X) : planD ds fin [] c rs tm H x = cond (still tm H rs) (fin rs tm H x) .fail := rfl
theorem planD_cons (ds : List SetF) (fin : PK) (p : PI) (l : List PI) (c : Ctx) (rs : List RD) (tm : TM) (H : Heap) (x : X) : planD ds fin (p :: l) c rs tm H x = stepK ds p (planD ds fin l c) c rs tm H x := rfl
theorem normF_run (rs : List RD) (tm : TM) (H : Heap) (x : X) : normF rs tm H x = .ok .normal tm H x := rfl
section
variable (ds : List SetF) (f : OpF) (os : List (SetF × EvF)) (dst : SetF) (i bef : Nat) (nx : PK) (c : Ctx) (rs : List RD) (tm : TM) (H : Heap) (x : X)
theorem stepK_free : stepK ds ⟨f, none, os, dst, .free, i, bef⟩ nx c rs tm H x = cond (lowOs H.nx tm os) (freeK ⟨f, none, os, dst, .free, i, bef⟩ nx rs tm H x (f (rsF tm os) ⟨H.nx, .leaf, H.nx⟩)) .fail := rfl
theorem stepK_read : stepK ds ⟨f, none, os, dst, .read, i, bef⟩ nx c rs tm H x = readK ⟨f, none, os, dst, .read, i, bef⟩ nx rs tm H x (f (rsF tm os) ⟨H.nx, H.t, H.nx⟩) := rfl
theorem stepK_eff : stepK ds ⟨f, none, os, dst, .eff, i, bef⟩ nx c rs tm H x = cond (still tm H rs) (effK ds ⟨f, none, os, dst, .eff, i, bef⟩ nx rs c tm x (f (rsF tm os) H)) .fail := rfl
variable (g : Option (EvF × Bool)) (kd : Kind) (v : AV) (H' : Heap)
theorem freeK_val : freeK ⟨f, g, os, dst, kd, i, bef⟩ nx rs tm H x (.val v ⟨H.nx, .leaf, H.nx⟩) = nx rs (dst tm v) H x := by
  show cond (Nat.beq H.nx H.nx) (nx rs (dst tm v) H x) _ = _
  rw [Nat.beq_refl]; rfl
theorem readK_val : readK ⟨f, g, os, dst, kd, i, bef⟩ nx rs tm H x (.val v ⟨H.nx, H.t, H.nx⟩) = nx (⟨⟨f, g, os, dst, kd, i, bef⟩, v⟩ :: rs) (dst tm v) H x := by
  show cond (Nat.beq H.nx H.nx) _ _ = _
  rw [Nat.beq_refl]; rfl
theorem effK_val : effK ds ⟨f, g, os, dst, kd, i, bef⟩ nx rs c tm x (.val v H') = nx (keepR bef rs) (dst tm v) H' x := rfl
theorem effK_call (q : Nat) (args : List AV) : effK ds ⟨f, g, os, dst, kd, i, bef⟩ nx rs c tm x (.oth (.call q args H')) = retK ds ⟨f, g, os, dst, kd, i, bef⟩ nx rs tm x (c.call q args H') := rfl
theorem retK_ret : retK ds ⟨f, g, os, dst, kd, i, bef⟩ nx rs tm x (.ret v H') = nx (keepR bef rs) (dst tm v) H' x := rfl
theorem keepR_nil (b : Nat) : keepR b [] = [] := rfl
theorem keepR_cons (b : Nat) : keepR b (⟨⟨f, g, os, dst, kd, i, bef⟩, v⟩ :: rs) = cond (Nat.testBit b i) (keepR b rs) (⟨⟨f, g, os, dst, kd, i, bef⟩, v⟩ :: keepR b rs) := rfl
theorem still_nil : still tm H [] = true := rfl
theorem still_cons : still tm H (⟨⟨f, g, os, dst, kd, i, bef⟩, v⟩ :: rs) = cond (rdOk ⟨⟨f, g, os, dst, kd, i, bef⟩, v⟩ tm H) (still tm H rs) false := rfl
noncomputable def isSame (r : OR) (w : AV) (n : Nat) : Bool := OR.rec (fun v H1 => cond (Nat.beq H1.nx n) (same v w) false) (fun _ => false) r
theorem rdOk_run : rdOk ⟨⟨f, g, os, dst, kd, i, bef⟩, v⟩ tm H = isSame (f (rsF tm os) ⟨H.nx, H.t, H.nx⟩) v H.nx := rfl
end
theorem isSame_val (v : AV) (n : Nat) (t : T Obj) (h : same v v = true) : isSame (.val v ⟨n, t, n⟩) v n = true := by
  show cond (Nat.beq n n) (same v v) false = true
  rw [Nat.beq_refl, h]; rfl
theorem same_int (k : IntKind) (n : Int) : same (.int k n) (.int k n) = true := by
  show cond (kEq k k) (ieq n n) false = true
  rw [kEq_self, ieq_eq]; simp
theorem same_u32 (x : UInt32) : same (u32V x) (u32V x) = true := same_int ..
theorem same_u8 (x : UInt8) : same (u8V x) (u8V x) = true := same_int ..
theorem same_nI (k : IntKind) (n : Nat) : same (nI k n) (nI k n) = true := same_int ..
theorem isSame_u32 (v : UInt32) (n : Nat) (t : T Obj) : isSame (.val (u32V v) ⟨n, t, n⟩) (u32V v) n = true := isSame_val _ _ _ (same_u32 v)
theorem isSame_u8 (v : UInt8) (n : Nat) (t : T Obj) : isSame (.val (u8V v) ⟨n, t, n⟩) (u8V v) n = true := isSame_val _ _ _ (same_u8 v)
theorem isSame_nI (k : IntKind) (v : Nat) (n : Nat) (t : T Obj) : isSame (.val (nI k v) ⟨n, t, n⟩) (nI k v) n = true := isSame_val _ _ _ (same_nI k v)
theorem lowOs_nil (n : Nat) (tm : TM) : lowOs n tm [] = true := rfl
theorem lowOs_cons (n : Nat) (tm : TM) (s : SetF) (g : EvF) (os : List (SetF × EvF)) : lowOs n tm ((s, g) :: os) = cond (lowV n (g tm)) (lowOs n tm os) false := rfl
theorem lowV_nI (n : Nat) (k : IntKind) (m : Nat) : lowV n (nI k m) = true := rfl
theorem lowV_u32 (n : Nat) (x : UInt32) : lowV n (u32V x) = true := rfl
theorem lowV_u8 (n : Nat) (x : UInt8) : lowV n (u8V x) = true := rfl
theorem lowV_bool (n : Nat) (x : Bool) : lowV n (.bool x) = true := rfl
theorem lowV_ptr {n b : Nat} (h : b < n) (o : Nat) : lowV n (.ptr b o) = true := Nat.ble_eq_true_of_le h
theorem lowV_slice {n b : Nat} (h : b < n) (o l : Nat) (c : Option Nat) : lowV n (.slice b o l c) = true := Nat.ble_eq_true_of_le h
theorem rsF_nil (tm : TM) : rsF tm [] = tm0 := rfl
theorem rsF_cons (tm : TM) (s : SetF) (g : EvF) (os : List (SetF × EvF)) : rsF tm ((s, g) :: os) = s (rsF tm os) (g tm) := rfl
end
end Go.AI

/- Reading and writing temporaries, by number. -/
namespace Go.AI
section
theorem gtr0 (tm : TM) : gt0 tm = N8.a0 (N8.a0 (N8.a0 tm)) := rfl
theorem str0 (tm : TM) (v : AV) : st0 tm v = N8.u0 (N8.u0 (N8.u0 fun _ => v)) tm := rfl
theorem gtr1 (tm : TM) : gt1 tm = N8.a1 (N8.a0 (N8.a0 tm)) := rfl
theorem str1 (tm : TM) (v : AV) : st1 tm v = N8.u0 (N8.u0 (N8.u1 fun _ => v)) tm := rfl
theorem gtr2 (tm : TM) : gt2 tm = N8.a2 (N8.a0 (N8.a0 tm)) := rfl
theorem str2 (tm : TM) (v : AV) : st2 tm v = N8.u0 (N8.u0 (N8.u2 fun _ => v)) tm := rfl
theorem gtr3 (tm : TM) : gt3 tm = N8.a3 (N8.a0 (N8.a0 tm)) := rfl
theorem str3 (tm : TM) (v : AV) : st3 tm v = N8.u0 (N8.u0 (N8.u3 fun _ => v)) tm := rfl
theorem gtr4 (tm : TM) : gt4 tm = N8.a4 (N8.a0 (N8.a0 tm)) := rfl
theorem str4 (tm : TM) (v : AV) : st4 tm v = N8.u0 (N8.u0 (N8.u4 fun _ => v)) tm := rfl
theorem gtr5 (tm : TM) : gt5 tm = N8.a5 (N8.a0 (N8.a0 tm)) := rfl
theorem str5 (tm : TM) (v : AV) : st5 tm v = N8.u0 (N8.u0 (N8.u5 fun _ => v)) tm := rfl
theorem gtr6 (tm : TM) : gt6 tm = N8.a6 (N8.a0 (N8.a0 tm)) := rfl
theorem str6 (tm : TM) (v : AV) : st6 tm v = N8.u0 (N8.u0 (N8.u6 fun _ => v)) tm := rfl
theorem gtr7 (tm : TM) : gt7 tm = N8.a7 (N8.a0 (N8.a0 tm)) := rfl
theorem str7 (tm : TM) (v : AV) : st7 tm v = N8.u0 (N8.u0 (N8.u7 fun _ => v)) tm := rfl
theorem gtr8 (tm : TM) : gt8 tm = N8.a0 (N8.a1 (N8.a0 tm)) := rfl
theorem str8 (tm : TM) (v : AV) : st8 tm v = N8.u0 (N8.u1 (N8.u0 fun _ => v)) tm := rfl
theorem gtr9 (tm : TM) : gt9 tm = N8.a1 (N8.a1 (N8.a0 tm)) := rfl
theorem str9 (tm : TM) (v : AV) : st9 tm v = N8.u0 (N8.u1 (N8.u1 fun _ => v)) tm := rfl
theorem gtr10 (tm : TM) : gt10 tm = N8.a2 (N8.a1 (N8.a0 tm)) := rfl
theorem str10 (tm : TM) (v : AV) : st10 tm v = N8.u0 (N8.u1 (N8.u2 fun _ => v)) tm := rfl
theorem gtr11 (tm : TM) : gt11 tm = N8.a3 (N8.a1 (N8.a0 tm)) := rfl
theorem str11 (tm : TM) (v : AV) : st11 tm v = N8.u0 (N8.u1 (N8.u3 fun _ => v)) tm := rfl
theorem gtr12 (tm : TM) : gt12 tm = N8.a4 (N8.a1 (N8.a0 tm)) := rfl
theorem str12 (tm : TM) (v : AV) : st12 tm v = N8.u0 (N8.u1 (N8.u4 fun _ => v)) tm := rfl
theorem gtr13 (tm : TM) : gt13 tm = N8.a5 (N8.a1 (N8.a0 tm)) := rfl
theorem str13 (tm : TM) (v : AV) : st13 tm v = N8.u0 (N8.u1 (N8.u5 fun _ => v)) tm := rfl
theorem gtr14 (tm : TM) : gt14 tm = N8.a6 (N8.a1 (N8.a0 tm)) := rfl
theorem str14 (tm : TM) (v : AV) : st14 tm v = N8.u0 (N8.u1 (N8.u6 fun _ => v)) tm := rfl
theorem gtr15 (tm : TM) : gt15 tm = N8.a7 (N8.a1 (N8.a0 tm)) := rfl
theorem str15 (tm : TM) (v : AV) : st15 tm v = N8.u0 (N8.u1 (N8.u7 fun _ => v)) tm := rfl
theorem gtr16 (tm : TM) : gt16 tm = N8.a0 (N8.a2 (N8.a0 tm)) := rfl
theorem str16 (tm : TM) (v : AV) : st16 tm v = N8.u0 (N8.u2 (N8.u0 fun _ => v)) tm := rfl
theorem gtr17 (tm : TM) : gt17 tm = N8.a1 (N8.a2 (N8.a0 tm)) := rfl
theorem str17 (tm : TM) (v : AV) : st17 tm v = N8.u0 (N8.u2 (N8.u1 fun _ => v)) tm := rfl
theorem gtr18 (tm : TM) : gt18 tm = N8.a2 (N8.a2 (N8.a0 tm)) := rfl
theorem str18 (tm : TM) (v : AV) : st18 tm v = N8.u0 (N8.u2 (N8.u2 fun _ => v)) tm := rfl
theorem gtr19 (tm : TM) : gt19 tm = N8.a3 (N8.a2 (N8.a0 tm)) := rfl
theorem str19 (tm : TM) (v : AV) : st19 tm v = N8.u0 (N8.u2 (N8.u3 fun _ => v)) tm := rfl
theorem gtr20 (tm : TM) : gt20 tm = N8.a4 (N8.a2 (N8.a0 tm)) := rfl
theorem str20 (tm : TM) (v : AV) : st20 tm v = N8.u0 (N8.u2 (N8.u4 fun _ => v)) tm := rfl
theorem gtr21 (tm : TM) : gt21 tm = N8.a5 (N8.a2 (N8.a0 tm)) := rfl
theorem str21 (tm : TM) (v : AV) : st21 tm v = N8.u0 (N8.u2 (N8.u5 fun _ => v)) tm := rfl
theorem gtr22 (tm : TM) : gt22 tm = N8.a6 (N8.a2 (N8.a0 tm)) := rfl
theorem str22 (tm : TM) (v : AV) : st22 tm v = N8.u0 (N8.u2 (N8.u6 fun _ => v)) tm := rfl
theorem gtr23 (tm : TM) : gt23 tm = N8.a7 (N8.a2 (N8.a0 tm)) := rfl
theorem str23 (tm : TM) (v : AV) : st23 tm v = N8.u0 (N8.u2 (N8.u7 fun _ => v)) tm := rfl
theorem gtr24 (tm : TM) : gt24 tm = N8.a0 (N8.a3 (N8.a0 tm)) := rfl
theorem str24 (tm : TM) (v : AV) : st24 tm v = N8.u0 (N8.u3 (N8.u0 fun _ => v)) tm := rfl
theorem gtr25 (tm : TM) : gt25 tm = N8.a1 (N8.a3 (N8.a0 tm)) := rfl
theorem str25 (tm : TM) (v : AV) : st25 tm v = N8.u0 (N8.u3 (N8.u1 fun _ => v)) tm := rfl
theorem gtr26 (tm : TM) : gt26 tm = N8.a2 (N8.a3 (N8.a0 tm)) := rfl
theorem str26 (tm : TM) (v : AV) : st26 tm v = N8.u0 (N8.u3 (N8.u2 fun _ => v)) tm := rfl
theorem gtr27 (tm : TM) : gt27 tm = N8.a3 (N8.a3 (N8.a0 tm)) := rfl
theorem str27 (tm : TM) (v : AV) : st27 tm v = N8.u0 (N8.u3 (N8.u3 fun _ => v)) tm := rfl
theorem gtr28 (tm : TM) : gt28 tm = N8.a4 (N8.a3 (N8.a0 tm)) := rfl
theorem str28 (tm : TM) (v : AV) : st28 tm v = N8.u0 (N8.u3 (N8.u4 fun _ => v)) tm := rfl
theorem gtr29 (tm : TM) : gt29 tm = N8.a5 (N8.a3 (N8.a0 tm)) := rfl
theorem str29 (tm : TM) (v : AV) : st29 tm v = N8.u0 (N8.u3 (N8.u5 fun _ => v)) tm := rfl
theorem gtr30 (tm : TM) : gt30 tm = N8.a6 (N8.a3 (N8.a0 tm)) := rfl
theorem str30 (tm : TM) (v : AV) : st30 tm v = N8.u0 (N8.u3 (N8.u6 fun _ => v)) tm := rfl
theorem gtr31 (tm : TM) : gt31 tm = N8.a7 (N8.a3 (N8.a0 tm)) := rfl
theorem str31 (tm : TM) (v : AV) : st31 tm v = N8.u0 (N8.u3 (N8.u7 fun _ => v)) tm := rfl
theorem gtr32 (tm : TM) : gt32 tm = N8.a0 (N8.a4 (N8.a0 tm)) := rfl
theorem str32 (tm : TM) (v : AV) : st32 tm v = N8.u0 (N8.u4 (N8.u0 fun _ => v)) tm := rfl
theorem gtr33 (tm : TM) : gt33 tm = N8.a1 (N8.a4 (N8.a0 tm)) := rfl
theorem str33 (tm : TM) (v : AV) : st33 tm v = N8.u0 (N8.u4 (N8.u1 fun _ => v)) tm := rfl
theorem gtr34 (tm : TM) : gt34 tm = N8.a2 (N8.a4 (N8.a0 tm)) := rfl
theorem str34 (tm : TM) (v : AV) : st34 tm v = N8.u0 (N8.u4 (N8.u2 fun _ => v)) tm := rfl
theorem gtr35 (tm : TM) : gt35 tm = N8.a3 (N8.a4 (N8.a0 tm)) := rfl
theorem str35 (tm : TM) (v : AV) : st35 tm v = N8.u0 (N8.u4 (N8.u3 fun _ => v)) tm := rfl
theorem gtr36 (tm : TM) : gt36 tm = N8.a4 (N8.a4 (N8.a0 tm)) := rfl
theorem str36 (tm : TM) (v : AV) : st36 tm v = N8.u0 (N8.u4 (N8.u4 fun _ => v)) tm := rfl
theorem gtr37 (tm : TM) : gt37 tm = N8.a5 (N8.a4 (N8.a0 tm)) := rfl
theorem str37 (tm : TM) (v : AV) : st37 tm v = N8.u0 (N8.u4 (N8.u5 fun _ => v)) tm := rfl
theorem gtr38 (tm : TM) : gt38 tm = N8.a6 (N8.a4 (N8.a0 tm)) := rfl
theorem str38 (tm : TM) (v : AV) : st38 tm v = N8.u0 (N8.u4 (N8.u6 fun _ => v)) tm := rfl
theorem gtr39 (tm : TM) : gt39 tm = N8.a7 (N8.a4 (N8.a0 tm)) := rfl
theorem str39 (tm : TM) (v : AV) : st39 tm v = N8.u0 (N8.u4 (N8.u7 fun _ => v)) tm := rfl
theorem gtr40 (tm : TM) : gt40 tm = N8.a0 (N8.a5 (N8.a0 tm)) := rfl
theorem str40 (tm : TM) (v : AV) : st40 tm v = N8.u0 (N8.u5 (N8.u0 fun _ => v)) tm := rfl
theorem gtr41 (tm : TM) : gt41 tm = N8.a1 (N8.a5 (N8.a0 tm)) := rfl
theorem str41 (tm : TM) (v : AV) : st41 tm v = N8.u0 (N8.u5 (N8.u1 fun _ => v)) tm := rfl
theorem gtr42 (tm : TM) : gt42 tm = N8.a2 (N8.a5 (N8.a0 tm)) := rfl
theorem str42 (tm : TM) (v : AV) : st42 tm v = N8.u0 (N8.u5 (N8.u2 fun _ => v)) tm := rfl
theorem gtr43 (tm : TM) : gt43 tm = N8.a3 (N8.a5 (N8.a0 tm)) := rfl
theorem str43 (tm : TM) (v : AV) : st43 tm v = N8.u0 (N8.u5 (N8.u3 fun _ => v)) tm := rfl
theorem gtr44 (tm : TM) : gt44 tm = N8.a4 (N8.a5 (N8.a0 tm)) := rfl
theorem str44 (tm : TM) (v : AV) : st44 tm v = N8.u0 (N8.u5 (N8.u4 fun _ => v)) tm := rfl
theorem gtr45 (tm : TM) : gt45 tm = N8.a5 (N8.a5 (N8.a0 tm)) := rfl
theorem str45 (tm : TM) (v : AV) : st45 tm v = N8.u0 (N8.u5 (N8.u5 fun _ => v)) tm := rfl
theorem gtr46 (tm : TM) : gt46 tm = N8.a6 (N8.a5 (N8.a0 tm)) := rfl
theorem str46 (tm : TM) (v : AV) : st46 tm v = N8.u0 (N8.u5 (N8.u6 fun _ => v)) tm := rfl
theorem gtr47 (tm : TM) : gt47 tm = N8.a7 (N8.a5 (N8.a0 tm)) := rfl
theorem str47 (tm : TM) (v : AV) : st47 tm v = N8.u0 (N8.u5 (N8.u7 fun _ => v)) tm := rfl
theorem gtr48 (tm : TM) : gt48 tm = N8.a0 (N8.a6 (N8.a0 tm)) := rfl
theorem str48 (tm : TM) (v : AV) : st48 tm v = N8.u0 (N8.u6 (N8.u0 fun _ => v)) tm := rfl
theorem gtr49 (tm : TM) : gt49 tm = N8.a1 (N8.a6 (N8.a0 tm)) := rfl
theorem str49 (tm : TM) (v : AV) : st49 tm v = N8.u0 (N8.u6 (N8.u1 fun _ => v)) tm := rfl
theorem gtr50 (tm : TM) : gt50 tm = N8.a2 (N8.a6 (N8.a0 tm)) := rfl
theorem str50 (tm : TM) (v : AV) : st50 tm v = N8.u0 (N8.u6 (N8.u2 fun _ => v)) tm := rfl
theorem gtr51 (tm : TM) : gt51 tm = N8.a3 (N8.a6 (N8.a0 tm)) := rfl
theorem str51 (tm : TM) (v : AV) : st51 tm v = N8.u0 (N8.u6 (N8.u3 fun _ => v)) tm := rfl
theorem gtr52 (tm : TM) : gt52 tm = N8.a4 (N8.a6 (N8.a0 tm)) := rfl
theorem str52 (tm : TM) (v : AV) : st52 tm v = N8.u0 (N8.u6 (N8.u4 fun _ => v)) tm := rfl
theorem gtr53 (tm : TM) : gt53 tm = N8.a5 (N8.a6 (N8.a0 tm)) := rfl
theorem str53 (tm : TM) (v : AV) : st53 tm v = N8.u0 (N8.u6 (N8.u5 fun _ => v)) tm := rfl
theorem gtr54 (tm : TM) : gt54 tm = N8.a6 (N8.a6 (N8.a0 tm)) := rfl
theorem str54 (tm : TM) (v : AV) : st54 tm v = N8.u0 (N8.u6 (N8.u6 fun _ => v)) tm := rfl
theorem gtr55 (tm : TM) : gt55 tm = N8.a7 (N8.a6 (N8.a0 tm)) := rfl
theorem str55 (tm : TM) (v : AV) : st55 tm v = N8.u0 (N8.u6 (N8.u7 fun _ => v)) tm := rfl
theorem gtr56 (tm : TM) : gt56 tm = N8.a0 (N8.a7 (N8.a0 tm)) := rfl
theorem str56 (tm : TM) (v : AV) : st56 tm v = N8.u0 (N8.u7 (N8.u0 fun _ => v)) tm := rfl
theorem gtr57 (tm : TM) : gt57 tm = N8.a1 (N8.a7 (N8.a0 tm)) := rfl
theorem str57 (tm : TM) (v : AV) : st57 tm v = N8.u0 (N8.u7 (N8.u1 fun _ => v)) tm := rfl
theorem gtr58 (tm : TM) : gt58 tm = N8.a2 (N8.a7 (N8.a0 tm)) := rfl
theorem str58 (tm : TM) (v : AV) : st58 tm v = N8.u0 (N8.u7 (N8.u2 fun _ => v)) tm := rfl
theorem gtr59 (tm : TM) : gt59 tm = N8.a3 (N8.a7 (N8.a0 tm)) := rfl
theorem str59 (tm : TM) (v : AV) : st59 tm v = N8.u0 (N8.u7 (N8.u3 fun _ => v)) tm := rfl
theorem gtr60 (tm : TM) : gt60 tm = N8.a4 (N8.a7 (N8.a0 tm)) := rfl
theorem str60 (tm : TM) (v : AV) : st60 tm v = N8.u0 (N8.u7 (N8.u4 fun _ => v)) tm := rfl
theorem gtr61 (tm : TM) : gt61 tm = N8.a5 (N8.a7 (N8.a0 tm)) := rfl
theorem str61 (tm : TM) (v : AV) : st61 tm v = N8.u0 (N8.u7 (N8.u5 fun _ => v)) tm := rfl
theorem gtr62 (tm : TM) : gt62 tm = N8.a6 (N8.a7 (N8.a0 tm)) := rfl
theorem str62 (tm : TM) (v : AV) : st62 tm v = N8.u0 (N8.u7 (N8.u6 fun _ => v)) tm := rfl
theorem gtr63 (tm : TM) : gt63 tm = N8.a7 (N8.a7 (N8.a0 tm)) := rfl
theorem str63 (tm : TM) (v : AV) : st63 tm v = N8.u0 (N8.u7 (N8.u7 fun _ => v)) tm := rfl
theorem gtr64 (tm : TM) : gt64 tm = N8.a0 (N8.a0 (N8.a1 tm)) := rfl
theorem str64 (tm : TM) (v : AV) : st64 tm v = N8.u1 (N8.u0 (N8.u0 fun _ => v)) tm := rfl
theorem gtr65 (tm : TM) : gt65 tm = N8.a1 (N8.a0 (N8.a1 tm)) := rfl
theorem str65 (tm : TM) (v : AV) : st65 tm v = N8.u1 (N8.u0 (N8.u1 fun _ => v)) tm := rfl
theorem gtr66 (tm : TM) : gt66 tm = N8.a2 (N8.a0 (N8.a1 tm)) := rfl
theorem str66 (tm : TM) (v : AV) : st66 tm v = N8.u1 (N8.u0 (N8.u2 fun _ => v)) tm := rfl
theorem gtr67 (tm : TM) : gt67 tm = N8.a3 (N8.a0 (N8.a1 tm)) := rfl
theorem str67 (tm : TM) (v : AV) : st67 tm v = N8.u1 (N8.u0 (N8.u3 fun _ => v)) tm := rfl
theorem gtr68 (tm : TM) : gt68 tm = N8.a4 (N8.a0 (N8.a1 tm)) := rfl
theorem str68 (tm : TM) (v : AV) : st68 tm v = N8.u1 (N8.u0 (N8.u4 fun _ => v)) tm := rfl
theorem gtr69 (tm : TM) : gt69 tm = N8.a5 (N8.a0 (N8.a1 tm)) := rfl
theorem str69 (tm : TM) (v : AV) : st69 tm v = N8.u1 (N8.u0 (N8.u5 fun _ => v)) tm := rfl
theorem gtr70 (tm : TM) : gt70 tm = N8.a6 (N8.a0 (N8.a1 tm)) := rfl
theorem str70 (tm : TM) (v : AV) : st70 tm v = N8.u1 (N8.u0 (N8.u6 fun _ => v)) tm := rfl
theorem gtr71 (tm : TM) : gt71 tm = N8.a7 (N8.a0 (N8.a1 tm)) := rfl
theorem str71 (tm : TM) (v : AV) : st71 tm v = N8.u1 (N8.u0 (N8.u7 fun _ => v)) tm := rfl
theorem gtr72 (tm : TM) : gt72 tm = N8.a0 (N8.a1 (N8.a1 tm)) := rfl
theorem str72 (tm : TM) (v : AV) : st72 tm v = N8.u1 (N8.u1 (N8.u0 fun _ => v)) tm := rfl
theorem gtr73 (tm : TM) : gt73 tm = N8.a1 (N8.a1 (N8.a1 tm)) := rfl
theorem str73 (tm : TM) (v : AV) : st73 tm v = N8.u1 (N8.u1 (N8.u1 fun _ => v)) tm := rfl
theorem gtr74 (tm : TM) : gt74 tm = N8.a2 (N8.a1 (N8.a1 tm)) := rfl
theorem str74 (tm : TM) (v : AV) : st74 tm v = N8.u1 (N8.u1 (N8.u2 fun _ => v)) tm := rfl
theorem gtr75 (tm : TM) : gt75 tm = N8.a3 (N8.a1 (N8.a1 tm)) := rfl
theorem str75 (tm : TM) (v : AV) : st75 tm v = N8.u1 (N8.u1 (N8.u3 fun _ => v)) tm := rfl
theorem gtr76 (tm : TM) : gt76 tm = N8.a4 (N8.a1 (N8.a1 tm)) := rfl
theorem str76 (tm : TM) (v : AV) : st76 tm v = N8.u1 (N8.u1 (N8.u4 fun _ => v)) tm := rfl
theorem gtr77 (tm : TM) : gt77 tm = N8.a5 (N8.a1 (N8.a1 tm)) := rfl
theorem str77 (tm : TM) (v : AV) : st77 tm v = N8.u1 (N8.u1 (N8.u5 fun _ => v)) tm := rfl
theorem gtr78 (tm : TM) : gt78 tm = N8.a6 (N8.a1 (N8.a1 tm)) := rfl
theorem str78 (tm : TM) (v : AV) : st78 tm v = N8.u1 (N8.u1 (N8.u6 fun _ => v)) tm := rfl
theorem gtr79 (tm : TM) : gt79 tm = N8.a7 (N8.a1 (N8.a1 tm)) := rfl
theorem str79 (tm : TM) (v : AV) : st79 tm v = N8.u1 (N8.u1 (N8.u7 fun _ => v)) tm := rfl
theorem gtr80 (tm : TM) : gt80 tm = N8.a0 (N8.a2 (N8.a1 tm)) := rfl
theorem str80 (tm : TM) (v : AV) : st80 tm v = N8.u1 (N8.u2 (N8.u0 fun _ => v)) tm := rfl
theorem gtr81 (tm : TM) : gt81 tm = N8.a1 (N8.a2 (N8.a1 tm)) := rfl
theorem str81 (tm : TM) (v : AV) : st81 tm v = N8.u1 (N8.u2 (N8.u1 fun _ => v)) tm := rfl
theorem gtr82 (tm : TM) : gt82 tm = N8.a2 (N8.a2 (N8.a1 tm)) := rfl
theorem str82 (tm : TM) (v : AV) : st82 tm v = N8.u1 (N8.u2 (N8.u2 fun _ => v)) tm := rfl
theorem gtr83 (tm : TM) : gt83 tm = N8.a3 (N8.a2 (N8.a1 tm)) := rfl
theorem str83 (tm : TM) (v : AV) : st83 tm v = N8.u1 (N8.u2 (N8.u3 fun _ => v)) tm := rfl
theorem gtr84 (tm : TM) : gt84 tm = N8.a4 (N8.a2 (N8.a1 tm)) := rfl
theorem str84 (tm : TM) (v : AV) : st84 tm v = N8.u1 (N8.u2 (N8.u4 fun _ => v)) tm := rfl
theorem gtr85 (tm : TM) : gt85 tm = N8.a5 (N8.a2 (N8.a1 tm)) := rfl
theorem str85 (tm : TM) (v : AV) : st85 tm v = N8.u1 (N8.u2 (N8.u5 fun _ => v)) tm := rfl
theorem gtr86 (tm : TM) : gt86 tm = N8.a6 (N8.a2 (N8.a1 tm)) := rfl
theorem str86 (tm : TM) (v : AV) : st86 tm v = N8.u1 (N8.u2 (N8.u6 fun _ => v)) tm := rfl
theorem gtr87 (tm : TM) : gt87 tm = N8.a7 (N8.a2 (N8.a1 tm)) := rfl
theorem str87 (tm : TM) (v : AV) : st87 tm v = N8.u1 (N8.u2 (N8.u7 fun _ => v)) tm := rfl
theorem gtr88 (tm : TM) : gt88 tm = N8.a0 (N8.a3 (N8.a1 tm)) := rfl
theorem str88 (tm : TM) (v : AV) : st88 tm v = N8.u1 (N8.u3 (N8.u0 fun _ => v)) tm := rfl
theorem gtr89 (tm : TM) : gt89 tm = N8.a1 (N8.a3 (N8.a1 tm)) := rfl
theorem str89 (tm : TM) (v : AV) : st89 tm v = N8.u1 (N8.u3 (N8.u1 fun _ => v)) tm := rfl
theorem gtr90 (tm : TM) : gt90 tm = N8.a2 (N8.a3 (N8.a1 tm)) := rfl
theorem str90 (tm : TM) (v : AV) : st90 tm v = N8.u1 (N8.u3 (N8.u2 fun _ => v)) tm := rfl
theorem gtr91 (tm : TM) : gt91 tm = N8.a3 (N8.a3 (N8.a1 tm)) := rfl
theorem str91 (tm : TM) (v : AV) : st91 tm v = N8.u1 (N8.u3 (N8.u3 fun _ => v)) tm := rfl
theorem gtr92 (tm : TM) : gt92 tm = N8.a4 (N8.a3 (N8.a1 tm)) := rfl
theorem str92 (tm : TM) (v : AV) : st92 tm v = N8.u1 (N8.u3 (N8.u4 fun _ => v)) tm := rfl
theorem gtr93 (tm : TM) : gt93 tm = N8.a5 (N8.a3 (N8.a1 tm)) := rfl
theorem str93 (tm : TM) (v : AV) : st93 tm v = N8.u1 (N8.u3 (N8.u5 fun _ => v)) tm := rfl
theorem gtr94 (tm : TM) : gt94 tm = N8.a6 (N8.a3 (N8.a1 tm)) := rfl
theorem str94 (tm : TM) (v : AV) : st94 tm v = N8.u1 (N8.u3 (N8.u6 fun _ => v)) tm := rfl
theorem gtr95 (tm : TM) : gt95 tm = N8.a7 (N8.a3 (N8.a1 tm)) := rfl
theorem str95 (tm : TM) (v : AV) : st95 tm v = N8.u1 (N8.u3 (N8.u7 fun _ => v)) tm := rfl
theorem gtr96 (tm : TM) : gt96 tm = N8.a0 (N8.a4 (N8.a1 tm)) := rfl
theorem str96 (tm : TM) (v : AV) : st96 tm v = N8.u1 (N8.u4 (N8.u0 fun _ => v)) tm := rfl
theorem gtr97 (tm : TM) : gt97 tm = N8.a1 (N8.a4 (N8.a1 tm)) := rfl
theorem str97 (tm : TM) (v : AV) : st97 tm v = N8.u1 (N8.u4 (N8.u1 fun _ => v)) tm := rfl
theorem gtr98 (tm : TM) : gt98 tm = N8.a2 (N8.a4 (N8.a1 tm)) := rfl
theorem str98 (tm : TM) (v : AV) : st98 tm v = N8.u1 (N8.u4 (N8.u2 fun _ => v)) tm := rfl
theorem gtr99 (tm : TM) : gt99 tm = N8.a3 (N8.a4 (N8.a1 tm)) := rfl
theorem str99 (tm : TM) (v : AV) : st99 tm v = N8.u1 (N8.u4 (N8.u3 fun _ => v)) tm := rfl
theorem gtr100 (tm : TM) : gt100 tm = N8.a4 (N8.a4 (N8.a1 tm)) := rfl
theorem str100 (tm : TM) (v : AV) : st100 tm v = N8.u1 (N8.u4 (N8.u4 fun _ => v)) tm := rfl
theorem gtr101 (tm : TM) : gt101 tm = N8.a5 (N8.a4 (N8.a1 tm)) := rfl
theorem str101 (tm : TM) (v : AV) : st101 tm v = N8.u1 (N8.u4 (N8.u5 fun _ => v)) tm := rfl
theorem gtr102 (tm : TM) : gt102 tm = N8.a6 (N8.a4 (N8.a1 tm)) := rfl
theorem str102 (tm : TM) (v : AV) : st102 tm v = N8.u1 (N8.u4 (N8.u6 fun _ => v)) tm := rfl
theorem gtr103 (tm : TM) : gt103 tm = N8.a7 (N8.a4 (N8.a1 tm)) := rfl
theorem str103 (tm : TM) (v : AV) : st103 tm v = N8.u1 (N8.u4 (N8.u7 fun _ => v)) tm := rfl
theorem gtr104 (tm : TM) : gt104 tm = N8.a0 (N8.a5 (N8.a1 tm)) := rfl
theorem str104 (tm : TM) (v : AV) : st104 tm v = N8.u1 (N8.u5 (N8.u0 fun _ => v)) tm := rfl
theorem gtr105 (tm : TM) : gt105 tm = N8.a1 (N8.a5 (N8.a1 tm)) := rfl
theorem str105 (tm : TM) (v : AV) : st105 tm v = N8.u1 (N8.u5 (N8.u1 fun _ => v)) tm := rfl
theorem gtr106 (tm : TM) : gt106 tm = N8.a2 (N8.a5 (N8.a1 tm)) := rfl
theorem str106 (tm : TM) (v : AV) : st106 tm v = N8.u1 (N8.u5 (N8.u2 fun _ => v)) tm := rfl
theorem gtr107 (tm : TM) : gt107 tm = N8.a3 (N8.a5 (N8.a1 tm)) := rfl
theorem str107 (tm : TM) (v : AV) : st107 tm v = N8.u1 (N8.u5 (N8.u3 fun _ => v)) tm := rfl
theorem gtr108 (tm : TM) : gt108 tm = N8.a4 (N8.a5 (N8.a1 tm)) := rfl
theorem str108 (tm : TM) (v : AV) : st108 tm v = N8.u1 (N8.u5 (N8.u4 fun _ => v)) tm := rfl
theorem gtr109 (tm : TM) : gt109 tm = N8.a5 (N8.a5 (N8.a1 tm)) := rfl
theorem str109 (tm : TM) (v : AV) : st109 tm v = N8.u1 (N8.u5 (N8.u5 fun _ => v)) tm := rfl
theorem gtr110 (tm : TM) : gt110 tm = N8.a6 (N8.a5 (N8.a1 tm)) := rfl
theorem str110 (tm : TM) (v : AV) : st110 tm v = N8.u1 (N8.u5 (N8.u6 fun _ => v)) tm := rfl
theorem gtr111 (tm : TM) : gt111 tm = N8.a7 (N8.a5 (N8.a1 tm)) := rfl
theorem str111 (tm : TM) (v : AV) : st111 tm v = N8.u1 (N8.u5 (N8.u7 fun _ => v)) tm := rfl
theorem gtr112 (tm : TM) : gt112 tm = N8.a0 (N8.a6 (N8.a1 tm)) := rfl
theorem str112 (tm : TM) (v : AV) : st112 tm v = N8.u1 (N8.u6 (N8.u0 fun _ => v)) tm := rfl
theorem gtr113 (tm : TM) : gt113 tm = N8.a1 (N8.a6 (N8.a1 tm)) := rfl
theorem str113 (tm : TM) (v : AV) : st113 tm v = N8.u1 (N8.u6 (N8.u1 fun _ => v)) tm := rfl
theorem gtr114 (tm : TM) : gt114 tm = N8.a2 (N8.a6 (N8.a1 tm)) := rfl
theorem str114 (tm : TM) (v : AV) : st114 tm v = N8.u1 (N8.u6 (N8.u2 fun _ => v)) tm := rfl
theorem gtr115 (tm : TM) : gt115 tm = N8.a3 (N8.a6 (N8.a1 tm)) := rfl
theorem str115 (tm : TM) (v : AV) : st115 tm v = N8.u1 (N8.u6 (N8.u3 fun _ => v)) tm := rfl
theorem gtr116 (tm : TM) : gt116 tm = N8.a4 (N8.a6 (N8.a1 tm)) := rfl
theorem str116 (tm : TM) (v : AV) : st116 tm v = N8.u1 (N8.u6 (N8.u4 fun _ => v)) tm := rfl
theorem gtr117 (tm : TM) : gt117 tm = N8.a5 (N8.a6 (N8.a1 tm)) := rfl
theorem str117 (tm : TM) (v : AV) : st117 tm v = N8.u1 (N8.u6 (N8.u5 fun _ => v)) tm := rfl
theorem gtr118 (tm : TM) : gt118 tm = N8.a6 (N8.a6 (N8.a1 tm)) := rfl
theorem str118 (tm : TM) (v : AV) : st118 tm v = N8.u1 (N8.u6 (N8.u6 fun _ => v)) tm := rfl
theorem gtr119 (tm : TM) : gt119 tm = N8.a7 (N8.a6 (N8.a1 tm)) := rfl
theorem str119 (tm : TM) (v : AV) : st119 tm v = N8.u1 (N8.u6 (N8.u7 fun _ => v)) tm := rfl
theorem gtr120 (tm : TM) : gt120 tm = N8.a0 (N8.a7 (N8.a1 tm)) := rfl
theorem str120 (tm : TM) (v : AV) : st120 tm v = N8.u1 (N8.u7 (N8.u0 fun _ => v)) tm := rfl
theorem gtr121 (tm : TM) : gt121 tm = N8.a1 (N8.a7 (N8.a1 tm)) := rfl
theorem str121 (tm : TM) (v : AV) : st121 tm v = N8.u1 (N8.u7 (N8.u1 fun _ => v)) tm := rfl
theorem gtr122 (tm : TM) : gt122 tm = N8.a2 (N8.a7 (N8.a1 tm)) := rfl
theorem str122 (tm : TM) (v : AV) : st122 tm v = N8.u1 (N8.u7 (N8.u2 fun _ => v)) tm := rfl
theorem gtr123 (tm : TM) : gt123 tm = N8.a3 (N8.a7 (N8.a1 tm)) := rfl
theorem str123 (tm : TM) (v : AV) : st123 tm v = N8.u1 (N8.u7 (N8.u3 fun _ => v)) tm := rfl
theorem gtr124 (tm : TM) : gt124 tm = N8.a4 (N8.a7 (N8.a1 tm)) := rfl
theorem str124 (tm : TM) (v : AV) : st124 tm v = N8.u1 (N8.u7 (N8.u4 fun _ => v)) tm := rfl
theorem gtr125 (tm : TM) : gt125 tm = N8.a5 (N8.a7 (N8.a1 tm)) := rfl
theorem str125 (tm : TM) (v : AV) : st125 tm v = N8.u1 (N8.u7 (N8.u5 fun _ => v)) tm := rfl
theorem gtr126 (tm : TM) : gt126 tm = N8.a6 (N8.a7 (N8.a1 tm)) := rfl
theorem str126 (tm : TM) (v : AV) : st126 tm v = N8.u1 (N8.u7 (N8.u6 fun _ => v)) tm := rfl
theorem gtr127 (tm : TM) : gt127 tm = N8.a7 (N8.a7 (N8.a1 tm)) := rfl
theorem str127 (tm : TM) (v : AV) : st127 tm v = N8.u1 (N8.u7 (N8.u7 fun _ => v)) tm := rfl
theorem gtr128 (tm : TM) : gt128 tm = N8.a0 (N8.a0 (N8.a2 tm)) := rfl
theorem str128 (tm : TM) (v : AV) : st128 tm v = N8.u2 (N8.u0 (N8.u0 fun _ => v)) tm := rfl
theorem gtr129 (tm : TM) : gt129 tm = N8.a1 (N8.a0 (N8.a2 tm)) := rfl
theorem str129 (tm : TM) (v : AV) : st129 tm v = N8.u2 (N8.u0 (N8.u1 fun _ => v)) tm := rfl
theorem gtr130 (tm : TM) : gt130 tm = N8.a2 (N8.a0 (N8.a2 tm)) := rfl
theorem str130 (tm : TM) (v : AV) : st130 tm v = N8.u2 (N8.u0 (N8.u2 fun _ => v)) tm := rfl
theorem gtr131 (tm : TM) : gt131 tm = N8.a3 (N8.a0 (N8.a2 tm)) := rfl
theorem str131 (tm : TM) (v : AV) : st131 tm v = N8.u2 (N8.u0 (N8.u3 fun _ => v)) tm := rfl
theorem gtr132 (tm : TM) : gt132 tm = N8.a4 (N8.a0 (N8.a2 tm)) := rfl
theorem str132 (tm : TM) (v : AV) : st132 tm v = N8.u2 (N8.u0 (N8.u4 fun _ => v)) tm := rfl
theorem gtr133 (tm : TM) : gt133 tm = N8.a5 (N8.a0 (N8.a2 tm)) := rfl
theorem str133 (tm : TM) (v : AV) : st133 tm v = N8.u2 (N8.u0 (N8.u5 fun _ => v)) tm := rfl
theorem gtr134 (tm : TM) : gt134 tm = N8.a6 (N8.a0 (N8.a2 tm)) := rfl
theorem str134 (tm : TM) (v : AV) : st134 tm v = N8.u2 (N8.u0 (N8.u6 fun _ => v)) tm := rfl
theorem gtr135 (tm : TM) : gt135 tm = N8.a7 (N8.a0 (N8.a2 tm)) := rfl
theorem str135 (tm : TM) (v : AV) : st135 tm v = N8.u2 (N8.u0 (N8.u7 fun _ => v)) tm := rfl
theorem gtr136 (tm : TM) : gt136 tm = N8.a0 (N8.a1 (N8.a2 tm)) := rfl
theorem str136 (tm : TM) (v : AV) : st136 tm v = N8.u2 (N8.u1 (N8.u0 fun _ => v)) tm := rfl
theorem gtr137 (tm : TM) : gt137 tm = N8.a1 (N8.a1 (N8.a2 tm)) := rfl
theorem str137 (tm : TM) (v : AV) : st137 tm v = N8.u2 (N8.u1 (N8.u1 fun _ => v)) tm := rfl
theorem gtr138 (tm : TM) : gt138 tm = N8.a2 (N8.a1 (N8.a2 tm)) := rfl
theorem str138 (tm : TM) (v : AV) : st138 tm v = N8.u2 (N8.u1 (N8.u2 fun _ => v)) tm := rfl
theorem gtr139 (tm : TM) : gt139 tm = N8.a3 (N8.a1 (N8.a2 tm)) := rfl
theorem str139 (tm : TM) (v : AV) : st139 tm v = N8.u2 (N8.u1 (N8.u3 fun _ => v)) tm := rfl
theorem gtr140 (tm : TM) : gt140 tm = N8.a4 (N8.a1 (N8.a2 tm)) := rfl
theorem str140 (tm : TM) (v : AV) : st140 tm v = N8.u2 (N8.u1 (N8.u4 fun _ => v)) tm := rfl
theorem gtr141 (tm : TM) : gt141 tm = N8.a5 (N8.a1 (N8.a2 tm)) := rfl
theorem str141 (tm : TM) (v : AV) : st141 tm v = N8.u2 (N8.u1 (N8.u5 fun _ => v)) tm := rfl
theorem gtr142 (tm : TM) : gt142 tm = N8.a6 (N8.a1 (N8.a2 tm)) := rfl
theorem str142 (tm : TM) (v : AV) : st142 tm v = N8.u2 (N8.u1 (N8.u6 fun _ => v)) tm := rfl
theorem gtr143 (tm : TM) : gt143 tm = N8.a7 (N8.a1 (N8.a2 tm)) := rfl
theorem str143 (tm : TM) (v : AV) : st143 tm v = N8.u2 (N8.u1 (N8.u7 fun _ => v)) tm := rfl
theorem gtr144 (tm : TM) : gt144 tm = N8.a0 (N8.a2 (N8.a2 tm)) := rfl
theorem str144 (tm : TM) (v : AV) : st144 tm v = N8.u2 (N8.u2 (N8.u0 fun _ => v)) tm := rfl
theorem gtr145 (tm : TM) : gt145 tm = N8.a1 (N8.a2 (N8.a2 tm)) := rfl
theorem str145 (tm : TM) (v : AV) : st145 tm v = N8.u2 (N8.u2 (N8.u1 fun _ => v)) tm := rfl
theorem gtr146 (tm : TM) : gt146 tm = N8.a2 (N8.a2 (N8.a2 tm)) := rfl
theorem str146 (tm : TM) (v : AV) : st146 tm v = N8.u2 (N8.u2 (N8.u2 fun _ => v)) tm := rfl
theorem gtr147 (tm : TM) : gt147 tm = N8.a3 (N8.a2 (N8.a2 tm)) := rfl
theorem str147 (tm : TM) (v : AV) : st147 tm v = N8.u2 (N8.u2 (N8.u3 fun _ => v)) tm := rfl
theorem gtr148 (tm : TM) : gt148 tm = N8.a4 (N8.a2 (N8.a2 tm)) := rfl
theorem str148 (tm : TM) (v : AV) : st148 tm v = N8.u2 (N8.u2 (N8.u4 fun _ => v)) tm := rfl
theorem gtr149 (tm : TM) : gt149 tm = N8.a5 (N8.a2 (N8.a2 tm)) := rfl
theorem str149 (tm : TM) (v : AV) : st149 tm v = N8.u2 (N8.u2 (N8.u5 fun _ => v)) tm := rfl
theorem gtr150 (tm : TM) : gt150 tm = N8.a6 (N8.a2 (N8.a2 tm)) := rfl
theorem str150 (tm : TM) (v : AV) : st150 tm v = N8.u2 (N8.u2 (N8.u6 fun _ => v)) tm := rfl
theorem gtr151 (tm : TM) : gt151 tm = N8.a7 (N8.a2 (N8.a2 tm)) := rfl
theorem str151 (tm : TM) (v : AV) : st151 tm v = N8.u2 (N8.u2 (N8.u7 fun _ => v)) tm := rfl
theorem gtr152 (tm : TM) : gt152 tm = N8.a0 (N8.a3 (N8.a2 tm)) := rfl
theorem str152 (tm : TM) (v : AV) : st152 tm v = N8.u2 (N8.u3 (N8.u0 fun _ => v)) tm := rfl
theorem gtr153 (tm : TM) : gt153 tm = N8.a1 (N8.a3 (N8.a2 tm)) := rfl
theorem str153 (tm : TM) (v : AV) : st153 tm v = N8.u2 (N8.u3 (N8.u1 fun _ => v)) tm := rfl
theorem gtr154 (tm : TM) : gt154 tm = N8.a2 (N8.a3 (N8.a2 tm)) := rfl
theorem str154 (tm : TM) (v : AV) : st154 tm v = N8.u2 (N8.u3 (N8.u2 fun _ => v)) tm := rfl
theorem gtr155 (tm : TM) : gt155 tm = N8.a3 (N8.a3 (N8.a2 tm)) := rfl
theorem str155 (tm : TM) (v : AV) : st155 tm v = N8.u2 (N8.u3 (N8.u3 fun _ => v)) tm := rfl
theorem gtr156 (tm : TM) : gt156 tm = N8.a4 (N8.a3 (N8.a2 tm)) := rfl
theorem str156 (tm : TM) (v : AV) : st156 tm v = N8.u2 (N8.u3 (N8.u4 fun _ => v)) tm := rfl
theorem gtr157 (tm : TM) : gt157 tm = N8.a5 (N8.a3 (N8.a2 tm)) := rfl
theorem str157 (tm : TM) (v : AV) : st157 tm v = N8.u2 (N8.u3 (N8.u5 fun _ => v)) tm := rfl
theorem gtr158 (tm : TM) : gt158 tm = N8.a6 (N8.a3 (N8.a2 tm)) := rfl
theorem str158 (tm : TM) (v : AV) : st158 tm v = N8.u2 (N8.u3 (N8.u6 fun _ => v)) tm := rfl
theorem gtr159 (tm : TM) : gt159 tm = N8.a7 (N8.a3 (N8.a2 tm)) := rfl
theorem str159 (tm : TM) (v : AV) : st159 tm v = N8.u2 (N8.u3 (N8.u7 fun _ => v)) tm := rfl
theorem gtr160 (tm : TM) : gt160 tm = N8.a0 (N8.a4 (N8.a2 tm)) := rfl
theorem str160 (tm : TM) (v : AV) : st160 tm v = N8.u2 (N8.u4 (N8.u0 fun _ => v)) tm := rfl
theorem gtr161 (tm : TM) : gt161 tm = N8.a1 (N8.a4 (N8.a2 tm)) := rfl
theorem str161 (tm : TM) (v : AV) : st161 tm v = N8.u2 (N8.u4 (N8.u1 fun _ => v)) tm := rfl
theorem gtr162 (tm : TM) : gt162 tm = N8.a2 (N8.a4 (N8.a2 tm)) := rfl
theorem str162 (tm : TM) (v : AV) : st162 tm v = N8.u2 (N8.u4 (N8.u2 fun _ => v)) tm := rfl
theorem gtr163 (tm : TM) : gt163 tm = N8.a3 (N8.a4 (N8.a2 tm)) := rfl
theorem str163 (tm : TM) (v : AV) : st163 tm v = N8.u2 (N8.u4 (N8.u3 fun _ => v)) tm := rfl
theorem gtr164 (tm : TM) : gt164 tm = N8.a4 (N8.a4 (N8.a2 tm)) := rfl
theorem str164 (tm : TM) (v : AV) : st164 tm v = N8.u2 (N8.u4 (N8.u4 fun _ => v)) tm := rfl
theorem gtr165 (tm : TM) : gt165 tm = N8.a5 (N8.a4 (N8.a2 tm)) := rfl
theorem str165 (tm : TM) (v : AV) : st165 tm v = N8.u2 (N8.u4 (N8.u5 fun _ => v)) tm := rfl
theorem gtr166 (tm : TM) : gt166 tm = N8.a6 (N8.a4 (N8.a2 tm)) := rfl
theorem str166 (tm : TM) (v : AV) : st166 tm v = N8.u2 (N8.u4 (N8.u6 fun _ => v)) tm := rfl
theorem gtr167 (tm : TM) : gt167 tm = N8.a7 (N8.a4 (N8.a2 tm)) := rfl
theorem str167 (tm : TM) (v : AV) : st167 tm v = N8.u2 (N8.u4 (N8.u7 fun _ => v)) tm := rfl
theorem gtr168 (tm : TM) : gt168 tm = N8.a0 (N8.a5 (N8.a2 tm)) := rfl
theorem str168 (tm : TM) (v : AV) : st168 tm v = N8.u2 (N8.u5 (N8.u0 fun _ => v)) tm := rfl
theorem gtr169 (tm : TM) : gt169 tm = N8.a1 (N8.a5 (N8.a2 tm)) := rfl
theorem str169 (tm : TM) (v : AV) : st169 tm v = N8.u2 (N8.u5 (N8.u1 fun _ => v)) tm := rfl
theorem gtr170 (tm : TM) : gt170 tm = N8.a2 (N8.a5 (N8.a2 tm)) := rfl
theorem str170 (tm : TM) (v : AV) : st170 tm v = N8.u2 (N8.u5 (N8.u2 fun _ => v)) tm := rfl
theorem gtr171 (tm : TM) : gt171 tm = N8.a3 (N8.a5 (N8.a2 tm)) := rfl
theorem str171 (tm : TM) (v : AV) : st171 tm v = N8.u2 (N8.u5 (N8.u3 fun _ => v)) tm := rfl
theorem gtr172 (tm : TM) : gt172 tm = N8.a4 (N8.a5 (N8.a2 tm)) := rfl
theorem str172 (tm : TM) (v : AV) : st172 tm v = N8.u2 (N8.u5 (N8.u4 fun _ => v)) tm := rfl
theorem gtr173 (tm : TM) : gt173 tm = N8.a5 (N8.a5 (N8.a2 tm)) := rfl
theorem str173 (tm : TM) (v : AV) : st173 tm v = N8.u2 (N8.u5 (N8.u5 fun _ => v)) tm := rfl
theorem gtr174 (tm : TM) : gt174 tm = N8.a6 (N8.a5 (N8.a2 tm)) := rfl
theorem str174 (tm : TM) (v : AV) : st174 tm v = N8.u2 (N8.u5 (N8.u6 fun _ => v)) tm := rfl
theorem gtr175 (tm : TM) : gt175 tm = N8.a7 (N8.a5 (N8.a2 tm)) := rfl
theorem str175 (tm : TM) (v : AV) : st175 tm v = N8.u2 (N8.u5 (N8.u7 fun _ => v)) tm := rfl
theorem gtr176 (tm : TM) : gt176 tm = N8.a0 (N8.a6 (N8.a2 tm)) := rfl
theorem str176 (tm : TM) (v : AV) : st176 tm v = N8.u2 (N8.u6 (N8.u0 fun _ => v)) tm := rfl
theorem gtr177 (tm : TM) : gt177 tm = N8.a1 (N8.a6 (N8.a2 tm)) := rfl
theorem str177 (tm : TM) (v : AV) : st177 tm v = N8.u2 (N8.u6 (N8.u1 fun _ => v)) tm := rfl
theorem gtr178 (tm : TM) : gt178 tm = N8.a2 (N8.a6 (N8.a2 tm)) := rfl
theorem str178 (tm : TM) (v : AV) : st178 tm v = N8.u2 (N8.u6 (N8.u2 fun _ => v)) tm := rfl
theorem gtr179 (tm : TM) : gt179 tm = N8.a3 (N8.a6 (N8.a2 tm)) := rfl
theorem str179 (tm : TM) (v : AV) : st179 tm v = N8.u2 (N8.u6 (N8.u3 fun _ => v)) tm := rfl
theorem gtr180 (tm : TM) : gt180 tm = N8.a4 (N8.a6 (N8.a2 tm)) := rfl
theorem str180 (tm : TM) (v : AV) : st180 tm v = N8.u2 (N8.u6 (N8.u4 fun _ => v)) tm := rfl
theorem gtr181 (tm : TM) : gt181 tm = N8.a5 (N8.a6 (N8.a2 tm)) := rfl
theorem str181 (tm : TM) (v : AV) : st181 tm v = N8.u2 (N8.u6 (N8.u5 fun _ => v)) tm := rfl
theorem gtr182 (tm : TM) : gt182 tm = N8.a6 (N8.a6 (N8.a2 tm)) := rfl
theorem str182 (tm : TM) (v : AV) : st182 tm v = N8.u2 (N8.u6 (N8.u6 fun _ => v)) tm := rfl
theorem gtr183 (tm : TM) : gt183 tm = N8.a7 (N8.a6 (N8.a2 tm)) := rfl
theorem str183 (tm : TM) (v : AV) : st183 tm v = N8.u2 (N8.u6 (N8.u7 fun _ => v)) tm := rfl
theorem gtr184 (tm : TM) : gt184 tm = N8.a0 (N8.a7 (N8.a2 tm)) := rfl
theorem str184 (tm : TM) (v : AV) : st184 tm v = N8.u2 (N8.u7 (N8.u0 fun _ => v)) tm := rfl
theorem gtr185 (tm : TM) : gt185 tm = N8.a1 (N8.a7 (N8.a2 tm)) := rfl
theorem str185 (tm : TM) (v : AV) : st185 tm v = N8.u2 (N8.u7 (N8.u1 fun _ => v)) tm := rfl
theorem gtr186 (tm : TM) : gt186 tm = N8.a2 (N8.a7 (N8.a2 tm)) := rfl
theorem str186 (tm : TM) (v : AV) : st186 tm v = N8.u2 (N8.u7 (N8.u2 fun _ => v)) tm := rfl
theorem gtr187 (tm : TM) : gt187 tm = N8.a3 (N8.a7 (N8.a2 tm)) := rfl
theorem str187 (tm : TM) (v : AV) : st187 tm v = N8.u2 (N8.u7 (N8.u3 fun _ => v)) tm := rfl
theorem gtr188 (tm : TM) : gt188 tm = N8.a4 (N8.a7 (N8.a2 tm)) := rfl
theorem str188 (tm : TM) (v : AV) : st188 tm v = N8.u2 (N8.u7 (N8.u4 fun _ => v)) tm := rfl
theorem gtr189 (tm : TM) : gt189 tm = N8.a5 (N8.a7 (N8.a2 tm)) := rfl
theorem str189 (tm : TM) (v : AV) : st189 tm v = N8.u2 (N8.u7 (N8.u5 fun _ => v)) tm := rfl
theorem gtr190 (tm : TM) : gt190 tm = N8.a6 (N8.a7 (N8.a2 tm)) := rfl
theorem str190 (tm : TM) (v : AV) : st190 tm v = N8.u2 (N8.u7 (N8.u6 fun _ => v)) tm := rfl
theorem gtr191 (tm : TM) : gt191 tm = N8.a7 (N8.a7 (N8.a2 tm)) := rfl
theorem str191 (tm : TM) (v : AV) : st191 tm v = N8.u2 (N8.u7 (N8.u7 fun _ => v)) tm := rfl
theorem gtr192 (tm : TM) : gt192 tm = N8.a0 (N8.a0 (N8.a3 tm)) := rfl
theorem str192 (tm : TM) (v : AV) : st192 tm v = N8.u3 (N8.u0 (N8.u0 fun _ => v)) tm := rfl
theorem gtr193 (tm : TM) : gt193 tm = N8.a1 (N8.a0 (N8.a3 tm)) := rfl
theorem str193 (tm : TM) (v : AV) : st193 tm v = N8.u3 (N8.u0 (N8.u1 fun _ => v)) tm := rfl
theorem gtr194 (tm : TM) : gt194 tm = N8.a2 (N8.a0 (N8.a3 tm)) := rfl
theorem str194 (tm : TM) (v : AV) : st194 tm v = N8.u3 (N8.u0 (N8.u2 fun _ => v)) tm := rfl
theorem gtr195 (tm : TM) : gt195 tm = N8.a3 (N8.a0 (N8.a3 tm)) := rfl
theorem str195 (tm : TM) (v : AV) : st195 tm v = N8.u3 (N8.u0 (N8.u3 fun _ => v)) tm := rfl
theorem gtr196 (tm : TM) : gt196 tm = N8.a4 (N8.a0 (N8.a3 tm)) := rfl
theorem str196 (tm : TM) (v : AV) : st196 tm v = N8.u3 (N8.u0 (N8.u4 fun _ => v)) tm := rfl
theorem gtr197 (tm : TM) : gt197 tm = N8.a5 (N8.a0 (N8.a3 tm)) := rfl
theorem str197 (tm : TM) (v : AV) : st197 tm v = N8.u3 (N8.u0 (N8.u5 fun _ => v)) tm := rfl
theorem gtr198 (tm : TM) : gt198 tm = N8.a6 (N8.a0 (N8.a3 tm)) := rfl
theorem str198 (tm : TM) (v : AV) : st198 tm v = N8.u3 (N8.u0 (N8.u6 fun _ => v)) tm := rfl
theorem gtr199 (tm : TM) : gt199 tm = N8.a7 (N8.a0 (N8.a3 tm)) := rfl
theorem str199 (tm : TM) (v : AV) : st199 tm v = N8.u3 (N8.u0 (N8.u7 fun _ => v)) tm := rfl
theorem gtr200 (tm : TM) : gt200 tm = N8.a0 (N8.a1 (N8.a3 tm)) := rfl
theorem str200 (tm : TM) (v : AV) : st200 tm v = N8.u3 (N8.u1 (N8.u0 fun _ => v)) tm := rfl
theorem gtr201 (tm : TM) : gt201 tm = N8.a1 (N8.a1 (N8.a3 tm)) := rfl
theorem str201 (tm : TM) (v : AV) : st201 tm v = N8.u3 (N8.u1 (N8.u1 fun _ => v)) tm := rfl
theorem gtr202 (tm : TM) : gt202 tm = N8.a2 (N8.a1 (N8.a3 tm)) := rfl
theorem str202 (tm : TM) (v : AV) : st202 tm v = N8.u3 (N8.u1 (N8.u2 fun _ => v)) tm := rfl
theorem gtr203 (tm : TM) : gt203 tm = N8.a3 (N8.a1 (N8.a3 tm)) := rfl
theorem str203 (tm : TM) (v : AV) : st203 tm v = N8.u3 (N8.u1 (N8.u3 fun _ => v)) tm := rfl
theorem gtr204 (tm : TM) : gt204 tm = N8.a4 (N8.a1 (N8.a3 tm)) := rfl
theorem str204 (tm : TM) (v : AV) : st204 tm v = N8.u3 (N8.u1 (N8.u4 fun _ => v)) tm := rfl
theorem gtr205 (tm : TM) : gt205 tm = N8.a5 (N8.a1 (N8.a3 tm)) := rfl
theorem str205 (tm : TM) (v : AV) : st205 tm v = N8.u3 (N8.u1 (N8.u5 fun _ => v)) tm := rfl
theorem gtr206 (tm : TM) : gt206 tm = N8.a6 (N8.a1 (N8.a3 tm)) := rfl
theorem str206 (tm : TM) (v : AV) : st206 tm v = N8.u3 (N8.u1 (N8.u6 fun _ => v)) tm := rfl
theorem gtr207 (tm : TM) : gt207 tm = N8.a7 (N8.a1 (N8.a3 tm)) := rfl
theorem str207 (tm : TM) (v : AV) : st207 tm v = N8.u3 (N8.u1 (N8.u7 fun _ => v)) tm := rfl
theorem gtr208 (tm : TM) : gt208 tm = N8.a0 (N8.a2 (N8.a3 tm)) := rfl
theorem str208 (tm : TM) (v : AV) : st208 tm v = N8.u3 (N8.u2 (N8.u0 fun _ => v)) tm := rfl
theorem gtr209 (tm : TM) : gt209 tm = N8.a1 (N8.a2 (N8.a3 tm)) := rfl
theorem str209 (tm : TM) (v : AV) : st209 tm v = N8.u3 (N8.u2 (N8.u1 fun _ => v)) tm := rfl
theorem gtr210 (tm : TM) : gt210 tm = N8.a2 (N8.a2 (N8.a3 tm)) := rfl
theorem str210 (tm : TM) (v : AV) : st210 tm v = N8.u3 (N8.u2 (N8.u2 fun _ => v)) tm := rfl
theorem gtr211 (tm : TM) : gt211 tm = N8.a3 (N8.a2 (N8.a3 tm)) := rfl
theorem str211 (tm : TM) (v : AV) : st211 tm v = N8.u3 (N8.u2 (N8.u3 fun _ => v)) tm := rfl
theorem gtr212 (tm : TM) : gt212 tm = N8.a4 (N8.a2 (N8.a3 tm)) := rfl
theorem str212 (tm : TM) (v : AV) : st212 tm v = N8.u3 (N8.u2 (N8.u4 fun _ => v)) tm := rfl
theorem gtr213 (tm : TM) : gt213 tm = N8.a5 (N8.a2 (N8.a3 tm)) := rfl
theorem str213 (tm : TM) (v : AV) : st213 tm v = N8.u3 (N8.u2 (N8.u5 fun _ => v)) tm := rfl
theorem gtr214 (tm : TM) : gt214 tm = N8.a6 (N8.a2 (N8.a3 tm)) := rfl
theorem str214 (tm : TM) (v : AV) : st214 tm v = N8.u3 (N8.u2 (N8.u6 fun _ => v)) tm := rfl
theorem gtr215 (tm : TM) : gt215 tm = N8.a7 (N8.a2 (N8.a3 tm)) := rfl
theorem str215 (tm : TM) (v : AV) : st215 tm v = N8.u3 (N8.u2 (N8.u7 fun _ => v)) tm := rfl
theorem gtr216 (tm : TM) : gt216 tm = N8.a0 (N8.a3 (N8.a3 tm)) := rfl
theorem str216 (tm : TM) (v : AV) : st216 tm v = N8.u3 (N8.u3 (N8.u0 fun _ => v)) tm := rfl
end
end Go.AI

/- Slices of bytes; heaps that keep what was there. -/
namespace Go.AI
open Go
section
/-- what was there is kept, but for some blocks -/
structure Keep (H H' : Heap) (S : List Nat) : Prop where
  nx : H.nx ≤ H'.nx
  ro : H'.ro = H.ro
  get : ∀ c, c < H.nx → c ∉ S → H'.t.get c = H.t.get c
theorem Keep.refl (H : Heap) (S : List Nat) : Keep H H S := ⟨Nat.le_refl _, rfl, fun _ _ _ => rfl⟩
theorem Keep.trans {H H' H'' : Heap} {S S' : List Nat} (a : Keep H H' S) (b : Keep H' H'' S') (h : ∀ c, c ∈ S' → c < H.nx → c ∈ S) : Keep H H'' S :=
  ⟨Nat.le_trans a.nx b.nx, b.ro.trans a.ro, fun c hc hn => (b.get c (Nat.lt_of_lt_of_le hc a.nx) (fun hh => hn (h c hh hc))).trans (a.get c hc hn)⟩
theorem Keep.put {H : Heap} {b : Nat} {o : Obj} {S : List Nat} (h : b < H.nx → b ∈ S) : Keep H (H.put b o) S :=
  ⟨Nat.le_refl _, rfl, fun c hc hn => by rw [put_get, if_neg (fun (e : b = c) => hn (by rw [← e]; exact h (by omega)))]⟩
theorem Keep.new (H : Heap) (o : Obj) (S : List Nat) : Keep H (H.new o) S :=
  ⟨Nat.le_succ _, rfl, fun c hc _ => by rw [new_get, if_neg (by omega)]⟩
theorem Keep.then_put {H H' : Heap} {b : Nat} {o : Obj} {S : List Nat} (k : Keep H H' S) (h : b < H.nx → b ∈ S) : Keep H (H'.put b o) S :=
  ⟨k.nx, k.ro, fun c hc hn => by rw [put_get, if_neg (fun (e : b = c) => hn (by rw [← e]; exact h (by omega)))]; exact k.get c hc hn⟩
theorem Keep.then_new {H H' : Heap} {S : List Nat} (k : Keep H H' S) (o : Obj) : Keep H (H'.new o) S :=
  ⟨Nat.le_succ_of_le k.nx, k.ro, fun c hc hn => by rw [new_get, if_neg (by have := k.nx; omega)]; exact k.get c hc hn⟩
theorem Keep.trans' {H H' H'' : Heap} {S' : List Nat} (a : Keep H H' []) (b : Keep H' H'' S') : Keep H H'' S' :=
  ⟨Nat.le_trans a.nx b.nx, b.ro.trans a.ro, fun c hc hn => (b.get c (Nat.lt_of_lt_of_le hc a.nx) hn).trans (a.get c hc (by simp))⟩
/-- bytes that a slice tells of -/
structure Bytes (H : Heap) (b o : Nat) (cap : Option Nat) (l : List UInt8) (r : Row) : Prop where
  at_ : H.t.get b = some (.row r)
  sz : r.sz = 1
  fits : o + l.length ≤ r.size
  get : ∀ i, i < l.length → r.get (o + i) = u8V (l.getD i 0)
  cap : ∀ c, cap = some c → l.length ≤ c ∧ o + c ≤ r.size
def boundV (x : Option AV) (d top : Nat) (k : Nat → OR) : OR := match x with | none => k d | some v => onNat v fun n => onIf (Nat.ble n top) (k n)
noncomputable def sliceV (sz : Nat) (a : AV) (lo hi : Option AV) (H : Heap) : OR :=
  onSlice a (boundV hi 0 0 fun h => boundV lo 0 h fun _ => .val .nils H) fun b o len cap => onRow H b fun r => onIf (szOk r sz cap) (boundV hi len (capOf r o cap) fun h => boundV lo 0 h fun l => onIf (Nat.ble l (capOf r o cap)) <|
    cond (Nat.beq l (capOf r o cap)) (Option.rec (.val (.slice H.nx 0 (Nat.sub h l) none) ⟨Nat.succ H.nx, H.t, H.ro⟩) (fun _ => .val (.slice b o (Nat.sub h l) (some 0)) H) cap)
      (.val (.slice b (Nat.add o (Nat.mul l sz)) (Nat.sub h l) (Option.rec none (fun c => some (Nat.sub c l)) cap)) H))
theorem oSlice_run (sz : Nat) (x : EvF) (lo hi : Option EvF) (tm : TM) (H : Heap) : oSlice sz x lo hi none tm H = sliceV sz (x tm) (lo.map fun f => f tm) (hi.map fun f => f tm) H := by
  cases lo <;> cases hi <;> rfl
def capSub (cap : Option Nat) (l : Nat) : Option Nat := cap.map fun c => c - l
theorem sliceV_is {H : Heap} {b o len l h : Nat} {cap : Option Nat} {r : Row} (hr : H.t.get b = some (.row r)) (hsz : r.sz = 1) (hlo : l < h) (hhi : o + h ≤ r.size) (hcap : ∀ c, cap = some c → h ≤ c) (k j : IntKind) :
    sliceV 1 (.slice b o len cap) (some (nI k l)) (some (nI j h)) H = .val (.slice b (o + l) (h - l) (capSub cap l)) H := by
  have hc : h ≤ capOf r o cap := by
    cases cap with
    | none =>
      show h ≤ cond (Nat.beq r.sz 1) (r.size - o) _
      rw [hsz]; show h ≤ r.size - o; omega
    | some c => exact hcap c rfl
  have hs : szOk r 1 cap = true := by
    cases cap with
    | none => show Nat.beq r.sz 1 = true; rw [hsz]; rfl
    | some c => rfl
  show onRow H b _ = _
  unfold onRow
  rw [hr]
  show onIf (szOk r 1 cap) (onIf (Nat.ble h (capOf r o cap)) (onIf (Nat.ble l h) (onIf (Nat.ble l (capOf r o cap)) (cond (Nat.beq l (capOf r o cap)) _ _)))) = _
  rw [hs, Nat.ble_eq_true_of_le hc, Nat.ble_eq_true_of_le (Nat.le_of_lt hlo), Nat.ble_eq_true_of_le (show l ≤ capOf r o cap by omega), beq_nat, decide_eq_false (by omega)]
  show OR.val (.slice b (o + l * 1) (h - l) _) H = _
  rw [Nat.mul_one]
  cases cap <;> rfl
theorem results_agg {f : EvF} {n b : Nat} {tm : TM} {H : Heap} {r : Row} {l : List AV} (hf : f tm = .ptr b 0) (hr : H.t.get b = some (.row r)) (hc : Cells r l) (hn : l.length = n) : results [(f, some (n, true))] tm H = .ret (.agg l) H := by
  subst hn
  have e : loadN r 0 l.length = l := by rw [hc.load (by omega), List.drop_zero, List.take_length]
  have h2 : Nat.ble (Nat.add 0 l.length) r.size = true := by
    rw [hc.size]; exact Nat.ble_eq_true_of_le (by show 0 + l.length ≤ l.length; omega)
  unfold results resVs resV
  simp only [hf, hr, h2, cond_true, e]
  rfl
theorem intV_u8_32 (c : UInt8) (H : Heap) : intV .u32 (u8V c) H = .val (u32V c.toUInt32) H := by
  show valI .u32 (.ofNat c.toNat) H = _
  rw [valI_run, wrap_u32]
  unfold u32V
  rw [UInt8.toNat_toUInt32, Nat.mod_eq_of_lt (Nat.lt_trans c.toNat_lt (by decide))]
end
end Go.AI

/- Slices of arrays; copies. -/
namespace Go.AI
open Go
section
noncomputable def slArrV (n sz : Nat) (a : AV) (lo hi : Option AV) (H : Heap) : OR := onPtr a fun b o => boundV hi n n fun h => boundV lo 0 h fun l =>
  cond (Nat.beq l n) (.val (.slice b o (Nat.sub h l) (some (Nat.sub n l))) H) (.val (.slice b (Nat.add o (Nat.mul l sz)) (Nat.sub h l) (some (Nat.sub n l))) H)
theorem oSlArr_run (n sz : Nat) (x : EvF) (lo hi : Option EvF) (tm : TM) (H : Heap) : oSlArr n sz x lo hi none tm H = slArrV n sz (x tm) (lo.map fun f => f tm) (hi.map fun f => f tm) H := by
  cases lo <;> cases hi <;> rfl
theorem slArrV_lo {n l : Nat} (h : l < n) (b o : Nat) (k : IntKind) (H : Heap) : slArrV n 1 (.ptr b o) (some (nI k l)) none H = .val (.slice b (o + l) (n - l) (some (n - l))) H := by
  show onIf (Nat.ble l n) (cond (Nat.beq l n) _ _) = _
  rw [Nat.ble_eq_true_of_le (Nat.le_of_lt h), beq_nat, decide_eq_false (by omega)]
  show OR.val (.slice b (o + l * 1) (n - l) (some (n - l))) H = _
  rw [Nat.mul_one]
theorem slArrV_hi {n m : Nat} (h : m ≤ n) (h0 : 0 < n) (b o : Nat) (k : IntKind) (H : Heap) : slArrV n 1 (.ptr b o) none (some (nI k m)) H = .val (.slice b o m (some n)) H := by
  show onIf (Nat.ble m n) (onIf (Nat.ble 0 m) (cond (Nat.beq 0 n) _ _)) = _
  rw [Nat.ble_eq_true_of_le h, Nat.ble_eq_true_of_le (Nat.zero_le _), beq_nat, decide_eq_false (by omega)]
  show OR.val (.slice b (o + 0 * 1) (m - 0) (some (n - 0))) H = _
  rw [Nat.zero_mul]; rfl
noncomputable def copyV (sz : Nat) (a v : AV) (H : Heap) : OR := lenA v fun sn => onSlice a (.val (.int .i64 0) H) fun b o dn _ => forceN (minN dn sn) fun n => contents H sz v n fun new =>
  cond (Nat.beq n 0) (.val (.int .i64 0) H) (onRow H b fun r => onIf (H.may r b) (onIf (Nat.ble r.fz o) (onIf (Nat.ble (Nat.add o (Nat.mul n sz)) r.size) (.val (.int .i64 (.ofNat n)) (H.put b (.row (r.setCells (storeN r.cells o new))))))))
theorem oCopy_run (x y : EvF) (sz : Nat) (tm : TM) (H : Heap) : oCopy x y sz tm H = copyV sz (x tm) (y tm) H := rfl
/-- from one row to another (or the same) -/
theorem copyV_is {H : Heap} {b o c q n : Nat} {e1 e2 : Option Nat} {r s : Row} {l m : List AV} (hr : H.t.get b = some (.row r)) (hc : Cells r l) (how : r.own = true) (hro : H.ro ≤ b) (hfz : r.fz = 0) (ho : o + n ≤ l.length) (hn : 0 < n)
    (hs : H.t.get c = some (.row s)) (hm : Cells s m) (hq : q + n ≤ m.length) :
    copyV 1 (.slice b o n e1) (.slice c q n e2) H = .val (nI .i64 n) (H.put b (.row (r.setCells (storeN r.cells o ((m.drop q).take n))))) := by
  show forceN (minN n n) (fun n => contents H 1 (.slice c q _ e2) n fun new => cond (Nat.beq n 0) (.val (.int .i64 0) H) (onRow H b fun r => onIf (H.may r b) (onIf (Nat.ble r.fz o) (onIf (Nat.ble (o + n * 1) r.size) (.val (.int .i64 (.ofNat n)) (H.put b (.row (r.setCells (storeN r.cells o new)))))))) ) = _
  have e : minN n n = n := by unfold minN; rw [Nat.ble_eq_true_of_le (Nat.le_refl _)]; rfl
  have e2 : Nat.beq n 0 = false := by rw [beq_nat]; exact decide_eq_false (by omega)
  have h1 : H.may r b = true := by unfold Heap.may; rw [how, Nat.ble_eq_true_of_le hro]; rfl
  rw [forceN_eq, e]
  unfold contents
  rw [e2]
  simp only [cond_false]
  unfold onRow
  rw [hs, hr]
  simp only [Nat.mul_one]
  show onIf (Nat.ble (q + n * 1) s.size) _ = _
  rw [Nat.mul_one, hm.size, Nat.ble_eq_true_of_le hq, show Nat.mul n 1 = n from Nat.mul_one n, hm.load hq, h1, hfz, Nat.ble_eq_true_of_le (Nat.zero_le _), hc.size, Nat.ble_eq_true_of_le ho]
  rfl
/-! ### Aggregates built -/
noncomputable def fillV (k : List AV → OR) (ps : List (Nat × Nat × AV)) : List AV → OR := List.rec (fun cells => k cells) (fun p _ ih cells =>
  onIf (Nat.ble 1 p.2.1) <| onIf (Nat.beq (lenL p.2.2.cells) p.2.1) (onIf (Nat.ble (Nat.add p.1 p.2.1) (lenL cells)) (ih (takeL p.1 cells ++ (p.2.2.cells ++ dropL (Nat.add p.1 p.2.1) cells))))) ps
theorem fillA_run (tm : TM) (k : List AV → OR) : ∀ (ps : List Part) (cells : List AV), fillA tm k ps cells = fillV k (ps.map fun p => (p.off, p.sz, p.x tm)) cells
  | [], _ => rfl
  | p :: ps, cells => by
    show onIf (Nat.ble 1 p.sz) (onIf (Nat.beq (lenL (p.x tm).cells) p.sz) (onIf (Nat.ble (Nat.add p.off p.sz) (lenL cells)) (fillA tm k ps (takeL p.off cells ++ ((p.x tm).cells ++ dropL (Nat.add p.off p.sz) cells))))) = _
    rw [fillA_run tm k ps]
    rfl
noncomputable def buildV (zs : List AV) (ps : List (Nat × Nat × AV)) (H : Heap) : OR := onIf (Nat.ble 1 (lenL zs)) <| fillV (fun cs => .val (.agg cs) H) ps zs
theorem oBuild_run (zs : List AV) (ps : List Part) (tm : TM) (H : Heap) : oBuild zs ps tm H = buildV zs (ps.map fun p => (p.off, p.sz, p.x tm)) H := by
  unfold oBuild buildV
  rw [fillA_run]
noncomputable def bsliceV (e sz n : Nat) (zs : List AV) (ps : List (Nat × Nat × AV)) (H : Heap) : OR := onIf (Nat.ble 1 sz) <| onIf (Nat.beq (lenL zs) (Nat.mul n sz)) <| fillV (fun cs => .val (.slice H.nx 0 n none) (H.newRow e sz cs true)) ps zs
theorem oBSlice_run (e sz n : Nat) (zs : List AV) (ps : List Part) (tm : TM) (H : Heap) : oBSlice e sz n zs ps tm H = bsliceV e sz n zs (ps.map fun p => (p.off, p.sz, p.x tm)) H := by
  unfold oBSlice bsliceV
  rw [fillA_run]
theorem bsliceV_one (e : Nat) (z v : AV) (h : v.cells = [v]) (H : Heap) : bsliceV e 1 1 [z] [(0, 1, v)] H = .val (.slice H.nx 0 1 none) (H.newRow e 1 [v] true) := by
  show onIf (Nat.beq (lenL v.cells) 1) (onIf (Nat.ble 1 1) (.val _ (H.newRow e 1 (v.cells ++ []) true))) = _
  rw [h]; rfl
end
end Go.AI

/- Appends of bytes. -/
namespace Go.AI
open Go
section
noncomputable def appendV (e sz bytes : Nat) (a v : AV) (H : Heap) : OR := onIf (Nat.ble 1 sz) <| onIf (Nat.ble 1 bytes) <| lenA v fun n => contents H sz v n fun new => appX a e sz bytes H n new
theorem oAppend_run (x y : EvF) (e sz bytes : Nat) (tm : TM) (H : Heap) : oAppend x y e sz bytes tm H = appendV e sz bytes (x tm) (y tm) H := rfl
/-- a value of bytes: what an append takes of it -/
def Src (H : Heap) (v : AV) (l : List AV) : Prop := ∀ k : Nat → List AV → OR, (lenA v fun n => contents H 1 v n fun new => k n new) = k l.length l
theorem Src.nils (H : Heap) : Src H .nils [] := fun _ => rfl
theorem Src.none (H : Heap) (b o : Nat) (c : Option Nat) : Src H (.slice b o 0 c) [] := fun _ => rfl
theorem Src.row {H : Heap} {b o : Nat} {c : Option Nat} {r : Row} {l : List AV} (hr : H.t.get b = some (.row r)) (hf : o + l.length ≤ r.size) (hg : ∀ i, i < l.length → r.get (o + i) = l.getD i .unk) : Src H (.slice b o l.length c) l := by
  intro k
  show (contents H 1 (.slice b o l.length c) l.length fun new => k l.length new) = _
  unfold contents
  rw [beq_nat]
  by_cases h0 : l.length = 0
  · rw [decide_eq_true h0]
    have : l = [] := List.length_eq_zero_iff.1 h0
    subst this; rfl
  · rw [decide_eq_false h0]
    unfold onRow
    simp only [hr, cond_false, Nat.mul_one]
    show onIf (Nat.ble (o + l.length * 1) r.size) (k l.length (loadN r o (l.length * 1))) = _
    rw [Nat.mul_one, Nat.ble_eq_true_of_le hf]
    have : loadN r o l.length = l := by
      refine List.ext_getElem? fun j => ?_
      by_cases hj : j < l.length
      · rw [loadN_get r _ o j hj, hg j hj, List.getD_eq_getElem?_getD, List.getElem?_eq_getElem hj]; rfl
      · rw [List.getElem?_eq_none (by rw [loadN_length]; omega), List.getElem?_eq_none (by omega)]
    rw [this]; rfl
theorem appendV_src {H : Heap} {e bytes : Nat} {a v : AV} {l : List AV} (hb : 1 ≤ bytes) (h : Src H v l) : appendV e 1 bytes a v H = appX a e 1 bytes H l.length l := by
  show onIf (Nat.ble 1 1) (onIf (Nat.ble 1 bytes) _) = _
  rw [Nat.ble_eq_true_of_le hb]
  exact h fun n new => appX a e 1 bytes H n new
theorem appX_nil0 (e bytes : Nat) (H : Heap) : appX .nils e 1 bytes H 0 [] = .val .nils H := rfl
theorem appX_nil {e : Nat} {H : Heap} {l : List AV} (h0 : 0 < l.length) (hl : l.length ≤ 140737488355328) : appX .nils e 1 1 H l.length l = .val (.slice H.nx 0 l.length none) (H.newRow e 1 l false) := by
  show cond (Nat.beq l.length 0) _ (onIf (Nat.ble (l.length * 1) 140737488355328) _) = _
  rw [beq_nat, decide_eq_false (by omega), Nat.mul_one, Nat.ble_eq_true_of_le hl]; rfl
/-- a row that the call appends to -/
structure Grow (H : Heap) (b e : Nat) (l : List AV) (r : Row) : Prop extends Own H b e l r where
  exact_ : r.exact = false
  low : b < H.nx
theorem grow_new {H : Heap} {e : Nat} {l : List AV} (hro : H.ro ≤ H.nx) : Grow (H.newRow e 1 l false) H.nx e l ⟨e, 1, lenL l, T.ofList l, .unk, 0, false, true, false⟩ :=
  ⟨⟨by rw [newRow_eq, new_get, if_pos rfl], rfl, rfl, rfl, rfl, rfl, Cells.new .., hro⟩, rfl, Nat.lt_succ_self _⟩
/-- appending to it: another block takes its place -/
theorem appX_grow {H : Heap} {b e : Nat} {l m : List AV} {r : Row} (g : Grow H b e l r) (hm : 0 < m.length) (hl : l.length + m.length ≤ 140737488355328) :
    ∃ H' r', appX (.slice b 0 l.length none) e 1 1 H m.length m = .val (.slice H.nx 0 (l.length + m.length) none) H' ∧ Grow H' H.nx e (l ++ m) r' ∧ Keep H H' [b] ∧ H'.nx = H.nx + 1 := by
  have hsz : r.size = l.length := g.cells.size
  have hcap : capOf r 0 none = l.length := by
    show cond (Nat.beq r.sz 1) (r.size - 0) _ = _
    rw [g.sz, hsz]; rfl
  have hmay : H.may r b = true := by unfold Heap.may; rw [g.own, Nat.ble_eq_true_of_le g.ro]; rfl
  refine ⟨⟨Nat.succ H.nx, (H.t.del b).set H.nx (.row ⟨r.elem, 1, (l.length + m.length) * 1, storeN r.cells (l.length * 1) m, r.dflt, r.fz, r.sm, true, false⟩), H.ro⟩, ⟨r.elem, 1, (l.length + m.length) * 1, storeN r.cells (l.length * 1) m, r.dflt, r.fz, r.sm, true, false⟩, ?_, ⟨⟨by rw [T.get_set, if_pos rfl], g.elem, rfl, rfl, g.fz, g.sm, ?_, Nat.le_trans g.ro (Nat.le_of_lt g.low)⟩, rfl, Nat.lt_succ_self _⟩, ⟨Nat.le_succ _, rfl, fun c hc hn => ?_⟩, rfl⟩
  · show onRow H b (fun r => onIf (szOk r 1 none) (cond (Nat.ble (Nat.add l.length m.length) (capOf r 0 none)) (appIn H _ b 0 l.length m.length 1 none r m) (appOut H e b 0 l.length m.length 1 1 none r m))) = _
    unfold onRow
    simp only [g.at_]
    have h1 : szOk r 1 none = true := by show Nat.beq r.sz 1 = true; rw [g.sz]; rfl
    have h2 : Nat.ble (Nat.add l.length m.length) (capOf r 0 none) = false := by
      rw [hcap]
      cases h : Nat.ble (Nat.add l.length m.length) l.length with
      | false => rfl
      | true => have := Nat.le_of_ble_eq_true h; have : l.length + m.length ≤ l.length := this; omega
    rw [h1, h2]
    show onIf (Nat.ble ((l.length + m.length) * 1) 140737488355328) (onIf (Nat.ble (0 + l.length * 1) r.size) (cond r.exact _ (appOwn H e b 0 l.length m.length 1 r m))) = _
    rw [Nat.mul_one, Nat.ble_eq_true_of_le hl, hsz, Nat.mul_one, Nat.zero_add, Nat.ble_eq_true_of_le (Nat.le_refl _), g.exact_]
    show onIf (Nat.beq r.elem e) (onIf (H.may r b) (onIf (Nat.ble r.fz (l.length * 1)) (onIf (Nat.beq (l.length * 1) r.size) (onIf (Nat.beq 0 0) _)))) = _
    rw [g.elem, Nat.beq_refl, hmay, g.fz, Nat.ble_eq_true_of_le (Nat.zero_le _), hsz, Nat.mul_one, Nat.beq_refl]
    show OR.val (.slice H.nx 0 (l.length + m.length) none) ⟨Nat.succ H.nx, (H.t.del b).set H.nx (.row ⟨e, 1, (l.length + m.length) * 1, storeN r.cells (l.length * 1) m, r.dflt, 0, r.sm, true, false⟩), H.ro⟩ = _
    rw [Nat.mul_one, Nat.mul_one]
  · refine ⟨by show (l.length + m.length) * 1 = _; rw [List.length_append]; omega, fun i hi => ?_⟩
    rw [List.length_append] at hi
    rw [Row.get_eq]
    show ((storeN r.cells (l.length * 1) m).get i).getD r.dflt = _
    rw [Nat.mul_one, storeN_get, List.getD_eq_getElem?_getD]
    by_cases h1 : l.length ≤ i
    · rw [if_pos ⟨h1, by omega⟩, List.getElem?_append_right h1, List.getElem?_eq_getElem (show i - l.length < m.length by omega)]; rfl
    · rw [if_neg (by omega), List.getElem?_append_left (by omega)]
      have := g.cells.get i (by omega)
      rw [Row.get_eq, List.getD_eq_getElem?_getD] at this
      exact this
  · show ((H.t.del b).set H.nx _).get c = _
    rw [T.get_set, if_neg (by omega), T.get_del, if_neg (fun e => hn (by simp [e]))]
end
end Go.AI

/- Arrays of bytes compared. -/
namespace Go.AI
open Go
section
variable {P : Program}
theorem sameL_u8 : ∀ l : List UInt8, sameL (l.map u8V) (l.map u8V) = true
  | [] => by simp [sameL]
  | x :: l => by
    show sameL (u8V x :: l.map u8V) (u8V x :: l.map u8V) = true
    unfold sameL
    rw [same_u8, sameL_u8 l]; rfl
theorem isSame_agg {l : List AV} (h : sameL l l = true) (n : Nat) (t : T Obj) : isSame (.val (.agg l) ⟨n, t, n⟩) (.agg l) n = true := isSame_val _ _ _ (by unfold same; exact h)
theorem same_str (s : List UInt8) : same (.str s) (.str s) = true := by
  unfold same; rw [strEq_eq]; simp
theorem isSame_slice (b o n : Nat) (c : Option Nat) (k : Nat) (t : T Obj) : isSame (.val (.slice b o n c) ⟨k, t, k⟩) (.slice b o n c) k = true := isSame_val _ _ _ (by
  unfold same
  rw [Nat.beq_refl, Nat.beq_refl, Nat.beq_refl]
  cases c with
  | none => rfl
  | some x => show Nat.beq x x = true; exact Nat.beq_refl x)
theorem isSame_nils (n : Nat) (t : T Obj) : isSame (.val .nils ⟨n, t, n⟩) .nils n = true := isSame_val _ _ _ (by unfold same; rfl)
/-! ### guarded steps -/
variable (ds : List SetF) (f : OpF) (e : EvF) (b : Bool) (os : List (SetF × EvF)) (dst : SetF) (i bef : Nat) (nx : PK) (c : Ctx) (rs : List RD) (tm : TM) (H : Heap) (x : X)
theorem stepK_freeG : stepK ds ⟨f, some (e, b), os, dst, .free, i, bef⟩ nx c rs tm H x = guardK (e tm) b (cond (lowOs H.nx tm os) (freeK ⟨f, some (e, b), os, dst, .free, i, bef⟩ nx rs tm H x (f (rsF tm os) ⟨H.nx, .leaf, H.nx⟩)) .fail) (nx rs (dst tm undefA) H x) := rfl
theorem stepK_readG : stepK ds ⟨f, some (e, b), os, dst, .read, i, bef⟩ nx c rs tm H x = guardK (e tm) b (readK ⟨f, some (e, b), os, dst, .read, i, bef⟩ nx rs tm H x (f (rsF tm os) ⟨H.nx, H.t, H.nx⟩)) (nx rs (dst tm undefA) H x) := rfl
theorem stepK_effG : stepK ds ⟨f, some (e, b), os, dst, .eff, i, bef⟩ nx c rs tm H x = cond (still tm H rs) (guardK (e tm) b (effK ds ⟨f, some (e, b), os, dst, .eff, i, bef⟩ nx rs c tm x (f (rsF tm os) H)) (nx (keepR bef rs) (dst tm undefA) H x)) .fail := rfl
/-- an operation that makes an object -/
theorem freeK_new (g : Option (EvF × Bool)) (kd : Kind) (v : AV) (o : Obj) (hw : wrO o = true) : freeK ⟨f, g, os, dst, kd, i, bef⟩ nx rs tm H x (.val v ((⟨H.nx, .leaf, H.nx⟩ : Heap).new o)) = nx rs (dst tm v) (H.new o) x := by
  show cond (Nat.beq (H.nx + 1) H.nx) _ (cond (Nat.beq (H.nx + 1) (Nat.succ H.nx)) (onNew (((T.leaf : T Obj).set H.nx o).get H.nx) fun o => nx rs (dst tm v) (H.new o) x) .fail) = _
  rw [beq_nat, decide_eq_false (by omega), beq_nat, decide_eq_true rfl, T.get_set, if_pos rfl]
  show cond (wrO o) _ _ = _
  rw [hw]; rfl
end
/-- a call that is looked up -/
theorem callN_hit {lib : Nat → List AV → Heap → Option CR} {fs : T CF} {fuel n f : Nat} {args : List AV} {H : Heap} {r : CR} (h : lib f args H = some r) : callN lib fs fuel (n + 1) f args H = r := by
  show libOr (lib f args H) _ = _
  rw [h]; rfl
end Go.AI

/- A contract: a call that keeps the heap. -/
namespace Go.AI
open Go
variable {P : Program}
theorem keep_ok {call : Nat → List AV → Heap → CR} (hcall : CallOk P call) {f : FuncId} {args : List AV} {H H' : Heap} {v : AV} (hrun : call f args H = .ret v H') (k : Keep H H' []) (hlow : lowV 0 v = true)
    {σ : Mp} {w : World} {vs : List Value} (hs : Sim P σ H w) (hv : RelL σ args vs) : CROk P σ H w (.ret v H) ((callFunc f ⟨vs⟩).run P w) := by
  have hcr := hcall f _ H σ w vs hs hv
  rw [hrun] at hcr
  refine Ends.mono (fun u' w' hx => ?_) (fun _ _ hx => hx) hcr
  obtain ⟨σ2, h1, t⟩ := hx
  refine ⟨σ, ?_, t.drop hs fun b hb => k.get b hb (by simp)⟩
  exact (Rel.cut hlow h1).mono fun y _ hy => by have := (Mp.cut_some hy).1; omega
end Go.AI

/- Texts; buffers that grow. -/
namespace Go.AI
open Go
noncomputable section
noncomputable def lenSV (a : AV) (H : Heap) : OR := onStr a fun s => forceN (lenL s) fun n => .val (.int .i64 (.ofNat n)) H
theorem oLenS_run (x : EvF) (tm : TM) (H : Heap) : oLenS x tm H = lenSV (x tm) H := rfl
theorem eqS_eq (a b : List UInt8) (H : Heap) : eqV eqS false (.str a) (.str b) H = .val (.bool (decide (a = b))) H := by
  show vBool (strEq a b) H = _
  rw [vBool_run, strEq_eq]
  congr 2
  by_cases h : a = b <;> simp [h]
/-! ### what lies below is left alone -/
structure Below (n : Nat) (H H' : Heap) : Prop where
  nx : H.nx ≤ H'.nx
  ro : H'.ro = H.ro
  get : ∀ c, c < n → c < H.nx → H'.t.get c = H.t.get c
theorem Below.refl (n : Nat) (H : Heap) : Below n H H := ⟨Nat.le_refl _, rfl, fun _ _ _ => rfl⟩
theorem Below.trans {n : Nat} {H H' H'' : Heap} (a : Below n H H') (b : Below n H' H'') : Below n H H'' :=
  ⟨Nat.le_trans a.nx b.nx, b.ro.trans a.ro, fun c h1 h2 => (b.get c h1 (Nat.lt_of_lt_of_le h2 a.nx)).trans (a.get c h1 h2)⟩
theorem Below.put {n b : Nat} {H : Heap} {o : Obj} (h : n ≤ b) : Below n H (H.put b o) := ⟨Nat.le_refl _, rfl, fun c h1 _ => by rw [put_get, if_neg (by omega)]⟩
theorem Below.new (n : Nat) (H : Heap) (o : Obj) : Below n H (H.new o) := ⟨Nat.le_succ _, rfl, fun c _ h2 => by rw [new_get, if_neg (by omega)]⟩
theorem Below.mono {n m : Nat} {H H' : Heap} (a : Below n H H') (h : m ≤ n) : Below m H H' := ⟨a.nx, a.ro, fun c h1 h2 => a.get c (by omega) h2⟩
theorem Keep.below {H0 H H' : Heap} {n : Nat} (k : Keep H0 H []) (b : Below n H H') (h : H0.nx ≤ n) : Keep H0 H' [] :=
  ⟨Nat.le_trans k.nx b.nx, b.ro.trans k.ro, fun c h1 h2 => (b.get c (by omega) (Nat.lt_of_lt_of_le h1 k.nx)).trans (k.get c h1 h2)⟩
/-! ### a row of bytes that is appended to -/
def Tail (H : Heap) (v : AV) (l : List UInt8) (lo : Nat) : Prop := ∃ b r, v = .slice b 0 l.length none ∧ Grow H b 5 (l.map u8V) r ∧ lo ≤ b
def Buf (H : Heap) (v : AV) (l : List UInt8) (lo : Nat) : Prop := (l = [] ∧ v = .nils) ∨ (l ≠ [] ∧ Tail H v l lo)
theorem Buf.below {H H' : Heap} {v : AV} {l : List UInt8} {lo : Nat} (h : Buf H v l lo) (hp : ∀ c, lo ≤ c → c < H.nx → H'.t.get c = H.t.get c) (hro : H'.ro = H.ro) (hnx : H.nx ≤ H'.nx) : Buf H' v l lo := by
  rcases h with h | ⟨hne, b, r, rfl, g, hb⟩
  · exact .inl h
  · exact .inr ⟨hne, b, r, rfl, ⟨⟨by rw [hp b hb g.low]; exact g.at_, g.elem, g.sz, g.own, g.fz, g.sm, g.cells, by rw [hro]; exact g.ro⟩, g.exact_, Nat.lt_of_lt_of_le g.low hnx⟩, hb⟩
end
end Go.AI

/- More equations for runs on values that are not known. -/
namespace Go.AI
open Go
noncomputable section
theorem cmpV_gt (k : IntKind) (a b : Nat) (H : Heap) : cmpV igtF strGt (nI k a) (nI k b) H = .val (.bool (decide (b < a))) H := by
  show onIf (kEq k k) (vBool (ilt (.ofNat b) (.ofNat a)) H) = _
  rw [kEq_self, vBool_run, ilt_nat]; rfl
theorem cmpV_le (k : IntKind) (a b : Nat) (H : Heap) : cmpV ileF strLe (nI k a) (nI k b) H = .val (.bool (decide (a ≤ b))) H := by
  show onIf (kEq k k) (vBool (!ilt (.ofNat b) (.ofNat a)) H) = _
  rw [kEq_self, vBool_run, ilt_nat]
  show OR.val (.bool (!decide (b < a))) H = _
  congr 2
  by_cases h : b < a
  · rw [decide_eq_true h, decide_eq_false (by omega)]; rfl
  · rw [decide_eq_false h, decide_eq_true (by omega)]; rfl
theorem pickV_t (b c : AV) (H : Heap) : pickV (.bool true) b c H = .val b H := rfl
theorem pickV_f (b c : AV) (H : Heap) : pickV (.bool false) b c H = .val c H := rfl
theorem notV_b (b : Bool) (H : Heap) : notV (.bool b) H = .val (.bool (cond b false true)) H := rfl
theorem lowV_agg (n : Nat) (l : List AV) : lowV n (.agg l) = lowL n l := rfl
theorem lowV_undef (n : Nat) : lowV n undefA = true := rfl
theorem lowV_str (n : Nat) (s : List UInt8) : lowV n (.str s) = true := rfl
noncomputable def minV (mx : Bool) (l : List AV) (H : Heap) : OR := match l with
  | .int k a :: l => min2 mx k a H l
  | _ => .fail
theorem oMinMax_run (mx : Bool) (args : List EvF) (tm : TM) (H : Heap) : oMinMax mx args tm H = minV mx (evs tm args) H := rfl
theorem minV_two (a b : Nat) (H : Heap) : minV false [nI .i64 a, nI .i64 b] H = .val (nI .i64 (min a b)) H := by
  show onIf (kEq .i64 .i64) (min2 false .i64 (cond (cond false (ilt (.ofNat a) (.ofNat b)) (ilt (.ofNat b) (.ofNat a))) (.ofNat b) (.ofNat a)) H []) = _
  rw [kEq_self, ilt_nat, ilt_nat]
  show OR.val (.int .i64 (cond (decide (b < a)) (.ofNat b) (.ofNat a))) H = _
  by_cases h : b < a
  · rw [decide_eq_true h, Nat.min_eq_right (by omega)]; rfl
  · rw [decide_eq_false h, Nat.min_eq_left (by omega)]; rfl
noncomputable def extrV (i : Nat) (a : AV) (H : Heap) : OR := onTup a fun vs => onSome (nthL vs i) fun v => .val v H
theorem oExtr_run (x : EvF) (i : Nat) (tm : TM) (H : Heap) : oExtr x i tm H = extrV i (x tm) H := rfl
theorem extrV_0 (a : AV) (l : List AV) (H : Heap) : extrV 0 (.tup (a :: l)) H = .val a H := rfl
theorem extrV_1 (a b : AV) (l : List AV) (H : Heap) : extrV 1 (.tup (a :: b :: l)) H = .val b H := rfl
/-! ### pointers seen otherwise -/
theorem toBytes_u8 : ∀ (l : List UInt8) (k : List UInt8 → OR), toBytes k (l.map u8V) = k l
  | [], k => rfl
  | x :: l, k => by
    show toBytes (fun s => k (UInt8.ofNat x.toNat :: s)) (l.map u8V) = _
    rw [toBytes_u8 l]
    simp
theorem after_loop {a : TM → Heap → X → Res} {F i : Nat} {H : Heap} {x : X} {L : Res} {P : TM → Prop} {Q : TM → Heap → Prop} (lp : ∀ T, P T → ∃ tm' H', loopN a F T H x = .ok (.exit i) tm' H' x ∧ Q tm' H') {T : TM} (hL : loopN a F T H x = L) (hi : P T) :
    ∃ tm' H', L = .ok (.exit i) tm' H' x ∧ Q tm' H' := by
  obtain ⟨b, c, e, j⟩ := lp T hi
  exact ⟨b, c, hL.symm.trans e, j⟩
/-! bytes cut -/
end
end Go.AI

/- Rows of records. -/
namespace Go.AI
open Go
noncomputable section
theorem flat_len {sz : Nat} : ∀ {ls : List (List AV)}, (∀ l ∈ ls, l.length = sz) → ls.flatten.length = ls.length * sz
  | [], _ => by simp
  | l :: ls, h => by
    rw [List.flatten_cons, List.length_append, flat_len (fun x hx => h x (List.mem_cons_of_mem _ hx)), h l (List.mem_cons_self ..), List.length_cons, Nat.add_mul]
    omega
theorem flat_at {sz : Nat} : ∀ {ls : List (List AV)} {i : Nat}, (∀ l ∈ ls, l.length = sz) → i < ls.length → (ls.flatten.drop (i * sz)).take sz = ls.getD i []
  | l :: ls, 0, h, _ => by
    rw [Nat.zero_mul, List.drop_zero, List.flatten_cons, List.take_append_of_le_length (by rw [h l (List.mem_cons_self ..)]; exact Nat.le_refl _), List.take_of_length_le (by rw [h l (List.mem_cons_self ..)]; exact Nat.le_refl _)]
    rfl
  | l :: ls, i + 1, h, hi => by
    have hl := h l (List.mem_cons_self ..)
    have e : (i + 1) * sz = l.length + i * sz := by rw [hl, Nat.add_mul]; omega
    rw [List.flatten_cons, e, ← List.drop_drop, List.drop_left]
    have := flat_at (i := i) (fun x hx => h x (List.mem_cons_of_mem _ hx)) (by simpa using hi)
    rw [this]; rfl
structure Recs (H : Heap) (b e sz : Nat) (ls : List (List AV)) (r : Row) : Prop where
  at_ : H.t.get b = some (.row r)
  elem : r.elem = e
  szr : r.sz = sz
  own : r.own = true
  fz : r.fz = 0
  sm : r.sm = false
  exact_ : r.exact = false
  cells : Cells r ls.flatten
  each : ∀ l ∈ ls, l.length = sz
  ro : H.ro ≤ b
  low : b < H.nx
theorem Recs.size {H : Heap} {b e sz : Nat} {ls : List (List AV)} {r : Row} (h : Recs H b e sz ls r) : r.size = ls.length * sz := by rw [h.cells.size, flat_len h.each]
theorem Recs.moved {H H' : Heap} {b e sz : Nat} {ls : List (List AV)} {r : Row} (h : Recs H b e sz ls r) (g : H'.t.get b = H.t.get b) (hro : H'.ro = H.ro) (hnx : H.nx ≤ H'.nx) : Recs H' b e sz ls r :=
  ⟨g.trans h.at_, h.elem, h.szr, h.own, h.fz, h.sm, h.exact_, h.cells, h.each, by rw [hro]; exact h.ro, Nat.lt_of_lt_of_le h.low hnx⟩
theorem Recs.load {H H' : Heap} {b e sz : Nat} {ls : List (List AV)} {r : Row} (h : Recs H b e sz ls r) (ht : H'.t = H.t) {i : Nat} (hi : i < ls.length) : loadV sz (.ptr b (i * sz)) H' = .val (.agg (ls.getD i [])) H' := by
  have hf := flat_len h.each
  have hm : (i + 1) * sz ≤ ls.length * sz := Nat.mul_le_mul_right _ hi
  rw [Nat.add_mul, Nat.one_mul] at hm
  rw [loadV_row (r := r) (by rw [ht]; exact h.at_) h.cells (by omega), flat_at h.each hi]
theorem idxSV_rec {n i sz : Nat} (h : i < n) (b o : Nat) (c : Option Nat) (k : IntKind) (H : Heap) : idxSV sz (.slice b o n c) (nI k i) H = .val (.ptr b (o + i * sz)) H := by
  show onIf (Nat.ble (Nat.succ i) n) (OR.val (.ptr b (Nat.add o (Nat.mul i sz))) H) = _
  rw [Nat.ble_eq_true_of_le (show Nat.succ i ≤ n from h)]; rfl
def RBuf (H : Heap) (v : AV) (e sz : Nat) (ls : List (List AV)) (lo : Nat) : Prop := (ls = [] ∧ v = .nils) ∨ (ls ≠ [] ∧ ∃ b r, v = .slice b 0 ls.length none ∧ Recs H b e sz ls r ∧ lo ≤ b)
/-- a record more -/
theorem rbuf_push {H : Heap} {v : AV} {e sz bytes : Nat} {ls : List (List AV)} {lo : Nat} (h : RBuf H v e sz ls lo) (hsz : 1 ≤ sz) (hby : 1 ≤ bytes) (hl : (ls.length + 1) * bytes ≤ 140737488355328) (hro : H.ro ≤ H.nx) (hlo : lo ≤ H.nx) {x : List AV} (hx : x.length = sz) :
    ∃ v' H', appendV e sz bytes v (.slice H.nx 0 1 none) (H.newRow e sz x true) = .val v' H' ∧ RBuf H' v' e sz (ls ++ [x]) lo ∧ Below lo H H' := by
  generalize hH1 : H.newRow e sz x true = H1
  have nx1 : H1.nx = H.nx + 1 := by rw [← hH1]; rfl
  have k1 : Keep H H1 [] := by rw [← hH1]; exact Keep.new H _ []
  have b1 : Below lo H H1 := by rw [← hH1]; exact Below.new lo H _
  have gx : H1.t.get H.nx = some (.row ⟨e, sz, lenL x, T.ofList x, .unk, 0, false, true, true⟩) := by rw [← hH1, newRow_eq, new_get, if_pos rfl]
  have cx := Cells.new e sz x 0 false true true
  have src : ∀ k : Nat → List AV → OR, (lenA (.slice H.nx 0 1 none) fun n => contents H1 sz (.slice H.nx 0 1 none) n fun new => k n new) = k 1 x := by
    intro k
    show (contents H1 sz (.slice H.nx 0 1 none) 1 fun new => k 1 new) = _
    generalize (⟨e, sz, lenL x, T.ofList x, .unk, 0, false, true, true⟩ : Row) = r0 at gx cx
    unfold contents onRow
    simp only [gx]
    show onIf (Nat.ble (0 + 1 * sz) r0.size) (k 1 (loadN r0 0 (1 * sz))) = _
    rw [Nat.one_mul, cx.size, hx, Nat.ble_eq_true_of_le (show 0 + sz ≤ sz by omega)]
    have := cx.load (o := 0) (n := sz) (by omega)
    rw [this, List.drop_zero, List.take_of_length_le (by omega)]
    rfl
  have ap : ∀ a, appendV e sz bytes a (.slice H.nx 0 1 none) H1 = appX a e sz bytes H1 1 x := by
    intro a
    show onIf (Nat.ble 1 sz) (onIf (Nat.ble 1 bytes) _) = _
    rw [Nat.ble_eq_true_of_le hsz, Nat.ble_eq_true_of_le hby]
    exact src fun n new => appX a e sz bytes H1 n new
  rw [ap]
  rcases h with ⟨rfl, rfl⟩ | ⟨hne, b, r, rfl, g, hb⟩
  · refine ⟨.slice H1.nx 0 1 none, H1.newRow e sz x false, ?_, .inr ⟨by simp, H1.nx, _, rfl, ⟨by rw [newRow_eq, new_get, if_pos rfl], rfl, rfl, rfl, rfl, rfl, rfl, by simpa using Cells.new e sz x 0 false true false, fun l hm => by simp at hm; rw [hm]; exact hx, by show H1.ro ≤ H1.nx; rw [k1.ro]; omega, Nat.lt_succ_self _⟩, by omega⟩, b1.trans (Below.new lo H1 _)⟩
    show onIf (Nat.ble (1 * bytes) 140737488355328) (OR.val (.slice H1.nx 0 1 none) (H1.newRow e sz x false)) = _
    rw [Nat.ble_eq_true_of_le (by simpa using hl)]; rfl
  · have g1 : Recs H1 b e sz ls r := g.moved (k1.get b g.low (by simp)) k1.ro (by omega)
    have hs := g1.size
    have hcap : capOf r 0 none = ls.length := by
      show cond (Nat.beq r.sz 1) (r.size - 0) ((r.size - 0) / r.sz) = _
      rw [g1.szr, hs, Nat.sub_zero]
      by_cases h1 : sz = 1
      · subst h1; show ls.length * 1 = _; omega
      · rw [beq_nat, decide_eq_false h1]
        exact Nat.mul_div_cancel _ (by omega)
    have hmay : H1.may r b = true := by unfold Heap.may; rw [g1.own, Nat.ble_eq_true_of_le g1.ro]; rfl
    have hlen : (ls.length + 1) * sz = ls.length * sz + sz := by rw [Nat.add_mul]; omega
    refine ⟨.slice H1.nx 0 (ls ++ [x]).length none, ⟨Nat.succ H1.nx, (H1.t.del b).set H1.nx (.row ⟨r.elem, sz, (ls.length + 1) * sz, storeN r.cells (ls.length * sz) x, r.dflt, r.fz, r.sm, true, false⟩), H1.ro⟩, ?_, .inr ⟨by simp, H1.nx, ⟨r.elem, sz, (ls.length + 1) * sz, storeN r.cells (ls.length * sz) x, r.dflt, r.fz, r.sm, true, false⟩, rfl, ⟨by rw [T.get_set, if_pos rfl], g1.elem, rfl, rfl, g1.fz, g1.sm, rfl, ?_, ?_, Nat.le_trans g1.ro (Nat.le_of_lt g1.low), Nat.lt_succ_self _⟩, by omega⟩, b1.trans ⟨Nat.le_succ _, rfl, fun c hc hn => ?_⟩⟩
    · show onRow H1 b _ = _
      unfold onRow
      simp only [g1.at_]
      have h1 : szOk r sz none = true := by show Nat.beq r.sz sz = true; rw [g1.szr, Nat.beq_refl]
      have h2 : Nat.ble (Nat.add ls.length 1) (capOf r 0 none) = false := by
        rw [hcap]
        cases h : Nat.ble (Nat.add ls.length 1) ls.length with
        | false => rfl
        | true => have := Nat.le_of_ble_eq_true h; have : ls.length + 1 ≤ ls.length := this; omega
      rw [h1, h2]
      show onIf (Nat.ble ((ls.length + 1) * bytes) 140737488355328) (onIf (Nat.ble (0 + ls.length * sz) r.size) (cond r.exact _ (appOwn H1 e b 0 ls.length 1 sz r x))) = _
      rw [Nat.ble_eq_true_of_le hl, hs, Nat.zero_add, Nat.ble_eq_true_of_le (Nat.le_refl _), g1.exact_]
      show onIf (Nat.beq r.elem e) (onIf (H1.may r b) (onIf (Nat.ble r.fz (ls.length * sz)) (onIf (Nat.beq (ls.length * sz) r.size) (onIf (Nat.beq 0 0) _)))) = _
      rw [g1.elem, Nat.beq_refl, hmay, g1.fz, Nat.ble_eq_true_of_le (Nat.zero_le _), hs, Nat.beq_refl]
      show OR.val (.slice H1.nx 0 (ls.length + 1) none) _ = _
      rw [List.length_append]
      rfl
    · have hf := flat_len g1.each
      refine ⟨by show (ls.length + 1) * sz = _; rw [List.flatten_append, List.length_append, hf]; simp [hx]; omega, fun i hi => ?_⟩
      rw [List.flatten_append, List.length_append, hf] at hi
      have e1 : [x].flatten = x := by simp
      rw [e1] at hi
      rw [Row.get_eq]
      show ((storeN r.cells (ls.length * sz) x).get i).getD r.dflt = _
      rw [storeN_get, List.getD_eq_getElem?_getD, List.flatten_append, e1]
      by_cases h1 : ls.length * sz ≤ i
      · rw [if_pos ⟨h1, by omega⟩, List.getElem?_append_right (by omega), hf, List.getElem?_eq_getElem (show i - ls.length * sz < x.length by omega)]; rfl
      · rw [if_neg (by omega), List.getElem?_append_left (by omega)]
        have := g1.cells.get i (by omega)
        rw [Row.get_eq, List.getD_eq_getElem?_getD] at this
        exact this
    · intro l hm
      rcases List.mem_append.1 hm with hm | hm
      · exact g1.each l hm
      · simp at hm; rw [hm]; exact hx
    · show ((H1.t.del b).set H1.nx _).get c = _
      rw [T.get_set, if_neg (by omega), T.get_del, if_neg (by omega)]
theorem RBuf.below {H H' : Heap} {v : AV} {e sz : Nat} {ls : List (List AV)} {lo : Nat} (h : RBuf H v e sz ls lo) (hp : ∀ c, lo ≤ c → c < H.nx → H'.t.get c = H.t.get c) (hro : H'.ro = H.ro) (hnx : H.nx ≤ H'.nx) : RBuf H' v e sz ls lo := by
  rcases h with h | ⟨hne, b, r, rfl, g, hb⟩
  · exact .inl h
  · exact .inr ⟨hne, b, r, rfl, g.moved (hp b hb g.low) hro hnx, hb⟩
theorem RBuf.len {H : Heap} {v : AV} {e sz : Nat} {ls : List (List AV)} {lo : Nat} (h : RBuf H v e sz ls lo) (G : Heap) : lenV v G = .val (nI .i64 ls.length) G := by
  rcases h with ⟨rfl, rfl⟩ | ⟨_, b, r, rfl, _⟩
  · exact lenV_nil G
  · exact lenV_slice ..
theorem RBuf.low {H : Heap} {v : AV} {e sz : Nat} {ls : List (List AV)} {lo : Nat} (h : RBuf H v e sz ls lo) {n : Nat} (hn : H.nx ≤ n) : lowV n v = true := by
  rcases h with ⟨_, rfl⟩ | ⟨_, b, r, rfl, g, _⟩
  · rfl
  · exact lowV_slice (Nat.lt_of_lt_of_le g.low hn) _ _ _
theorem RBuf.same {H : Heap} {v : AV} {e sz : Nat} {ls : List (List AV)} {lo : Nat} (h : RBuf H v e sz ls lo) (n : Nat) (t : T Obj) : isSame (.val v ⟨n, t, n⟩) v n = true := by
  rcases h with ⟨_, rfl⟩ | ⟨_, b, r, rfl, _⟩
  · exact isSame_nils n t
  · exact isSame_slice _ _ _ _ _ _
end
end Go.AI

namespace Go.AI
open Go
noncomputable section
theorem BaseG : (∀ (f : OpF) (dst : SetF) (next : D) (c : Ctx) (tm : TM) (H : Heap) (x : X), seqO f dst next c tm H x = goOn (next c) dst c tm H x (f tm H)) ∧ (∀ (next : TM → Heap → X → Res) (dst : SetF) (c : Ctx) (tm : TM) (H : Heap) (x : X) (v : AV) (H' : Heap), goOn next dst c tm H x (.val v H') = next (dst tm v) H' x) ∧ (∀ (next : TM → Heap → X → Res) (dst : SetF) (c : Ctx) (tm : TM) (H : Heap) (x : X) (f : Nat) (args : List AV) (H' : Heap), goOn next dst c tm H x (.oth (.call f args H')) = onCR next dst tm x (c.call f args H')) ∧ (∀ (next : TM → Heap → X → Res) (dst : SetF) (tm : TM) (x : X) (v : AV) (H : Heap), onCR next dst tm x (.ret v H) = next (dst tm v) H x) ∧ (∀ (a b : D) (c : Ctx) (tm : TM) (H : Heap) (x : X), seqD a b c tm H x = thenR (a c tm H x) (b c)) ∧ (∀ (tm : TM) (H : Heap) (x : X) (k : TM → Heap → X → Res), thenR (.ok .normal tm H x) k = k tm H x) ∧ (∀ (tm : TM) (H : Heap) (x : X) (k : TM → Heap → X → Res), thenR (.ok .ret tm H x) k = .ok .ret tm H x) ∧ (∀ (i : Nat) (tm : TM) (H : Heap) (x : X) (k : TM → Heap → X → Res), thenR (.ok (.exit i) tm H x) k = .ok (.exit i) tm H x) ∧ (∀ (c : Ctx) (tm : TM) (H : Heap) (x : X), normD c tm H x = .ok .normal tm H x) ∧ (∀ (c : Ctx) (tm : TM) (H : Heap) (x : X), retD c tm H x = .ok .ret tm H x) ∧ (∀ (i : Nat) (c : Ctx) (tm : TM) (H : Heap) (x : X), exitD i c tm H x = .ok (.exit i) tm H x) ∧ (∀ (q : EvF) (a b : D) (c : Ctx) (tm : TM) (H : Heap) (x : X), condD q a b c tm H x = isBn (q tm) fun v => condK (a c) (b c) v tm H x) ∧ (∀ (b : Bool) (k : Bool → Res), isBn (.bool b) k = k b) ∧ (∀ (a b : TM → Heap → X → Res) (tm : TM) (H : Heap) (x : X), condK a b true tm H x = a tm H x) ∧ (∀ (a b : TM → Heap → X → Res) (tm : TM) (H : Heap) (x : X), condK a b false tm H x = b tm H x) ∧ (∀ (i : Nat) (a : D) (c : Ctx) (tm : TM) (H : Heap) (x : X), blockD i a c tm H x = leaveB i (a c tm H x)) ∧ (∀ (i : Nat) (tm : TM) (H : Heap) (x : X), leaveB i (.ok .normal tm H x) = .ok .normal tm H x) ∧ (∀ (i : Nat) (tm : TM) (H : Heap) (x : X), leaveB i (.ok (.exit i) tm H x) = .ok .normal tm H x) ∧ (∀ (i : Nat) (tm : TM) (H : Heap) (x : X), leaveB i (.ok .ret tm H x) = .ok .ret tm H x) ∧ (∀ (tm : TM) (v : AV), d0 tm v = tm) ∧ (∀ (v : AV) (tm : TM), k v tm = v) ∧ (∀ (tm : TM), evs tm [] = []) ∧ (∀ (tm : TM) (f : EvF) (l : List EvF), evs tm (f :: l) = f tm :: evs tm l) ∧ (∀ (x : EvF) (tm : TM) (H : Heap), oMv x tm H = .val (x tm) H) ∧ (∀ (x : EvF) (tm : TM) (H : Heap), oNeg x tm H = negV (x tm) H) ∧ (∀ (x : EvF) (k : IntKind) (tm : TM) (H : Heap), oInt x k tm H = intV k (x tm) H) ∧ (∀ (x y : EvF) (tm : TM) (H : Heap), oAddS x y tm H = addV (x tm) (y tm) H) ∧ (∀ (x y : EvF) (tm : TM) (H : Heap), oSub x y tm H = subV (x tm) (y tm) H) ∧ (∀ (x y : EvF) (tm : TM) (H : Heap), oMul x y tm H = mulV (x tm) (y tm) H) ∧ (∀ (x y : EvF) (tm : TM) (H : Heap), oQuo x y tm H = quoV (x tm) (y tm) H) ∧ (∀ (x y : EvF) (tm : TM) (H : Heap), oRem x y tm H = remV (x tm) (y tm) H) ∧ (∀ (x y : EvF) (f : Nat → Nat → Nat → Nat) (tm : TM) (H : Heap), oBits x y f tm H = bitsV f (x tm) (y tm) H) ∧ (∀ (x y : EvF) (tm : TM) (H : Heap), oShl x y tm H = shlV (x tm) (y tm) H) ∧ (∀ (x y : EvF) (tm : TM) (H : Heap), oShr x y tm H = shrV (x tm) (y tm) H) ∧ (∀ (x : EvF) (tm : TM) (H : Heap), oXorU x tm H = xorUV (x tm) H) ∧ (∀ (x y : EvF) (f : Int → Int → Bool) (g : List UInt8 → List UInt8 → Bool) (tm : TM) (H : Heap), oCmp x y f g tm H = cmpV f g (x tm) (y tm) H) ∧ (∀ (x y : EvF) (f : AV → AV → Option Bool) (neg : Bool) (tm : TM) (H : Heap), oEq x y f neg tm H = eqV f neg (x tm) (y tm) H) ∧ (∀ (x : EvF) (tm : TM) (H : Heap), oNot x tm H = notV (x tm) H) ∧ (∀ (x y z : EvF) (tm : TM) (H : Heap), oPick x y z tm H = pickV (x tm) (y tm) (z tm) H) ∧ (∀ (f : Nat) (args : List EvF) (tm : TM) (H : Heap), oCallF f args tm H = .oth (.call f (evs tm args) H)) := ⟨@seqO_run, @goOn_val, @goOn_call, @onCR_ret, @seqD_run, @thenR_normal, @thenR_ret, @thenR_exit, @normD_run, @retD_run, @exitD_run, @condD_run, @isBn_bool, @condK_true, @condK_false, @blockD_run, @leaveB_normal, @leaveB_same, @leaveB_ret, @d0_run, @k_run, @evs_nil, @evs_cons, @oMv_run, @oNeg_run, @oInt_run, @oAddS_run, @oSub_run, @oMul_run, @oQuo_run, @oRem_run, @oBits_run, @oShl_run, @oShr_run, @oXorU_run, @oCmp_run, @oEq_run, @oNot_run, @oPick_run, @oCallF_run⟩
theorem N8G : (∀ {α : Type} (f : α → α) (n : N8 α), N8.a0 (N8.u0 f n) = f (N8.a0 n)) ∧ (∀ {α : Type} (f : α → α) (n : N8 α), N8.a0 (N8.u1 f n) = N8.a0 n) ∧ (∀ {α : Type} (f : α → α) (n : N8 α), N8.a0 (N8.u2 f n) = N8.a0 n) ∧ (∀ {α : Type} (f : α → α) (n : N8 α), N8.a0 (N8.u3 f n) = N8.a0 n) ∧ (∀ {α : Type} (f : α → α) (n : N8 α), N8.a0 (N8.u4 f n) = N8.a0 n) ∧ (∀ {α : Type} (f : α → α) (n : N8 α), N8.a0 (N8.u5 f n) = N8.a0 n) ∧ (∀ {α : Type} (f : α → α) (n : N8 α), N8.a0 (N8.u6 f n) = N8.a0 n) ∧ (∀ {α : Type} (f : α → α) (n : N8 α), N8.a0 (N8.u7 f n) = N8.a0 n) ∧ (∀ {α : Type} (f : α → α) (n : N8 α), N8.a1 (N8.u0 f n) = N8.a1 n) ∧ (∀ {α : Type} (f : α → α) (n : N8 α), N8.a1 (N8.u1 f n) = f (N8.a1 n)) ∧ (∀ {α : Type} (f : α → α) (n : N8 α), N8.a1 (N8.u2 f n) = N8.a1 n) ∧ (∀ {α : Type} (f : α → α) (n : N8 α), N8.a1 (N8.u3 f n) = N8.a1 n) ∧ (∀ {α : Type} (f : α → α) (n : N8 α), N8.a1 (N8.u4 f n) = N8.a1 n) ∧ (∀ {α : Type} (f : α → α) (n : N8 α), N8.a1 (N8.u5 f n) = N8.a1 n) ∧ (∀ {α : Type} (f : α → α) (n : N8 α), N8.a1 (N8.u6 f n) = N8.a1 n) ∧ (∀ {α : Type} (f : α → α) (n : N8 α), N8.a1 (N8.u7 f n) = N8.a1 n) ∧ (∀ {α : Type} (f : α → α) (n : N8 α), N8.a2 (N8.u0 f n) = N8.a2 n) ∧ (∀ {α : Type} (f : α → α) (n : N8 α), N8.a2 (N8.u1 f n) = N8.a2 n) ∧ (∀ {α : Type} (f : α → α) (n : N8 α), N8.a2 (N8.u2 f n) = f (N8.a2 n)) ∧ (∀ {α : Type} (f : α → α) (n : N8 α), N8.a2 (N8.u3 f n) = N8.a2 n) ∧ (∀ {α : Type} (f : α → α) (n : N8 α), N8.a2 (N8.u4 f n) = N8.a2 n) ∧ (∀ {α : Type} (f : α → α) (n : N8 α), N8.a2 (N8.u5 f n) = N8.a2 n) ∧ (∀ {α : Type} (f : α → α) (n : N8 α), N8.a2 (N8.u6 f n) = N8.a2 n) ∧ (∀ {α : Type} (f : α → α) (n : N8 α), N8.a2 (N8.u7 f n) = N8.a2 n) ∧ (∀ {α : Type} (f : α → α) (n : N8 α), N8.a3 (N8.u0 f n) = N8.a3 n) ∧ (∀ {α : Type} (f : α → α) (n : N8 α), N8.a3 (N8.u1 f n) = N8.a3 n) ∧ (∀ {α : Type} (f : α → α) (n : N8 α), N8.a3 (N8.u2 f n) = N8.a3 n) ∧ (∀ {α : Type} (f : α → α) (n : N8 α), N8.a3 (N8.u3 f n) = f (N8.a3 n)) ∧ (∀ {α : Type} (f : α → α) (n : N8 α), N8.a3 (N8.u4 f n) = N8.a3 n) ∧ (∀ {α : Type} (f : α → α) (n : N8 α), N8.a3 (N8.u5 f n) = N8.a3 n) ∧ (∀ {α : Type} (f : α → α) (n : N8 α), N8.a3 (N8.u6 f n) = N8.a3 n) ∧ (∀ {α : Type} (f : α → α) (n : N8 α), N8.a3 (N8.u7 f n) = N8.a3 n) ∧ (∀ {α : Type} (f : α → α) (n : N8 α), N8.a4 (N8.u0 f n) = N8.a4 n) ∧ (∀ {α : Type} (f : α → α) (n : N8 α), N8.a4 (N8.u1 f n) = N8.a4 n) ∧ (∀ {α : Type} (f : α → α) (n : N8 α), N8.a4 (N8.u2 f n) = N8.a4 n) ∧ (∀ {α : Type} (f : α → α) (n : N8 α), N8.a4 (N8.u3 f n) = N8.a4 n) ∧ (∀ {α : Type} (f : α → α) (n : N8 α), N8.a4 (N8.u4 f n) = f (N8.a4 n)) ∧ (∀ {α : Type} (f : α → α) (n : N8 α), N8.a4 (N8.u5 f n) = N8.a4 n) ∧ (∀ {α : Type} (f : α → α) (n : N8 α), N8.a4 (N8.u6 f n) = N8.a4 n) ∧ (∀ {α : Type} (f : α → α) (n : N8 α), N8.a4 (N8.u7 f n) = N8.a4 n) ∧ (∀ {α : Type} (f : α → α) (n : N8 α), N8.a5 (N8.u0 f n) = N8.a5 n) ∧ (∀ {α : Type} (f : α → α) (n : N8 α), N8.a5 (N8.u1 f n) = N8.a5 n) ∧ (∀ {α : Type} (f : α → α) (n : N8 α), N8.a5 (N8.u2 f n) = N8.a5 n) ∧ (∀ {α : Type} (f : α → α) (n : N8 α), N8.a5 (N8.u3 f n) = N8.a5 n) ∧ (∀ {α : Type} (f : α → α) (n : N8 α), N8.a5 (N8.u4 f n) = N8.a5 n) ∧ (∀ {α : Type} (f : α → α) (n : N8 α), N8.a5 (N8.u5 f n) = f (N8.a5 n)) ∧ (∀ {α : Type} (f : α → α) (n : N8 α), N8.a5 (N8.u6 f n) = N8.a5 n) ∧ (∀ {α : Type} (f : α → α) (n : N8 α), N8.a5 (N8.u7 f n) = N8.a5 n) ∧ (∀ {α : Type} (f : α → α) (n : N8 α), N8.a6 (N8.u0 f n) = N8.a6 n) ∧ (∀ {α : Type} (f : α → α) (n : N8 α), N8.a6 (N8.u1 f n) = N8.a6 n) ∧ (∀ {α : Type} (f : α → α) (n : N8 α), N8.a6 (N8.u2 f n) = N8.a6 n) ∧ (∀ {α : Type} (f : α → α) (n : N8 α), N8.a6 (N8.u3 f n) = N8.a6 n) ∧ (∀ {α : Type} (f : α → α) (n : N8 α), N8.a6 (N8.u4 f n) = N8.a6 n) ∧ (∀ {α : Type} (f : α → α) (n : N8 α), N8.a6 (N8.u5 f n) = N8.a6 n) ∧ (∀ {α : Type} (f : α → α) (n : N8 α), N8.a6 (N8.u6 f n) = f (N8.a6 n)) ∧ (∀ {α : Type} (f : α → α) (n : N8 α), N8.a6 (N8.u7 f n) = N8.a6 n) ∧ (∀ {α : Type} (f : α → α) (n : N8 α), N8.a7 (N8.u0 f n) = N8.a7 n) ∧ (∀ {α : Type} (f : α → α) (n : N8 α), N8.a7 (N8.u1 f n) = N8.a7 n) ∧ (∀ {α : Type} (f : α → α) (n : N8 α), N8.a7 (N8.u2 f n) = N8.a7 n) ∧ (∀ {α : Type} (f : α → α) (n : N8 α), N8.a7 (N8.u3 f n) = N8.a7 n) ∧ (∀ {α : Type} (f : α → α) (n : N8 α), N8.a7 (N8.u4 f n) = N8.a7 n) ∧ (∀ {α : Type} (f : α → α) (n : N8 α), N8.a7 (N8.u5 f n) = N8.a7 n) ∧ (∀ {α : Type} (f : α → α) (n : N8 α), N8.a7 (N8.u6 f n) = N8.a7 n) ∧ (∀ {α : Type} (f : α → α) (n : N8 α), N8.a7 (N8.u7 f n) = f (N8.a7 n)) := ⟨@N8.g00, @N8.g01, @N8.g02, @N8.g03, @N8.g04, @N8.g05, @N8.g06, @N8.g07, @N8.g10, @N8.g11, @N8.g12, @N8.g13, @N8.g14, @N8.g15, @N8.g16, @N8.g17, @N8.g20, @N8.g21, @N8.g22, @N8.g23, @N8.g24, @N8.g25, @N8.g26, @N8.g27, @N8.g30, @N8.g31, @N8.g32, @N8.g33, @N8.g34, @N8.g35, @N8.g36, @N8.g37, @N8.g40, @N8.g41, @N8.g42, @N8.g43, @N8.g44, @N8.g45, @N8.g46, @N8.g47, @N8.g50, @N8.g51, @N8.g52, @N8.g53, @N8.g54, @N8.g55, @N8.g56, @N8.g57, @N8.g60, @N8.g61, @N8.g62, @N8.g63, @N8.g64, @N8.g65, @N8.g66, @N8.g67, @N8.g70, @N8.g71, @N8.g72, @N8.g73, @N8.g74, @N8.g75, @N8.g76, @N8.g77⟩
theorem HpG : (∀ (x : EvF) (tm : TM) (H : Heap), oLoad1 x tm H = load1V (x tm) H) ∧ (∀ (x : EvF) (n : Nat) (tm : TM) (H : Heap), oLoad x n tm H = loadV n (x tm) H) ∧ (∀ (x y : EvF) (n : Nat) (tm : TM) (H : Heap), oStore x y n tm H = storeV n (x tm) (y tm) H) ∧ (∀ (x : EvF) (n : Nat) (tm : TM) (H : Heap), oOff x n tm H = offV n (x tm) H) ∧ (∀ (x y : EvF) (n sz : Nat) (tm : TM) (H : Heap), oIdxA x y n sz tm H = idxAV n sz (x tm) (y tm) H) ∧ (∀ (x y : EvF) (sz : Nat) (tm : TM) (H : Heap), oIdxS x y sz tm H = idxSV sz (x tm) (y tm) H) ∧ (∀ (x : EvF) (tm : TM) (H : Heap), oNil x tm H = nilV (x tm) H) ∧ (∀ (x : EvF) (tm : TM) (H : Heap), oLenL x tm H = lenV (x tm) H) ∧ (∀ (e n : Nat) (v : AV) (tm : TM) (H : Heap), oAllocZ e n v tm H = .val (.ptr H.nx 0) (H.new (.row ⟨e, 1, n, .leaf, v, 0, false, true, true⟩))) ∧ (∀ (n b o : Nat) (H : Heap), offV n (.ptr b o) H = .val (.ptr b (o + n)) H) ∧ (∀ (b o : Nat) (H : Heap), nilV (.ptr b o) H = .val (.ptr b o) H) ∧ (∀ (b o n : Nat) (c : Option Nat) (H : Heap), lenV (.slice b o n c) H = .val (nI .i64 n) H) ∧ (∀ (H : Heap) (b c : Nat) (o : Obj), (H.put b o).t.get c = if b = c then some o else H.t.get c) ∧ (∀ (H : Heap) (c : Nat) (o : Obj), (H.new o).t.get c = if H.nx = c then some o else H.t.get c) ∧ (∀ (H : Heap) (b : Nat) (o : Obj), (H.put b o).nx = H.nx) ∧ (∀ (H : Heap) (b : Nat) (o : Obj), (H.put b o).ro = H.ro) ∧ (∀ (H : Heap) (o : Obj), (H.new o).nx = H.nx + 1) ∧ (∀ (H : Heap) (o : Obj), (H.new o).ro = H.ro) := ⟨@oLoad1_run, @oLoad_run, @oStore_run, @oOff_run, @oIdxA_run, @oIdxS_run, @oNil_run, @oLenL_run, @oAllocZ_run, @offV_ptr, @nilV_ptr, @lenV_slice, @put_get, @new_get, @put_nx, @put_ro, @new_nx, @new_ro⟩
end
end Go.AI
