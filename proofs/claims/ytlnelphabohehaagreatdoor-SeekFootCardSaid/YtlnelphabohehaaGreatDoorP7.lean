/- Running the interpreter's code on values that are not known: equations, proved without conditions but those that each names; what is looked up rank by rank, or over a row of bytes. -/
import Derived.Test.YtlnelphabohehaaGreatDoorP6
import Derived.Test.YtlnelphabohehaaGreatDoorP5
set_option maxRecDepth 1000000
set_option maxHeartbeats 0
set_option linter.unusedVariables false
set_option linter.unusedSimpArgs false
namespace Go.AI
open Go
noncomputable section
section
variable {α : Type}
namespace N8
theorem g00 (f : α → α) (n : N8 α) : a0 (u0 f n) = f (a0 n) := rfl
theorem g01 (f : α → α) (n : N8 α) : a0 (u1 f n) = a0 n := rfl
theorem g02 (f : α → α) (n : N8 α) : a0 (u2 f n) = a0 n := rfl
theorem g03 (f : α → α) (n : N8 α) : a0 (u3 f n) = a0 n := rfl
theorem g04 (f : α → α) (n : N8 α) : a0 (u4 f n) = a0 n := rfl
theorem g05 (f : α → α) (n : N8 α) : a0 (u5 f n) = a0 n := rfl
theorem g06 (f : α → α) (n : N8 α) : a0 (u6 f n) = a0 n := rfl
theorem g07 (f : α → α) (n : N8 α) : a0 (u7 f n) = a0 n := rfl
theorem g10 (f : α → α) (n : N8 α) : a1 (u0 f n) = a1 n := rfl
theorem g11 (f : α → α) (n : N8 α) : a1 (u1 f n) = f (a1 n) := rfl
theorem g12 (f : α → α) (n : N8 α) : a1 (u2 f n) = a1 n := rfl
theorem g13 (f : α → α) (n : N8 α) : a1 (u3 f n) = a1 n := rfl
theorem g14 (f : α → α) (n : N8 α) : a1 (u4 f n) = a1 n := rfl
theorem g15 (f : α → α) (n : N8 α) : a1 (u5 f n) = a1 n := rfl
theorem g16 (f : α → α) (n : N8 α) : a1 (u6 f n) = a1 n := rfl
theorem g17 (f : α → α) (n : N8 α) : a1 (u7 f n) = a1 n := rfl
theorem g20 (f : α → α) (n : N8 α) : a2 (u0 f n) = a2 n := rfl
theorem g21 (f : α → α) (n : N8 α) : a2 (u1 f n) = a2 n := rfl
theorem g22 (f : α → α) (n : N8 α) : a2 (u2 f n) = f (a2 n) := rfl
theorem g23 (f : α → α) (n : N8 α) : a2 (u3 f n) = a2 n := rfl
theorem g24 (f : α → α) (n : N8 α) : a2 (u4 f n) = a2 n := rfl
theorem g25 (f : α → α) (n : N8 α) : a2 (u5 f n) = a2 n := rfl
theorem g26 (f : α → α) (n : N8 α) : a2 (u6 f n) = a2 n := rfl
theorem g27 (f : α → α) (n : N8 α) : a2 (u7 f n) = a2 n := rfl
theorem g30 (f : α → α) (n : N8 α) : a3 (u0 f n) = a3 n := rfl
theorem g31 (f : α → α) (n : N8 α) : a3 (u1 f n) = a3 n := rfl
theorem g32 (f : α → α) (n : N8 α) : a3 (u2 f n) = a3 n := rfl
theorem g33 (f : α → α) (n : N8 α) : a3 (u3 f n) = f (a3 n) := rfl
theorem g34 (f : α → α) (n : N8 α) : a3 (u4 f n) = a3 n := rfl
theorem g35 (f : α → α) (n : N8 α) : a3 (u5 f n) = a3 n := rfl
theorem g36 (f : α → α) (n : N8 α) : a3 (u6 f n) = a3 n := rfl
theorem g37 (f : α → α) (n : N8 α) : a3 (u7 f n) = a3 n := rfl
theorem g40 (f : α → α) (n : N8 α) : a4 (u0 f n) = a4 n := rfl
theorem g41 (f : α → α) (n : N8 α) : a4 (u1 f n) = a4 n := rfl
theorem g42 (f : α → α) (n : N8 α) : a4 (u2 f n) = a4 n := rfl
theorem g43 (f : α → α) (n : N8 α) : a4 (u3 f n) = a4 n := rfl
theorem g44 (f : α → α) (n : N8 α) : a4 (u4 f n) = f (a4 n) := rfl
theorem g45 (f : α → α) (n : N8 α) : a4 (u5 f n) = a4 n := rfl
theorem g46 (f : α → α) (n : N8 α) : a4 (u6 f n) = a4 n := rfl
theorem g47 (f : α → α) (n : N8 α) : a4 (u7 f n) = a4 n := rfl
theorem g50 (f : α → α) (n : N8 α) : a5 (u0 f n) = a5 n := rfl
theorem g51 (f : α → α) (n : N8 α) : a5 (u1 f n) = a5 n := rfl
theorem g52 (f : α → α) (n : N8 α) : a5 (u2 f n) = a5 n := rfl
theorem g53 (f : α → α) (n : N8 α) : a5 (u3 f n) = a5 n := rfl
theorem g54 (f : α → α) (n : N8 α) : a5 (u4 f n) = a5 n := rfl
theorem g55 (f : α → α) (n : N8 α) : a5 (u5 f n) = f (a5 n) := rfl
theorem g56 (f : α → α) (n : N8 α) : a5 (u6 f n) = a5 n := rfl
theorem g57 (f : α → α) (n : N8 α) : a5 (u7 f n) = a5 n := rfl
theorem g60 (f : α → α) (n : N8 α) : a6 (u0 f n) = a6 n := rfl
theorem g61 (f : α → α) (n : N8 α) : a6 (u1 f n) = a6 n := rfl
theorem g62 (f : α → α) (n : N8 α) : a6 (u2 f n) = a6 n := rfl
theorem g63 (f : α → α) (n : N8 α) : a6 (u3 f n) = a6 n := rfl
theorem g64 (f : α → α) (n : N8 α) : a6 (u4 f n) = a6 n := rfl
theorem g65 (f : α → α) (n : N8 α) : a6 (u5 f n) = a6 n := rfl
theorem g66 (f : α → α) (n : N8 α) : a6 (u6 f n) = f (a6 n) := rfl
theorem g67 (f : α → α) (n : N8 α) : a6 (u7 f n) = a6 n := rfl
theorem g70 (f : α → α) (n : N8 α) : a7 (u0 f n) = a7 n := rfl
theorem g71 (f : α → α) (n : N8 α) : a7 (u1 f n) = a7 n := rfl
theorem g72 (f : α → α) (n : N8 α) : a7 (u2 f n) = a7 n := rfl
theorem g73 (f : α → α) (n : N8 α) : a7 (u3 f n) = a7 n := rfl
theorem g74 (f : α → α) (n : N8 α) : a7 (u4 f n) = a7 n := rfl
theorem g75 (f : α → α) (n : N8 α) : a7 (u5 f n) = a7 n := rfl
theorem g76 (f : α → α) (n : N8 α) : a7 (u6 f n) = a7 n := rfl
theorem g77 (f : α → α) (n : N8 α) : a7 (u7 f n) = f (a7 n) := rfl
end N8
end
section
/-! ### Code -/
theorem seqO_run (f : OpF) (dst : SetF) (next : D) (c : Ctx) (tm : TM) (H : Heap) (x : X) : seqO f dst next c tm H x = goOn (next c) dst c tm H x (f tm H) := rfl
theorem seqG_run (g : EvF) (b : Bool) (f : OpF) (dst : SetF) (next : D) (c : Ctx) (tm : TM) (H : Heap) (x : X) : seqG g b f dst next c tm H x = guardK (g tm) b (goOn (next c) dst c tm H x (f tm H)) (next c (dst tm undefA) H x) := rfl
theorem guardK_tt (yes no : Res) : guardK (.bool true) true yes no = yes := rfl
theorem guardK_ff (yes no : Res) : guardK (.bool false) false yes no = yes := rfl
theorem guardK_tf (yes no : Res) : guardK (.bool true) false yes no = no := rfl
theorem guardK_ft (yes no : Res) : guardK (.bool false) true yes no = no := rfl
theorem goOn_val (next : TM → Heap → X → Res) (dst : SetF) (c : Ctx) (tm : TM) (H : Heap) (x : X) (v : AV) (H' : Heap) : goOn next dst c tm H x (.val v H') = next (dst tm v) H' x := rfl
theorem goOn_call (next : TM → Heap → X → Res) (dst : SetF) (c : Ctx) (tm : TM) (H : Heap) (x : X) (f : Nat) (args : List AV) (H' : Heap) : goOn next dst c tm H x (.oth (.call f args H')) = onCR next dst tm x (c.call f args H') := rfl
theorem onCR_ret (next : TM → Heap → X → Res) (dst : SetF) (tm : TM) (x : X) (v : AV) (H : Heap) : onCR next dst tm x (.ret v H) = next (dst tm v) H x := rfl
theorem seqD_run (a b : D) (c : Ctx) (tm : TM) (H : Heap) (x : X) : seqD a b c tm H x = thenR (a c tm H x) (b c) := rfl
theorem thenR_normal (tm : TM) (H : Heap) (x : X) (k : TM → Heap → X → Res) : thenR (.ok .normal tm H x) k = k tm H x := rfl
theorem thenR_ret (tm : TM) (H : Heap) (x : X) (k : TM → Heap → X → Res) : thenR (.ok .ret tm H x) k = .ok .ret tm H x := rfl
theorem thenR_exit (i : Nat) (tm : TM) (H : Heap) (x : X) (k : TM → Heap → X → Res) : thenR (.ok (.exit i) tm H x) k = .ok (.exit i) tm H x := rfl
theorem normD_run (c : Ctx) (tm : TM) (H : Heap) (x : X) : normD c tm H x = .ok .normal tm H x := rfl
theorem retD_run (c : Ctx) (tm : TM) (H : Heap) (x : X) : retD c tm H x = .ok .ret tm H x := rfl
theorem exitD_run (i : Nat) (c : Ctx) (tm : TM) (H : Heap) (x : X) : exitD i c tm H x = .ok (.exit i) tm H x := rfl
theorem condD_run (q : EvF) (a b : D) (c : Ctx) (tm : TM) (H : Heap) (x : X) : condD q a b c tm H x = isBn (q tm) fun v => condK (a c) (b c) v tm H x := rfl
theorem isBn_bool (b : Bool) (k : Bool → Res) : isBn (.bool b) k = k b := rfl
theorem condK_true (a b : TM → Heap → X → Res) (tm : TM) (H : Heap) (x : X) : condK a b true tm H x = a tm H x := rfl
theorem condK_false (a b : TM → Heap → X → Res) (tm : TM) (H : Heap) (x : X) : condK a b false tm H x = b tm H x := rfl
theorem blockD_run (i : Nat) (a : D) (c : Ctx) (tm : TM) (H : Heap) (x : X) : blockD i a c tm H x = leaveB i (a c tm H x) := rfl
theorem loopD_run (a : D) (c : Ctx) (tm : TM) (H : Heap) (x : X) : loopD a c tm H x = loopN (a c) c.fuel tm H x := rfl
theorem leaveB_normal (i : Nat) (tm : TM) (H : Heap) (x : X) : leaveB i (.ok .normal tm H x) = .ok .normal tm H x := rfl
theorem leaveB_same (i : Nat) (tm : TM) (H : Heap) (x : X) : leaveB i (.ok (.exit i) tm H x) = .ok .normal tm H x := by
  show @Bool.rec (fun _ => Res) (.ok (.exit i) tm H x) (.ok .normal tm H x) (Nat.beq i i) = _
  rw [Nat.beq_refl]
theorem leaveB_ret (i : Nat) (tm : TM) (H : Heap) (x : X) : leaveB i (.ok .ret tm H x) = .ok .ret tm H x := rfl
theorem d0_run (tm : TM) (v : AV) : d0 tm v = tm := rfl
theorem k_run (v : AV) (tm : TM) : k v tm = v := rfl
theorem argsT_0 : argsT [] = tm0 := rfl
theorem argsT_1 (a : AV) : argsT [a] = st0 tm0 a := rfl
theorem argsT_2 (a b : AV) : argsT [a, b] = st1 (st0 tm0 a) b := rfl
theorem argsT_3 (a b c : AV) : argsT [a, b, c] = st2 (st1 (st0 tm0 a) b) c := rfl
theorem argsT_4 (a b c d : AV) : argsT [a, b, c, d] = st3 (st2 (st1 (st0 tm0 a) b) c) d := rfl
theorem evs_nil (tm : TM) : evs tm [] = [] := rfl
theorem evs_cons (tm : TM) (f : EvF) (l : List EvF) : evs tm (f :: l) = f tm :: evs tm l := rfl
/-! ### Calls -/
/-- a call of a function of the table -/
theorem callN_fn {lib : Nat → List AV → Heap → Option CR} {fs : T CF} {fuel n f : Nat} {args : List AV} {H : Heap} {cf : CF} (hl : lib f args H = none) (hf : fs.get f = some cf) : callN lib fs fuel (n + 1) f args H =
    outF (fun pn g as H => onCF .fail fs g fun cg => outD pn cg.rs (cg.body ⟨callN lib fs fuel n, noYield, noRange, fuel, false⟩ (argsT as) H ⟨[], pn⟩))
      cf.rs (cf.body ⟨callN lib fs fuel n, noYield, rangeK fs fuel (callN lib fs fuel n), fuel, false⟩ (argsT args) H ⟨[], none⟩) := by
  show libOr (lib f args H) _ = _
  rw [hl]
  unfold onCF
  rw [hf]
  rfl
theorem outF_ret (dc : Option AV → Nat → List AV → Heap → DR) (rs : List (EvF × Option (Nat × Bool))) (tm : TM) (H : Heap) (rc : Option AV) : outF dc rs (.ok .ret tm H ⟨[], rc⟩) = results rs tm H := rfl
theorem outF_normal (dc : Option AV → Nat → List AV → Heap → DR) (rs : List (EvF × Option (Nat × Bool))) (tm : TM) (H : Heap) (rc : Option AV) : outF dc rs (.ok .normal tm H ⟨[], rc⟩) = results rs tm H := rfl
theorem results_one (f : EvF) (tm : TM) (H : Heap) : results [(f, none)] tm H = .ret (f tm) H := rfl
theorem results_none (tm : TM) (H : Heap) : results [] tm H = .ret (.tup []) H := rfl
/-! ### Loops -/
/-! ### Operations, by values -/
theorem oMv_run (x : EvF) (tm : TM) (H : Heap) : oMv x tm H = .val (x tm) H := rfl
noncomputable def negV (a : AV) (H : Heap) : OR := onInt a fun k a => valI k (isub 0 a) H
noncomputable def intV (k : IntKind) (a : AV) (H : Heap) : OR := onInt a fun _ a => valI k a H
noncomputable def addV (a b : AV) (H : Heap) : OR := match a with
  | .int j a => onInt b fun l b => onIf (kEq j l) (valI j (iadd a b) H)
  | .str a => onStr b fun b => onIf (Nat.ble (Nat.add (lenL a) (lenL b)) 4611686018427387904) (.val (.str (a ++ b)) H)
  | _ => .fail
noncomputable def subV (a b : AV) (H : Heap) : OR := int2 a b fun k a b => valI k (isub a b) H
noncomputable def mulV (a b : AV) (H : Heap) : OR := int2 a b fun k a b => valI k (imul a b) H
noncomputable def quoV (a b : AV) (H : Heap) : OR := int2 a b fun k a b => cond (ieq b 0) .fail (valI k (idiv a b) H)
noncomputable def remV (a b : AV) (H : Heap) : OR := int2 a b fun k a b => cond (ieq b 0) .fail (forceI (imod a b) fun n => .val (.int k n) H)
noncomputable def bitsV (f : Nat → Nat → Nat → Nat) (a b : AV) (H : Heap) : OR := int2 a b fun k a b => valI k (.ofNat (f (modOf k) (bitsOf (modOf k) a) (bitsOf (modOf k) b))) H
noncomputable def shlV (a b : AV) (H : Heap) : OR := onInt a fun k a => onNat b fun b => valI k (imul a (.ofNat (Nat.pow 2 (cond (Nat.ble b 64) b 64)))) H
noncomputable def shrV (a b : AV) (H : Heap) : OR := onInt a fun k a => onNat b fun b => forceI (ishr a (minN b (bitsK k))) fun n => .val (.int k n) H
noncomputable def xorUV (a : AV) (H : Heap) : OR := onInt a fun k a => valI k (.ofNat (Nat.sub (Nat.sub (modOf k) 1) (bitsOf (modOf k) a))) H
noncomputable def cmpV (f : Int → Int → Bool) (g : List UInt8 → List UInt8 → Bool) (a b : AV) (H : Heap) : OR := match a with
  | .int j a => onInt b fun l b => onIf (kEq j l) (vBool (f a b) H)
  | .str a => onStr b fun b => vBool (g a b) H
  | _ => .fail
noncomputable def eqV (f : AV → AV → Option Bool) (neg : Bool) (a b : AV) (H : Heap) : OR := onSome (f a b) fun b => vBool (cond neg (cond b false true) b) H
noncomputable def notV (a : AV) (H : Heap) : OR := onBool a fun b => .val (.bool (cond b false true)) H
noncomputable def pickV (a b c : AV) (H : Heap) : OR := onBool a fun t => .val (cond t b c) H
theorem oNeg_run (x : EvF) (tm : TM) (H : Heap) : oNeg x tm H = negV (x tm) H := rfl
theorem oInt_run (x : EvF) (k : IntKind) (tm : TM) (H : Heap) : oInt x k tm H = intV k (x tm) H := rfl
theorem oAddS_run (x y : EvF) (tm : TM) (H : Heap) : oAddS x y tm H = addV (x tm) (y tm) H := rfl
theorem oSub_run (x y : EvF) (tm : TM) (H : Heap) : oSub x y tm H = subV (x tm) (y tm) H := rfl
theorem oMul_run (x y : EvF) (tm : TM) (H : Heap) : oMul x y tm H = mulV (x tm) (y tm) H := rfl
theorem oQuo_run (x y : EvF) (tm : TM) (H : Heap) : oQuo x y tm H = quoV (x tm) (y tm) H := rfl
theorem oRem_run (x y : EvF) (tm : TM) (H : Heap) : oRem x y tm H = remV (x tm) (y tm) H := rfl
theorem oBits_run (x y : EvF) (f : Nat → Nat → Nat → Nat) (tm : TM) (H : Heap) : oBits x y f tm H = bitsV f (x tm) (y tm) H := rfl
theorem oShl_run (x y : EvF) (tm : TM) (H : Heap) : oShl x y tm H = shlV (x tm) (y tm) H := rfl
theorem oShr_run (x y : EvF) (tm : TM) (H : Heap) : oShr x y tm H = shrV (x tm) (y tm) H := rfl
theorem oXorU_run (x : EvF) (tm : TM) (H : Heap) : oXorU x tm H = xorUV (x tm) H := rfl
theorem oCmp_run (x y : EvF) (f : Int → Int → Bool) (g : List UInt8 → List UInt8 → Bool) (tm : TM) (H : Heap) : oCmp x y f g tm H = cmpV f g (x tm) (y tm) H := rfl
theorem oEq_run (x y : EvF) (f : AV → AV → Option Bool) (neg : Bool) (tm : TM) (H : Heap) : oEq x y f neg tm H = eqV f neg (x tm) (y tm) H := rfl
theorem oNot_run (x : EvF) (tm : TM) (H : Heap) : oNot x tm H = notV (x tm) H := rfl
theorem oPick_run (x y z : EvF) (tm : TM) (H : Heap) : oPick x y z tm H = pickV (x tm) (y tm) (z tm) H := rfl
theorem oCallF_run (f : Nat) (args : List EvF) (tm : TM) (H : Heap) : oCallF f args tm H = .oth (.call f (evs tm args) H) := rfl
/-! numbers -/
theorem vBool_run (b : Bool) (H : Heap) : vBool b H = .val (.bool b) H := by cases b <;> rfl
theorem valI_run (k : IntKind) (n : Int) (H : Heap) : valI k n H = .val (.int k (k.wrap n)) H := by simp only [valI, forceI_eq, wrapI_eq]
theorem wrapU_nat (k : IntKind) (m n : Nat) : wrapU k m (.ofNat n) = .ofNat (n % m) := by
  show cond (Nat.ble m n) (Int.ofNat (Nat.mod n m)) (.ofNat n) = _
  cases h : Nat.ble m n with
  | true => rfl
  | false =>
    have : n < m := by
      have h2 : ¬ m ≤ n := fun hh => by rw [Nat.ble_eq_true_of_le hh] at h; cases h
      omega
    rw [Nat.mod_eq_of_lt this]; rfl
theorem wrap_u8 (n : Nat) : IntKind.u8.wrap (.ofNat n) = .ofNat (n % 256) := by rw [← wrapI_eq]; exact wrapU_nat .u8 256 n
theorem wrap_u32 (n : Nat) : IntKind.u32.wrap (.ofNat n) = .ofNat (n % 4294967296) := by rw [← wrapI_eq]; exact wrapU_nat .u32 4294967296 n
theorem wrap_u64 (n : Nat) : IntKind.u64.wrap (.ofNat n) = .ofNat (n % 18446744073709551616) := by rw [← wrapI_eq]; exact wrapU_nat .u64 18446744073709551616 n
theorem wrap_i64 {n : Nat} (h : n < 9223372036854775808) : IntKind.i64.wrap (.ofNat n) = .ofNat n := by
  rw [← wrapI_eq]
  show cond (Nat.ble 9223372036854775808 n) _ (Int.ofNat n) = _
  cases h2 : Nat.ble 9223372036854775808 n with
  | true => have := Nat.le_of_ble_eq_true h2; omega
  | false => rfl
theorem iadd_nat (a b : Nat) : iadd (.ofNat a) (.ofNat b) = .ofNat (a + b) := rfl
theorem imul_nat (a b : Nat) : imul (.ofNat a) (.ofNat b) = .ofNat (a * b) := rfl
theorem isub_nat {a b : Nat} (h : b ≤ a) : isub (.ofNat a) (.ofNat b) = .ofNat (a - b) := by
  show cond (Nat.ble b a) (Int.ofNat (Nat.sub a b)) (Int.ofNat a - Int.ofNat b) = _
  rw [Nat.ble_eq_true_of_le h]; rfl
theorem ilt_nat (a b : Nat) : ilt (.ofNat a) (.ofNat b) = decide (a < b) := by
  show Nat.ble (Nat.succ a) b = _
  cases h : Nat.ble (Nat.succ a) b with
  | true => have := Nat.le_of_ble_eq_true h; exact (decide_eq_true this).symm
  | false =>
    have h2 : ¬ Nat.succ a ≤ b := fun hh => by rw [Nat.ble_eq_true_of_le hh] at h; cases h
    exact (decide_eq_false h2).symm
theorem ieq_nat (a b : Nat) : ieq (.ofNat a) (.ofNat b) = decide (a = b) := beq_nat a b
theorem kEq_self (k : IntKind) : kEq k k = true := by cases k <;> rfl
/-- the kinds of numbers -/
def i64 (n : Nat) : AV := nI .i64 n
def u8V (x : UInt8) : AV := .int .u8 (.ofNat x.toNat)
def u32V (x : UInt32) : AV := .int .u32 (.ofNat x.toNat)
theorem addV_i {a b : Nat} (h : a + b < 9223372036854775808) (H : Heap) : addV (nI .i64 a) (nI .i64 b) H = .val (nI .i64 (a + b)) H := by
  show onIf (kEq .i64 .i64) (valI .i64 (iadd (.ofNat a) (.ofNat b)) H) = _
  rw [kEq_self, valI_run, iadd_nat, wrap_i64 h]; rfl
theorem subV_i {a b : Nat} (h : b ≤ a) (h2 : a < 9223372036854775808) (H : Heap) : subV (nI .i64 a) (nI .i64 b) H = .val (nI .i64 (a - b)) H := by
  show onIf (kEq .i64 .i64) (valI .i64 (isub (.ofNat a) (.ofNat b)) H) = _
  rw [kEq_self, valI_run, isub_nat h, wrap_i64 (by omega)]; rfl
theorem cmpV_lt (k : IntKind) (a b : Nat) (H : Heap) : cmpV iltF strLt (nI k a) (nI k b) H = .val (.bool (decide (a < b))) H := by
  show onIf (kEq k k) (vBool (ilt (.ofNat a) (.ofNat b)) H) = _
  rw [kEq_self, vBool_run, ilt_nat]; rfl
theorem cmpV_ge (k : IntKind) (a b : Nat) (H : Heap) : cmpV igeF strGe (nI k a) (nI k b) H = .val (.bool (decide (b ≤ a))) H := by
  show onIf (kEq k k) (vBool (!ilt (.ofNat a) (.ofNat b)) H) = _
  rw [kEq_self, vBool_run, ilt_nat]
  show OR.val (.bool (!decide (a < b))) H = _
  congr 2
  by_cases h : a < b
  · rw [decide_eq_true h, decide_eq_false (by omega)]; rfl
  · rw [decide_eq_false h, decide_eq_true (by omega)]; rfl
theorem eqV_ne (k : IntKind) (a b : Nat) (H : Heap) : eqV eqI true (nI k a) (nI k b) H = .val (.bool (decide (a ≠ b))) H := by
  show onSome (cond (kEq k k) (some (ieq (.ofNat a) (.ofNat b))) none) _ = _
  rw [kEq_self, ieq_nat]
  show vBool (cond true (cond (decide (a = b)) false true) (decide (a = b))) H = _
  rw [vBool_run]
  congr 2
  by_cases h : a = b
  · rw [decide_eq_true h, decide_eq_false (by omega)]; rfl
  · rw [decide_eq_false h, decide_eq_true h]; rfl
theorem eqV_eq (k : IntKind) (a b : Nat) (H : Heap) : eqV eqI false (nI k a) (nI k b) H = .val (.bool (decide (a = b))) H := by
  show onSome (cond (kEq k k) (some (ieq (.ofNat a) (.ofNat b))) none) _ = _
  rw [kEq_self, ieq_nat]
  exact vBool_run _ _
/-! 32 bits -/
theorem addV_32 (a b : UInt32) (H : Heap) : addV (u32V a) (u32V b) H = .val (u32V (a + b)) H := by
  show onIf (kEq .u32 .u32) (valI .u32 (iadd (.ofNat a.toNat) (.ofNat b.toNat)) H) = _
  rw [kEq_self, valI_run, iadd_nat, wrap_u32]; unfold u32V; rw [UInt32.toNat_add]; rfl
end

/-! ### Rows -/
structure Cells (r : Row) (l : List AV) : Prop where
  size : r.size = l.length
  get : ∀ i, i < l.length → r.get i = l.getD i .unk
theorem Cells.load {r : Row} {l : List AV} (h : Cells r l) {o n : Nat} (hn : o + n ≤ l.length) : loadN r o n = (l.drop o).take n := by
  refine List.ext_getElem? fun j => ?_
  by_cases hj : j < n
  · rw [loadN_get r n o j hj, List.getElem?_take_of_lt hj, List.getElem?_drop, h.get (o + j) (by omega), List.getD_eq_getElem?_getD]
    rw [List.getElem?_eq_getElem (show o + j < l.length by omega)]; rfl
  · rw [List.getElem?_eq_none (by rw [loadN_length]; omega), List.getElem?_eq_none (by rw [List.length_take, List.length_drop]; omega)]
theorem Cells.store {r : Row} {l : List AV} (h : Cells r l) {o : Nat} {vs : List AV} (ho : o + vs.length ≤ l.length) : Cells (r.setCells (storeN r.cells o vs)) (l.take o ++ (vs ++ l.drop (o + vs.length))) := by
  have hlen : (l.take o ++ (vs ++ l.drop (o + vs.length))).length = l.length := by
    rw [List.length_append, List.length_append, List.length_take, List.length_drop]; omega
  refine ⟨by rw [hlen]; exact h.size, fun i hi => ?_⟩
  rw [hlen] at hi
  rw [Row.get_eq]
  show ((storeN r.cells o vs).get i).getD r.dflt = _
  rw [storeN_get, List.getD_eq_getElem?_getD]
  by_cases h1 : o ≤ i ∧ i < o + vs.length
  · rw [if_pos h1, List.getElem?_append_right (by rw [List.length_take]; omega), List.length_take, Nat.min_eq_left (by omega), List.getElem?_append_left (by omega),
      List.getElem?_eq_getElem (show i - o < vs.length by omega)]; rfl
  · rw [if_neg h1]
    have h2 := h.get i hi
    rw [Row.get_eq, List.getD_eq_getElem?_getD] at h2
    rw [h2]
    by_cases h3 : i < o
    · rw [List.getElem?_append_left (by rw [List.length_take]; omega), List.getElem?_take_of_lt h3]
    · rw [List.getElem?_append_right (by rw [List.length_take]; omega), List.length_take, Nat.min_eq_left (by omega), List.getElem?_append_right (by omega), List.getElem?_drop,
        show o + vs.length + (i - o - vs.length) = i by omega]
theorem Cells.new (e sz : Nat) (l : List AV) (fz : Nat) (sm own ex : Bool) : Cells ⟨e, sz, lenL l, T.ofList l, .unk, fz, sm, own, ex⟩ l := by
  refine ⟨lenL_eq l, fun i hi => ?_⟩
  rw [Row.get_eq]
  show ((T.ofList l).get i).getD .unk = _
  rw [T.get_ofList, List.getD_eq_getElem?_getD]
theorem Cells.zero (e n : Nat) (v : AV) (fz : Nat) (sm own ex : Bool) : Cells ⟨e, 1, n, .leaf, v, fz, sm, own, ex⟩ (List.replicate n v) := by
  refine ⟨by simp, fun i hi => ?_⟩
  rw [List.length_replicate] at hi
  rw [Row.get_eq]
  show ((T.leaf : T AV).get i).getD v = _
  rw [T.get_leaf, List.getD_eq_getElem?_getD, List.getElem?_replicate, if_pos hi]; rfl
/-- a row of the call's own, of single cells -/
structure Own (H : Heap) (b e : Nat) (l : List AV) (r : Row) : Prop where
  at_ : H.t.get b = some (.row r)
  elem : r.elem = e
  sz : r.sz = 1
  own : r.own = true
  fz : r.fz = 0
  sm : r.sm = false
  cells : Cells r l
  ro : H.ro ≤ b
/-! ### Operations -/
noncomputable def load1V (a : AV) (H : Heap) : OR := onPtr a fun b o => onRow H b fun r => onIf (Nat.ble (Nat.succ o) r.size) (.val (r.get o) H)
noncomputable def loadV (n : Nat) (a : AV) (H : Heap) : OR := onPtr a fun b o => onRow H b fun r => onIf (Nat.ble (Nat.add o n) r.size) (.val (.agg (loadN r o n)) H)
noncomputable def storeV (n : Nat) (a v : AV) (H : Heap) : OR := onPtr a fun b o => onRow H b fun r =>
  onIf (Nat.ble 1 n) <| onIf (H.may r b) (onIf (Nat.ble (Nat.add o n) r.size) (onIf (Nat.ble r.fz o) (onIf (Nat.beq (lenL v.cells) n)
    (.val undefA (H.put b (.row (r.setCells (storeN r.cells o v.cells))))))))
def offV (n : Nat) (a : AV) (H : Heap) : OR := onPtr a fun b o => .val (.ptr b (Nat.add o n)) H
def idxAV (n sz : Nat) (a i : AV) (H : Heap) : OR := onNat i fun i => onPtr a fun b o => onIf (Nat.ble (Nat.succ i) n) (.val (.ptr b (Nat.add o (Nat.mul i sz))) H)
def idxSV (sz : Nat) (a i : AV) (H : Heap) : OR := onNat i fun i => onSlice a .fail fun b o len _ => onIf (Nat.ble (Nat.succ i) len) (.val (.ptr b (Nat.add o (Nat.mul i sz))) H)
def nilV (a : AV) (H : Heap) : OR := nonNil a (.val a H)
noncomputable def lenV (a : AV) (H : Heap) : OR := onSlice a (.val (.int .i64 0) H) fun _ _ n _ => forceN n fun n => .val (.int .i64 (.ofNat n)) H
theorem oLoad1_run (x : EvF) (tm : TM) (H : Heap) : oLoad1 x tm H = load1V (x tm) H := rfl
theorem oLoad_run (x : EvF) (n : Nat) (tm : TM) (H : Heap) : oLoad x n tm H = loadV n (x tm) H := rfl
theorem oStore_run (x y : EvF) (n : Nat) (tm : TM) (H : Heap) : oStore x y n tm H = storeV n (x tm) (y tm) H := rfl
theorem oOff_run (x : EvF) (n : Nat) (tm : TM) (H : Heap) : oOff x n tm H = offV n (x tm) H := rfl
theorem oIdxA_run (x y : EvF) (n sz : Nat) (tm : TM) (H : Heap) : oIdxA x y n sz tm H = idxAV n sz (x tm) (y tm) H := rfl
theorem oIdxS_run (x y : EvF) (sz : Nat) (tm : TM) (H : Heap) : oIdxS x y sz tm H = idxSV sz (x tm) (y tm) H := rfl
theorem oNil_run (x : EvF) (tm : TM) (H : Heap) : oNil x tm H = nilV (x tm) H := rfl
theorem oLenL_run (x : EvF) (tm : TM) (H : Heap) : oLenL x tm H = lenV (x tm) H := rfl
theorem oAllocZ_run (e n : Nat) (v : AV) (tm : TM) (H : Heap) : oAllocZ e n v tm H = .val (.ptr H.nx 0) (H.new (.row ⟨e, 1, n, .leaf, v, 0, false, true, true⟩)) := rfl
theorem oAlloc_run (e : Nat) (cs : List AV) (h : 1 ≤ lenL cs) (tm : TM) (H : Heap) : oAlloc e cs tm H = .val (.ptr H.nx 0) (H.newRow e 1 cs true) := by
  show onIf (Nat.ble 1 (lenL cs)) _ = _
  rw [Nat.ble_eq_true_of_le h]; rfl
theorem offV_ptr (n b o : Nat) (H : Heap) : offV n (.ptr b o) H = .val (.ptr b (o + n)) H := rfl
theorem nilV_ptr (b o : Nat) (H : Heap) : nilV (.ptr b o) H = .val (.ptr b o) H := rfl
theorem lenV_slice (b o n : Nat) (c : Option Nat) (H : Heap) : lenV (.slice b o n c) H = .val (nI .i64 n) H := by
  show forceN n (fun n => OR.val (.int .i64 (.ofNat n)) H) = _
  rw [forceN_eq]; rfl
theorem lenV_nil (H : Heap) : lenV .nils H = .val (nI .i64 0) H := rfl
theorem idxAV_ptr {n i : Nat} (h : i < n) (b o : Nat) (k : IntKind) (H : Heap) : idxAV n 1 (.ptr b o) (nI k i) H = .val (.ptr b (o + i)) H := by
  show onIf (Nat.ble (Nat.succ i) n) (.val (.ptr b (o + i * 1)) H) = _
  rw [Nat.ble_eq_true_of_le h, Nat.mul_one]; rfl
theorem idxSV_slice {n i : Nat} (h : i < n) (b o : Nat) (c : Option Nat) (k : IntKind) (H : Heap) : idxSV 1 (.slice b o n c) (nI k i) H = .val (.ptr b (o + i)) H := by
  show onIf (Nat.ble (Nat.succ i) n) (.val (.ptr b (o + i * 1)) H) = _
  rw [Nat.ble_eq_true_of_le h, Nat.mul_one]; rfl
theorem loadV_row {H : Heap} {b o n : Nat} {r : Row} {l : List AV} (hr : H.t.get b = some (.row r)) (hc : Cells r l) (ho : o + n ≤ l.length) : loadV n (.ptr b o) H = .val (.agg ((l.drop o).take n)) H := by
  show onRow H b _ = _
  unfold onRow
  rw [hr]
  show onIf (Nat.ble (o + n) r.size) _ = _
  rw [hc.size, Nat.ble_eq_true_of_le ho, hc.load ho]; rfl
/-! ### Heaps -/
theorem put_get (H : Heap) (b c : Nat) (o : Obj) : (H.put b o).t.get c = if b = c then some o else H.t.get c := T.get_set _ _ _ _
theorem new_get (H : Heap) (c : Nat) (o : Obj) : (H.new o).t.get c = if H.nx = c then some o else H.t.get c := T.get_set _ _ _ _
theorem put_nx (H : Heap) (b : Nat) (o : Obj) : (H.put b o).nx = H.nx := rfl
theorem put_ro (H : Heap) (b : Nat) (o : Obj) : (H.put b o).ro = H.ro := rfl
theorem new_nx (H : Heap) (o : Obj) : (H.new o).nx = H.nx + 1 := rfl
theorem new_ro (H : Heap) (o : Obj) : (H.new o).ro = H.ro := rfl
theorem drawnD_run (l : List PI) (c : Ctx) (tm : TM) (H : Heap) (x : X) : drawnD l c tm H x = planD (l.map (·.dst)) normF l c [] tm H x := rfl
theorem planD_nil (ds : List SetF) (fin : PK) (c : Ctx) (rs : List RD) (tm : TM) (H : Heap) (x : X) : planD ds fin [] c rs tm H x = cond (still tm H rs) (fin rs tm H x) .fail := rfl
theorem planD_cons (ds : List SetF) (fin : PK) (p : PI) (l : List PI) (c : Ctx) (rs : List RD) (tm : TM) (H : Heap) (x : X) : planD ds fin (p :: l) c rs tm H x = stepK ds p (planD ds fin l c) c rs tm H x := rfl
theorem normF_run (rs : List RD) (tm : TM) (H : Heap) (x : X) : normF rs tm H x = .ok .normal tm H x := rfl
section
variable (ds : List SetF) (f : OpF) (os : List (SetF × EvF)) (dst : SetF) (i bef : Nat) (nx : PK) (c : Ctx) (rs : List RD) (tm : TM) (H : Heap) (x : X)
theorem stepK_free : stepK ds ⟨f, none, os, dst, .free, i, bef⟩ nx c rs tm H x = cond (lowOs H.nx tm os) (freeK ⟨f, none, os, dst, .free, i, bef⟩ nx rs tm H x (f (rsF tm os) ⟨H.nx, .leaf, H.nx⟩)) .fail := rfl
theorem stepK_read : stepK ds ⟨f, none, os, dst, .read, i, bef⟩ nx c rs tm H x = readK ⟨f, none, os, dst, .read, i, bef⟩ nx rs tm H x (f (rsF tm os) ⟨H.nx, H.t, H.nx⟩) := rfl
theorem stepK_eff : stepK ds ⟨f, none, os, dst, .eff, i, bef⟩ nx c rs tm H x = cond (still tm H rs) (effK ds ⟨f, none, os, dst, .eff, i, bef⟩ nx rs c tm x (f (rsF tm os) H)) .fail := rfl
variable (g : Option (EvF × Bool)) (kd : Kind) (v : AV) (H' : Heap)
theorem freeK_val : freeK ⟨f, g, os, dst, kd, i, bef⟩ nx rs tm H x (.val v ⟨H.nx, .leaf, H.nx⟩) = nx rs (dst tm v) H x := by
  show cond (Nat.beq H.nx H.nx) (nx rs (dst tm v) H x) _ = _
  rw [Nat.beq_refl]; rfl
theorem effK_val : effK ds ⟨f, g, os, dst, kd, i, bef⟩ nx rs c tm x (.val v H') = nx (keepR bef rs) (dst tm v) H' x := rfl
theorem effK_call (q : Nat) (args : List AV) : effK ds ⟨f, g, os, dst, kd, i, bef⟩ nx rs c tm x (.oth (.call q args H')) = retK ds ⟨f, g, os, dst, kd, i, bef⟩ nx rs tm x (c.call q args H') := rfl
theorem retK_ret : retK ds ⟨f, g, os, dst, kd, i, bef⟩ nx rs tm x (.ret v H') = nx (keepR bef rs) (dst tm v) H' x := rfl
theorem keepR_nil (b : Nat) : keepR b [] = [] := rfl
theorem keepR_cons (b : Nat) : keepR b (⟨⟨f, g, os, dst, kd, i, bef⟩, v⟩ :: rs) = cond (Nat.testBit b i) (keepR b rs) (⟨⟨f, g, os, dst, kd, i, bef⟩, v⟩ :: keepR b rs) := rfl
theorem still_nil : still tm H [] = true := rfl
theorem still_cons : still tm H (⟨⟨f, g, os, dst, kd, i, bef⟩, v⟩ :: rs) = cond (rdOk ⟨⟨f, g, os, dst, kd, i, bef⟩, v⟩ tm H) (still tm H rs) false := rfl
noncomputable def isSame (r : OR) (w : AV) (n : Nat) : Bool := OR.rec (fun v H1 => cond (Nat.beq H1.nx n) (same v w) false) (fun _ => false) r
theorem rdOk_run : rdOk ⟨⟨f, g, os, dst, kd, i, bef⟩, v⟩ tm H = isSame (f (rsF tm os) ⟨H.nx, H.t, H.nx⟩) v H.nx := rfl
end
theorem isSame_val (v : AV) (n : Nat) (t : T Obj) (h : same v v = true) : isSame (.val v ⟨n, t, n⟩) v n = true := by
  show cond (Nat.beq n n) (same v v) false = true
  rw [Nat.beq_refl, h]; rfl
theorem same_int (k : IntKind) (n : Int) : same (.int k n) (.int k n) = true := by
  show cond (kEq k k) (ieq n n) false = true
  rw [kEq_self, ieq_eq]; simp
theorem same_u32 (x : UInt32) : same (u32V x) (u32V x) = true := same_int ..
theorem same_u8 (x : UInt8) : same (u8V x) (u8V x) = true := same_int ..
theorem same_nI (k : IntKind) (n : Nat) : same (nI k n) (nI k n) = true := same_int ..
theorem isSame_u32 (v : UInt32) (n : Nat) (t : T Obj) : isSame (.val (u32V v) ⟨n, t, n⟩) (u32V v) n = true := isSame_val _ _ _ (same_u32 v)
theorem isSame_u8 (v : UInt8) (n : Nat) (t : T Obj) : isSame (.val (u8V v) ⟨n, t, n⟩) (u8V v) n = true := isSame_val _ _ _ (same_u8 v)
theorem isSame_nI (k : IntKind) (v : Nat) (n : Nat) (t : T Obj) : isSame (.val (nI k v) ⟨n, t, n⟩) (nI k v) n = true := isSame_val _ _ _ (same_nI k v)
theorem lowOs_nil (n : Nat) (tm : TM) : lowOs n tm [] = true := rfl
theorem lowOs_cons (n : Nat) (tm : TM) (s : SetF) (g : EvF) (os : List (SetF × EvF)) : lowOs n tm ((s, g) :: os) = cond (lowV n (g tm)) (lowOs n tm os) false := rfl
theorem lowV_nI (n : Nat) (k : IntKind) (m : Nat) : lowV n (nI k m) = true := rfl
theorem lowV_u32 (n : Nat) (x : UInt32) : lowV n (u32V x) = true := rfl
theorem lowV_u8 (n : Nat) (x : UInt8) : lowV n (u8V x) = true := rfl
theorem lowV_bool (n : Nat) (x : Bool) : lowV n (.bool x) = true := rfl
theorem lowV_ptr {n b : Nat} (h : b < n) (o : Nat) : lowV n (.ptr b o) = true := Nat.ble_eq_true_of_le h
theorem lowV_slice {n b : Nat} (h : b < n) (o l : Nat) (c : Option Nat) : lowV n (.slice b o l c) = true := Nat.ble_eq_true_of_le h
theorem rsF_nil (tm : TM) : rsF tm [] = tm0 := rfl
theorem rsF_cons (tm : TM) (s : SetF) (g : EvF) (os : List (SetF × EvF)) : rsF tm ((s, g) :: os) = s (rsF tm os) (g tm) := rfl

theorem gtr0 (tm : TM) : gt0 tm = N8.a0 (N8.a0 (N8.a0 tm)) := rfl
theorem gtr1 (tm : TM) : gt1 tm = N8.a1 (N8.a0 (N8.a0 tm)) := rfl
theorem gtr4 (tm : TM) : gt4 tm = N8.a4 (N8.a0 (N8.a0 tm)) := rfl
theorem gtr6 (tm : TM) : gt6 tm = N8.a6 (N8.a0 (N8.a0 tm)) := rfl
theorem gtr7 (tm : TM) : gt7 tm = N8.a7 (N8.a0 (N8.a0 tm)) := rfl
theorem gtr8 (tm : TM) : gt8 tm = N8.a0 (N8.a1 (N8.a0 tm)) := rfl
theorem gtr10 (tm : TM) : gt10 tm = N8.a2 (N8.a1 (N8.a0 tm)) := rfl
theorem gtr11 (tm : TM) : gt11 tm = N8.a3 (N8.a1 (N8.a0 tm)) := rfl
theorem gtr12 (tm : TM) : gt12 tm = N8.a4 (N8.a1 (N8.a0 tm)) := rfl
theorem gtr13 (tm : TM) : gt13 tm = N8.a5 (N8.a1 (N8.a0 tm)) := rfl
theorem gtr16 (tm : TM) : gt16 tm = N8.a0 (N8.a2 (N8.a0 tm)) := rfl
theorem gtr17 (tm : TM) : gt17 tm = N8.a1 (N8.a2 (N8.a0 tm)) := rfl
theorem gtr18 (tm : TM) : gt18 tm = N8.a2 (N8.a2 (N8.a0 tm)) := rfl
theorem gtr22 (tm : TM) : gt22 tm = N8.a6 (N8.a2 (N8.a0 tm)) := rfl
theorem gtr23 (tm : TM) : gt23 tm = N8.a7 (N8.a2 (N8.a0 tm)) := rfl
theorem gtr24 (tm : TM) : gt24 tm = N8.a0 (N8.a3 (N8.a0 tm)) := rfl
theorem gtr99 (tm : TM) : gt99 tm = N8.a3 (N8.a4 (N8.a1 tm)) := rfl
theorem gtr100 (tm : TM) : gt100 tm = N8.a4 (N8.a4 (N8.a1 tm)) := rfl
theorem gtr101 (tm : TM) : gt101 tm = N8.a5 (N8.a4 (N8.a1 tm)) := rfl
/-- what was there is kept, but for some blocks -/
structure Keep (H H' : Heap) (S : List Nat) : Prop where
  nx : H.nx ≤ H'.nx
  ro : H'.ro = H.ro
  get : ∀ c, c < H.nx → c ∉ S → H'.t.get c = H.t.get c
theorem Keep.refl (H : Heap) (S : List Nat) : Keep H H S := ⟨Nat.le_refl _, rfl, fun _ _ _ => rfl⟩
theorem Keep.trans {H H' H'' : Heap} {S S' : List Nat} (a : Keep H H' S) (b : Keep H' H'' S') (h : ∀ c, c ∈ S' → c < H.nx → c ∈ S) : Keep H H'' S :=
  ⟨Nat.le_trans a.nx b.nx, b.ro.trans a.ro, fun c hc hn => (b.get c (Nat.lt_of_lt_of_le hc a.nx) (fun hh => hn (h c hh hc))).trans (a.get c hc hn)⟩
theorem Keep.put {H : Heap} {b : Nat} {o : Obj} {S : List Nat} (h : b < H.nx → b ∈ S) : Keep H (H.put b o) S :=
  ⟨Nat.le_refl _, rfl, fun c hc hn => by rw [put_get, if_neg (fun (e : b = c) => hn (by rw [← e]; exact h (by omega)))]⟩
theorem Keep.new (H : Heap) (o : Obj) (S : List Nat) : Keep H (H.new o) S :=
  ⟨Nat.le_succ _, rfl, fun c hc _ => by rw [new_get, if_neg (by omega)]⟩
theorem Keep.then_put {H H' : Heap} {b : Nat} {o : Obj} {S : List Nat} (k : Keep H H' S) (h : b < H.nx → b ∈ S) : Keep H (H'.put b o) S :=
  ⟨k.nx, k.ro, fun c hc hn => by rw [put_get, if_neg (fun (e : b = c) => hn (by rw [← e]; exact h (by omega)))]; exact k.get c hc hn⟩
theorem Keep.then_new {H H' : Heap} {S : List Nat} (k : Keep H H' S) (o : Obj) : Keep H (H'.new o) S :=
  ⟨Nat.le_succ_of_le k.nx, k.ro, fun c hc hn => by rw [new_get, if_neg (by have := k.nx; omega)]; exact k.get c hc hn⟩
theorem Keep.trans' {H H' H'' : Heap} {S' : List Nat} (a : Keep H H' []) (b : Keep H' H'' S') : Keep H H'' S' :=
  ⟨Nat.le_trans a.nx b.nx, b.ro.trans a.ro, fun c hc hn => (b.get c (Nat.lt_of_lt_of_le hc a.nx) hn).trans (a.get c hc (by simp))⟩
/-- bytes that a slice tells of -/
structure Bytes (H : Heap) (b o : Nat) (cap : Option Nat) (l : List UInt8) (r : Row) : Prop where
  at_ : H.t.get b = some (.row r)
  sz : r.sz = 1
  fits : o + l.length ≤ r.size
  get : ∀ i, i < l.length → r.get (o + i) = u8V (l.getD i 0)
  cap : ∀ c, cap = some c → l.length ≤ c ∧ o + c ≤ r.size
def boundV (x : Option AV) (d top : Nat) (k : Nat → OR) : OR := match x with | none => k d | some v => onNat v fun n => onIf (Nat.ble n top) (k n)
noncomputable def sliceV (sz : Nat) (a : AV) (lo hi : Option AV) (H : Heap) : OR :=
  onSlice a (boundV hi 0 0 fun h => boundV lo 0 h fun _ => .val .nils H) fun b o len cap => onRow H b fun r => onIf (szOk r sz cap) (boundV hi len (capOf r o cap) fun h => boundV lo 0 h fun l => onIf (Nat.ble l (capOf r o cap)) <|
    cond (Nat.beq l (capOf r o cap)) (Option.rec (.val (.slice H.nx 0 (Nat.sub h l) none) ⟨Nat.succ H.nx, H.t, H.ro⟩) (fun _ => .val (.slice b o (Nat.sub h l) (some 0)) H) cap)
      (.val (.slice b (Nat.add o (Nat.mul l sz)) (Nat.sub h l) (Option.rec none (fun c => some (Nat.sub c l)) cap)) H))
theorem oSlice_run (sz : Nat) (x : EvF) (lo hi : Option EvF) (tm : TM) (H : Heap) : oSlice sz x lo hi none tm H = sliceV sz (x tm) (lo.map fun f => f tm) (hi.map fun f => f tm) H := by
  cases lo <;> cases hi <;> rfl
def capSub (cap : Option Nat) (l : Nat) : Option Nat := cap.map fun c => c - l
theorem sliceV_is {H : Heap} {b o len l h : Nat} {cap : Option Nat} {r : Row} (hr : H.t.get b = some (.row r)) (hsz : r.sz = 1) (hlo : l < h) (hhi : o + h ≤ r.size) (hcap : ∀ c, cap = some c → h ≤ c) (k j : IntKind) :
    sliceV 1 (.slice b o len cap) (some (nI k l)) (some (nI j h)) H = .val (.slice b (o + l) (h - l) (capSub cap l)) H := by
  have hc : h ≤ capOf r o cap := by
    cases cap with
    | none =>
      show h ≤ cond (Nat.beq r.sz 1) (r.size - o) _
      rw [hsz]; show h ≤ r.size - o; omega
    | some c => exact hcap c rfl
  have hs : szOk r 1 cap = true := by
    cases cap with
    | none => show Nat.beq r.sz 1 = true; rw [hsz]; rfl
    | some c => rfl
  show onRow H b _ = _
  unfold onRow
  rw [hr]
  show onIf (szOk r 1 cap) (onIf (Nat.ble h (capOf r o cap)) (onIf (Nat.ble l h) (onIf (Nat.ble l (capOf r o cap)) (cond (Nat.beq l (capOf r o cap)) _ _)))) = _
  rw [hs, Nat.ble_eq_true_of_le hc, Nat.ble_eq_true_of_le (Nat.le_of_lt hlo), Nat.ble_eq_true_of_le (show l ≤ capOf r o cap by omega), beq_nat, decide_eq_false (by omega)]
  show OR.val (.slice b (o + l * 1) (h - l) _) H = _
  rw [Nat.mul_one]
  cases cap <;> rfl
noncomputable def slArrV (n sz : Nat) (a : AV) (lo hi : Option AV) (H : Heap) : OR := onPtr a fun b o => boundV hi n n fun h => boundV lo 0 h fun l =>
  cond (Nat.beq l n) (.val (.slice b o (Nat.sub h l) (some (Nat.sub n l))) H) (.val (.slice b (Nat.add o (Nat.mul l sz)) (Nat.sub h l) (some (Nat.sub n l))) H)
theorem oSlArr_run (n sz : Nat) (x : EvF) (lo hi : Option EvF) (tm : TM) (H : Heap) : oSlArr n sz x lo hi none tm H = slArrV n sz (x tm) (lo.map fun f => f tm) (hi.map fun f => f tm) H := by
  cases lo <;> cases hi <;> rfl
theorem slArrV_lo {n l : Nat} (h : l < n) (b o : Nat) (k : IntKind) (H : Heap) : slArrV n 1 (.ptr b o) (some (nI k l)) none H = .val (.slice b (o + l) (n - l) (some (n - l))) H := by
  show onIf (Nat.ble l n) (cond (Nat.beq l n) _ _) = _
  rw [Nat.ble_eq_true_of_le (Nat.le_of_lt h), beq_nat, decide_eq_false (by omega)]
  show OR.val (.slice b (o + l * 1) (n - l) (some (n - l))) H = _
  rw [Nat.mul_one]
noncomputable def copyV (sz : Nat) (a v : AV) (H : Heap) : OR := lenA v fun sn => onSlice a (.val (.int .i64 0) H) fun b o dn _ => forceN (minN dn sn) fun n => contents H sz v n fun new =>
  cond (Nat.beq n 0) (.val (.int .i64 0) H) (onRow H b fun r => onIf (H.may r b) (onIf (Nat.ble r.fz o) (onIf (Nat.ble (Nat.add o (Nat.mul n sz)) r.size) (.val (.int .i64 (.ofNat n)) (H.put b (.row (r.setCells (storeN r.cells o new))))))))
theorem oCopy_run (x y : EvF) (sz : Nat) (tm : TM) (H : Heap) : oCopy x y sz tm H = copyV sz (x tm) (y tm) H := rfl
/-! ### Aggregates built -/
noncomputable def fillV (k : List AV → OR) (ps : List (Nat × Nat × AV)) : List AV → OR := List.rec (fun cells => k cells) (fun p _ ih cells =>
  onIf (Nat.ble 1 p.2.1) <| onIf (Nat.beq (lenL p.2.2.cells) p.2.1) (onIf (Nat.ble (Nat.add p.1 p.2.1) (lenL cells)) (ih (takeL p.1 cells ++ (p.2.2.cells ++ dropL (Nat.add p.1 p.2.1) cells))))) ps
theorem fillA_run (tm : TM) (k : List AV → OR) : ∀ (ps : List Part) (cells : List AV), fillA tm k ps cells = fillV k (ps.map fun p => (p.off, p.sz, p.x tm)) cells
  | [], _ => rfl
  | p :: ps, cells => by
    show onIf (Nat.ble 1 p.sz) (onIf (Nat.beq (lenL (p.x tm).cells) p.sz) (onIf (Nat.ble (Nat.add p.off p.sz) (lenL cells)) (fillA tm k ps (takeL p.off cells ++ ((p.x tm).cells ++ dropL (Nat.add p.off p.sz) cells))))) = _
    rw [fillA_run tm k ps]
    rfl
noncomputable def buildV (zs : List AV) (ps : List (Nat × Nat × AV)) (H : Heap) : OR := onIf (Nat.ble 1 (lenL zs)) <| fillV (fun cs => .val (.agg cs) H) ps zs
theorem oBuild_run (zs : List AV) (ps : List Part) (tm : TM) (H : Heap) : oBuild zs ps tm H = buildV zs (ps.map fun p => (p.off, p.sz, p.x tm)) H := by
  unfold oBuild buildV
  rw [fillA_run]
noncomputable def bsliceV (e sz n : Nat) (zs : List AV) (ps : List (Nat × Nat × AV)) (H : Heap) : OR := onIf (Nat.ble 1 sz) <| onIf (Nat.beq (lenL zs) (Nat.mul n sz)) <| fillV (fun cs => .val (.slice H.nx 0 n none) (H.newRow e sz cs true)) ps zs
theorem oBSlice_run (e sz n : Nat) (zs : List AV) (ps : List Part) (tm : TM) (H : Heap) : oBSlice e sz n zs ps tm H = bsliceV e sz n zs (ps.map fun p => (p.off, p.sz, p.x tm)) H := by
  unfold oBSlice bsliceV
  rw [fillA_run]
noncomputable def appendV (e sz bytes : Nat) (a v : AV) (H : Heap) : OR := onIf (Nat.ble 1 sz) <| onIf (Nat.ble 1 bytes) <| lenA v fun n => contents H sz v n fun new => appX a e sz bytes H n new
theorem oAppend_run (x y : EvF) (e sz bytes : Nat) (tm : TM) (H : Heap) : oAppend x y e sz bytes tm H = appendV e sz bytes (x tm) (y tm) H := rfl
/-- a value of bytes: what an append takes of it -/
def Src (H : Heap) (v : AV) (l : List AV) : Prop := ∀ k : Nat → List AV → OR, (lenA v fun n => contents H 1 v n fun new => k n new) = k l.length l
theorem Src.nils (H : Heap) : Src H .nils [] := fun _ => rfl
theorem Src.none (H : Heap) (b o : Nat) (c : Option Nat) : Src H (.slice b o 0 c) [] := fun _ => rfl
theorem Src.row {H : Heap} {b o : Nat} {c : Option Nat} {r : Row} {l : List AV} (hr : H.t.get b = some (.row r)) (hf : o + l.length ≤ r.size) (hg : ∀ i, i < l.length → r.get (o + i) = l.getD i .unk) : Src H (.slice b o l.length c) l := by
  intro k
  show (contents H 1 (.slice b o l.length c) l.length fun new => k l.length new) = _
  unfold contents
  rw [beq_nat]
  by_cases h0 : l.length = 0
  · rw [decide_eq_true h0]
    have : l = [] := List.length_eq_zero_iff.1 h0
    subst this; rfl
  · rw [decide_eq_false h0]
    unfold onRow
    simp only [hr, cond_false, Nat.mul_one]
    show onIf (Nat.ble (o + l.length * 1) r.size) (k l.length (loadN r o (l.length * 1))) = _
    rw [Nat.mul_one, Nat.ble_eq_true_of_le hf]
    have : loadN r o l.length = l := by
      refine List.ext_getElem? fun j => ?_
      by_cases hj : j < l.length
      · rw [loadN_get r _ o j hj, hg j hj, List.getD_eq_getElem?_getD, List.getElem?_eq_getElem hj]; rfl
      · rw [List.getElem?_eq_none (by rw [loadN_length]; omega), List.getElem?_eq_none (by omega)]
    rw [this]; rfl
theorem appendV_src {H : Heap} {e bytes : Nat} {a v : AV} {l : List AV} (hb : 1 ≤ bytes) (h : Src H v l) : appendV e 1 bytes a v H = appX a e 1 bytes H l.length l := by
  show onIf (Nat.ble 1 1) (onIf (Nat.ble 1 bytes) _) = _
  rw [Nat.ble_eq_true_of_le hb]
  exact h fun n new => appX a e 1 bytes H n new
/-- a row that the call appends to -/
structure Grow (H : Heap) (b e : Nat) (l : List AV) (r : Row) : Prop extends Own H b e l r where
  exact_ : r.exact = false
  low : b < H.nx
section
variable {P : Program}
theorem same_str (s : List UInt8) : same (.str s) (.str s) = true := by
  unfold same; rw [strEq_eq]; simp
theorem isSame_str (s : List UInt8) (n : Nat) (t : T Obj) : isSame (.val (.str s) ⟨n, t, n⟩) (.str s) n = true := isSame_val _ _ _ (same_str s)
theorem isSame_slice (b o n : Nat) (c : Option Nat) (k : Nat) (t : T Obj) : isSame (.val (.slice b o n c) ⟨k, t, k⟩) (.slice b o n c) k = true := isSame_val _ _ _ (by
  unfold same
  rw [Nat.beq_refl, Nat.beq_refl, Nat.beq_refl]
  cases c with
  | none => rfl
  | some x => show Nat.beq x x = true; exact Nat.beq_refl x)
theorem isSame_nils (n : Nat) (t : T Obj) : isSame (.val .nils ⟨n, t, n⟩) .nils n = true := isSame_val _ _ _ (by unfold same; rfl)
/-! ### guarded steps -/
variable (ds : List SetF) (f : OpF) (e : EvF) (b : Bool) (os : List (SetF × EvF)) (dst : SetF) (i bef : Nat) (nx : PK) (c : Ctx) (rs : List RD) (tm : TM) (H : Heap) (x : X)
theorem stepK_freeG : stepK ds ⟨f, some (e, b), os, dst, .free, i, bef⟩ nx c rs tm H x = guardK (e tm) b (cond (lowOs H.nx tm os) (freeK ⟨f, some (e, b), os, dst, .free, i, bef⟩ nx rs tm H x (f (rsF tm os) ⟨H.nx, .leaf, H.nx⟩)) .fail) (nx rs (dst tm undefA) H x) := rfl
theorem stepK_readG : stepK ds ⟨f, some (e, b), os, dst, .read, i, bef⟩ nx c rs tm H x = guardK (e tm) b (readK ⟨f, some (e, b), os, dst, .read, i, bef⟩ nx rs tm H x (f (rsF tm os) ⟨H.nx, H.t, H.nx⟩)) (nx rs (dst tm undefA) H x) := rfl
theorem stepK_effG : stepK ds ⟨f, some (e, b), os, dst, .eff, i, bef⟩ nx c rs tm H x = cond (still tm H rs) (guardK (e tm) b (effK ds ⟨f, some (e, b), os, dst, .eff, i, bef⟩ nx rs c tm x (f (rsF tm os) H)) (nx (keepR bef rs) (dst tm undefA) H x)) .fail := rfl
/-- an operation that makes an object -/
theorem freeK_new (g : Option (EvF × Bool)) (kd : Kind) (v : AV) (o : Obj) (hw : wrO o = true) : freeK ⟨f, g, os, dst, kd, i, bef⟩ nx rs tm H x (.val v ((⟨H.nx, .leaf, H.nx⟩ : Heap).new o)) = nx rs (dst tm v) (H.new o) x := by
  show cond (Nat.beq (H.nx + 1) H.nx) _ (cond (Nat.beq (H.nx + 1) (Nat.succ H.nx)) (onNew (((T.leaf : T Obj).set H.nx o).get H.nx) fun o => nx rs (dst tm v) (H.new o) x) .fail) = _
  rw [beq_nat, decide_eq_false (by omega), beq_nat, decide_eq_true rfl, T.get_set, if_pos rfl]
  show cond (wrO o) _ _ = _
  rw [hw]; rfl
end
/-- a call that is looked up -/
theorem callN_hit {lib : Nat → List AV → Heap → Option CR} {fs : T CF} {fuel n f : Nat} {args : List AV} {H : Heap} {r : CR} (h : lib f args H = some r) : callN lib fs fuel (n + 1) f args H = r := by
  show libOr (lib f args H) _ = _
  rw [h]; rfl
section
variable {P : Program}
theorem keep_ok {call : Nat → List AV → Heap → CR} (hcall : CallOk P call) {f : FuncId} {args : List AV} {H H' : Heap} {v : AV} (hrun : call f args H = .ret v H') (k : Keep H H' []) (hlow : lowV 0 v = true)
    {σ : Mp} {w : World} {vs : List Value} (hs : Sim P σ H w) (hv : RelL σ args vs) : CROk P σ H w (.ret v H) ((callFunc f ⟨vs⟩).run P w) := by
  have hcr := hcall f _ H σ w vs hs hv
  rw [hrun] at hcr
  refine Ends.mono (fun u' w' hx => ?_) (fun _ _ hx => hx) hcr
  obtain ⟨σ2, h1, t⟩ := hx
  refine ⟨σ, ?_, t.drop hs fun b hb => k.get b hb (by simp)⟩
  exact (Rel.cut hlow h1).mono fun y _ hy => by have := (Mp.cut_some hy).1; omega
end

noncomputable def lenSV (a : AV) (H : Heap) : OR := onStr a fun s => forceN (lenL s) fun n => .val (.int .i64 (.ofNat n)) H
theorem oLenS_run (x : EvF) (tm : TM) (H : Heap) : oLenS x tm H = lenSV (x tm) H := rfl
theorem lenSV_str (s : List UInt8) (H : Heap) : lenSV (.str s) H = .val (nI .i64 s.length) H := by
  show forceN (lenL s) (fun n => OR.val (.int .i64 (.ofNat n)) H) = _
  rw [forceN_eq, lenL_eq]; rfl
noncomputable def idxStrV (a i : AV) (H : Heap) : OR := onNat i fun i => onStr a fun s => onSome (nthB s i) fun b => forceN b.toNat fun n => .val (.int .u8 (.ofNat n)) H
theorem oIdxStr_run (x y : EvF) (tm : TM) (H : Heap) : oIdxStr x y tm H = idxStrV (x tm) (y tm) H := rfl
theorem idxStrV_at {s : List UInt8} {i : Nat} (h : i < s.length) (k : IntKind) (H : Heap) : idxStrV (.str s) (nI k i) H = .val (u8V (s.getD i 0)) H := by
  show onSome (nthB s i) _ = _
  rw [nthB_eq, List.getElem?_eq_getElem h]
  show forceN s[i].toNat (fun n => OR.val (.int .u8 (.ofNat n)) H) = _
  rw [forceN_eq, List.getD_eq_getElem?_getD, List.getElem?_eq_getElem h]; rfl
noncomputable def slStrV (a : AV) (lo hi : Option AV) (H : Heap) : OR := onStr a fun s => boundV hi (lenL s) (lenL s) fun h => boundV lo 0 h fun l => .val (.str (dropB l (takeB h s))) H
theorem oSlStr_run (x : EvF) (lo hi : Option EvF) (tm : TM) (H : Heap) : oSlStr x lo hi none tm H = slStrV (x tm) (lo.map fun f => f tm) (hi.map fun f => f tm) H := by
  cases lo <;> cases hi <;> rfl
theorem slStr_take {s : List UInt8} {n : Nat} (h : n ≤ s.length) (k : IntKind) (H : Heap) : slStrV (.str s) none (some (nI k n)) H = .val (.str (s.take n)) H := by
  show onIf (Nat.ble n (lenL s)) (OR.val (.str (dropB 0 (takeB n s))) H) = _
  rw [lenL_eq, Nat.ble_eq_true_of_le h, takeB_eq]; rfl
theorem eqS_eq (a b : List UInt8) (H : Heap) : eqV eqS false (.str a) (.str b) H = .val (.bool (decide (a = b))) H := by
  show vBool (strEq a b) H = _
  rw [vBool_run, strEq_eq]
  congr 2
  by_cases h : a = b <;> simp [h]
theorem eqS_ne (a b : List UInt8) (H : Heap) : eqV eqS true (.str a) (.str b) H = .val (.bool (!decide (a = b))) H := by
  show vBool (cond (strEq a b) false true) H = _
  rw [vBool_run, strEq_eq]
  congr 2
  by_cases h : a = b <;> simp [h]
/-! ### what lies below is left alone -/
structure Below (n : Nat) (H H' : Heap) : Prop where
  nx : H.nx ≤ H'.nx
  ro : H'.ro = H.ro
  get : ∀ c, c < n → c < H.nx → H'.t.get c = H.t.get c
theorem Below.refl (n : Nat) (H : Heap) : Below n H H := ⟨Nat.le_refl _, rfl, fun _ _ _ => rfl⟩
theorem Below.trans {n : Nat} {H H' H'' : Heap} (a : Below n H H') (b : Below n H' H'') : Below n H H'' :=
  ⟨Nat.le_trans a.nx b.nx, b.ro.trans a.ro, fun c h1 h2 => (b.get c h1 (Nat.lt_of_lt_of_le h2 a.nx)).trans (a.get c h1 h2)⟩
theorem Below.put {n b : Nat} {H : Heap} {o : Obj} (h : n ≤ b) : Below n H (H.put b o) := ⟨Nat.le_refl _, rfl, fun c h1 _ => by rw [put_get, if_neg (by omega)]⟩
theorem Below.new (n : Nat) (H : Heap) (o : Obj) : Below n H (H.new o) := ⟨Nat.le_succ _, rfl, fun c _ h2 => by rw [new_get, if_neg (by omega)]⟩
theorem Below.mono {n m : Nat} {H H' : Heap} (a : Below n H H') (h : m ≤ n) : Below m H H' := ⟨a.nx, a.ro, fun c h1 h2 => a.get c (by omega) h2⟩
theorem Keep.below {H0 H H' : Heap} {n : Nat} (k : Keep H0 H []) (b : Below n H H') (h : H0.nx ≤ n) : Keep H0 H' [] :=
  ⟨Nat.le_trans k.nx b.nx, b.ro.trans k.ro, fun c h1 h2 => (b.get c (by omega) (Nat.lt_of_lt_of_le h1 k.nx)).trans (k.get c h1 h2)⟩
/-! ### a row of bytes that is appended to -/
def Tail (H : Heap) (v : AV) (l : List UInt8) (lo : Nat) : Prop := ∃ b r, v = .slice b 0 l.length none ∧ Grow H b 5 (l.map u8V) r ∧ lo ≤ b
def Buf (H : Heap) (v : AV) (l : List UInt8) (lo : Nat) : Prop := (l = [] ∧ v = .nils) ∨ (l ≠ [] ∧ Tail H v l lo)
theorem Buf.below {H H' : Heap} {v : AV} {l : List UInt8} {lo : Nat} (h : Buf H v l lo) (hp : ∀ c, lo ≤ c → c < H.nx → H'.t.get c = H.t.get c) (hro : H'.ro = H.ro) (hnx : H.nx ≤ H'.nx) : Buf H' v l lo := by
  rcases h with h | ⟨hne, b, r, rfl, g, hb⟩
  · exact .inl h
  · exact .inr ⟨hne, b, r, rfl, ⟨⟨by rw [hp b hb g.low]; exact g.at_, g.elem, g.sz, g.own, g.fz, g.sm, g.cells, by rw [hro]; exact g.ro⟩, g.exact_, Nat.lt_of_lt_of_le g.low hnx⟩, hb⟩

theorem cmpV_gt (k : IntKind) (a b : Nat) (H : Heap) : cmpV igtF strGt (nI k a) (nI k b) H = .val (.bool (decide (b < a))) H := by
  show onIf (kEq k k) (vBool (ilt (.ofNat b) (.ofNat a)) H) = _
  rw [kEq_self, vBool_run, ilt_nat]; rfl
theorem cmpV_le (k : IntKind) (a b : Nat) (H : Heap) : cmpV ileF strLe (nI k a) (nI k b) H = .val (.bool (decide (a ≤ b))) H := by
  show onIf (kEq k k) (vBool (!ilt (.ofNat b) (.ofNat a)) H) = _
  rw [kEq_self, vBool_run, ilt_nat]
  show OR.val (.bool (!decide (b < a))) H = _
  congr 2
  by_cases h : b < a
  · rw [decide_eq_true h, decide_eq_false (by omega)]; rfl
  · rw [decide_eq_false h, decide_eq_true (by omega)]; rfl
theorem pickV_t (b c : AV) (H : Heap) : pickV (.bool true) b c H = .val b H := rfl
theorem pickV_f (b c : AV) (H : Heap) : pickV (.bool false) b c H = .val c H := rfl
theorem notV_b (b : Bool) (H : Heap) : notV (.bool b) H = .val (.bool (cond b false true)) H := rfl
theorem lowV_agg (n : Nat) (l : List AV) : lowV n (.agg l) = lowL n l := rfl
theorem lowV_undef (n : Nat) : lowV n undefA = true := rfl
theorem lowV_str (n : Nat) (s : List UInt8) : lowV n (.str s) = true := rfl
noncomputable def minV (mx : Bool) (l : List AV) (H : Heap) : OR := match l with
  | .int k a :: l => min2 mx k a H l
  | _ => .fail
theorem oMinMax_run (mx : Bool) (args : List EvF) (tm : TM) (H : Heap) : oMinMax mx args tm H = minV mx (evs tm args) H := rfl
noncomputable def extrV (i : Nat) (a : AV) (H : Heap) : OR := onTup a fun vs => onSome (nthL vs i) fun v => .val v H
theorem oExtr_run (x : EvF) (i : Nat) (tm : TM) (H : Heap) : oExtr x i tm H = extrV i (x tm) H := rfl
theorem extrV_0 (a : AV) (l : List AV) (H : Heap) : extrV 0 (.tup (a :: l)) H = .val a H := rfl
theorem extrV_1 (a b : AV) (l : List AV) (H : Heap) : extrV 1 (.tup (a :: b :: l)) H = .val b H := rfl
theorem extrV_2 (a b c : AV) (l : List AV) (H : Heap) : extrV 2 (.tup (a :: b :: c :: l)) H = .val c H := rfl
theorem eqB_run (a b : Bool) (H : Heap) : eqV eqB false (.bool a) (.bool b) H = .val (.bool (decide (a = b))) H := by cases a <;> cases b <;> rfl
theorem loopN_succ (a : TM → Heap → X → Res) (n : Nat) (tm : TM) (H : Heap) (x : X) : loopN a (n + 1) tm H x = thenR (a tm H x) (loopN a n) := rfl
theorem eqP_nil (b o : Nat) (H : Heap) : eqV eqP false (.ptr b o) .nilp H = .val (.bool false) H := rfl
/-! ### pointers seen otherwise -/
noncomputable def ptrUV (a : AV) (H : Heap) : OR := match a with
  | .nilp => .val .nilp H
  | .ptr b o => onRow H b fun r => onIf (Nat.ble (Nat.succ o) r.size) (.val (.ptr b o) H)
  | _ => .fail
theorem oPtrU_run (x : EvF) (tm : TM) (H : Heap) : oPtrU x tm H = ptrUV (x tm) H := rfl
noncomputable def ptrPV (u n : Nat) (a : AV) (H : Heap) : OR := match a with
  | .nilp => .val .nilp H
  | .ptr b o => onRow H b fun r => onIf r.exact (onIf (Nat.beq r.elem u) (onIf (Nat.beq o 0) (onIf (Nat.ble n r.size) (.val (.ptr b o) H))))
  | _ => .fail
theorem oPtrP_run (x : EvF) (u n : Nat) (tm : TM) (H : Heap) : oPtrP x u n tm H = ptrPV u n (x tm) H := rfl
noncomputable def usDataV (a : AV) (H : Heap) : OR := onSlice a (.val .nilp H) fun b o _ cap => Option.rec (onRow H b fun r => onIf (Nat.ble (Nat.succ o) r.size) (.val (.ptr b o) H)) (fun c => onIf (Nat.ble 1 c) (.val (.ptr b o) H)) cap
theorem oUSData_run (x : EvF) (tm : TM) (H : Heap) : oUSData x tm H = usDataV (x tm) H := rfl
noncomputable def uStrV (e : Nat) (a n : AV) (H : Heap) : OR := onNat n fun n => cond (Nat.beq n 0) (match a with | .nilp => .val (.str []) H | .ptr .. => .val (.str []) H | _ => .fail)
  (onIf (Nat.ble n 140737488355328) <| onPtr a fun b o => onRow H b fun r => onIf (Nat.beq r.elem e) <| onIf (cond r.sm false (H.may r b)) (onIf (Nat.ble (Nat.add o n) r.size) (toBytes (fun s => .val (.str s)
    (H.put b (.row ⟨r.elem, r.sz, r.size, r.cells, r.dflt, cond (Nat.ble r.fz (Nat.add o n)) (Nat.add o n) r.fz, r.sm, r.own, r.exact⟩))) (loadN r o n))))
theorem oUStr_run (x y : EvF) (e : Nat) (tm : TM) (H : Heap) : oUStr x y e tm H = uStrV e (x tm) (y tm) H := rfl
theorem toBytes_u8 : ∀ (l : List UInt8) (k : List UInt8 → OR), toBytes k (l.map u8V) = k l
  | [], k => rfl
  | x :: l, k => by
    show toBytes (fun s => k (UInt8.ofNat x.toNat :: s)) (l.map u8V) = _
    rw [toBytes_u8 l]
    simp
/-! bytes cut -/
namespace T
variable {α : Type}
theorem setB_t (x : α) (l : T α) (v : Option α) (r : T α) (bs : List Bool) : setB x (node l v r) (true :: bs) = node (setB x l bs) v r := rfl
theorem setB_f (x : α) (l : T α) (v : Option α) (r : T α) (bs : List Bool) : setB x (node l v r) (false :: bs) = node l v (setB x r bs) := rfl
theorem setB_leaf (x : α) (bs : List Bool) : setB x leaf bs = single x bs := rfl
theorem single_t (x : α) (bs : List Bool) : single x (true :: bs) = node (single x bs) none leaf := rfl
theorem single_f (x : α) (bs : List Bool) : single x (false :: bs) = node leaf none (single x bs) := rfl
theorem setB_single (x y : α) : ∀ bs : List Bool, setB y (single x bs) bs = single y bs
  | [] => rfl
  | true :: bs => by rw [single_t, setB_t, setB_single x y bs, single_t]
  | false :: bs => by rw [single_f, setB_f, setB_single x y bs, single_f]
theorem setB_setB (x y : α) : ∀ (t : T α) (bs : List Bool), setB y (setB x t bs) bs = setB y t bs
  | leaf, bs => by rw [setB_leaf, setB_single, setB_leaf]
  | node l v r, [] => rfl
  | node l v r, true :: bs => by rw [setB_t, setB_t, setB_t, setB_setB x y l bs]
  | node l v r, false :: bs => by rw [setB_f, setB_f, setB_f, setB_setB x y r bs]
theorem set_set (t : T α) (n : Nat) (x y : α) : (t.set n x).set n y = t.set n y := setB_setB x y t (bits n)
theorem odds_cons2 (a b : α) (l : List α) : odds (a :: b :: l) = a :: odds l := by simp [odds]
theorem odds_set : ∀ (l : List α) (i : Nat) (v : α), odds (l.set (2 * i) v) = (odds l).set i v
  | [], _, _ => by simp [odds]
  | [a], 0, _ => by simp [odds]
  | [a], i + 1, v => by
    rw [show 2 * (i + 1) = 2 * i + 1 + 1 by omega]; simp [odds]
  | a :: b :: l, 0, v => by simp [odds]
  | a :: b :: l, i + 1, v => by
    rw [show 2 * (i + 1) = 2 * i + 1 + 1 by omega, List.set_cons_succ, List.set_cons_succ, odds_cons2, odds_cons2, odds_set l i v, List.set_cons_succ]
theorem odds_set_odd : ∀ (l : List α) (i : Nat) (v : α), odds (l.set (2 * i + 1) v) = odds l
  | [], _, _ => by simp [odds]
  | [a], i, _ => by simp [odds]
  | a :: b :: l, 0, v => by simp [odds]
  | a :: b :: l, i + 1, v => by
    rw [show 2 * (i + 1) + 1 = (2 * i + 1) + 1 + 1 by omega, List.set_cons_succ, List.set_cons_succ, odds_cons2, odds_cons2, odds_set_odd l i v]
theorem tail_set (l : List α) (i : Nat) (v : α) : (l.set (i + 1) v).tail = l.tail.set i v := by cases l <;> rfl
theorem tail_set0 (l : List α) (v : α) : (l.set 0 v).tail = l.tail := by cases l <;> rfl
theorem odds_len (l : List α) : (odds l).length = (l.length + 1) / 2 := by
  have : ∀ (n : Nat) (l : List α), l.length ≤ n → (odds l).length = (l.length + 1) / 2 := by
    intro n
    induction n with
    | zero => intro l h; cases l with | nil => simp [odds] | cons => simp at h
    | succ n ih =>
      intro l h
      match l, h with
      | [], _ => simp [odds]
      | [a], _ => simp [odds]
      | a :: b :: l, h =>
        rw [odds_cons2, List.length_cons, ih l (by simp at h; omega)]
        simp only [List.length_cons]; omega
  exact this _ l (Nat.le_refl _)
theorem ofListF_cons (f : Nat) (x : α) (l : List α) : ofListF (f + 1) (x :: l) = node (ofListF f (odds l)) (some x) (ofListF f (odds l.tail)) := rfl
theorem set_ofListF : ∀ (f : Nat) (l : List α) (i : Nat) (v : α), l.length ≤ f → i < l.length → (ofListF f l).set i v = ofListF f (l.set i v) := by
  intro f
  induction f with
  | zero => intro l i v h hi; omega
  | succ f ih =>
    intro l i v h hi
    cases l with
    | nil => cases hi
    | cons x l =>
      rw [ofListF_cons]
      by_cases h0 : i = 0
      · subst h0; rfl
      · obtain ⟨j, rfl⟩ : ∃ j, i = j + 1 := ⟨i - 1, by omega⟩
        rw [List.set_cons_succ, ofListF_cons]
        simp only [List.length_cons] at h hi
        unfold set
        by_cases h1 : (j + 1) % 2 = 1
        · obtain ⟨m, rfl⟩ : ∃ m, j = 2 * m := ⟨j / 2, by omega⟩
          rw [bits_odd h1, setB_t, show (2 * m + 1) / 2 = m by omega]
          have := ih (odds l) m v (by rw [odds_len]; omega) (by rw [odds_len]; omega)
          unfold set at this
          rw [this, odds_set]
          cases m with
          | zero => rw [tail_set0]
          | succ m => rw [show 2 * (m + 1) = 2 * m + 1 + 1 by omega, tail_set, odds_set_odd]
        · obtain ⟨m, rfl⟩ : ∃ m, j = 2 * m + 1 := ⟨j / 2, by omega⟩
          rw [bits_even (by omega) (by omega), setB_f, show (2 * m + 1 + 1) / 2 - 1 = m by omega]
          have := ih (odds l.tail) m v (by rw [odds_len, List.length_tail]; omega) (by rw [odds_len, List.length_tail]; omega)
          unfold set at this
          rw [this, odds_set_odd, tail_set, odds_set]
theorem set_ofList {l : List α} {i : Nat} (v : α) (h : i < l.length) : (ofList l).set i v = ofList (l.set i v) := by
  unfold ofList
  rw [lenT_eq, lenT_eq, List.length_set]
  exact set_ofListF _ l i v (Nat.le_refl _) h
end T
/-- cells laid from a place on -/
def lay (l : List AV) : Nat → List AV → List AV
  | _, [] => l
  | o, v :: vs => lay (l.set o v) (o + 1) vs
theorem lay_len : ∀ (l : List AV) (o : Nat) (vs : List AV), (lay l o vs).length = l.length
  | _, _, [] => rfl
  | l, o, v :: vs => by
    show (lay (l.set o v) (o + 1) vs).length = _
    rw [lay_len, List.length_set]
theorem storeN_lay : ∀ (l : List AV) (o : Nat) (vs : List AV), o + vs.length ≤ l.length → storeN (T.ofList l) o vs = T.ofList (lay l o vs)
  | _, _, [], _ => rfl
  | l, o, v :: vs, h => by
    simp only [List.length_cons] at h
    show storeN ((T.ofList l).set o v) (o + 1) vs = T.ofList (lay (l.set o v) (o + 1) vs)
    rw [T.set_ofList v (by omega), storeN_lay (l.set o v) (o + 1) vs (by rw [List.length_set]; omega)]
theorem lay_eq : ∀ (l : List AV) (o : Nat) (vs : List AV), o + vs.length ≤ l.length → lay l o vs = l.take o ++ (vs ++ l.drop (o + vs.length))
  | l, o, [], h => by show l = _; simp
  | l, o, v :: vs, h => by
    simp only [List.length_cons] at h
    show lay (l.set o v) (o + 1) vs = _
    rw [lay_eq (l.set o v) (o + 1) vs (by rw [List.length_set]; omega), List.set_eq_take_append_cons_drop, if_pos (by omega)]
    have e1 : (l.take o ++ v :: l.drop (o + 1)).take (o + 1) = l.take o ++ [v] := by
      rw [List.take_append, List.take_of_length_le (by rw [List.length_take]; omega), List.length_take, Nat.min_eq_left (by omega), show o + 1 - o = 1 by omega]; rfl
    have e2 : (l.take o ++ v :: l.drop (o + 1)).drop (o + 1 + vs.length) = l.drop (o + (v :: vs).length) := by
      rw [List.drop_append, List.drop_eq_nil_of_le (by rw [List.length_take]; omega), List.nil_append, List.length_take, Nat.min_eq_left (by omega), show o + 1 + vs.length - o = vs.length + 1 by omega, List.drop_succ_cons, List.drop_drop, List.length_cons]
      congr 1; omega
    rw [e1, e2]; simp
section
/-- a row that a list tells -/
def rG (e sz : Nat) (l : List AV) (fz : Nat) (sm own ex : Bool) : Obj := .row ⟨e, sz, lenL l, T.ofList l, .unk, fz, sm, own, ex⟩
theorem rG_get (e sz : Nat) (l : List AV) (fz : Nat) (sm own ex : Bool) (i : Nat) : Row.get ⟨e, sz, lenL l, T.ofList l, .unk, fz, sm, own, ex⟩ i = l.getD i .unk := by
  rw [Row.get_eq]
  show ((T.ofList l).get i).getD .unk = _
  rw [T.get_ofList, List.getD_eq_getElem?_getD]
def ld1 (x : Option Obj) (o : Nat) (H : Heap) : OR := match x with | some (.row r) => onIf (Nat.ble (Nat.succ o) r.size) (.val (r.get o) H) | _ => .fail
theorem load1V_at (b o : Nat) (H : Heap) : load1V (.ptr b o) H = ld1 (H.t.get b) o H := rfl
theorem ld1_rG {o : Nat} {l : List AV} (h : o < l.length) (e sz fz : Nat) (sm own ex : Bool) (H : Heap) : ld1 (some (rG e sz l fz sm own ex)) o H = .val (l.getD o .unk) H := by
  show onIf (Nat.ble (Nat.succ o) (lenL l)) (.val (Row.get ⟨e, sz, lenL l, T.ofList l, .unk, fz, sm, own, ex⟩ o) H) = _
  rw [lenL_eq, Nat.ble_eq_true_of_le (show Nat.succ o ≤ l.length from h)]
  show OR.val (Row.get ⟨e, sz, l.length, T.ofList l, .unk, fz, sm, own, ex⟩ o) H = _
  rw [← lenL_eq, rG_get]
def ldN (n : Nat) (x : Option Obj) (o : Nat) (H : Heap) : OR := match x with | some (.row r) => onIf (Nat.ble (Nat.add o n) r.size) (.val (.agg (loadN r o n)) H) | _ => .fail
theorem loadV_at (n b o : Nat) (H : Heap) : loadV n (.ptr b o) H = ldN n (H.t.get b) o H := rfl
def stN (n : Nat) (x : Option Obj) (b o : Nat) (v : AV) (H : Heap) : OR := match x with
  | some (.row r) => onIf (Nat.ble 1 n) <| onIf (H.may r b) (onIf (Nat.ble (Nat.add o n) r.size) (onIf (Nat.ble r.fz o) (onIf (Nat.beq (lenL v.cells) n) (.val undefA (H.put b (.row (r.setCells (storeN r.cells o v.cells))))))))
  | _ => .fail
theorem storeV_at (n b o : Nat) (v : AV) (H : Heap) : storeV n (.ptr b o) v H = stN n (H.t.get b) b o v H := rfl
theorem stN_rG {n b o : Nat} {l : List AV} {v : AV} {H : Heap} {fz : Nat} (hn : 1 ≤ n) (hv : v.cells.length = n) (ho : o + n ≤ l.length) (hro : H.ro ≤ b) (hfz : fz ≤ o) (e sz : Nat) (sm ex : Bool) :
    stN n (some (rG e sz l fz sm true ex)) b o v H = .val undefA (H.put b (rG e sz (lay l o v.cells) fz sm true ex)) := by
  show onIf (Nat.ble 1 n) (onIf (cond true (Nat.ble H.ro b) false) (onIf (Nat.ble (o + n) (lenL l)) (onIf (Nat.ble fz o) (onIf (Nat.beq (lenL v.cells) n) (.val undefA (H.put b (.row ⟨e, sz, lenL l, storeN (T.ofList l) o v.cells, .unk, fz, sm, true, ex⟩))))))) = _
  rw [Nat.ble_eq_true_of_le hn, Nat.ble_eq_true_of_le hro, lenL_eq, Nat.ble_eq_true_of_le ho, Nat.ble_eq_true_of_le hfz, lenL_eq, hv, Nat.beq_refl, storeN_lay l o v.cells (by omega)]
  unfold rG
  rw [lenL_eq, lay_len]; rfl
theorem stN_one {b o : Nat} {l : List AV} {v : AV} {H : Heap} {fz : Nat} (hv : v.cells = [v]) (ho : o < l.length) (hro : H.ro ≤ b) (hfz : fz ≤ o) (e sz : Nat) (sm ex : Bool) :
    stN 1 (some (rG e sz l fz sm true ex)) b o v H = .val undefA (H.put b (rG e sz (l.set o v) fz sm true ex)) := by
  rw [stN_rG (Nat.le_refl 1) (by rw [hv]; rfl) ho hro hfz, hv]; rfl
/-! heaps -/
theorem get_put_eq (H : Heap) (b : Nat) (o : Obj) : (H.put b o).t.get b = some o := by rw [put_get, if_pos rfl]
theorem get_put_ne {b c : Nat} (h : ¬ b = c) (H : Heap) (o : Obj) : (H.put b o).t.get c = H.t.get c := by rw [put_get, if_neg h]
theorem get_new_eq {H : Heap} {c : Nat} (h : H.nx = c) (o : Obj) : (H.new o).t.get c = some o := by rw [new_get, if_pos h]
theorem get_new_ne {H : Heap} {c : Nat} (h : ¬ H.nx = c) (o : Obj) : (H.new o).t.get c = H.t.get c := by rw [new_get, if_neg h]
theorem put_put (H : Heap) (b : Nat) (o o' : Obj) : (H.put b o).put b o' = H.put b o' := by
  unfold Heap.put; simp only [T.set_set]
theorem new_put {H : Heap} {b : Nat} (h : H.nx = b) (o o' : Obj) : (H.new o).put b o' = H.new o' := by
  subst h; unfold Heap.put Heap.new; simp only [T.set_set]
theorem newRow_rG (H : Heap) (e sz : Nat) (l : List AV) (ex : Bool) : H.newRow e sz l ex = H.new (rG e sz l 0 false true ex) := rfl
theorem oAlloc_cons (e : Nat) (c : AV) (cs : List AV) (tm : TM) (H : Heap) : oAlloc e (c :: cs) tm H = .val (.ptr H.nx 0) (H.new (rG e 1 (c :: cs) 0 false true true)) := by
  rw [oAlloc_run _ _ (by rw [lenL_eq]; simp)]; rfl
def boxW (e : Nat) (a : AV) (H : Heap) : OR := onIf (Nat.ble 1 (lenL a.cells)) <| .val (.ptr H.nx 0) (H.newRow e 1 a.cells true)
theorem oBox_at (x : EvF) (e : Nat) (tm : TM) (H : Heap) : oBox x e tm H = boxW e (x tm) H := rfl
theorem boxW_is {a : AV} {l : List AV} (h : a.cells = l) (h1 : 1 ≤ l.length) (e : Nat) (H : Heap) : boxW e a H = .val (.ptr H.nx 0) (H.new (rG e 1 l 0 false true true)) := by
  subst h
  show onIf (Nat.ble 1 (lenL a.cells)) _ = _
  rw [lenL_eq, Nat.ble_eq_true_of_le h1]; rfl
theorem cells_agg0 (l : List AV) : (AV.agg l).cells = l := rfl
theorem boxW_agg {l : List AV} (h1 : 1 ≤ l.length) (e : Nat) (H : Heap) : boxW e (.agg l) H = .val (.ptr H.nx 0) (H.new (rG e 1 l 0 false true true)) := boxW_is (cells_agg0 l) h1 e H
theorem boxW_one {a : AV} (h : a.cells = [a]) (e : Nat) (H : Heap) : boxW e a H = .val (.ptr H.nx 0) (H.new (rG e 1 [a] 0 false true true)) := boxW_is h (Nat.le_refl 1) e H
theorem cells_bool (b : Bool) : (AV.bool b).cells = [.bool b] := rfl
theorem cells_int (k : IntKind) (n : Int) : (AV.int k n).cells = [.int k n] := rfl
theorem cells_nI (k : IntKind) (n : Nat) : (nI k n).cells = [nI k n] := rfl
theorem cells_u8V (x : UInt8) : (u8V x).cells = [u8V x] := rfl
theorem cells_str (s : List UInt8) : (AV.str s).cells = [.str s] := rfl
theorem cells_nilp : AV.nilp.cells = [.nilp] := rfl
theorem cells_ptr (b o : Nat) : (AV.ptr b o).cells = [.ptr b o] := rfl
theorem cells_nils : AV.nils.cells = [.nils] := rfl
theorem cells_slice (b o n : Nat) (c : Option Nat) : (AV.slice b o n c).cells = [.slice b o n c] := rfl
theorem cells_map (b : Nat) : (AV.map b).cells = [.map b] := rfl
theorem cells_func (f : Nat) (a b : List AV) : (AV.func f a b).cells = [.func f a b] := rfl
theorem cells_iface (t : Nat) (v : AV) : (AV.iface t v).cells = [.iface t v] := rfl
theorem cells_nili : AV.nili.cells = [.nili] := rfl
theorem cells_agg (l : List AV) : (AV.agg l).cells = l := rfl
/-! loops: each round goes on, or the loop is left; a measure falls -/
theorem loop_rule {a : TM → Heap → X → Res} {x : X} (I : Nat → TM → Heap → Prop) (Q : Out → TM → Heap → Prop)
    (step : ∀ m tm H, I m tm H → ∃ o tm' H', a tm H x = .ok o tm' H' x ∧ ((o = .normal ∧ ∃ k, k < m ∧ I k tm' H') ∨ (o ≠ .normal ∧ Q o tm' H'))) :
    ∀ (F m : Nat) (tm : TM) (H : Heap), m < F → I m tm H → ∃ o tm' H', loopN a F tm H x = .ok o tm' H' x ∧ o ≠ .normal ∧ Q o tm' H'
  | 0, m, _, _, h, _ => by omega
  | F + 1, m, tm, H, h, hi => by
    obtain ⟨o, tm', H', h1, h2⟩ := step m tm H hi
    rcases h2 with ⟨rfl, k, hk, h3⟩ | ⟨h2, h3⟩
    · obtain ⟨o2, tm2, H2, e, h4, h5⟩ := loop_rule I Q step F k tm' H' (by omega) h3
      refine ⟨o2, tm2, H2, ?_, h4, h5⟩
      show thenR (a tm H x) (loopN a F) = _
      rw [h1]; exact e
    · refine ⟨o, tm', H', ?_, h2, h3⟩
      show thenR (a tm H x) (loopN a F) = _
      rw [h1]
      cases o with
      | normal => exact absurd rfl h2
      | _ => rfl
theorem after_rule {a : TM → Heap → X → Res} {F : Nat} {H : Heap} {x : X} {L : Res} {P : TM → Prop} {Q : Out → TM → Heap → Prop} (lp : ∀ T, P T → ∃ o tm' H', loopN a F T H x = .ok o tm' H' x ∧ o ≠ .normal ∧ Q o tm' H') {T : TM} (hL : loopN a F T H x = L) (hi : P T) :
    ∃ o tm' H', L = .ok o tm' H' x ∧ o ≠ .normal ∧ Q o tm' H' := by
  obtain ⟨o, b, c, e, j⟩ := lp T hi
  exact ⟨o, b, c, hL.symm.trans e, j⟩
end

theorem RunG : (∀ (f : OpF) (dst : SetF) (next : D) (c : Ctx) (tm : TM) (H : Heap) (x : X), seqO f dst next c tm H x = goOn (next c) dst c tm H x (f tm H)) ∧ (∀ (next : TM → Heap → X → Res) (dst : SetF) (c : Ctx) (tm : TM) (H : Heap) (x : X) (v : AV) (H' : Heap), goOn next dst c tm H x (.val v H') = next (dst tm v) H' x) ∧ (∀ (next : TM → Heap → X → Res) (dst : SetF) (c : Ctx) (tm : TM) (H : Heap) (x : X) (f : Nat) (args : List AV) (H' : Heap), goOn next dst c tm H x (.oth (.call f args H')) = onCR next dst tm x (c.call f args H')) ∧ (∀ (next : TM → Heap → X → Res) (dst : SetF) (tm : TM) (x : X) (v : AV) (H : Heap), onCR next dst tm x (.ret v H) = next (dst tm v) H x) ∧ (∀ (a b : D) (c : Ctx) (tm : TM) (H : Heap) (x : X), seqD a b c tm H x = thenR (a c tm H x) (b c)) ∧ (∀ (tm : TM) (H : Heap) (x : X) (k : TM → Heap → X → Res), thenR (.ok .normal tm H x) k = k tm H x) ∧ (∀ (tm : TM) (H : Heap) (x : X) (k : TM → Heap → X → Res), thenR (.ok .ret tm H x) k = .ok .ret tm H x) ∧ (∀ (i : Nat) (tm : TM) (H : Heap) (x : X) (k : TM → Heap → X → Res), thenR (.ok (.exit i) tm H x) k = .ok (.exit i) tm H x) ∧ (∀ (c : Ctx) (tm : TM) (H : Heap) (x : X), normD c tm H x = .ok .normal tm H x) ∧ (∀ (c : Ctx) (tm : TM) (H : Heap) (x : X), retD c tm H x = .ok .ret tm H x) ∧ (∀ (i : Nat) (c : Ctx) (tm : TM) (H : Heap) (x : X), exitD i c tm H x = .ok (.exit i) tm H x) ∧ (∀ (q : EvF) (a b : D) (c : Ctx) (tm : TM) (H : Heap) (x : X), condD q a b c tm H x = isBn (q tm) fun v => condK (a c) (b c) v tm H x) ∧ (∀ (b : Bool) (k : Bool → Res), isBn (.bool b) k = k b) ∧ (∀ (a b : TM → Heap → X → Res) (tm : TM) (H : Heap) (x : X), condK a b true tm H x = a tm H x) ∧ (∀ (a b : TM → Heap → X → Res) (tm : TM) (H : Heap) (x : X), condK a b false tm H x = b tm H x) ∧ (∀ (i : Nat) (a : D) (c : Ctx) (tm : TM) (H : Heap) (x : X), blockD i a c tm H x = leaveB i (a c tm H x)) ∧ (∀ (a : D) (c : Ctx) (tm : TM) (H : Heap) (x : X), loopD a c tm H x = loopN (a c) c.fuel tm H x) ∧ (∀ (i : Nat) (tm : TM) (H : Heap) (x : X), leaveB i (.ok .normal tm H x) = .ok .normal tm H x) ∧ (∀ (i : Nat) (tm : TM) (H : Heap) (x : X), leaveB i (.ok (.exit i) tm H x) = .ok .normal tm H x) ∧ (∀ (i : Nat) (tm : TM) (H : Heap) (x : X), leaveB i (.ok .ret tm H x) = .ok .ret tm H x) ∧ (∀ (tm : TM) (v : AV), d0 tm v = tm) ∧ (∀ (v : AV) (tm : TM), k v tm = v) ∧ (∀ (tm : TM), evs tm [] = []) ∧ (∀ (tm : TM) (f : EvF) (l : List EvF), evs tm (f :: l) = f tm :: evs tm l) ∧ (∀ (x : EvF) (tm : TM) (H : Heap), oMv x tm H = .val (x tm) H) ∧ (∀ (x : EvF) (tm : TM) (H : Heap), oNeg x tm H = negV (x tm) H) ∧ (∀ (x : EvF) (k : IntKind) (tm : TM) (H : Heap), oInt x k tm H = intV k (x tm) H) ∧ (∀ (x y : EvF) (tm : TM) (H : Heap), oAddS x y tm H = addV (x tm) (y tm) H) ∧ (∀ (x y : EvF) (tm : TM) (H : Heap), oSub x y tm H = subV (x tm) (y tm) H) ∧ (∀ (x y : EvF) (tm : TM) (H : Heap), oMul x y tm H = mulV (x tm) (y tm) H) ∧ (∀ (x y : EvF) (tm : TM) (H : Heap), oQuo x y tm H = quoV (x tm) (y tm) H) ∧ (∀ (x y : EvF) (tm : TM) (H : Heap), oRem x y tm H = remV (x tm) (y tm) H) ∧ (∀ (x y : EvF) (f : Nat → Nat → Nat → Nat) (tm : TM) (H : Heap), oBits x y f tm H = bitsV f (x tm) (y tm) H) ∧ (∀ (x y : EvF) (tm : TM) (H : Heap), oShl x y tm H = shlV (x tm) (y tm) H) ∧ (∀ (x y : EvF) (tm : TM) (H : Heap), oShr x y tm H = shrV (x tm) (y tm) H) ∧ (∀ (x : EvF) (tm : TM) (H : Heap), oXorU x tm H = xorUV (x tm) H) ∧ (∀ (x y : EvF) (f : Int → Int → Bool) (g : List UInt8 → List UInt8 → Bool) (tm : TM) (H : Heap), oCmp x y f g tm H = cmpV f g (x tm) (y tm) H) ∧ (∀ (x y : EvF) (f : AV → AV → Option Bool) (neg : Bool) (tm : TM) (H : Heap), oEq x y f neg tm H = eqV f neg (x tm) (y tm) H) ∧ (∀ (x : EvF) (tm : TM) (H : Heap), oNot x tm H = notV (x tm) H) ∧ (∀ (x y z : EvF) (tm : TM) (H : Heap), oPick x y z tm H = pickV (x tm) (y tm) (z tm) H) ∧ (∀ (f : Nat) (args : List EvF) (tm : TM) (H : Heap), oCallF f args tm H = .oth (.call f (evs tm args) H)) ∧ (∀ (yes no : Res), guardK (.bool true) true yes no = yes) ∧ (∀ (yes no : Res), guardK (.bool false) true yes no = no) ∧ (∀ (yes no : Res), guardK (.bool false) false yes no = yes) ∧ (∀ (yes no : Res), guardK (.bool true) false yes no = no) ∧ (∀ (g : EvF) (b : Bool) (f : OpF) (dst : SetF) (next : D) (c : Ctx) (tm : TM) (H : Heap) (x : X), seqG g b f dst next c tm H x = guardK (g tm) b (goOn (next c) dst c tm H x (f tm H)) (next c (dst tm undefA) H x)) ∧ (∀ (n : Nat) (l : List AV), lowV n (.agg l) = lowL n l) ∧ (∀ (n : Nat), lowV n undefA = true) ∧ (∀ (n : Nat) (s : List UInt8), lowV n (.str s) = true) ∧ (∀ (n : Nat) (k : IntKind) (m : Nat), lowV n (nI k m) = true) ∧ (∀ (n : Nat) (x : UInt32), lowV n (u32V x) = true) ∧ (∀ (n : Nat) (x : UInt8), lowV n (u8V x) = true) ∧ (∀ (n : Nat) (x : Bool), lowV n (.bool x) = true) ∧ (∀ (sz : Nat) (x : EvF) (lo hi : Option EvF) (tm : TM) (H : Heap), oSlice sz x lo hi none tm H = sliceV sz (x tm) (lo.map fun f => f tm) (hi.map fun f => f tm) H) ∧ (∀ (mx : Bool) (args : List EvF) (tm : TM) (H : Heap), oMinMax mx args tm H = minV mx (evs tm args) H) ∧ (∀ (zs : List AV) (ps : List Part) (tm : TM) (H : Heap), oBuild zs ps tm H = buildV zs (ps.map fun p => (p.off, p.sz, p.x tm)) H) ∧ (∀ (e sz n : Nat) (zs : List AV) (ps : List Part) (tm : TM) (H : Heap), oBSlice e sz n zs ps tm H = bsliceV e sz n zs (ps.map fun p => (p.off, p.sz, p.x tm)) H) ∧ (∀ (x y : EvF) (e sz bytes : Nat) (tm : TM) (H : Heap), oAppend x y e sz bytes tm H = appendV e sz bytes (x tm) (y tm) H) ∧ (∀ (x y : EvF) (sz : Nat) (tm : TM) (H : Heap), oCopy x y sz tm H = copyV sz (x tm) (y tm) H) ∧ (∀ (n sz : Nat) (x : EvF) (lo hi : Option EvF) (tm : TM) (H : Heap), oSlArr n sz x lo hi none tm H = slArrV n sz (x tm) (lo.map fun f => f tm) (hi.map fun f => f tm) H) ∧ (∀ (x : EvF) (tm : TM) (H : Heap), oLenS x tm H = lenSV (x tm) H) ∧ (∀ (x y : EvF) (tm : TM) (H : Heap), oIdxStr x y tm H = idxStrV (x tm) (y tm) H) ∧ (∀ (x : EvF) (lo hi : Option EvF) (tm : TM) (H : Heap), oSlStr x lo hi none tm H = slStrV (x tm) (lo.map fun f => f tm) (hi.map fun f => f tm) H) ∧ (∀ (x : EvF) (i : Nat) (tm : TM) (H : Heap), oExtr x i tm H = extrV i (x tm) H) ∧ (∀ (b c : AV) (H : Heap), pickV (.bool true) b c H = .val b H) ∧ (∀ (b c : AV) (H : Heap), pickV (.bool false) b c H = .val c H) ∧ (∀ (b : Bool) (H : Heap), notV (.bool b) H = .val (.bool (cond b false true)) H) ∧ (∀ (x : EvF) (tm : TM) (H : Heap), oLoad1 x tm H = load1V (x tm) H) ∧ (∀ (x : EvF) (n : Nat) (tm : TM) (H : Heap), oLoad x n tm H = loadV n (x tm) H) ∧ (∀ (x y : EvF) (n : Nat) (tm : TM) (H : Heap), oStore x y n tm H = storeV n (x tm) (y tm) H) ∧ (∀ (x : EvF) (n : Nat) (tm : TM) (H : Heap), oOff x n tm H = offV n (x tm) H) ∧ (∀ (x y : EvF) (n sz : Nat) (tm : TM) (H : Heap), oIdxA x y n sz tm H = idxAV n sz (x tm) (y tm) H) ∧ (∀ (x y : EvF) (sz : Nat) (tm : TM) (H : Heap), oIdxS x y sz tm H = idxSV sz (x tm) (y tm) H) ∧ (∀ (x : EvF) (tm : TM) (H : Heap), oNil x tm H = nilV (x tm) H) ∧ (∀ (x : EvF) (tm : TM) (H : Heap), oLenL x tm H = lenV (x tm) H) ∧ (∀ (e n : Nat) (v : AV) (tm : TM) (H : Heap), oAllocZ e n v tm H = .val (.ptr H.nx 0) (H.new (.row ⟨e, 1, n, .leaf, v, 0, false, true, true⟩))) ∧ (∀ (x : EvF) (e : Nat) (tm : TM) (H : Heap), oBox x e tm H = boxW e (x tm) H) ∧ (∀ (e : Nat) (c : AV) (cs : List AV) (tm : TM) (H : Heap), oAlloc e (c :: cs) tm H = .val (.ptr H.nx 0) (H.new (rG e 1 (c :: cs) 0 false true true))) ∧ (∀ (n b o : Nat) (H : Heap), offV n (.ptr b o) H = .val (.ptr b (o + n)) H) ∧ (∀ (b o : Nat) (H : Heap), nilV (.ptr b o) H = .val (.ptr b o) H) ∧ (∀ (b o n : Nat) (c : Option Nat) (H : Heap), lenV (.slice b o n c) H = .val (nI .i64 n) H) ∧ (∀ (H : Heap), lenV .nils H = .val (nI .i64 0) H) ∧ (∀ (H : Heap) (b : Nat) (o : Obj), (H.put b o).nx = H.nx) ∧ (∀ (H : Heap) (b : Nat) (o : Obj), (H.put b o).ro = H.ro) ∧ (∀ (H : Heap) (o : Obj), (H.new o).nx = H.nx + 1) ∧ (∀ (H : Heap) (o : Obj), (H.new o).ro = H.ro) ∧ (∀ (H : Heap) (b : Nat) (o : Obj), (H.put b o).t.get b = some o) ∧ (∀ (H : Heap) (b : Nat) (o o' : Obj), (H.put b o).put b o' = H.put b o') ∧ (∀ (H : Heap) (e sz : Nat) (l : List AV) (ex : Bool), H.newRow e sz l ex = H.new (rG e sz l 0 false true ex)) ∧ (∀ (b o : Nat) (H : Heap), load1V (.ptr b o) H = ld1 (H.t.get b) o H) ∧ (∀ (n b o : Nat) (H : Heap), loadV n (.ptr b o) H = ldN n (H.t.get b) o H) ∧ (∀ (n b o : Nat) (v : AV) (H : Heap), storeV n (.ptr b o) v H = stN n (H.t.get b) b o v H) ∧ (∀ (b : Bool), (AV.bool b).cells = [.bool b]) ∧ (∀ (k : IntKind) (n : Int), (AV.int k n).cells = [.int k n]) ∧ (∀ (k : IntKind) (n : Nat), (nI k n).cells = [nI k n]) ∧ (∀ (x : UInt8), (u8V x).cells = [u8V x]) ∧ (∀ (s : List UInt8), (AV.str s).cells = [.str s]) ∧ (AV.nilp.cells = [.nilp]) ∧ (∀ (b o : Nat), (AV.ptr b o).cells = [.ptr b o]) ∧ (AV.nils.cells = [.nils]) ∧ (∀ (b o n : Nat) (c : Option Nat), (AV.slice b o n c).cells = [.slice b o n c]) ∧ (∀ (b : Nat), (AV.map b).cells = [.map b]) ∧ (∀ (f : Nat) (a b : List AV), (AV.func f a b).cells = [.func f a b]) ∧ (∀ (t : Nat) (v : AV), (AV.iface t v).cells = [.iface t v]) ∧ (AV.nili.cells = [.nili]) ∧ (∀ (l : List AV), (AV.agg l).cells = l) ∧ (∀ (l : List PI) (c : Ctx) (tm : TM) (H : Heap) (x : X), drawnD l c tm H x = planD (l.map (·.dst)) normF l c [] tm H x) ∧ (∀ (ds : List SetF) (fin : PK) (c : Ctx) (rs : List RD) (tm : TM) (H : Heap) (x : X), planD ds fin [] c rs tm H x = cond (still tm H rs) (fin rs tm H x) .fail) ∧ (∀ (ds : List SetF) (fin : PK) (p : PI) (l : List PI) (c : Ctx) (rs : List RD) (tm : TM) (H : Heap) (x : X), planD ds fin (p :: l) c rs tm H x = stepK ds p (planD ds fin l c) c rs tm H x) ∧ (∀ (rs : List RD) (tm : TM) (H : Heap) (x : X), normF rs tm H x = .ok .normal tm H x) ∧ (∀ (ds : List SetF) (f : OpF) (os : List (SetF × EvF)) (dst : SetF) (i bef : Nat) (nx : PK) (c : Ctx) (rs : List RD) (tm : TM) (H : Heap) (x : X), stepK ds ⟨f, none, os, dst, .free, i, bef⟩ nx c rs tm H x = cond (lowOs H.nx tm os) (freeK ⟨f, none, os, dst, .free, i, bef⟩ nx rs tm H x (f (rsF tm os) ⟨H.nx, .leaf, H.nx⟩)) .fail) ∧ (∀ (ds : List SetF) (f : OpF) (os : List (SetF × EvF)) (dst : SetF) (i bef : Nat) (nx : PK) (c : Ctx) (rs : List RD) (tm : TM) (H : Heap) (x : X), stepK ds ⟨f, none, os, dst, .read, i, bef⟩ nx c rs tm H x = readK ⟨f, none, os, dst, .read, i, bef⟩ nx rs tm H x (f (rsF tm os) ⟨H.nx, H.t, H.nx⟩)) ∧ (∀ (ds : List SetF) (f : OpF) (os : List (SetF × EvF)) (dst : SetF) (i bef : Nat) (nx : PK) (c : Ctx) (rs : List RD) (tm : TM) (H : Heap) (x : X), stepK ds ⟨f, none, os, dst, .eff, i, bef⟩ nx c rs tm H x = cond (still tm H rs) (effK ds ⟨f, none, os, dst, .eff, i, bef⟩ nx rs c tm x (f (rsF tm os) H)) .fail) ∧ (∀ (ds : List SetF) (f : OpF) (e : EvF) (b : Bool) (os : List (SetF × EvF)) (dst : SetF) (i bef : Nat) (nx : PK) (c : Ctx) (rs : List RD) (tm : TM) (H : Heap) (x : X), stepK ds ⟨f, some (e, b), os, dst, .free, i, bef⟩ nx c rs tm H x = guardK (e tm) b (cond (lowOs H.nx tm os) (freeK ⟨f, some (e, b), os, dst, .free, i, bef⟩ nx rs tm H x (f (rsF tm os) ⟨H.nx, .leaf, H.nx⟩)) .fail) (nx rs (dst tm undefA) H x)) ∧ (∀ (ds : List SetF) (f : OpF) (e : EvF) (b : Bool) (os : List (SetF × EvF)) (dst : SetF) (i bef : Nat) (nx : PK) (c : Ctx) (rs : List RD) (tm : TM) (H : Heap) (x : X), stepK ds ⟨f, some (e, b), os, dst, .read, i, bef⟩ nx c rs tm H x = guardK (e tm) b (readK ⟨f, some (e, b), os, dst, .read, i, bef⟩ nx rs tm H x (f (rsF tm os) ⟨H.nx, H.t, H.nx⟩)) (nx rs (dst tm undefA) H x)) ∧ (∀ (ds : List SetF) (f : OpF) (e : EvF) (b : Bool) (os : List (SetF × EvF)) (dst : SetF) (i bef : Nat) (nx : PK) (c : Ctx) (rs : List RD) (tm : TM) (H : Heap) (x : X), stepK ds ⟨f, some (e, b), os, dst, .eff, i, bef⟩ nx c rs tm H x = cond (still tm H rs) (guardK (e tm) b (effK ds ⟨f, some (e, b), os, dst, .eff, i, bef⟩ nx rs c tm x (f (rsF tm os) H)) (nx (keepR bef rs) (dst tm undefA) H x)) .fail) ∧ (∀ (ds : List SetF) (f : OpF) (os : List (SetF × EvF)) (dst : SetF) (i bef : Nat) (nx : PK) (c : Ctx) (rs : List RD) (tm : TM) (x : X) (g : Option (EvF × Bool)) (kd : Kind) (v : AV) (H' : Heap), effK ds ⟨f, g, os, dst, kd, i, bef⟩ nx rs c tm x (.val v H') = nx (keepR bef rs) (dst tm v) H' x) ∧ (∀ (ds : List SetF) (f : OpF) (os : List (SetF × EvF)) (dst : SetF) (i bef : Nat) (nx : PK) (c : Ctx) (rs : List RD) (tm : TM) (x : X) (g : Option (EvF × Bool)) (kd : Kind) (H' : Heap) (q : Nat) (args : List AV), effK ds ⟨f, g, os, dst, kd, i, bef⟩ nx rs c tm x (.oth (.call q args H')) = retK ds ⟨f, g, os, dst, kd, i, bef⟩ nx rs tm x (c.call q args H')) ∧ (∀ (ds : List SetF) (f : OpF) (os : List (SetF × EvF)) (dst : SetF) (i bef : Nat) (nx : PK) (rs : List RD) (tm : TM) (x : X) (g : Option (EvF × Bool)) (kd : Kind) (v : AV) (H' : Heap), retK ds ⟨f, g, os, dst, kd, i, bef⟩ nx rs tm x (.ret v H') = nx (keepR bef rs) (dst tm v) H' x) ∧ (∀ (b : Nat), keepR b [] = []) ∧ (∀ (f : OpF) (os : List (SetF × EvF)) (dst : SetF) (i bef : Nat) (rs : List RD) (g : Option (EvF × Bool)) (kd : Kind) (v : AV) (b : Nat), keepR b (⟨⟨f, g, os, dst, kd, i, bef⟩, v⟩ :: rs) = cond (Nat.testBit b i) (keepR b rs) (⟨⟨f, g, os, dst, kd, i, bef⟩, v⟩ :: keepR b rs)) ∧ (∀ (tm : TM) (H : Heap), still tm H [] = true) ∧ (∀ (f : OpF) (os : List (SetF × EvF)) (dst : SetF) (i bef : Nat) (rs : List RD) (tm : TM) (H : Heap) (g : Option (EvF × Bool)) (kd : Kind) (v : AV), still tm H (⟨⟨f, g, os, dst, kd, i, bef⟩, v⟩ :: rs) = cond (rdOk ⟨⟨f, g, os, dst, kd, i, bef⟩, v⟩ tm H) (still tm H rs) false) ∧ (∀ (f : OpF) (os : List (SetF × EvF)) (dst : SetF) (i bef : Nat) (tm : TM) (H : Heap) (g : Option (EvF × Bool)) (kd : Kind) (v : AV), rdOk ⟨⟨f, g, os, dst, kd, i, bef⟩, v⟩ tm H = isSame (f (rsF tm os) ⟨H.nx, H.t, H.nx⟩) v H.nx) ∧ (∀ (v : UInt32) (n : Nat) (t : T Obj), isSame (.val (u32V v) ⟨n, t, n⟩) (u32V v) n = true) ∧ (∀ (v : UInt8) (n : Nat) (t : T Obj), isSame (.val (u8V v) ⟨n, t, n⟩) (u8V v) n = true) ∧ (∀ (k : IntKind) (v : Nat) (n : Nat) (t : T Obj), isSame (.val (nI k v) ⟨n, t, n⟩) (nI k v) n = true) ∧ (∀ (s : List UInt8) (n : Nat) (t : T Obj), isSame (.val (.str s) ⟨n, t, n⟩) (.str s) n = true) ∧ (∀ (n : Nat) (t : T Obj), isSame (.val .nils ⟨n, t, n⟩) .nils n = true) ∧ (∀ (b o n : Nat) (c : Option Nat) (k : Nat) (t : T Obj), isSame (.val (.slice b o n c) ⟨k, t, k⟩) (.slice b o n c) k = true) ∧ (∀ (n : Nat) (tm : TM), lowOs n tm [] = true) ∧ (∀ (n : Nat) (tm : TM) (s : SetF) (g : EvF) (os : List (SetF × EvF)), lowOs n tm ((s, g) :: os) = cond (lowV n (g tm)) (lowOs n tm os) false) ∧ (∀ (tm : TM), rsF tm [] = tm0) ∧ (∀ (tm : TM) (s : SetF) (g : EvF) (os : List (SetF × EvF)), rsF tm ((s, g) :: os) = s (rsF tm os) (g tm)) ∧ (∀ (a : AV) (l : List AV) (H : Heap), extrV 0 (.tup (a :: l)) H = .val a H) ∧ (∀ (a b : AV) (l : List AV) (H : Heap), extrV 1 (.tup (a :: b :: l)) H = .val b H) ∧ (∀ (a b c : AV) (l : List AV) (H : Heap), extrV 2 (.tup (a :: b :: c :: l)) H = .val c H) ∧ (∀ (dc : Option AV → Nat → List AV → Heap → DR) (rs : List (EvF × Option (Nat × Bool))) (tm : TM) (H : Heap) (rc : Option AV), outF dc rs (.ok .ret tm H ⟨[], rc⟩) = results rs tm H) ∧ (∀ (dc : Option AV → Nat → List AV → Heap → DR) (rs : List (EvF × Option (Nat × Bool))) (tm : TM) (H : Heap) (rc : Option AV), outF dc rs (.ok .normal tm H ⟨[], rc⟩) = results rs tm H) ∧ (∀ (f : EvF) (tm : TM) (H : Heap), results [(f, none)] tm H = .ret (f tm) H) ∧ (∀ (tm : TM) (H : Heap), results [] tm H = .ret (.tup []) H) ∧ (∀ (a b : UInt32) (H : Heap), addV (u32V a) (u32V b) H = .val (u32V (a + b)) H) ∧ (argsT [] = tm0) ∧ (∀ (a : AV), argsT [a] = st0 tm0 a) ∧ (∀ (a b : AV), argsT [a, b] = st1 (st0 tm0 a) b) ∧ (∀ (a b c : AV), argsT [a, b, c] = st2 (st1 (st0 tm0 a) b) c) ∧ (∀ (a b c d : AV), argsT [a, b, c, d] = st3 (st2 (st1 (st0 tm0 a) b) c) d) ∧ (∀ (a b : List UInt8) (H : Heap), eqV eqS false (.str a) (.str b) H = .val (.bool (decide (a = b))) H) ∧ (∀ (a b : List UInt8) (H : Heap), eqV eqS true (.str a) (.str b) H = .val (.bool (!decide (a = b))) H) ∧ (∀ (a b : Bool) (H : Heap), eqV eqB false (.bool a) (.bool b) H = .val (.bool (decide (a = b))) H) ∧ (∀ (k : IntKind) (a b : Nat) (H : Heap), cmpV iltF strLt (nI k a) (nI k b) H = .val (.bool (decide (a < b))) H) ∧ (∀ (k : IntKind) (a b : Nat) (H : Heap), cmpV igeF strGe (nI k a) (nI k b) H = .val (.bool (decide (b ≤ a))) H) ∧ (∀ (k : IntKind) (a b : Nat) (H : Heap), cmpV igtF strGt (nI k a) (nI k b) H = .val (.bool (decide (b < a))) H) ∧ (∀ (k : IntKind) (a b : Nat) (H : Heap), cmpV ileF strLe (nI k a) (nI k b) H = .val (.bool (decide (a ≤ b))) H) ∧ (∀ (k : IntKind) (a b : Nat) (H : Heap), eqV eqI false (nI k a) (nI k b) H = .val (.bool (decide (a = b))) H) ∧ (∀ (k : IntKind) (a b : Nat) (H : Heap), eqV eqI true (nI k a) (nI k b) H = .val (.bool (decide (a ≠ b))) H) ∧ (∀ (s : List UInt8) (H : Heap), lenSV (.str s) H = .val (nI .i64 s.length) H) ∧ (∀ (x : EvF) (tm : TM) (H : Heap), oPtrU x tm H = ptrUV (x tm) H) ∧ (∀ (x : EvF) (u n : Nat) (tm : TM) (H : Heap), oPtrP x u n tm H = ptrPV u n (x tm) H) ∧ (∀ (x : EvF) (tm : TM) (H : Heap), oUSData x tm H = usDataV (x tm) H) ∧ (∀ (x y : EvF) (e : Nat) (tm : TM) (H : Heap), oUStr x y e tm H = uStrV e (x tm) (y tm) H) := ⟨@seqO_run, @goOn_val, @goOn_call, @onCR_ret, @seqD_run, @thenR_normal, @thenR_ret, @thenR_exit, @normD_run, @retD_run, @exitD_run, @condD_run, @isBn_bool, @condK_true, @condK_false, @blockD_run, @loopD_run, @leaveB_normal, @leaveB_same, @leaveB_ret, @d0_run, @k_run, @evs_nil, @evs_cons, @oMv_run, @oNeg_run, @oInt_run, @oAddS_run, @oSub_run, @oMul_run, @oQuo_run, @oRem_run, @oBits_run, @oShl_run, @oShr_run, @oXorU_run, @oCmp_run, @oEq_run, @oNot_run, @oPick_run, @oCallF_run, @guardK_tt, @guardK_ft, @guardK_ff, @guardK_tf, @seqG_run, @lowV_agg, @lowV_undef, @lowV_str, @lowV_nI, @lowV_u32, @lowV_u8, @lowV_bool, @oSlice_run, @oMinMax_run, @oBuild_run, @oBSlice_run, @oAppend_run, @oCopy_run, @oSlArr_run, @oLenS_run, @oIdxStr_run, @oSlStr_run, @oExtr_run, @pickV_t, @pickV_f, @notV_b, @oLoad1_run, @oLoad_run, @oStore_run, @oOff_run, @oIdxA_run, @oIdxS_run, @oNil_run, @oLenL_run, @oAllocZ_run, @oBox_at, @oAlloc_cons, @offV_ptr, @nilV_ptr, @lenV_slice, @lenV_nil, @put_nx, @put_ro, @new_nx, @new_ro, @get_put_eq, @put_put, @newRow_rG, @load1V_at, @loadV_at, @storeV_at, @cells_bool, @cells_int, @cells_nI, @cells_u8V, @cells_str, @cells_nilp, @cells_ptr, @cells_nils, @cells_slice, @cells_map, @cells_func, @cells_iface, @cells_nili, @cells_agg, @drawnD_run, @planD_nil, @planD_cons, @normF_run, @stepK_free, @stepK_read, @stepK_eff, @stepK_freeG, @stepK_readG, @stepK_effG, @effK_val, @effK_call, @retK_ret, @keepR_nil, @keepR_cons, @still_nil, @still_cons, @rdOk_run, @isSame_u32, @isSame_u8, @isSame_nI, @isSame_str, @isSame_nils, @isSame_slice, @lowOs_nil, @lowOs_cons, @rsF_nil, @rsF_cons, @extrV_0, @extrV_1, @extrV_2, @outF_ret, @outF_normal, @results_one, @results_none, @addV_32, @argsT_0, @argsT_1, @argsT_2, @argsT_3, @argsT_4, @eqS_eq, @eqS_ne, @eqB_run, @cmpV_lt, @cmpV_ge, @cmpV_gt, @cmpV_le, @eqV_eq, @eqV_ne, @lenSV_str, @oPtrU_run, @oPtrP_run, @oUSData_run, @oUStr_run⟩
theorem N8G : (∀ {α : Type} (f : α → α) (n : N8 α), N8.a0 (N8.u0 f n) = f (N8.a0 n)) ∧ (∀ {α : Type} (f : α → α) (n : N8 α), N8.a0 (N8.u1 f n) = N8.a0 n) ∧ (∀ {α : Type} (f : α → α) (n : N8 α), N8.a0 (N8.u2 f n) = N8.a0 n) ∧ (∀ {α : Type} (f : α → α) (n : N8 α), N8.a0 (N8.u3 f n) = N8.a0 n) ∧ (∀ {α : Type} (f : α → α) (n : N8 α), N8.a0 (N8.u4 f n) = N8.a0 n) ∧ (∀ {α : Type} (f : α → α) (n : N8 α), N8.a0 (N8.u5 f n) = N8.a0 n) ∧ (∀ {α : Type} (f : α → α) (n : N8 α), N8.a0 (N8.u6 f n) = N8.a0 n) ∧ (∀ {α : Type} (f : α → α) (n : N8 α), N8.a0 (N8.u7 f n) = N8.a0 n) ∧ (∀ {α : Type} (f : α → α) (n : N8 α), N8.a1 (N8.u0 f n) = N8.a1 n) ∧ (∀ {α : Type} (f : α → α) (n : N8 α), N8.a1 (N8.u1 f n) = f (N8.a1 n)) ∧ (∀ {α : Type} (f : α → α) (n : N8 α), N8.a1 (N8.u2 f n) = N8.a1 n) ∧ (∀ {α : Type} (f : α → α) (n : N8 α), N8.a1 (N8.u3 f n) = N8.a1 n) ∧ (∀ {α : Type} (f : α → α) (n : N8 α), N8.a1 (N8.u4 f n) = N8.a1 n) ∧ (∀ {α : Type} (f : α → α) (n : N8 α), N8.a1 (N8.u5 f n) = N8.a1 n) ∧ (∀ {α : Type} (f : α → α) (n : N8 α), N8.a1 (N8.u6 f n) = N8.a1 n) ∧ (∀ {α : Type} (f : α → α) (n : N8 α), N8.a1 (N8.u7 f n) = N8.a1 n) ∧ (∀ {α : Type} (f : α → α) (n : N8 α), N8.a2 (N8.u0 f n) = N8.a2 n) ∧ (∀ {α : Type} (f : α → α) (n : N8 α), N8.a2 (N8.u1 f n) = N8.a2 n) ∧ (∀ {α : Type} (f : α → α) (n : N8 α), N8.a2 (N8.u2 f n) = f (N8.a2 n)) ∧ (∀ {α : Type} (f : α → α) (n : N8 α), N8.a2 (N8.u3 f n) = N8.a2 n) ∧ (∀ {α : Type} (f : α → α) (n : N8 α), N8.a2 (N8.u4 f n) = N8.a2 n) ∧ (∀ {α : Type} (f : α → α) (n : N8 α), N8.a2 (N8.u5 f n) = N8.a2 n) ∧ (∀ {α : Type} (f : α → α) (n : N8 α), N8.a2 (N8.u6 f n) = N8.a2 n) ∧ (∀ {α : Type} (f : α → α) (n : N8 α), N8.a2 (N8.u7 f n) = N8.a2 n) ∧ (∀ {α : Type} (f : α → α) (n : N8 α), N8.a3 (N8.u0 f n) = N8.a3 n) ∧ (∀ {α : Type} (f : α → α) (n : N8 α), N8.a3 (N8.u1 f n) = N8.a3 n) ∧ (∀ {α : Type} (f : α → α) (n : N8 α), N8.a3 (N8.u2 f n) = N8.a3 n) ∧ (∀ {α : Type} (f : α → α) (n : N8 α), N8.a3 (N8.u3 f n) = f (N8.a3 n)) ∧ (∀ {α : Type} (f : α → α) (n : N8 α), N8.a3 (N8.u4 f n) = N8.a3 n) ∧ (∀ {α : Type} (f : α → α) (n : N8 α), N8.a3 (N8.u5 f n) = N8.a3 n) ∧ (∀ {α : Type} (f : α → α) (n : N8 α), N8.a3 (N8.u6 f n) = N8.a3 n) ∧ (∀ {α : Type} (f : α → α) (n : N8 α), N8.a3 (N8.u7 f n) = N8.a3 n) ∧ (∀ {α : Type} (f : α → α) (n : N8 α), N8.a4 (N8.u0 f n) = N8.a4 n) ∧ (∀ {α : Type} (f : α → α) (n : N8 α), N8.a4 (N8.u1 f n) = N8.a4 n) ∧ (∀ {α : Type} (f : α → α) (n : N8 α), N8.a4 (N8.u2 f n) = N8.a4 n) ∧ (∀ {α : Type} (f : α → α) (n : N8 α), N8.a4 (N8.u3 f n) = N8.a4 n) ∧ (∀ {α : Type} (f : α → α) (n : N8 α), N8.a4 (N8.u4 f n) = f (N8.a4 n)) ∧ (∀ {α : Type} (f : α → α) (n : N8 α), N8.a4 (N8.u5 f n) = N8.a4 n) ∧ (∀ {α : Type} (f : α → α) (n : N8 α), N8.a4 (N8.u6 f n) = N8.a4 n) ∧ (∀ {α : Type} (f : α → α) (n : N8 α), N8.a4 (N8.u7 f n) = N8.a4 n) ∧ (∀ {α : Type} (f : α → α) (n : N8 α), N8.a5 (N8.u0 f n) = N8.a5 n) ∧ (∀ {α : Type} (f : α → α) (n : N8 α), N8.a5 (N8.u1 f n) = N8.a5 n) ∧ (∀ {α : Type} (f : α → α) (n : N8 α), N8.a5 (N8.u2 f n) = N8.a5 n) ∧ (∀ {α : Type} (f : α → α) (n : N8 α), N8.a5 (N8.u3 f n) = N8.a5 n) ∧ (∀ {α : Type} (f : α → α) (n : N8 α), N8.a5 (N8.u4 f n) = N8.a5 n) ∧ (∀ {α : Type} (f : α → α) (n : N8 α), N8.a5 (N8.u5 f n) = f (N8.a5 n)) ∧ (∀ {α : Type} (f : α → α) (n : N8 α), N8.a5 (N8.u6 f n) = N8.a5 n) ∧ (∀ {α : Type} (f : α → α) (n : N8 α), N8.a5 (N8.u7 f n) = N8.a5 n) ∧ (∀ {α : Type} (f : α → α) (n : N8 α), N8.a6 (N8.u0 f n) = N8.a6 n) ∧ (∀ {α : Type} (f : α → α) (n : N8 α), N8.a6 (N8.u1 f n) = N8.a6 n) ∧ (∀ {α : Type} (f : α → α) (n : N8 α), N8.a6 (N8.u2 f n) = N8.a6 n) ∧ (∀ {α : Type} (f : α → α) (n : N8 α), N8.a6 (N8.u3 f n) = N8.a6 n) ∧ (∀ {α : Type} (f : α → α) (n : N8 α), N8.a6 (N8.u4 f n) = N8.a6 n) ∧ (∀ {α : Type} (f : α → α) (n : N8 α), N8.a6 (N8.u5 f n) = N8.a6 n) ∧ (∀ {α : Type} (f : α → α) (n : N8 α), N8.a6 (N8.u6 f n) = f (N8.a6 n)) ∧ (∀ {α : Type} (f : α → α) (n : N8 α), N8.a6 (N8.u7 f n) = N8.a6 n) ∧ (∀ {α : Type} (f : α → α) (n : N8 α), N8.a7 (N8.u0 f n) = N8.a7 n) ∧ (∀ {α : Type} (f : α → α) (n : N8 α), N8.a7 (N8.u1 f n) = N8.a7 n) ∧ (∀ {α : Type} (f : α → α) (n : N8 α), N8.a7 (N8.u2 f n) = N8.a7 n) ∧ (∀ {α : Type} (f : α → α) (n : N8 α), N8.a7 (N8.u3 f n) = N8.a7 n) ∧ (∀ {α : Type} (f : α → α) (n : N8 α), N8.a7 (N8.u4 f n) = N8.a7 n) ∧ (∀ {α : Type} (f : α → α) (n : N8 α), N8.a7 (N8.u5 f n) = N8.a7 n) ∧ (∀ {α : Type} (f : α → α) (n : N8 α), N8.a7 (N8.u6 f n) = N8.a7 n) ∧ (∀ {α : Type} (f : α → α) (n : N8 α), N8.a7 (N8.u7 f n) = f (N8.a7 n)) := ⟨@N8.g00, @N8.g01, @N8.g02, @N8.g03, @N8.g04, @N8.g05, @N8.g06, @N8.g07, @N8.g10, @N8.g11, @N8.g12, @N8.g13, @N8.g14, @N8.g15, @N8.g16, @N8.g17, @N8.g20, @N8.g21, @N8.g22, @N8.g23, @N8.g24, @N8.g25, @N8.g26, @N8.g27, @N8.g30, @N8.g31, @N8.g32, @N8.g33, @N8.g34, @N8.g35, @N8.g36, @N8.g37, @N8.g40, @N8.g41, @N8.g42, @N8.g43, @N8.g44, @N8.g45, @N8.g46, @N8.g47, @N8.g50, @N8.g51, @N8.g52, @N8.g53, @N8.g54, @N8.g55, @N8.g56, @N8.g57, @N8.g60, @N8.g61, @N8.g62, @N8.g63, @N8.g64, @N8.g65, @N8.g66, @N8.g67, @N8.g70, @N8.g71, @N8.g72, @N8.g73, @N8.g74, @N8.g75, @N8.g76, @N8.g77⟩

theorem intV_i64 {j : IntKind} {a : Nat} (h : a < 9223372036854775808) (H : Heap) : intV .i64 (nI j a) H = .val (nI .i64 a) H := by
  show valI .i64 (.ofNat a) H = _
  rw [valI_run, wrap_i64 h]; rfl
theorem subV_u64 {a b : Nat} (h : b ≤ a) (h2 : a < 18446744073709551616) (H : Heap) : subV (nI .u64 a) (nI .u64 b) H = .val (nI .u64 (a - b)) H := by
  show onIf (kEq .u64 .u64) (valI .u64 (isub (.ofNat a) (.ofNat b)) H) = _
  rw [kEq_self, valI_run, isub_nat h, wrap_u64, Nat.mod_eq_of_lt (by omega)]; rfl
theorem mulV_u64 {a b : Nat} (h : a * b < 18446744073709551616) (H : Heap) : mulV (nI .u64 a) (nI .u64 b) H = .val (nI .u64 (a * b)) H := by
  show onIf (kEq .u64 .u64) (valI .u64 (imul (.ofNat a) (.ofNat b)) H) = _
  rw [kEq_self, valI_run, imul_nat, wrap_u64, Nat.mod_eq_of_lt h]; rfl
theorem intV_u64 {j : IntKind} {a : Nat} (h : a < 18446744073709551616) (H : Heap) : intV .u64 (nI j a) H = .val (nI .u64 a) H := by
  show valI .u64 (.ofNat a) H = _
  rw [valI_run, wrap_u64, Nat.mod_eq_of_lt h]; rfl
theorem shrV_nu64 {j : IntKind} {a b : Nat} (h : b < 64) (H : Heap) : shrV (nI .u64 a) (nI j b) H = .val (nI .u64 (a / 2 ^ b)) H := by
  show forceI (.ofNat (Nat.div a (Nat.pow 2 (minN b 64)))) (fun n => OR.val (.int .u64 n) H) = _
  have : minN b 64 = b := by unfold minN; rw [Nat.ble_eq_true_of_le (by omega)]; rfl
  rw [forceI_eq, this]; rfl
theorem shlV_mu64 {j : IntKind} {a b : Nat} (h : b ≤ 64) (H : Heap) : shlV (nI .u64 a) (nI j b) H = .val (nI .u64 (a * 2 ^ b % 18446744073709551616)) H := by
  show valI .u64 (imul (.ofNat a) (.ofNat (Nat.pow 2 (cond (Nat.ble b 64) b 64)))) H = _
  rw [valI_run, imul_nat, wrap_u64, Nat.ble_eq_true_of_le h]; rfl
theorem addV_u8 {a b : Nat} (h : a + b < 256) (H : Heap) : addV (nI .u8 a) (nI .u8 b) H = .val (nI .u8 (a + b)) H := by
  show onIf (kEq .u8 .u8) (valI .u8 (iadd (.ofNat a) (.ofNat b)) H) = _
  rw [kEq_self, valI_run, iadd_nat, wrap_u8, Nat.mod_eq_of_lt h]; rfl
theorem subV_u8 {a b : Nat} (h : b ≤ a) (h2 : a < 256) (H : Heap) : subV (nI .u8 a) (nI .u8 b) H = .val (nI .u8 (a - b)) H := by
  show onIf (kEq .u8 .u8) (valI .u8 (isub (.ofNat a) (.ofNat b)) H) = _
  rw [kEq_self, valI_run, isub_nat h, wrap_u8, Nat.mod_eq_of_lt (by omega)]; rfl
theorem intV_u8 {j : IntKind} {a : Nat} (h : a < 256) (H : Heap) : intV .u8 (nI j a) H = .val (nI .u8 a) H := by
  show valI .u8 (.ofNat a) H = _
  rw [valI_run, wrap_u8, Nat.mod_eq_of_lt h]; rfl
/-! numbers below 0 -/
/-! texts -/
theorem slStr_drop {s : List UInt8} {p : Nat} (h1 : p ≤ s.length) (k : IntKind) (H : Heap) : slStrV (.str s) (some (nI k p)) none H = .val (.str (s.drop p)) H := by
  show onIf (Nat.ble p (lenL s)) (OR.val (.str (dropB p (takeB (lenL s) s))) H) = _
  rw [lenL_eq, Nat.ble_eq_true_of_le h1, takeB_eq, dropB_eq, List.take_length]; rfl
theorem idxStr_at {s : List UInt8} {i : Nat} (h : i < s.length) (k : IntKind) (H : Heap) : idxStrV (.str s) (nI k i) H = .val (nI .u8 (s.getD i 0).toNat) H := idxStrV_at h k H
/-! drawn regions over heaps that are written out -/
section
variable (f : OpF) (os : List (SetF × EvF)) (dst : SetF) (i bef : Nat) (nx : PK) (rs : List RD) (tm : TM) (H : Heap) (x : X) (g : Option (EvF × Bool)) (kd : Kind) (v : AV)
theorem freeK_at {m : Nat} (h : H.nx = m) : freeK ⟨f, g, os, dst, kd, i, bef⟩ nx rs tm H x (.val v ⟨m, .leaf, m⟩) = nx rs (dst tm v) H x := by subst h; exact freeK_val ..
theorem readK_at {m : Nat} (h : H.nx = m) (t : T Obj) (k : Nat) : readK ⟨f, g, os, dst, kd, i, bef⟩ nx rs tm H x (.val v ⟨m, t, k⟩) = nx (⟨⟨f, g, os, dst, kd, i, bef⟩, v⟩ :: rs) (dst tm v) H x := by
  subst h
  show cond (Nat.beq H.nx H.nx) _ _ = _
  rw [Nat.beq_refl]; rfl
theorem freeN_at {m : Nat} (h : H.nx = m) (o : Obj) (hw : wrO o = true) : freeK ⟨f, g, os, dst, kd, i, bef⟩ nx rs tm H x (.val v ((⟨m, .leaf, m⟩ : Heap).new o)) = nx rs (dst tm v) (H.new o) x := by subst h; exact freeK_new _ _ _ _ _ _ _ _ _ _ _ _ _ _ hw
end
theorem wrO_rG (e sz : Nat) (l : List AV) (fz : Nat) (sm ex : Bool) : wrO (rG e sz l fz sm true ex) = true := rfl
/-! rows that are not told by a list -/
def Row.st (r : Row) (o : Nat) (v : AV) : Row := r.setCells (r.cells.set o v)
theorem Row.st_size (r : Row) (o : Nat) (v : AV) : (r.st o v).size = r.size := rfl
theorem Row.st_own (r : Row) (o : Nat) (v : AV) : (r.st o v).own = r.own := rfl
theorem Row.st_fz (r : Row) (o : Nat) (v : AV) : (r.st o v).fz = r.fz := rfl
theorem Row.st_get (r : Row) (o : Nat) (v : AV) (i : Nat) : (r.st o v).get i = if o = i then v else r.get i := by
  rw [Row.get_eq, Row.get_eq]
  show ((r.cells.set o v).get i).getD r.dflt = _
  rw [T.get_set]
  split <;> rfl
theorem ld1_row {r : Row} {o : Nat} (h : o < r.size) (H : Heap) : ld1 (some (.row r)) o H = .val (r.get o) H := by
  show onIf (Nat.ble (Nat.succ o) r.size) (.val (r.get o) H) = _
  rw [Nat.ble_eq_true_of_le (show Nat.succ o ≤ r.size from h)]; rfl
theorem stN_row {r : Row} {b o : Nat} {v : AV} {H : Heap} (hv : v.cells = [v]) (ho : o < r.size) (how : r.own = true) (hro : H.ro ≤ b) (hfz : r.fz ≤ o) : stN 1 (some (.row r)) b o v H = .val undefA (H.put b (.row (r.st o v))) := by
  show onIf (Nat.ble 1 1) (onIf (cond r.own (Nat.ble H.ro b) false) (onIf (Nat.ble (o + 1) r.size) (onIf (Nat.ble r.fz o) (onIf (Nat.beq (lenL v.cells) 1) (.val undefA (H.put b (.row (r.setCells (storeN r.cells o v.cells))))))))) = _
  rw [how, cond_true, Nat.ble_eq_true_of_le hro, Nat.ble_eq_true_of_le (show o + 1 ≤ r.size from ho), Nat.ble_eq_true_of_le hfz, hv]; rfl
def strW (a : AV) (H : Heap) : OR := onSlice a (.val (.str []) H) fun b o n _ => cond (Nat.beq n 0) (.val (.str []) H) (onRow H b fun r => onIf (Nat.ble (Nat.add o n) r.size) (toBytes (fun s => .val (.str s) H) (loadN r o n)))
theorem oStr_at (x : EvF) (tm : TM) (H : Heap) : oStr x tm H = strW (x tm) H := rfl
/-- bytes of a row as a text -/
theorem strV_row {H : Heap} {b o n : Nat} {c : Option Nat} {r : Row} {l : List UInt8} (hr : H.t.get b = some (.row r)) (hl : l.length = n) (hf : o + n ≤ r.size) (hg : ∀ i, i < n → r.get (o + i) = u8V (l.getD i 0)) : strW (.slice b o n c) H = .val (.str l) H := by
  subst hl
  by_cases h0 : l.length = 0
  · have : l = [] := List.length_eq_zero_iff.1 h0
    subst this; rfl
  · show cond (Nat.beq l.length 0) _ (onRow H b _) = _
    rw [beq_nat, decide_eq_false h0]
    show onRow H b _ = _
    unfold onRow
    rw [hr]
    show onIf (Nat.ble (o + l.length) r.size) (toBytes _ (loadN r o l.length)) = _
    have : loadN r o l.length = l.map u8V := by
      refine List.ext_getElem? fun i => ?_
      by_cases hi : i < l.length
      · rw [loadN_get r l.length o i hi, hg i hi, List.getElem?_map, List.getElem?_eq_getElem hi, List.getD_eq_getElem?_getD, List.getElem?_eq_getElem hi]; rfl
      · rw [List.getElem?_eq_none (by rw [loadN_length]; omega), List.getElem?_eq_none (by rw [List.length_map]; omega)]
    rw [Nat.ble_eq_true_of_le hf, this, toBytes_u8]; rfl

def bytesV (e : Nat) (a : AV) (H : Heap) : OR := onStr a fun s => .val (.slice H.nx 0 (lenL s) none) (H.new (.row ⟨e, 1, lenL s, T.ofList (mapB s), .unk, 0, true, true, false⟩))
theorem oBytes_at (x : EvF) (e : Nat) (tm : TM) (H : Heap) : oBytes x e tm H = bytesV e (x tm) H := rfl
theorem bytesV_str (e : Nat) (s : List UInt8) (H : Heap) : bytesV e (.str s) H = .val (.slice H.nx 0 s.length none) (H.new (rG e 1 (s.map u8V) 0 true true false)) := by
  show OR.val (.slice H.nx 0 (lenL s) none) (H.new (.row ⟨e, 1, lenL s, T.ofList (mapB s), .unk, 0, true, true, false⟩)) = _
  have : mapB s = s.map u8V := by rw [mapB_eq]; rfl
  unfold rG
  rw [this, lenL_eq, lenL_eq, List.length_map]
theorem oIface_at (x : EvF) (t : Nat) (tm : TM) (H : Heap) : oIface x t tm H = .val (.iface t (x tm)) H := rfl
theorem oFunc_at (f : Nat) (a b : List EvF) (tm : TM) (H : Heap) : oFunc f a b tm H = .val (.func f (evs tm a) (evs tm b)) H := rfl
def callV (P : Program) (a : AV) (args : List AV) (H : Heap) : OR := match a with
  | .func f x y => .oth (.call f (x ++ (args ++ y)) H)
  | .meth n r => onIface r .fail fun u v => methodA P n u fun g => .oth (.call g (v :: args) H)
  | .yield b => .oth (.yield b args H)
  | _ => .fail
theorem oCall_at (x : EvF) (P : Program) (args : List EvF) (tm : TM) (H : Heap) : oCall x P args tm H = callV P (x tm) (evs tm args) H := rfl
theorem callV_func (P : Program) (f : Nat) (x y args : List AV) (H : Heap) : callV P (.func f x y) args H = .oth (.call f (x ++ (args ++ y)) H) := rfl
/-! comparing interfaces -/
theorem eqF_in (lit : Bool) (g : Nat → AV → AV → Option Bool) (neg : Bool) (t : Nat) (v : AV) (H : Heap) : eqV (eqF lit g) neg (.iface t v) .nili H = .val (.bool neg) H := by cases neg <;> rfl
theorem eqF_nn (g : Nat → AV → AV → Option Bool) (neg : Bool) (H : Heap) : eqV (eqF true g) neg .nili .nili H = .val (.bool (!neg)) H := by cases neg <;> rfl
def optE (neg : Bool) (r : Option Bool) (H : Heap) : OR := match r with | some b => .val (.bool (cond neg (!b) b)) H | none => .fail
theorem optE_some (neg b : Bool) (H : Heap) : optE neg (some b) H = .val (.bool (cond neg (!b) b)) H := rfl
theorem eqF_ii (lit : Bool) (g : Nat → AV → AV → Option Bool) (neg : Bool) (t : Nat) (v w : AV) (H : Heap) : eqV (eqF lit g) neg (.iface t v) (.iface t w) H = optE neg (g t v w) H := by
  show onSome (cond (Nat.beq t t) (g t v w) (some false)) _ = _
  rw [Nat.beq_refl, cond_true]
  cases g t v w with
  | none => rfl
  | some b =>
    show vBool (cond neg (cond b false true) b) H = _
    rw [vBool_run]; cases neg <;> cases b <;> rfl
theorem lowL_nil (n : Nat) : lowL n [] = true := rfl
theorem lowL_cons (n : Nat) (v : AV) (l : List AV) : lowL n (v :: l) = cond (lowV n v) (lowL n l) false := rfl
theorem lowV_iface (n t : Nat) (v : AV) : lowV n (.iface t v) = lowV n v := rfl
theorem lowV_tup (n : Nat) (l : List AV) : lowV n (.tup l) = lowL n l := rfl
theorem isSame_ptr (b o n : Nat) (t : T Obj) : isSame (.val (.ptr b o) ⟨n, t, n⟩) (.ptr b o) n = true := isSame_val _ _ _ (by unfold same; rw [Nat.beq_refl, Nat.beq_refl]; rfl)
theorem lowV_nili (n : Nat) : lowV n .nili = true := rfl
theorem lowV_nils (n : Nat) : lowV n .nils = true := rfl
theorem lowV_int (n : Nat) (k : IntKind) (z : Int) : lowV n (.int k z) = true := rfl
def assertV (t : Nat) (zv : AV) (ok : Bool) (a : AV) (H : Heap) : OR := onIface a (asserted zv ok H none) fun u v => asserted zv ok H (cond (Nat.beq u t) (some v) none)
theorem oAssert_at (x : EvF) (t : Nat) (zv : AV) (ok : Bool) (tm : TM) (H : Heap) : oAssert x t zv ok tm H = assertV t zv ok (x tm) H := rfl
theorem assert_nil (t : Nat) (zv : AV) (H : Heap) : assertV t zv true .nili H = .val (.tup [zv, .bool false]) H := rfl
theorem assert_yes (t : Nat) (zv v : AV) (H : Heap) : assertV t zv true (.iface t v) H = .val (.tup [v, .bool true]) H := by
  show asserted zv true H (cond (Nat.beq t t) (some v) none) = _
  rw [Nat.beq_refl]; rfl
/-! panics -/
def panV (a : AV) (H : Heap) : OR := onIface a .fail fun _ _ => .oth (.pan a H)
theorem oPanic_at (x : EvF) (tm : TM) (H : Heap) : oPanic x tm H = panV (x tm) H := rfl
theorem panV_is (t : Nat) (v : AV) (H : Heap) : panV (.iface t v) H = .oth (.pan (.iface t v) H) := rfl
theorem goOn_pan (next : TM → Heap → X → Res) (dst : SetF) (c : Ctx) (tm : TM) (H : Heap) (x : X) (v : AV) (H' : Heap) : goOn next dst c tm H x (.oth (.pan v H')) = .ok (.pan v) tm H' x := rfl
theorem onCR_pan (next : TM → Heap → X → Res) (dst : SetF) (tm : TM) (x : X) (v : AV) (H : Heap) : onCR next dst tm x (.pan v H) = .ok (.pan v) tm H x := rfl
theorem thenR_pan (v : AV) (tm : TM) (H : Heap) (x : X) (k : TM → Heap → X → Res) : thenR (.ok (.pan v) tm H x) k = .ok (.pan v) tm H x := rfl
theorem leaveB_pan (i : Nat) (v : AV) (tm : TM) (H : Heap) (x : X) : leaveB i (.ok (.pan v) tm H x) = .ok (.pan v) tm H x := rfl
theorem outF_pan (dc : Option AV → Nat → List AV → Heap → DR) (rs : List (EvF × Option (Nat × Bool))) (v : AV) (tm : TM) (H : Heap) (rc : Option AV) : outF dc rs (.ok (.pan v) tm H ⟨[], rc⟩) = .pan v H := rfl
theorem retK_pan (ds : List SetF) (p : PI) (nx : PK) (rs : List RD) (tm : TM) (x : X) (v : AV) (H : Heap) : retK ds p nx rs tm x (.pan v H) = .ok (.pan v) (delAll tm ds) H x := rfl
/-! results -/
def finR (H : Heap) (vs : List AV) : CR := match vs with | [v] => .ret v H | vs => .ret (.tup vs) H
theorem results_def (rs : List (EvF × Option (Nat × Bool))) (tm : TM) (H : Heap) : results rs tm H = resVs tm H (finR H) rs := rfl
theorem finR_1 (H : Heap) (v : AV) : finR H [v] = .ret v H := rfl
theorem finR_0 (H : Heap) : finR H [] = .ret (.tup []) H := rfl
theorem finR_2 (H : Heap) (v w : AV) (l : List AV) : finR H (v :: w :: l) = .ret (.tup (v :: w :: l)) H := rfl
theorem resVs_nil (tm : TM) (H : Heap) (k : List AV → CR) : resVs tm H k [] = k [] := rfl
def rV (n : Nat) (ag : Bool) (o : Option Obj) (off : Nat) (k : AV → CR) : CR := match o with
  | some (.row r) => cond (Nat.ble (Nat.add off n) r.size) (cond ag (k (.agg (loadN r off n))) (k (r.get off))) .fail
  | _ => .fail
def resP (H : Heap) (a : AV) (n : Nat) (ag : Bool) (k : AV → CR) : CR := match a with
  | .ptr b o => rV n ag (H.t.get b) o k
  | _ => .fail
theorem resP_ptr (H : Heap) (b o n : Nat) (ag : Bool) (k : AV → CR) : resP H (.ptr b o) n ag k = rV n ag (H.t.get b) o k := rfl
theorem resVs_none (f : EvF) (tm : TM) (H : Heap) (k : List AV → CR) (l : List (EvF × Option (Nat × Bool))) : resVs tm H k ((f, none) :: l) = resVs tm H (fun vs => k (f tm :: vs)) l := rfl
theorem resVs_some (f : EvF) (n : Nat) (ag : Bool) (tm : TM) (H : Heap) (k : List AV → CR) (l : List (EvF × Option (Nat × Bool))) : resVs tm H k ((f, some (n, ag)) :: l) = resP H (f tm) n ag (fun v => resVs tm H (fun vs => k (v :: vs)) l) := rfl
/-! deferred calls -/
theorem oDefer_at (x : EvF) (args : List EvF) (tm : TM) (H : Heap) : oDefer x args tm H = .oth (.defer (x tm) (evs tm args)) := rfl
theorem oRecover_at (tm : TM) (H : Heap) : oRecover tm H = .oth .recov := rfl
theorem goOn_defer (next : TM → Heap → X → Res) (dst : SetF) (cl y rg fu) (tm : TM) (H : Heap) (x : X) (f : Nat) (a b args : List AV) : goOn next dst ⟨cl, y, rg, fu, false⟩ tm H x (.oth (.defer (.func f a b) args)) = next (dst tm undefA) H ⟨(.func f a b, args) :: x.df, x.rc⟩ := rfl
theorem goOn_recovN (next : TM → Heap → X → Res) (dst : SetF) (cl y rg fu) (tm : TM) (H : Heap) (df : List (AV × List AV)) : goOn next dst ⟨cl, y, rg, fu, false⟩ tm H ⟨df, none⟩ (.oth .recov) = next (dst tm .nili) H ⟨df, none⟩ := rfl
theorem goOn_recovS (next : TM → Heap → X → Res) (dst : SetF) (cl y rg fu) (tm : TM) (H : Heap) (df : List (AV × List AV)) (v : AV) : goOn next dst ⟨cl, y, rg, fu, false⟩ tm H ⟨df, some v⟩ (.oth .recov) = next (dst tm v) H ⟨df, none⟩ := rfl
theorem outF_retD (dc : Option AV → Nat → List AV → Heap → DR) (rs : List (EvF × Option (Nat × Bool))) (tm : TM) (H : Heap) (d : AV × List AV) (l : List (AV × List AV)) (rc : Option AV) : outF dc rs (.ok .ret tm H ⟨d :: l, rc⟩) = deferred dc rs tm (d :: l) none H := rfl
theorem outF_panD (dc : Option AV → Nat → List AV → Heap → DR) (rs : List (EvF × Option (Nat × Bool))) (v : AV) (tm : TM) (H : Heap) (d : AV × List AV) (l : List (AV × List AV)) (rc : Option AV) : outF dc rs (.ok (.pan v) tm H ⟨d :: l, rc⟩) = deferred dc rs tm (d :: l) (some v) H := rfl
def deferK (dc : Option AV → Nat → List AV → Heap → DR) (rs : List (EvF × Option (Nat × Bool))) (tm : TM) (l : List (AV × List AV)) (pn : Option AV) (r : DR) : CR := match r with
  | .ret _ H rec => deferred dc rs tm l (cond rec none pn) H
  | _ => .fail
theorem deferred_cons (dc : Option AV → Nat → List AV → Heap → DR) (rs : List (EvF × Option (Nat × Bool))) (tm : TM) (g : Nat) (a b args : List AV) (l : List (AV × List AV)) (pn : Option AV) (H : Heap) : deferred dc rs tm ((.func g a b, args) :: l) pn H = deferK dc rs tm l pn (dc pn g (a ++ (args ++ b)) H) := by
  show (match dc pn g (a ++ (args ++ b)) H with | .ret _ H rec => deferred dc rs tm l (cond rec none pn) H | _ => .fail) = _
  unfold deferK
  cases dc pn g (a ++ (args ++ b)) H <;> rfl
theorem deferK_ret (dc : Option AV → Nat → List AV → Heap → DR) (rs : List (EvF × Option (Nat × Bool))) (tm : TM) (l : List (AV × List AV)) (pn : Option AV) (v : AV) (H : Heap) (rec : Bool) : deferK dc rs tm l pn (.ret v H rec) = deferred dc rs tm l (cond rec none pn) H := rfl
theorem deferred_nil (dc : Option AV → Nat → List AV → Heap → DR) (rs : List (EvF × Option (Nat × Bool))) (tm : TM) (H : Heap) : deferred dc rs tm [] none H = results rs tm H := rfl
theorem deferred_pan (dc : Option AV → Nat → List AV → Heap → DR) (rs : List (EvF × Option (Nat × Bool))) (tm : TM) (v : AV) (H : Heap) : deferred dc rs tm [] (some v) H = .pan v H := rfl
def optK {α β : Type} (o : Option α) (d : β) (k : α → β) : β := match o with | some x => k x | none => d
theorem optK_some {α β : Type} (x : α) (d : β) (k : α → β) : optK (some x) d k = k x := rfl
def outE (rc : Option AV) (x : X) (r : CR) : DR := match r with | .ret v H => .ret v H (recd rc x) | _ => .fail
theorem outE_ret (rc : Option AV) (x : X) (v : AV) (H : Heap) : outE rc x (.ret v H) = .ret v H (recd rc x) := rfl
theorem outD_normal (rc : Option AV) (rs : List (EvF × Option (Nat × Bool))) (tm : TM) (H : Heap) (q : Option AV) : outD rc rs (.ok .normal tm H ⟨[], q⟩) = outE rc ⟨[], q⟩ (results rs tm H) := by
  show (match ([] : List (AV × List AV)), results rs tm H with | [], .ret v H => DR.ret v H (recd rc ⟨[], q⟩) | _, _ => .fail) = _
  unfold outE
  cases results rs tm H <;> rfl
theorem outD_ret (rc : Option AV) (rs : List (EvF × Option (Nat × Bool))) (tm : TM) (H : Heap) (q : Option AV) : outD rc rs (.ok .ret tm H ⟨[], q⟩) = outE rc ⟨[], q⟩ (results rs tm H) := outD_normal rc rs tm H q
theorem outD_pan (rc : Option AV) (rs : List (EvF × Option (Nat × Bool))) (v : AV) (tm : TM) (H : Heap) (q : Option AV) : outD rc rs (.ok (.pan v) tm H ⟨[], q⟩) = .pan v H (recd rc ⟨[], q⟩) := rfl
theorem recd_s (v : AV) (l : List (AV × List AV)) : recd (some v) ⟨l, none⟩ = true := rfl
theorem recd_n (x : X) : recd none x = false := rfl
/-! aggregates -/
theorem argsT_5 (a b c d e : AV) : argsT [a, b, c, d, e] = st4 (st3 (st2 (st1 (st0 tm0 a) b) c) d) e := rfl

theorem fillV_nil (k : List AV → OR) (cells : List AV) : fillV k [] cells = k cells := rfl
theorem fillV_cons (k : List AV → OR) (o n : Nat) (v : AV) (ps : List (Nat × Nat × AV)) (cells : List AV) : fillV k ((o, n, v) :: ps) cells = onIf (Nat.ble 1 n) (onIf (Nat.beq (lenL v.cells) n) (onIf (Nat.ble (Nat.add o n) (lenL cells)) (fillV k ps (takeL o cells ++ (v.cells ++ dropL (Nat.add o n) cells))))) := rfl
theorem lay_fill {cells l : List AV} {o : Nat} (h : o + l.length ≤ cells.length) : takeL o cells ++ (l ++ dropL (Nat.add o l.length) cells) = lay cells o l := by
  rw [lay_eq cells o l h]
  have h1 : takeL o cells = cells.take o := takeL_eq ..
  have h2 : dropL (o + l.length) cells = cells.drop (o + l.length) := dropL_eq ..
  rw [h1]
  show _ ++ (_ ++ dropL (o + l.length) cells) = _
  rw [h2]
theorem fillV_part {k : List AV → OR} {o n : Nat} {v : AV} {l : List AV} {ps : List (Nat × Nat × AV)} {cells : List AV} (hv : v.cells = l) (hl : l.length = n) (hn : 1 ≤ n) (h : o + n ≤ cells.length) : fillV k ((o, n, v) :: ps) cells = fillV k ps (lay cells o l) := by
  subst hv; subst hl
  rw [fillV_cons, Nat.ble_eq_true_of_le hn, lenL_eq, Nat.beq_refl, lenL_eq, Nat.ble_eq_true_of_le (show Nat.add o v.cells.length ≤ cells.length from h), lay_fill h]; rfl
theorem fillV_one {k : List AV → OR} {o : Nat} {v : AV} {ps : List (Nat × Nat × AV)} {cells : List AV} (hv : v.cells = [v]) (h : o < cells.length) : fillV k ((o, 1, v) :: ps) cells = fillV k ps (cells.set o v) := fillV_part hv rfl (Nat.le_refl 1) h
theorem buildV_cons (z : AV) (zs : List AV) (ps : List (Nat × Nat × AV)) (H : Heap) : buildV (z :: zs) ps H = fillV (fun cs => .val (.agg cs) H) ps (z :: zs) := by
  show onIf (Nat.ble 1 (lenL (z :: zs))) _ = _
  rw [lenL_eq, Nat.ble_eq_true_of_le (by simp)]; rfl
/-! numbers that overflow -/
theorem addM_u64 (a b : Nat) (H : Heap) : addV (nI .u64 a) (nI .u64 b) H = .val (nI .u64 ((a + b) % 18446744073709551616)) H := by
  show onIf (kEq .u64 .u64) (valI .u64 (iadd (.ofNat a) (.ofNat b)) H) = _
  rw [kEq_self, valI_run, iadd_nat, wrap_u64]; rfl
theorem CoreG : (∀ (x : EvF) (args : List EvF) (tm : TM) (H : Heap), oDefer x args tm H = .oth (.defer (x tm) (evs tm args))) ∧
  (∀ (tm : TM) (H : Heap), oRecover tm H = .oth .recov) ∧
  (∀ (next : TM → Heap → X → Res) (dst : SetF) (cl y rg fu) (tm : TM) (H : Heap) (x : X) (f : Nat) (a b args : List AV), goOn next dst ⟨cl, y, rg, fu, false⟩ tm H x (.oth (.defer (.func f a b) args)) = next (dst tm undefA) H ⟨(.func f a b, args) :: x.df, x.rc⟩) ∧
  (∀ (next : TM → Heap → X → Res) (dst : SetF) (cl y rg fu) (tm : TM) (H : Heap) (df : List (AV × List AV)), goOn next dst ⟨cl, y, rg, fu, false⟩ tm H ⟨df, none⟩ (.oth .recov) = next (dst tm .nili) H ⟨df, none⟩) ∧
  (∀ (next : TM → Heap → X → Res) (dst : SetF) (cl y rg fu) (tm : TM) (H : Heap) (df : List (AV × List AV)) (v : AV), goOn next dst ⟨cl, y, rg, fu, false⟩ tm H ⟨df, some v⟩ (.oth .recov) = next (dst tm v) H ⟨df, none⟩) ∧
  (∀ (dc : Option AV → Nat → List AV → Heap → DR) (rs : List (EvF × Option (Nat × Bool))) (tm : TM) (H : Heap) (d : AV × List AV) (l : List (AV × List AV)) (rc : Option AV), outF dc rs (.ok .ret tm H ⟨d :: l, rc⟩) = deferred dc rs tm (d :: l) none H) ∧
  (∀ (dc : Option AV → Nat → List AV → Heap → DR) (rs : List (EvF × Option (Nat × Bool))) (v : AV) (tm : TM) (H : Heap) (d : AV × List AV) (l : List (AV × List AV)) (rc : Option AV), outF dc rs (.ok (.pan v) tm H ⟨d :: l, rc⟩) = deferred dc rs tm (d :: l) (some v) H) ∧
  (∀ (dc : Option AV → Nat → List AV → Heap → DR) (rs : List (EvF × Option (Nat × Bool))) (tm : TM) (g : Nat) (a b args : List AV) (l : List (AV × List AV)) (pn : Option AV) (H : Heap), deferred dc rs tm ((.func g a b, args) :: l) pn H = deferK dc rs tm l pn (dc pn g (a ++ (args ++ b)) H)) ∧
  (∀ (dc : Option AV → Nat → List AV → Heap → DR) (rs : List (EvF × Option (Nat × Bool))) (tm : TM) (l : List (AV × List AV)) (pn : Option AV) (v : AV) (H : Heap) (rec : Bool), deferK dc rs tm l pn (.ret v H rec) = deferred dc rs tm l (cond rec none pn) H) ∧
  (∀ (dc : Option AV → Nat → List AV → Heap → DR) (rs : List (EvF × Option (Nat × Bool))) (tm : TM) (H : Heap), deferred dc rs tm [] none H = results rs tm H) ∧
  (∀ (dc : Option AV → Nat → List AV → Heap → DR) (rs : List (EvF × Option (Nat × Bool))) (tm : TM) (v : AV) (H : Heap), deferred dc rs tm [] (some v) H = .pan v H) ∧
  (∀ {α β : Type} (x : α) (d : β) (k : α → β), optK (some x) d k = k x) ∧
  (∀ (rc : Option AV) (x : X) (v : AV) (H : Heap), outE rc x (.ret v H) = .ret v H (recd rc x)) ∧
  (∀ (rc : Option AV) (rs : List (EvF × Option (Nat × Bool))) (tm : TM) (H : Heap) (q : Option AV), outD rc rs (.ok .normal tm H ⟨[], q⟩) = outE rc ⟨[], q⟩ (results rs tm H)) ∧
  (∀ (rc : Option AV) (rs : List (EvF × Option (Nat × Bool))) (tm : TM) (H : Heap) (q : Option AV), outD rc rs (.ok .ret tm H ⟨[], q⟩) = outE rc ⟨[], q⟩ (results rs tm H)) ∧
  (∀ (rc : Option AV) (rs : List (EvF × Option (Nat × Bool))) (v : AV) (tm : TM) (H : Heap) (q : Option AV), outD rc rs (.ok (.pan v) tm H ⟨[], q⟩) = .pan v H (recd rc ⟨[], q⟩)) ∧
  (∀ (v : AV) (l : List (AV × List AV)), recd (some v) ⟨l, none⟩ = true) ∧
  (∀ (x : X), recd none x = false) ∧
  (∀ {a : AV} (h : a.cells = [a]) (e : Nat) (H : Heap), boxW e a H = .val (.ptr H.nx 0) (H.new (rG e 1 [a] 0 false true true))) ∧
  (∀ {l : List AV} (h1 : 1 ≤ l.length) (e : Nat) (H : Heap), boxW e (.agg l) H = .val (.ptr H.nx 0) (H.new (rG e 1 l 0 false true true))) ∧
  (∀ {b c : Nat} (h : ¬ b = c) (H : Heap) (o : Obj), (H.put b o).t.get c = H.t.get c) ∧
  (∀ {H : Heap} {c : Nat} (h : ¬ H.nx = c) (o : Obj), (H.new o).t.get c = H.t.get c) ∧
  (∀ {H : Heap} {c : Nat} (h : H.nx = c) (o : Obj), (H.new o).t.get c = some o) ∧
  (∀ {H : Heap} {b : Nat} (h : H.nx = b) (o o' : Obj), (H.new o).put b o' = H.new o') ∧
  (∀ (neg b : Bool) (H : Heap), optE neg (some b) H = .val (.bool (cond neg (!b) b)) H) ∧
  (∀ (lit : Bool) (g : Nat → AV → AV → Option Bool) (neg : Bool) (t : Nat) (v w : AV) (H : Heap), eqV (eqF lit g) neg (.iface t v) (.iface t w) H = optE neg (g t v w) H) ∧
  (∀ (n : Nat), lowL n [] = true) ∧
  (∀ (n : Nat) (v : AV) (l : List AV), lowL n (v :: l) = cond (lowV n v) (lowL n l) false) ∧
  (∀ (n t : Nat) (v : AV), lowV n (.iface t v) = lowV n v) ∧
  (∀ (n : Nat) (l : List AV), lowV n (.tup l) = lowL n l) ∧
  (∀ (b o n : Nat) (t : T Obj), isSame (.val (.ptr b o) ⟨n, t, n⟩) (.ptr b o) n = true) ∧
  (∀ (n : Nat), lowV n .nili = true) ∧
  (∀ (n : Nat), lowV n .nils = true) ∧
  (∀ (n : Nat) (k : IntKind) (z : Int), lowV n (.int k z) = true) ∧
  (∀ (k : List AV → OR) (cells : List AV), fillV k [] cells = k cells) ∧
  (∀ {k : List AV → OR} {o : Nat} {v : AV} {ps : List (Nat × Nat × AV)} {cells : List AV} (hv : v.cells = [v]) (h : o < cells.length), fillV k ((o, 1, v) :: ps) cells = fillV k ps (cells.set o v)) ∧
  (∀ (z : AV) (zs : List AV) (ps : List (Nat × Nat × AV)) (H : Heap), buildV (z :: zs) ps H = fillV (fun cs => .val (.agg cs) H) ps (z :: zs)) ∧
  (∀ (e sz : Nat) (l : List AV) (fz : Nat) (sm ex : Bool), wrO (rG e sz l fz sm true ex) = true) ∧
  (∀ (x : EvF) (e : Nat) (tm : TM) (H : Heap), oBytes x e tm H = bytesV e (x tm) H) ∧
  (∀ (e : Nat) (s : List UInt8) (H : Heap), bytesV e (.str s) H = .val (.slice H.nx 0 s.length none) (H.new (rG e 1 (s.map u8V) 0 true true false))) ∧
  (∀ (x : EvF) (t : Nat) (tm : TM) (H : Heap), oIface x t tm H = .val (.iface t (x tm)) H) ∧
  (∀ (f : Nat) (a b : List EvF) (tm : TM) (H : Heap), oFunc f a b tm H = .val (.func f (evs tm a) (evs tm b)) H) ∧
  (∀ (x : EvF) (P : Program) (args : List EvF) (tm : TM) (H : Heap), oCall x P args tm H = callV P (x tm) (evs tm args) H) ∧
  (∀ (P : Program) (f : Nat) (x y args : List AV) (H : Heap), callV P (.func f x y) args H = .oth (.call f (x ++ (args ++ y)) H)) ∧
  (∀ (lit : Bool) (g : Nat → AV → AV → Option Bool) (neg : Bool) (t : Nat) (v : AV) (H : Heap), eqV (eqF lit g) neg (.iface t v) .nili H = .val (.bool neg) H) ∧
  (∀ (g : Nat → AV → AV → Option Bool) (neg : Bool) (H : Heap), eqV (eqF true g) neg .nili .nili H = .val (.bool (!neg)) H) ∧
  (∀ (x : EvF) (t : Nat) (zv : AV) (ok : Bool) (tm : TM) (H : Heap), oAssert x t zv ok tm H = assertV t zv ok (x tm) H) ∧
  (∀ (t : Nat) (zv : AV) (H : Heap), assertV t zv true .nili H = .val (.tup [zv, .bool false]) H) ∧
  (∀ (t : Nat) (zv v : AV) (H : Heap), assertV t zv true (.iface t v) H = .val (.tup [v, .bool true]) H) ∧
  (∀ (x : EvF) (tm : TM) (H : Heap), oPanic x tm H = panV (x tm) H) ∧
  (∀ (t : Nat) (v : AV) (H : Heap), panV (.iface t v) H = .oth (.pan (.iface t v) H)) ∧
  (∀ (next : TM → Heap → X → Res) (dst : SetF) (c : Ctx) (tm : TM) (H : Heap) (x : X) (v : AV) (H' : Heap), goOn next dst c tm H x (.oth (.pan v H')) = .ok (.pan v) tm H' x) ∧
  (∀ (next : TM → Heap → X → Res) (dst : SetF) (tm : TM) (x : X) (v : AV) (H : Heap), onCR next dst tm x (.pan v H) = .ok (.pan v) tm H x) ∧
  (∀ (v : AV) (tm : TM) (H : Heap) (x : X) (k : TM → Heap → X → Res), thenR (.ok (.pan v) tm H x) k = .ok (.pan v) tm H x) ∧
  (∀ (i : Nat) (v : AV) (tm : TM) (H : Heap) (x : X), leaveB i (.ok (.pan v) tm H x) = .ok (.pan v) tm H x) ∧
  (∀ (dc : Option AV → Nat → List AV → Heap → DR) (rs : List (EvF × Option (Nat × Bool))) (v : AV) (tm : TM) (H : Heap) (rc : Option AV), outF dc rs (.ok (.pan v) tm H ⟨[], rc⟩) = .pan v H) ∧
  (∀ (ds : List SetF) (p : PI) (nx : PK) (rs : List RD) (tm : TM) (x : X) (v : AV) (H : Heap), retK ds p nx rs tm x (.pan v H) = .ok (.pan v) (delAll tm ds) H x) ∧
  (∀ (rs : List (EvF × Option (Nat × Bool))) (tm : TM) (H : Heap), results rs tm H = resVs tm H (finR H) rs) ∧
  (∀ (H : Heap) (v : AV), finR H [v] = .ret v H) ∧
  (∀ (H : Heap), finR H [] = .ret (.tup []) H) ∧
  (∀ (H : Heap) (v w : AV) (l : List AV), finR H (v :: w :: l) = .ret (.tup (v :: w :: l)) H) ∧
  (∀ (tm : TM) (H : Heap) (k : List AV → CR), resVs tm H k [] = k []) ∧
  (∀ (f : EvF) (tm : TM) (H : Heap) (k : List AV → CR) (l : List (EvF × Option (Nat × Bool))), resVs tm H k ((f, none) :: l) = resVs tm H (fun vs => k (f tm :: vs)) l) ∧
  (∀ (f : EvF) (n : Nat) (ag : Bool) (tm : TM) (H : Heap) (k : List AV → CR) (l : List (EvF × Option (Nat × Bool))), resVs tm H k ((f, some (n, ag)) :: l) = resP H (f tm) n ag (fun v => resVs tm H (fun vs => k (v :: vs)) l)) ∧
  (∀ (H : Heap) (b o n : Nat) (ag : Bool) (k : AV → CR), resP H (.ptr b o) n ag k = rV n ag (H.t.get b) o k) ∧
  (∀ (x : EvF) (tm : TM) (H : Heap), oStr x tm H = strW (x tm) H) := ⟨@oDefer_at, @oRecover_at, @goOn_defer, @goOn_recovN, @goOn_recovS, @outF_retD, @outF_panD, @deferred_cons, @deferK_ret, @deferred_nil, @deferred_pan, @optK_some, @outE_ret, @outD_normal, @outD_ret, @outD_pan, @recd_s, @recd_n, @boxW_one, @boxW_agg, @get_put_ne, @get_new_ne, @get_new_eq, @new_put, @optE_some, @eqF_ii, @lowL_nil, @lowL_cons, @lowV_iface, @lowV_tup, @isSame_ptr, @lowV_nili, @lowV_nils, @lowV_int, @fillV_nil, @fillV_one, @buildV_cons, @wrO_rG, @oBytes_at, @bytesV_str, @oIface_at, @oFunc_at, @oCall_at, @callV_func, @eqF_in, @eqF_nn, @oAssert_at, @assert_nil, @assert_yes, @oPanic_at, @panV_is, @goOn_pan, @onCR_pan, @thenR_pan, @leaveB_pan, @outF_pan, @retK_pan, @results_def, @finR_1, @finR_0, @finR_2, @resVs_nil, @resVs_none, @resVs_some, @resP_ptr, @oStr_at⟩
theorem SideG : (∀ (e sz : Nat) (l : List AV) (fz : Nat) (sm ex : Bool), wrO (rG e sz l fz sm true ex) = true) ∧
  (∀ (H : Heap) (b : Nat) (o : Obj), (H.put b o).nx = H.nx) ∧
  (∀ (H : Heap) (o : Obj), (H.new o).nx = H.nx + 1) ∧
  (∀ (H : Heap) (b : Nat) (o : Obj), (H.put b o).ro = H.ro) ∧
  (∀ (H : Heap) (o : Obj), (H.new o).ro = H.ro) ∧
  (∀ (b : Bool), (AV.bool b).cells = [.bool b]) ∧
  (∀ (k : IntKind) (n : Int), (AV.int k n).cells = [.int k n]) ∧
  (∀ (k : IntKind) (n : Nat), (nI k n).cells = [nI k n]) ∧
  (∀ (x : UInt8), (u8V x).cells = [u8V x]) ∧
  (∀ (s : List UInt8), (AV.str s).cells = [.str s]) ∧
  (AV.nilp.cells = [.nilp]) ∧
  (∀ (b o : Nat), (AV.ptr b o).cells = [.ptr b o]) ∧
  (AV.nils.cells = [.nils]) ∧
  (∀ (b o n : Nat) (c : Option Nat), (AV.slice b o n c).cells = [.slice b o n c]) ∧
  (∀ (b : Nat), (AV.map b).cells = [.map b]) ∧
  (∀ (f : Nat) (a b : List AV), (AV.func f a b).cells = [.func f a b]) ∧
  (∀ (t : Nat) (v : AV), (AV.iface t v).cells = [.iface t v]) ∧
  (AV.nili.cells = [.nili]) ∧
  (∀ (l : List AV), (AV.agg l).cells = l) ∧
  (∀ (r : Row) (o : Nat) (v : AV), (r.st o v).size = r.size) ∧
  (∀ (r : Row) (o : Nat) (v : AV), (r.st o v).own = r.own) ∧
  (∀ (r : Row) (o : Nat) (v : AV), (r.st o v).fz = r.fz) ∧
  (∀ (l : List AV) (o : Nat) (vs : List AV), (lay l o vs).length = l.length) := ⟨@wrO_rG, @put_nx, @new_nx, @put_ro, @new_ro, @cells_bool, @cells_int, @cells_nI, @cells_u8V, @cells_str, @cells_nilp, @cells_ptr, @cells_nils, @cells_slice, @cells_map, @cells_func, @cells_iface, @cells_nili, @cells_agg, @Row.st_size, @Row.st_own, @Row.st_fz, @lay_len⟩
theorem CoreL : ((!true) = false) ∧ ((!false) = true) ∧ (∀ {α : Type} (l : List α), [] ++ l = l) ∧ (∀ {α : Type} (l : List α), l ++ [] = l) ∧ (∀ {α β : Type} (f : α → β), Option.map f none = none) ∧ (∀ {α β : Type} (f : α → β) (a : α), Option.map f (some a) = some (f a)) ∧ (∀ {α β : Type} (f : α → β) (a : α) (l : List α), List.map f (a :: l) = f a :: List.map f l) ∧ (∀ {α β : Type} (f : α → β), List.map f [] = []) ∧ (∀ {α : Type} (a b : α), cond true a b = a) ∧ (∀ {α : Type} (a b : α), cond false a b = b) ∧ (∀ (x i : Nat), x.testBit i = decide (x / 2 ^ i % 2 = 1)) ∧ (∀ h : Decidable True, @decide True h = true) ∧ (∀ h : Decidable False, @decide False h = false) ∧ (∀ n : Nat, 0 + n = n) ∧
  (∀ {α : Type} (a d : α) (l : List α), (a :: l).getD 0 d = a) ∧ (∀ {α : Type} (a d : α) (l : List α) (n : Nat), (a :: l).getD (n + 1) d = l.getD n d) ∧ (∀ {α : Type} (a b : α) (l : List α), (a :: l).set 0 b = b :: l) ∧ (∀ {α : Type} (a b : α) (l : List α) (n : Nat), (a :: l).set (n + 1) b = a :: l.set n b) :=
  ⟨Bool.not_true, Bool.not_false, fun _ => rfl, List.append_nil, fun _ => rfl, fun _ _ => rfl, fun _ _ _ => rfl, fun _ => rfl, fun _ _ => rfl, fun _ _ => rfl, fun _ _ => Nat.testBit_eq_decide_div_mod_eq, fun _ => decide_eq_true trivial, fun _ => decide_eq_false id, Nat.zero_add, fun _ _ _ => rfl, fun _ _ _ _ => rfl, fun _ _ _ => rfl, fun _ _ _ _ => rfl⟩
theorem SideL : (∀ {α : Type} (a : α) (l : List α), (a :: l).length = l.length + 1) ∧ (∀ {α : Type}, ([] : List α).length = 0) ∧ (∀ {α : Type} (l : List α) (n : Nat) (a : α), (l.set n a).length = l.length) ∧ (∀ {α β : Type} (f : α → β) (l : List α), (l.map f).length = l.length) :=
  ⟨fun _ _ => rfl, rfl, fun _ _ _ => List.length_set, fun _ _ => List.length_map ..⟩

section
variable {P : Program}
/-- nothing above is referred to -/
def lowX (n : Nat) : Obj → Prop
  | .row r => ∀ i, i < r.size → lowV n (r.get i) = true
  | .map es _ => ∀ x ∈ es, lowV n x.key = true ∧ lowV n x.val = true
  | .siter _ _ => True
  | .loop => True
  | _ => False
theorem ObjRel.cutX {σ : Mp} {n : Nat} {o : Obj} {l : Loc} {c : Go.Obj} (h : lowX n o) (r : ObjRel σ o l c) : ObjRel (σ.cut n) o l c := by
  cases o with
  | row q =>
    obtain ⟨cs, fr, rfl, r⟩ := r
    refine ⟨cs, fr, rfl, r.sz, r.sz1, r.fits, r.room, r.exact, fun i hi => ?_, r.one, r.frz, r.frs⟩
    obtain ⟨v, h1, h2⟩ := r.cell i hi
    exact ⟨v, h1, Rel.cut (h i hi) h2⟩
  | map es clock =>
    obtain ⟨ents, e, h1, h2⟩ := r
    exact ⟨ents, e, EntsRel.cutE h h1, h2⟩
  | siter s pos => exact r
  | loop => exact r
  | miter _ _ _ => exact h.elim
  | cmap _ => exact h.elim
/-- the heap G tells of what H' tells: all that H has, of what is new some -/
structure Less (H H' G : Heap) : Prop where
  nx : H.nx ≤ G.nx
  ro : G.ro = H.ro
  old : ∀ b, b < H.nx → G.t.get b = H'.t.get b
  new : ∀ b o, H.nx ≤ b → G.t.get b = some o → H.t.get b = some o ∨ (b < G.nx ∧ H'.t.get b = some o)
  low : ∀ b o, G.t.get b = some o → H.t.get b = some o ∨ lowX G.nx o
theorem Tr.less {σ σ' : Mp} {H H' G : Heap} {w w' : World} (hs : Sim P σ H w) (t : Tr P σ H w σ' H' w') (g : Less H H' G) : Tr P σ H w (σ'.cut G.nx) G w' := by
  have hex : Ext σ (σ'.cut G.nx) := fun b l hb => by
    have := hs.dom b l hb
    rw [Mp.cut_lt (Nat.lt_of_lt_of_le this g.nx)]
    exact t.ext b l hb
  have hcut : ∀ {b l}, σ'.cut G.nx b = some l → σ' b = some l := fun h => (Mp.cut_some h).2
  have hin : ∀ b o, G.t.get b = some o → H'.t.get b = some o := fun b o h => by
    by_cases hb : b < H.nx
    · rw [← g.old b hb]; exact h
    · rcases g.new b o (by omega) h with h1 | h1
      · exact absurd (hs.low b o h1) hb
      · exact h1.2
  have hs' : Sim P (σ'.cut G.nx) G w' := by
    refine ⟨fun b l h => (Mp.cut_some h).1, fun b o h => ?_, fun b o l hb hl => ?_, fun b b' o o' l l' h1 h2 h3 h4 e => t.sim.inj b b' o o' l l' (hin _ _ h1) (hin _ _ h2) (hcut h3) (hcut h4) e, fun q hq => ?_, by rw [g.ro]; exact Nat.le_trans hs.ro g.nx⟩
    · by_cases hb : b < H.nx
      · exact Nat.lt_of_lt_of_le hb g.nx
      · rcases g.new b o (by omega) h with h1 | h1
        · exact absurd (hs.low b o h1) hb
        · exact h1.1
    · obtain ⟨c, h2, h3⟩ := t.sim.alive b o l (hin b o hb) (hcut hl)
      refine ⟨c, h2, ?_⟩
      rcases g.low b o hb with h5 | h4
      · cases hσ : σ b with
        | none =>
          have := (t.pend b (hs.low b o h5) hσ).2
          rw [hcut hl] at this; cases this
        | some l0 =>
          have e := t.ext b l0 hσ
          rw [hcut hl] at e; cases e
          obtain ⟨c0, _, h1⟩ := hs.alive b o l h5 hσ
          exact (h1.back t.ext h3).mono hex
      · exact h3.cutX h4
    · obtain ⟨l, h1, h2, h3⟩ := hs.glob q hq
      exact ⟨l, hex _ _ h1, h2, h3⟩
  refine ⟨hex, hs', t.size, t.frame, fun b l hw hl hlt => ?_, g.nx, g.ro, fun b hb => ?_, t.tape, t.os, t.out, fun b hb hn => ?_⟩
  · obtain ⟨h1, o, h2, h3⟩ := hw
    exact t.wr b l ⟨by rw [t.ro, ← g.ro]; exact h1, o, hin b o h2, h3⟩ (hcut hl) hlt
  · rw [g.old b (Nat.lt_of_lt_of_le hb hs.ro)]
    exact t.low b hb
  · obtain ⟨h1, h2⟩ := t.pend b hb hn
    refine ⟨by rw [g.old b hb, h1], ?_⟩
    rw [Mp.cut_lt (Nat.lt_of_lt_of_le hb g.nx)]; exact h2
/-- one outcome told by less than another -/
def LessR (H : Heap) : CR → CR → Prop
  | .ret v H', .ret u G => u = v ∧ Less H H' G ∧ lowV G.nx v = true
  | .pan v H', .pan u G => u = v ∧ Less H H' G ∧ lowV G.nx v = true
  | _, _ => False
theorem less_ok {call : Nat → List AV → Heap → CR} (hcall : CallOk P call) {f : FuncId} {args : List AV} {H : Heap} {r : CR} (g : LessR H (call f args H) r)
    {σ : Mp} {w : World} {vs : List Value} (hs : Sim P σ H w) (hv : RelL σ args vs) : CROk P σ H w r ((callFunc f ⟨vs⟩).run P w) := by
  have hcr := hcall f _ H σ w vs hs hv
  generalize call f args H = q at g hcr
  cases q with
  | fail => cases r <;> exact g.elim
  | ret v H' =>
    cases r with
    | ret u G =>
      obtain ⟨rfl, g, hlow⟩ := g
      refine Ends.mono (fun u' w' hx => ?_) (fun _ _ hx => hx) hcr
      obtain ⟨σ2, h1, t⟩ := hx
      exact ⟨σ2.cut G.nx, Rel.cut hlow h1, t.less hs g⟩
    | _ => exact g.elim
  | pan v H' =>
    cases r with
    | pan u G =>
      obtain ⟨rfl, g, hlow⟩ := g
      refine Ends.mono (fun _ _ hx => hx) (fun u' w' hx => ?_) hcr
      obtain ⟨σ2, h1, t⟩ := hx
      exact ⟨σ2.cut G.nx, Rel.cut hlow h1, t.less hs g⟩
    | _ => exact g.elim
theorem Less.put {H : Heap} {b : Nat} {o : Obj} (hb : b < H.nx) (ho : lowX H.nx o) {H' : Heap} (h : ∀ c, c < H.nx → H'.t.get c = (H.put b o).t.get c) : Less H H' (H.put b o) := by
  refine ⟨Nat.le_refl _, rfl, fun c hc => (h c hc).symm, fun c q hc hq => .inl ?_, fun c q hq => ?_⟩
  · rw [put_get, if_neg (by omega)] at hq; exact hq
  · rw [put_get] at hq
    split at hq
    · cases hq; exact .inr ho
    · exact .inl hq
theorem Less.same {H H' : Heap} (h : ∀ c, c < H.nx → H'.t.get c = H.t.get c) : Less H H' H :=
  ⟨Nat.le_refl _, rfl, fun c hc => (h c hc).symm, fun _ _ _ hq => .inl hq, fun _ _ hq => .inl hq⟩
/-! ### layers -/
end

section
variable {P : Program}
abbrev Lib := Nat → List AV → Heap → Option CR
/-- what a rank adds -/
def layer (rank : Nat → Nat) (spec : Lib) (call : Nat → List AV → Heap → CR) (lib : Lib) (k : Nat) : Lib := fun f args H =>
  open Classical in if rank f = k then
    (match spec f args H with
    | some r => if LessR H (call f args H) r then some r else lib f args H
    | none => if ∃ v H', call f args H = .ret v H' ∧ Keep H H' [] ∧ lowV 0 v = true then (match call f args H with | .ret v _ => some (.ret v H) | _ => none) else lib f args H)
  else lib f args H
theorem layer_ok {rank : Nat → Nat} {spec : Lib} {call : Nat → List AV → Heap → CR} {lib : Lib} {k : Nat} (hcall : CallOk P call) (hl : LibOk P lib) : LibOk P (layer rank spec call lib k) := by
  intro f args H r h σ w vs hs hv
  unfold layer at h
  split at h
  · split at h
    · split at h
      · rename_i hc
        cases h
        exact less_ok hcall hc hs hv
      · exact hl f args H r h σ w vs hs hv
    · split at h
      · rename_i hc
        obtain ⟨v, H', h1, h2, h3⟩ := hc
        rw [h1] at h
        cases h
        exact keep_ok hcall h1 h2 h3 hs hv
      · exact hl f args H r h σ w vs hs hv
  · exact hl f args H r h σ w vs hs hv
theorem layer_miss {rank : Nat → Nat} {spec : Lib} {call : Nat → List AV → Heap → CR} {lib : Lib} {k f : Nat} (h : rank f ≠ k) (args : List AV) (H : Heap) : layer rank spec call lib k f args H = lib f args H := by
  unfold layer; rw [if_neg h]
theorem layer_keep {rank : Nat → Nat} {spec : Lib} {call : Nat → List AV → Heap → CR} {lib : Lib} {k f : Nat} {args : List AV} {H H' : Heap} {v : AV} (h : rank f = k) (hs : spec f args H = none) (hr : call f args H = .ret v H') (g : Keep H H' []) (hv : lowV 0 v = true) : layer rank spec call lib k f args H = some (.ret v H) := by
  unfold layer; rw [if_pos h, hs]
  simp only
  rw [if_pos ⟨v, H', hr, g, hv⟩, hr]
def libK (lib0 : Lib) (fs : T CF) (fuel : Nat) (rank : Nat → Nat) (spec : Lib) : Nat → Lib
  | 0 => lib0
  | k + 1 => layer rank spec (callN (libK lib0 fs fuel rank spec k) fs fuel 900) (libK lib0 fs fuel rank spec k) (k + 1)
variable {lib0 : Lib} {fs : T CF} {fuel : Nat} {rank : Nat → Nat} {spec : Lib}
theorem libK_ok (hc : ∀ lib, LibOk P lib → CallOk P (callN lib fs fuel 900)) (h0 : LibOk P lib0) : ∀ k, LibOk P (libK lib0 fs fuel rank spec k)
  | 0 => h0
  | k + 1 => layer_ok (hc _ (libK_ok hc h0 k)) (libK_ok hc h0 k)
theorem libK_low {f : Nat} (args : List AV) (H : Heap) : ∀ k, k < rank f → libK lib0 fs fuel rank spec k f args H = lib0 f args H
  | 0, _ => rfl
  | k + 1, h => (layer_miss (by omega) args H).trans (libK_low args H k (by omega))
theorem libK_zero {f : Nat} (h : rank f = 0) (args : List AV) (H : Heap) : ∀ k, libK lib0 fs fuel rank spec k f args H = lib0 f args H
  | 0 => rfl
  | k + 1 => (layer_miss (by omega) args H).trans (libK_zero h args H k)
theorem libK_up {f r : Nat} (h : rank f = r) (args : List AV) (H : Heap) : ∀ k, r ≤ k → libK lib0 fs fuel rank spec k f args H = libK lib0 fs fuel rank spec r f args H := by
  intro k hk
  induction k with
  | zero => rw [Nat.le_zero.1 hk]
  | succ k ih =>
    by_cases e : r = k + 1
    · rw [e]
    · exact (layer_miss (by omega) args H).trans (ih (by omega))
/-- what is not looked up yet -/
theorem libK_none {f k : Nat} (h0 : ∀ l H, lib0 f l H = none) (h : k < rank f ∨ rank f = 0) (args : List AV) (H : Heap) : libK lib0 fs fuel rank spec k f args H = none := by
  rcases h with h | h
  · rw [libK_low args H k h, h0]
  · rw [libK_zero h args H k, h0]
/-- what the first table has -/
theorem base_hit {f k n : Nat} {args : List AV} {H : Heap} {r : CR} (h : rank f = 0) (hr : lib0 f args H = some r) : callN (libK lib0 fs fuel rank spec k) fs fuel (n + 1) f args H = r :=
  callN_hit (by rw [libK_zero h]; exact hr)
theorem keep_hit {f r k n : Nat} {args : List AV} {H H' : Heap} {v : AV} (h : rank f = r + 1) (hs : spec f args H = none) (hr : callN (libK lib0 fs fuel rank spec r) fs fuel 900 f args H = .ret v H') (g : Keep H H' []) (hv : lowV 0 v = true) (hk : r + 1 ≤ k) :
    callN (libK lib0 fs fuel rank spec k) fs fuel (n + 1) f args H = .ret v H :=
  callN_hit (by rw [libK_up h args H k hk]; exact layer_keep h hs hr g hv)
end

section
variable {P : Program}
theorem lowL_memR {n : Nat} {x : AV} : ∀ {l : List AV}, lowL n l = true → x ∈ l → lowV n x = true
  | y :: l, h, hx => by
    have h : cond (lowV n y) (lowL n l) false = true := h
    cases hy : lowV n y with
    | false => rw [hy] at h; cases h
    | true =>
      rw [hy] at h
      rcases List.mem_cons.1 hx with rfl | hx
      · exact hy
      · exact lowL_memR h hx
/-- the variables, and one row of bytes -/
def rowH (t : T Obj) (el : Nat) (cells : List AV) : Heap := ⟨101, t.set 100 (memoRow el cells), 101⟩
theorem rowH_get {t : T Obj} {el : Nat} {cells : List AV} {b : Nat} {o : Obj} (h : (rowH t el cells).t.get b = some o) : (b = 100 ∧ o = memoRow el cells) ∨ (b ≠ 100 ∧ t.get b = some o) := by
  have h : (t.set 100 (memoRow el cells)).get b = some o := h
  rw [T.get_set] at h
  by_cases e : 100 = b
  · rw [if_pos e] at h; exact .inl ⟨e.symm, (Option.some.inj h).symm⟩
  · rw [if_neg e] at h; exact .inr ⟨fun e' => e e'.symm, h⟩
theorem row_sim {σ : Mp} {H : Heap} {w : World} {t : T Obj} (hs : Sim P σ H w) (hn : P.globals.size ≤ 100) (ht : ∀ b o, t.get b = some o → b < 100 ∧ H.t.get b = some o ∧ lowO 100 o) (hsoft : ∀ b o, t.get b = some o → Soft o ∨ ∃ es, o = .cmap es)
    {b : Nat} {r : Row} {l : Loc} (hb : H.t.get b = some (.row r)) (hl : σ b = some l) (hsz : r.sz = 1) {cells : List AV} (hc : loadN r 0 (lenL cells) = cells) (hle : lenL cells ≤ r.size) (hlow : lowL 0 cells = true) :
    ∃ σ1 : Mp, Sim P σ1 (rowH t r.elem cells) w ∧ σ1 100 = some l ∧ l.sz = 1 ∧ ∀ y, ¬ Wr (rowH t r.elem cells) y := by
  have h0 : Sim P (σ.cut 100) ⟨100, t, 100⟩ w := hs.cutTo hn ht
  obtain ⟨cs, fr, hcw, hrr⟩ := hs.row hb hl
  have hlsz : l.sz = 1 := by rw [hrr.sz, hsz]
  have hfit := hrr.fits
  have hroom := hrr.room
  rw [hlsz, Nat.mul_one] at hfit hroom
  refine ⟨fun y => if y = 100 then some l else σ.cut 100 y, ?_, if_pos rfl, hlsz, ?_⟩
  · have hex : Ext (σ.cut 100) (fun y => if y = 100 then some l else σ.cut 100 y) := fun y l' hy => by
      have := (Mp.cut_some hy).1
      show (if y = 100 then some l else σ.cut 100 y) = some l'
      rw [if_neg (by omega)]; exact hy
    have hold : ∀ y l', (if y = 100 then some l else σ.cut 100 y) = some l' → y ≠ 100 → σ.cut 100 y = some l' := fun y l' h e => by rw [if_neg e] at h; exact h
    have hrow : ObjRel (fun y => if y = 100 then some l else σ.cut 100 y) (memoRow r.elem cells) l (.cells cs r.elem fr) := by
      have := rowRel_part (σ' := fun y => if y = 100 then some l else σ.cut 100 y) hrr hsz (o := 0) (key := cells) hc (by omega) hlow (tot := l.tot) (by omega) (by omega) r.elem
      have hly : (⟨l.blk, l.base + 0, l.tot, 1⟩ : Loc) = l := by
        obtain ⟨x1, x2, x3, x4⟩ := l
        have hlsz : x4 = 1 := hlsz
        subst hlsz; rfl
      rw [hly] at this
      exact ⟨cs, fr, rfl, this⟩
    refine ⟨fun y l' hy => ?_, fun y o hy => ?_, fun y o l' hy hly => ?_, fun y y' o o' l1 l2 hy hy' h1 h2 he => ?_, fun g hg => ?_, Nat.le_refl _⟩
    · show y < 101
      by_cases e : y = 100
      · omega
      · have := (Mp.cut_some (hold y l' hy e)).1; omega
    · show y < 101
      rcases rowH_get hy with ⟨e, _⟩ | ⟨_, h⟩
      · omega
      · have := (ht y o h).1; omega
    · rcases rowH_get hy with ⟨rfl, rfl⟩ | ⟨e, h⟩
      · have : some l = some l' := (if_pos rfl).symm.trans hly
        cases this
        exact ⟨_, hcw, hrow⟩
      · obtain ⟨c, hc1, hc2⟩ := h0.alive y o l' h (hold y l' hly e)
        exact ⟨c, hc1, hc2.mono hex⟩
    · have soft1 : Soft (memoRow r.elem cells) := ⟨_, rfl, rfl⟩
      -- a map lies where no row does
      have apart : ∀ y o l', t.get y = some o → σ.cut 100 y = some l' → l'.blk = l.blk → Soft o := fun y o l' h1 h2 h3 => by
        rcases hsoft y o h1 with h | ⟨es, rfl⟩
        · exact h
        · obtain ⟨c, hc1, hc2⟩ := h0.alive y _ l' h1 h2
          obtain ⟨ents, clock, fs, rfl, _⟩ := hc2
          rw [h3, hcw] at hc1; cases hc1
      rcases rowH_get hy with ⟨rfl, rfl⟩ | ⟨e, h⟩ <;> rcases rowH_get hy' with ⟨rfl, rfl⟩ | ⟨e', h'⟩
      · exact .inl rfl
      · have : some l = some l1 := (if_pos rfl).symm.trans h1
        cases this
        exact .inr ⟨soft1, apart y' o' l2 h' (hold _ _ h2 e') he.symm⟩
      · have : some l = some l2 := (if_pos rfl).symm.trans h2
        cases this
        exact .inr ⟨apart y o l1 h (hold _ _ h1 e) he, soft1⟩
      · exact h0.inj y y' o o' l1 l2 h h' (hold _ _ h1 e) (hold _ _ h2 e') he
    · obtain ⟨lg, g1, g2⟩ := h0.glob g hg
      exact ⟨lg, hex _ _ g1, g2⟩
  · rintro y ⟨h1, o, h2, h3, _⟩
    have h1 : 101 ≤ y := h1
    rcases rowH_get h2 with ⟨e, _⟩ | ⟨_, h⟩
    · omega
    · have := (ht y o h).1; omega
/-- what is handed back has no block -/
theorem rowA_ok {call : Nat → List AV → Heap → CR} (hcall : CallOk P call) {σ : Mp} {H : Heap} {w : World} {t : T Obj} (hs : Sim P σ H w) (hn : P.globals.size ≤ 100) (ht : ∀ b o, t.get b = some o → b < 100 ∧ H.t.get b = some o ∧ lowO 100 o) (hsoft : ∀ b o, t.get b = some o → Soft o ∨ ∃ es, o = .cmap es)
    {b o n : Nat} {r : Row} (hb : H.t.get b = some (.row r)) (hsz : r.sz = 1) {cells : List AV} (hc : loadN r 0 (lenL cells) = cells) (hle : lenL cells ≤ r.size) (hlow : lowL 0 cells = true)
    {f : FuncId} {ex : List AV} (hex : lowL 0 ex = true) {v : AV} (hv0 : lowV 0 v = true) {vs : List Value} (hv : RelL σ (.slice b o n none :: ex) vs) (hret : isRet v (call f (.slice 100 o n none :: ex) (rowH t r.elem cells)) = true) :
    CROk P σ H w (.ret v H) ((callFunc f ⟨vs⟩).run P w) := by
  obtain ⟨u, us, hu, hus, rfl⟩ := hv.cons_inv
  obtain ⟨l, hl, rfl⟩ := rel_slice hu
  obtain ⟨σ1, hsim, h100, hlsz, hnowr⟩ := row_sim hs hn ht hsoft hb hl hsz hc hle hlow
  have hrel : RelL σ1 (.slice 100 o n none :: ex) (.slice (some ⟨l.blk, l.base + o, none⟩) n (Option.getD none (l.tot - o / l.sz)) :: us) := by
    refine relL_cons (rel_slice' h100) (RelL.mono (σ := σ.cut 0) (fun b l hb => by have := (Mp.cut_some hb).1; omega) (RelL.cut hex hus))
  have hcr := hcall f _ _ σ1 w _ hsim hrel
  generalize call f (.slice 100 o n none :: ex) (rowH t r.elem cells) = res at hcr hret
  cases res with
  | fail => cases hret
  | pan _ _ => cases hret
  | ret v' H'' =>
    have := same_eq _ _ hret
    subst this
    refine Ends.mono (fun u' w' hx => ?_) (fun _ _ hx => hx) hcr
    obtain ⟨σ2, h1, t'⟩ := hx
    have hfr : ∀ j, j < w.heap.size → w'.heap[j]? = w.heap[j]? := fun j hj => t'.frame j hj fun y _ hy _ => absurd hy (hnowr y)
    refine ⟨σ, ?_, (TrW.mem (Ext.refl σ) t'.size hfr (fun _ _ _ _ h _ => h) t'.tape t'.os t'.out).full (hs.grow hfr) fun _ _ hx => ⟨rfl, hx⟩⟩
    exact (Rel.cut hv0 h1).mono fun y _ hy => by have := (Mp.cut_some hy).1; omega
/-- what comes out: a slice of a new row, and a number -/
def outB (r : CR) : Option (Nat × Nat × Nat × Bool × Bool × Bool × List AV × AV × Nat) := match r with
  | .ret (.tup [.slice c 0 m none, x]) H => (match H.t.get c with | some (.row q) => some (q.elem, q.sz, q.size, q.sm, q.own, q.exact, loadN q 0 m, x, cond (Nat.ble 101 c) (cond (Nat.beq q.fz 0) m 0) 0) | _ => none)
  | _ => none
theorem rowB_ok {call : Nat → List AV → Heap → CR} (hcall : CallOk P call) {σ : Mp} {H : Heap} {w : World} {t : T Obj} (hs : Sim P σ H w) (hn : P.globals.size ≤ 100) (ht : ∀ b o, t.get b = some o → b < 100 ∧ H.t.get b = some o ∧ lowO 100 o) (hsoft : ∀ b o, t.get b = some o → Soft o ∨ ∃ es, o = .cmap es)
    {b o n : Nat} {r : Row} (hb : H.t.get b = some (.row r)) (hsz : r.sz = 1) {cells : List AV} (hc : loadN r 0 (lenL cells) = cells) (hle : lenL cells ≤ r.size) (hlow : lowL 0 cells = true)
    {f : FuncId} {A : AV → List AV} (hA : ∀ vs, RelL σ (A (.slice b o n none)) vs → ∃ x, Rel σ (.slice b o n none) x) (hA2 : ∀ σ1 : Mp, (∀ x, Rel σ (.slice b o n none) x → Rel σ1 (.slice 100 o n none) x) → ∀ vs, RelL σ (A (.slice b o n none)) vs → RelL σ1 (A (.slice 100 o n none)) vs)
    {cells2 : List AV} (hlow2 : lowL 0 cells2 = true) {x : AV} (hx0 : lowV 0 x = true) {el : Nat} {sm ex : Bool} (hm : 0 < lenL cells2) {vs : List Value} (hv : RelL σ (A (.slice b o n none)) vs)
    (hret : outB (call f (A (.slice 100 o n none)) (rowH t r.elem cells)) = some (el, 1, lenL cells2, sm, true, ex, cells2, x, lenL cells2)) :
    CROk P σ H w (.ret (.tup [.slice H.nx 0 (lenL cells2) none, x]) (H.new (rG el 1 cells2 0 sm true ex))) ((callFunc f ⟨vs⟩).run P w) := by
  obtain ⟨u, hu⟩ := hA vs hv
  obtain ⟨l, hl, rfl⟩ := rel_slice hu
  obtain ⟨σ1, hsim, h100, hlsz, hnowr⟩ := row_sim hs hn ht hsoft hb hl hsz hc hle hlow
  have hrel := hA2 σ1 (fun y hy => by
    obtain ⟨l', hl', rfl⟩ := rel_slice hy
    rw [hl] at hl'; cases hl'
    exact rel_slice' h100) vs hv
  have hcr := hcall f _ _ σ1 w _ hsim hrel
  generalize call f (A (.slice 100 o n none)) (rowH t r.elem cells) = res at hcr hret
  unfold outB at hret
  split at hret
  · rename_i c m y H''
    split at hret
    · rename_i q hq
      simp only [Option.some.injEq, Prod.mk.injEq] at hret
      obtain ⟨e1, e2, e3, e4, e5, e6, e7, rfl, e8⟩ := hret
      have c1 : Nat.ble 101 c = true := by
        cases h : Nat.ble 101 c with
        | true => rfl
        | false => rw [h] at e8; have e8 : 0 = lenL cells2 := e8; omega
      rw [c1] at e8
      have c2 : Nat.beq q.fz 0 = true := by
        cases h : Nat.beq q.fz 0 with
        | true => rfl
        | false => rw [h] at e8; have e8 : 0 = lenL cells2 := e8; omega
      rw [c2] at e8
      have e8 : m = lenL cells2 := e8
      have c2 := Nat.eq_of_beq_eq_true c2
      subst e8
      refine Ends.mono (fun u' w' hx => ?_) (fun _ _ hx => hx) hcr
      obtain ⟨σ2, h1, t'⟩ := hx
      have hfr : ∀ j, j < w.heap.size → w'.heap[j]? = w.heap[j]? := fun j hj => t'.frame j hj fun y _ hy _ => absurd hy (hnowr y)
      have hg := hs.grow hfr
      -- the row handed back
      simp only [Rel] at h1
      obtain ⟨us, h2, rfl⟩ := h1
      obtain ⟨a1, us1, g1, g2, rfl⟩ := h2.cons_inv
      obtain ⟨a2, us2, g3, g4, rfl⟩ := g2.cons_inv
      rw [g4.nil_inv]
      obtain ⟨l2, hl2, rfl⟩ := rel_slice g1
      obtain ⟨cs, fr, hcw, hrr⟩ := t'.sim.row hq hl2
      have hl2sz : l2.sz = 1 := by rw [hrr.sz, e2]
      have hwr : Wr H'' c := ⟨by rw [t'.ro]; exact Nat.le_of_ble_eq_true c1, _, hq, fun r' h => by cases h; exact e5, fun h => by cases h⟩
      have hfresh : w.heap.size ≤ l2.blk := by
        rcases Nat.lt_or_ge l2.blk w.heap.size with h | h
        · obtain ⟨b0, l0, h3, _⟩ := t'.wr c l2 hwr hl2 h
          exact absurd h3 (hnowr b0)
        · exact h
      let σ' : Mp := fun y => if y = H.nx then some l2 else σ y
      have hdom : ∀ y l', σ y = some l' → y ≠ H.nx := fun y l' h e => by have := hs.dom y l' h; omega
      have hext : Ext σ σ' := fun y l' h => by
        show (if y = H.nx then some l2 else σ y) = some l'
        rw [if_neg (hdom y l' h)]; exact h
      have hnx : σ' H.nx = some l2 := if_pos rfl
      have hold : ∀ y l', σ' y = some l' → y ≠ H.nx → σ y = some l' := fun y l' h e => by
        have h : (if y = H.nx then some l2 else σ y) = some l' := h
        rw [if_neg e] at h; exact h
      have hgetN : ∀ y ob, (H.new (rG el 1 cells2 0 sm true ex)).t.get y = some ob → (y = H.nx ∧ ob = rG el 1 cells2 0 sm true ex) ∨ (y ≠ H.nx ∧ H.t.get y = some ob) := fun y ob h => by
        rw [Heap.get_new] at h
        by_cases e : H.nx = y
        · rw [if_pos e] at h; exact .inl ⟨e.symm, (Option.some.inj h).symm⟩
        · rw [if_neg e] at h; exact .inr ⟨fun e' => e e'.symm, h⟩
      have hrow : ObjRel σ' (rG el 1 cells2 0 sm true ex) l2 (.cells cs q.elem fr) := by
        refine ⟨cs, fr, by rw [e1], ?_⟩
        have hget : ∀ i, i < q.size → q.get i = Row.get ⟨el, 1, lenL cells2, T.ofList cells2, .unk, 0, sm, true, ex⟩ i := fun i hi => by
          have g := loadN_get q (lenL cells2) 0 i (by omega)
          rw [e7, Nat.zero_add] at g
          rw [rG_get, List.getD_eq_getElem?_getD, g]; rfl
        have hlowc : ∀ i, i < q.size → lowV 0 (q.get i) = true := fun i hi => by
          have g := loadN_get q (lenL cells2) 0 i (by omega)
          rw [e7, Nat.zero_add] at g
          exact lowL_memR hlow2 (List.mem_of_getElem? g)
        have r1 : RowRel σ' q l2 cs fr := by
          refine ⟨hrr.sz, hrr.sz1, hrr.fits, hrr.room, hrr.exact, fun i hi => ?_, hrr.one, hrr.frz, hrr.frs⟩
          obtain ⟨v, k1, k2⟩ := hrr.cell i hi
          exact ⟨v, k1, (Rel.cut (hlowc i hi) k2).mono fun y _ hy => by have := (Mp.cut_some hy).1; omega⟩
        exact rowRel_alike e2 e3 c2 e4 e5 e6 hget r1
      have hsim' : Sim P σ' (H.new (rG el 1 cells2 0 sm true ex)) w' := by
        refine ⟨fun y l' hy => ?_, fun y ob hy => ?_, fun y ob l' hy hly => ?_, fun y y' o1 o2 l1 l3 hy hy' h5 h6 he => ?_, fun g hgg => ?_, Nat.le_succ_of_le hs.ro⟩
        · show y < H.nx + 1
          by_cases e : y = H.nx
          · omega
          · have := hs.dom y l' (hold y l' hy e); omega
        · show y < H.nx + 1
          rcases hgetN y ob hy with ⟨e, _⟩ | ⟨_, h⟩
          · omega
          · have := hs.low y ob h; omega
        · rcases hgetN y ob hy with ⟨rfl, rfl⟩ | ⟨e, h⟩
          · rw [hnx] at hly; cases hly
            exact ⟨_, hcw, hrow⟩
          · obtain ⟨c0, k1, k2⟩ := hg.alive y ob l' h (hold y l' hly e)
            exact ⟨c0, k1, k2.mono hext⟩
        · have far : ∀ y ob l', H.t.get y = some ob → σ y = some l' → l'.blk ≠ l2.blk := fun y ob l' k1 k2 k3 => by
            obtain ⟨c0, k4, _⟩ := hs.alive y ob l' k1 k2
            have := (Array.getElem?_eq_some_iff.1 k4).1
            omega
          rcases hgetN y o1 hy with ⟨rfl, rfl⟩ | ⟨e, h⟩ <;> rcases hgetN y' o2 hy' with ⟨rfl, rfl⟩ | ⟨e', h'⟩
          · exact .inl rfl
          · rw [hnx] at h5; cases h5
            exact absurd he.symm (far y' o2 l3 h' (hold _ _ h6 e'))
          · rw [hnx] at h6; cases h6
            exact absurd he (far y o1 l1 h (hold _ _ h5 e))
          · exact hs.inj y y' o1 o2 l1 l3 h h' (hold _ _ h5 e) (hold _ _ h6 e') he
        · obtain ⟨lg, k1, k2⟩ := hs.glob g hgg
          exact ⟨lg, hext _ _ k1, k2⟩
      refine ⟨σ', ?_, ⟨hext, hsim', t'.size, fun k hk _ => hfr k hk, fun y l' hw hly hlt => ?_, Nat.le_succ _, rfl, fun y hy => ?_, t'.tape, t'.os, t'.out, fun y hy hno => ?_⟩⟩
      · simp only [Rel]
        refine ⟨_, relL_cons ?_ (relL_cons ((Rel.cut hx0 g3).mono fun y _ hy => by have := (Mp.cut_some hy).1; omega) relL_nil), rfl⟩
        exact rel_slice' hnx
      · obtain ⟨k1, ob, k2, k3⟩ := hw
        rcases hgetN y ob k2 with ⟨rfl, _⟩ | ⟨e, h⟩
        · rw [hnx] at hly; cases hly; omega
        · exact ⟨y, l', ⟨k1, ob, h, k3⟩, hold y l' hly e, rfl⟩
      · have hro := hs.ro
        rw [Heap.get_new, if_neg (by omega)]
      · refine ⟨by rw [Heap.get_new, if_neg (by omega)], ?_⟩
        show (if y = H.nx then some l2 else σ y) = none
        rw [if_neg (by omega)]; exact hno
    · cases hret
  · cases hret
end

section
variable {P : Program}
def u8L (l : List Nat) : List AV := l.map (nI .u8)
/-- sixteen bytes -/
def dgs (z : Nat → Nat) : List AV := [nI .u8 (z 0), nI .u8 (z 1), nI .u8 (z 2), nI .u8 (z 3), nI .u8 (z 4), nI .u8 (z 5), nI .u8 (z 6), nI .u8 (z 7), nI .u8 (z 8), nI .u8 (z 9), nI .u8 (z 10), nI .u8 (z 11), nI .u8 (z 12), nI .u8 (z 13), nI .u8 (z 14), nI .u8 (z 15)]
def hd12 : List AV := u8L [31, 139, 8, 4, 0, 0, 0, 0, 0, 0, 26, 0]
def tl10 : List AV := u8L [3, 0, 0, 0, 0, 0, 0, 0, 0, 0]
def cellsX (z : Nat → Nat) : List AV := u8L [80, 84, 22, 0] ++ dgs z ++ u8L [80, 79, 82, 84, 79, 76]
def cellsF (z : Nat → Nat) : List AV := hd12 ++ cellsX z ++ tl10
/-- a row that begins with these cells -/
def RowIs (H : Heap) (b : Nat) (cells : List AV) : Prop := ∃ r, H.t.get b = some (.row r) ∧ r.sz = 1 ∧ r.elem = 5 ∧ lenL cells ≤ r.size ∧ loadN r 0 (lenL cells) = cells
structure RowE where
  f : Nat
  o : Nat
  n : Nat
  ex : List AV
  v : AV
def rowLib (t : (Nat → Nat) → T Obj) (base : Nat → List AV → Heap → Option CR) : List RowE → Nat → List AV → Heap → Option CR
  | [], f, args, H => base f args H
  | x :: l, f, args, H => cond (Nat.beq x.f f) (open Classical in if ∃ b e z, args = .slice b x.o x.n none :: x.ex ∧ Bears 100 (t e) H ∧ RowIs H b (cellsF z) then some (.ret x.v H) else rowLib t base l f args H) (rowLib t base l f args H)
section
variable {t : (Nat → Nat) → T Obj} {base : Nat → List AV → Heap → Option CR}
theorem low_F (z : Nat → Nat) : lowL 0 (cellsF z) = true := rfl
theorem low_X (z : Nat → Nat) : lowL 0 (cellsX z) = true := rfl
theorem rowLib_ok (hn : P.globals.size ≤ 100) (ht : ∀ e b o, (t e).get b = some o → b < 100 ∧ lowO 100 o ∧ (Soft o ∨ ∃ es, o = .cmap es)) (hb : LibOk P base) : ∀ l : List RowE,
    (∀ x ∈ l, ∃ call, CallOk P call ∧ lowL 0 x.ex = true ∧ lowV 0 x.v = true ∧ ∀ e z, isRet x.v (call x.f (.slice 100 x.o x.n none :: x.ex) (rowH (t e) 5 (cellsF z))) = true) → LibOk P (rowLib t base l)
  | [], _ => hb
  | x :: l, hl => by
    intro f args H r h σ w vs hs hv
    have ih := rowLib_ok hn ht hb l fun y hy => hl y (List.mem_cons_of_mem _ hy)
    unfold rowLib at h
    cases hf : Nat.beq x.f f with
    | false => rw [hf] at h; exact ih f args H r h σ w vs hs hv
    | true =>
      have := Nat.eq_of_beq_eq_true hf
      subst this
      rw [hf, cond_true] at h
      split at h
      · rename_i hc
        obtain ⟨b, e, z, rfl, hbear, r0, g1, g2, g3, g4, g5⟩ := hc
        cases h
        obtain ⟨call, hcall, hlowa, hlowv, hev⟩ := hl x (List.mem_cons_self ..)
        have := hev e z
        rw [← g3] at this
        exact rowA_ok hcall hs hn (fun b o hb => ⟨(ht e b o hb).1, hbear.2 b o hb, (ht e b o hb).2.1⟩) (fun b o hb => (ht e b o hb).2.2) g1 g2 g5 g4 (low_F z) hlowa hlowv hv this
      · exact ih _ _ _ _ h σ w vs hs hv
theorem rowLib_hit {H : Heap} {b : Nat} {e : Nat → Nat} {z : Nat → Nat} (h1 : Bears 100 (t e) H) (h2 : RowIs H b (cellsF z)) {x : RowE} : ∀ {l : List RowE}, x ∈ l → (∀ y ∈ l, y.f = x.f → y.o = x.o → y.n = x.n → y.ex = x.ex → y = x) → rowLib t base l x.f (.slice b x.o x.n none :: x.ex) H = some (.ret x.v H)
  | y :: l, hx, hu => by
    unfold rowLib
    cases hf : Nat.beq y.f x.f with
    | false =>
      rw [cond_false]
      rcases List.mem_cons.1 hx with rfl | hx
      · rw [Nat.beq_refl] at hf; cases hf
      · exact rowLib_hit h1 h2 hx fun q hq => hu q (List.mem_cons_of_mem _ hq)
    | true =>
      rw [cond_true]
      split
      · rename_i hc
        obtain ⟨b', e', z', ha, _⟩ := hc
        injection ha with ha1 ha2
        injection ha1 with k1 k2 k3 k4
        rw [hu y (List.mem_cons_self ..) (Nat.eq_of_beq_eq_true hf) k2.symm k3.symm ha2.symm]
      · rename_i hc
        rcases List.mem_cons.1 hx with rfl | hx
        · exact absurd ⟨b, e, z, rfl, h1, h2⟩ hc
        · exact rowLib_hit h1 h2 hx fun q hq => hu q (List.mem_cons_of_mem _ hq)
/-- a member of gzip put around a row -/
def putA (s : AV) : List AV := [.agg [nI .u8 4, nI .u8 0, nI .u8 0, nI .u32 0, s, .str [], .str []], .nils]
def putLib (t : (Nat → Nat) → T Obj) (base : Nat → List AV → Heap → Option CR) (g : Nat) : Nat → List AV → Heap → Option CR := fun f args H =>
  cond (Nat.beq g f) (open Classical in if h : ∃ b e z, args = putA (.slice b 0 26 none) ∧ Bears 100 (t e) H ∧ RowIs H b (cellsX z) then some (.ret (.tup [.slice H.nx 0 48 none, nI .i64 0]) (H.new (rG 5 1 (cellsF h.choose_spec.choose_spec.choose) 0 false true false))) else base f args H) (base f args H)
theorem putLib_ok (hn : P.globals.size ≤ 100) (ht : ∀ e b o, (t e).get b = some o → b < 100 ∧ lowO 100 o ∧ (Soft o ∨ ∃ es, o = .cmap es)) (hb : LibOk P base) {g : Nat} {call : Nat → List AV → Heap → CR} (hcall : CallOk P call)
    (hev : ∀ e z, outB (call g (putA (.slice 100 0 26 none)) (rowH (t e) 5 (cellsX z))) = some (5, 1, 48, false, true, false, cellsF z, nI .i64 0, 48)) : LibOk P (putLib t base g) := by
  intro f args H r h σ w vs hs hv
  unfold putLib at h
  cases hf : Nat.beq g f with
  | false => rw [hf] at h; exact hb f args H r h σ w vs hs hv
  | true =>
    have := Nat.eq_of_beq_eq_true hf
    subst this
    rw [hf, cond_true] at h
    split at h
    · rename_i hc
      have hsp := hc.choose_spec.choose_spec.choose_spec
      generalize hc.choose_spec.choose_spec.choose = z at h hsp
      generalize hc.choose_spec.choose = e at hsp
      generalize hc.choose = b at hsp
      cases h
      obtain ⟨rfl, hbear, r0, g1, g2, g3, g4, g5⟩ := hsp
      refine rowB_ok hcall hs hn (fun b o hb => ⟨(ht e b o hb).1, hbear.2 b o hb, (ht e b o hb).2.1⟩) (fun b o hb => (ht e b o hb).2.2) g1 g2 g5 g4 (low_X z) (A := putA) (fun vs hvs => ?_) (fun σ1 h1 vs hvs => ?_) (cells2 := cellsF z) (low_F z) (x := nI .i64 0) rfl (el := 5) (sm := false) (ex := false) (by show 0 < 48; decide) hv (by rw [g3]; exact hev e z)
      · unfold putA at hvs
        obtain ⟨v1, vs1, k1, _, _⟩ := hvs.cons_inv
        simp only [Rel] at k1
        obtain ⟨cs, k2, _⟩ := k1
        obtain ⟨_, _, _, k3, _⟩ := k2.cons_inv
        obtain ⟨_, _, _, k4, _⟩ := k3.cons_inv
        obtain ⟨_, _, _, k5, _⟩ := k4.cons_inv
        obtain ⟨_, _, _, k6, _⟩ := k5.cons_inv
        obtain ⟨q, _, k7, _, _⟩ := k6.cons_inv
        exact ⟨q, k7⟩
      · unfold putA at hvs ⊢
        have lowR : ∀ {a : AV} {v : Value}, lowV 0 a = true → Rel σ a v → Rel σ1 a v := fun h k => (Rel.cut h k).mono fun y _ hy => by have := (Mp.cut_some hy).1; omega
        have lowRL : ∀ {a : List AV} {v : List Value}, lowL 0 a = true → RelL σ a v → RelL σ1 a v := fun h k => RelL.mono (fun y _ hy => by have := (Mp.cut_some hy).1; omega) (RelL.cut h k)
        obtain ⟨v1, vs1, k1, kn, rfl⟩ := hvs.cons_inv
        simp only [Rel] at k1
        obtain ⟨cs, k2, ko, rfl⟩ := k1
        obtain ⟨x1, w1, y1, k3, rfl⟩ := k2.cons_inv
        obtain ⟨x2, w2, y2, k4, rfl⟩ := k3.cons_inv
        obtain ⟨x3, w3, y3, k5, rfl⟩ := k4.cons_inv
        obtain ⟨x4, w4, y4, k6, rfl⟩ := k5.cons_inv
        obtain ⟨x5, w5, y5, k7, rfl⟩ := k6.cons_inv
        refine relL_cons ?_ (lowRL rfl kn)
        simp only [Rel]
        exact ⟨_, relL_cons (lowR rfl y1) (relL_cons (lowR rfl y2) (relL_cons (lowR rfl y3) (relL_cons (lowR rfl y4) (relL_cons (h1 _ y5) (lowRL rfl k7))))), ko, rfl⟩
    · exact hb _ _ _ _ h σ w vs hs hv
theorem dgs_inj {z z' : Nat → Nat} (h : cellsX z = cellsX z') : cellsF z = cellsF z' := by
  unfold cellsF; rw [h]
theorem putLib_hit {H : Heap} {b g : Nat} {e : Nat → Nat} {z : Nat → Nat} (h1 : Bears 100 (t e) H) (h2 : RowIs H b (cellsX z)) : putLib t base g g (putA (.slice b 0 26 none)) H = some (.ret (.tup [.slice H.nx 0 48 none, nI .i64 0]) (H.new (rG 5 1 (cellsF z) 0 false true false))) := by
  unfold putLib
  rw [Nat.beq_refl, cond_true]
  have hc : ∃ b' e z, putA (.slice b 0 26 none) = putA (.slice b' 0 26 none) ∧ Bears 100 (t e) H ∧ RowIs H b' (cellsX z) := ⟨b, e, z, rfl, h1, h2⟩
  rw [dif_pos hc]
  have hsp := hc.choose_spec.choose_spec.choose_spec
  generalize hc.choose_spec.choose_spec.choose = z' at hsp ⊢
  generalize hc.choose_spec.choose = e' at hsp
  generalize hc.choose = b' at hsp
  obtain ⟨hb, _, r0, g1, _, _, _, g5⟩ := hsp
  have hb : b = b' := by
    unfold putA at hb
    injection hb with hb _
    injection hb with hb
    injection hb with _ hb
    injection hb with _ hb
    injection hb with _ hb
    injection hb with _ hb
    injection hb with hb _
    injection hb
  subst hb
  obtain ⟨r1, k1, _, _, _, k5⟩ := h2
  rw [k1] at g1
  have g1 : r1 = r0 := by injection g1 with g1; injection g1
  subst g1
  have l1 : lenL (cellsX z) = 26 := rfl
  have l2 : lenL (cellsX z') = 26 := rfl
  rw [l1] at k5
  rw [l2] at g5
  rw [dgs_inj (g5.symm.trans k5)]
theorem putLib_miss {g f : Nat} (h : Nat.beq g f = false) (args : List AV) (H : Heap) : putLib t base g f args H = base f args H := by
  unfold putLib; rw [h]; rfl
theorem rowLib_miss {f : Nat} : ∀ {l : List RowE}, (∀ x ∈ l, Nat.beq x.f f = false) → ∀ (args : List AV) (H : Heap), rowLib t base l f args H = base f args H
  | [], _, _, _ => rfl
  | x :: l, h, args, H => by
    unfold rowLib
    rw [h x (List.mem_cons_self ..), cond_false, rowLib_miss fun y hy => h y (List.mem_cons_of_mem _ hy)]
end
end

section
variable {P : Program}
def isK (k : IntKind) : AV → Bool
  | .int j (.ofNat _) => kEq j k
  | _ => false
def allB (p : AV → Bool) : List AV → Bool
  | [] => true
  | x :: l => cond (p x) (allB p l) false
def rowAt (H : Heap) (b : Nat) (f : Row → Bool) : Bool := cond (Nat.ble (b + 1) H.nx) (match H.t.get b with
  | some (.row q) => f q
  | _ => false) false
theorem isK_is {k : IntKind} {v : AV} (h : isK k v = true) : ∃ y, v = nI k y := by
  cases v with
  | int j a =>
    cases a with
    | ofNat a =>
      have h : kEq j k = true := h
      have : j = k := by cases j <;> cases k <;> first | rfl | (revert h; decide)
      subst this
      exact ⟨a, rfl⟩
    | negSucc a => cases h
  | _ => cases h
theorem allB_at {p : AV → Bool} : ∀ {l : List AV}, allB p l = true → ∀ {i : Nat} {v : AV}, l[i]? = some v → p v = true
  | [], _, i, v, h => by cases h
  | x :: l, h, i, v, hv => by
    have h : cond (p x) (allB p l) false = true := h
    cases hp : p x with
    | false => rw [hp] at h; cases h
    | true =>
      rw [hp] at h
      cases i with
      | zero => cases hv; exact hp
      | succ i => exact allB_at h hv
theorem cond_and {a b : Bool} (h : cond a b false = true) : a = true ∧ b = true := by cases a <;> cases b <;> first | exact ⟨rfl, rfl⟩ | cases h
theorem rowAt_is {H : Heap} {b : Nat} {f : Row → Bool} (h : rowAt H b f = true) : b < H.nx ∧ ∃ r, H.t.get b = some (.row r) ∧ f r = true := by
  obtain ⟨h1, h2⟩ := cond_and h
  refine ⟨Nat.le_of_ble_eq_true h1, ?_⟩
  split at h2
  · rename_i q hq; exact ⟨q, hq, h2⟩
  · cases h2
/-- the table's row -/
def tabB (H : Heap) (g : Nat) : Bool := rowAt H g fun q => cond (Nat.beq q.sz 1) (cond (Nat.ble 16 q.size) (allB (isK .u32) (loadN q 0 16)) false) false
/-- one part of bytes -/
def partB (H : Heap) : AV → Bool
  | .slice b o n _ => rowAt H b fun q => cond (Nat.beq q.sz 1) (cond (Nat.ble (o + n) q.size) (cond (Nat.ble n 4096) (allB (isK .u8) (loadN q o n)) false) false) false
  | _ => false
def crcArg (g : Nat) (args : List AV) (H : Heap) : Bool := match args with
  | [.slice b 0 1 _] => cond (Nat.ble H.ro H.nx) (cond (tabB H g) (rowAt H b fun q => cond (Nat.beq q.sz 1) (cond (Nat.ble 1 q.size) (partB H (q.get 0)) false) false) false) false
  | _ => false
/-- the table -/
def TabIs (H : Heap) (g : Nat) : Prop := g < H.nx ∧ ∃ r, H.t.get g = some (.row r) ∧ 16 ≤ r.size ∧ ∀ j, j < 16 → ∃ y, r.get j = nI .u32 y
def PartIs (H : Heap) (b o n : Nat) : Prop := b < H.nx ∧ ∃ r, H.t.get b = some (.row r) ∧ o + n ≤ r.size ∧ n ≤ 4096 ∧ ∀ j, j < n → ∃ y, r.get (o + j) = nI .u8 y
theorem tabB_is {H : Heap} {g : Nat} (h : tabB H g = true) : TabIs H g := by
  obtain ⟨h0, r, h1, h2⟩ := rowAt_is h
  obtain ⟨_, h3⟩ := cond_and h2
  obtain ⟨h4, h5⟩ := cond_and h3
  exact ⟨h0, r, h1, Nat.le_of_ble_eq_true h4, fun j hj => by
    have := loadN_get r 16 0 j hj
    rw [Nat.zero_add] at this
    exact isK_is (allB_at h5 this)⟩
theorem partB_is {H : Heap} {v : AV} (h : partB H v = true) : ∃ b o n c, v = .slice b o n c ∧ PartIs H b o n := by
  cases v with
  | slice b o n c =>
    obtain ⟨h0, r, h1, h2⟩ := rowAt_is h
    obtain ⟨_, h3⟩ := cond_and h2
    obtain ⟨h4, h5⟩ := cond_and h3
    obtain ⟨h6, h7⟩ := cond_and h5
    exact ⟨b, o, n, c, rfl, h0, r, h1, Nat.le_of_ble_eq_true h4, Nat.le_of_ble_eq_true h6, fun j hj => isK_is (allB_at h7 (loadN_get r n o j hj))⟩
  | _ => cases h
theorem crcArg_is {g : Nat} {args : List AV} {H : Heap} (h : crcArg g args H = true) : ∃ b c r pb po pn pc, args = [.slice b 0 1 c] ∧ H.ro ≤ H.nx ∧ TabIs H g ∧ b < H.nx ∧ H.t.get b = some (.row r) ∧ 1 ≤ r.size ∧ r.get 0 = .slice pb po pn pc ∧ PartIs H pb po pn := by
  unfold crcArg at h
  split at h
  · rename_i b c
    obtain ⟨h1, h2⟩ := cond_and h
    obtain ⟨h3, h4⟩ := cond_and h2
    obtain ⟨h5, r, h6, h7⟩ := rowAt_is h4
    obtain ⟨_, h8⟩ := cond_and h7
    obtain ⟨h9, ha⟩ := cond_and h8
    obtain ⟨pb, po, pn, pc, e, k⟩ := partB_is ha
    exact ⟨b, c, r, pb, po, pn, pc, rfl, Nat.le_of_ble_eq_true h1, tabB_is h3, h5, h6, Nat.le_of_ble_eq_true h9, e, k⟩
  · cases h
section
open Classical
def crcV (call : Nat → List AV → Heap → CR) (f : Nat) (args : List AV) (H : Heap) : Nat := if h : ∃ v, call f args H = .ret (nI .u32 v) H then h.choose else 0
end
def crcLib (g c : Nat) (call : Nat → List AV → Heap → CR) (base : Nat → List AV → Heap → Option CR) : Nat → List AV → Heap → Option CR := fun f args H =>
  cond (Nat.beq c f) (cond (crcArg g args H) (some (.ret (nI .u32 (crcV call c args H)) H)) (base f args H)) (base f args H)
theorem crcLib_ok {g c : Nat} {call : Nat → List AV → Heap → CR} {base : Nat → List AV → Heap → Option CR} (hcall : CallOk P call) (hb : LibOk P base) (h : ∀ args H, crcArg g args H = true → ∃ v, call c args H = .ret (nI .u32 v) H) : LibOk P (crcLib g c call base) := by
  intro f args H r hr σ w vs hs hv
  unfold crcLib at hr
  cases hf : Nat.beq c f with
  | false => rw [hf] at hr; exact hb f args H r hr σ w vs hs hv
  | true =>
    have := Nat.eq_of_beq_eq_true hf
    subst this
    rw [hf, cond_true] at hr
    cases ha : crcArg g args H with
    | false => rw [ha] at hr; exact hb _ args H r hr σ w vs hs hv
    | true =>
      rw [ha, cond_true] at hr
      cases hr
      have hx := h args H ha
      have e : call c args H = .ret (nI .u32 (crcV call c args H)) H := by
        unfold crcV; rw [dif_pos hx]; exact hx.choose_spec
      have := hcall c args H σ w vs hs hv
      rw [e] at this
      exact this
end
end
end Go.AI
