/- Running the interpreter's code on values that are not known: equations, proved without conditions but those that each names; what is looked up rank by rank. -/
import Derived.Test.YtobbpmaeiiblaaaGreatDoorP6
import Derived.Test.YtobbpmaeiiblaaaGreatDoorP5
set_option maxRecDepth 1000000
set_option maxHeartbeats 0
set_option linter.unusedVariables false
set_option linter.unusedSimpArgs false
namespace Go.AI
open Go
section
variable {α:Type}
namespace N8
theorem g00(f:α→α)(n:N8 α):a0 (u0 f n)=f (a0 n):=rfl
theorem g01(f:α→α)(n:N8 α):a0 (u1 f n)=a0 n:=rfl
theorem g02(f:α→α)(n:N8 α):a0 (u2 f n)=a0 n:=rfl
theorem g03(f:α→α)(n:N8 α):a0 (u3 f n)=a0 n:=rfl
theorem g04(f:α→α)(n:N8 α):a0 (u4 f n)=a0 n:=rfl
theorem g05(f:α→α)(n:N8 α):a0 (u5 f n)=a0 n:=rfl
theorem g06(f:α→α)(n:N8 α):a0 (u6 f n)=a0 n:=rfl
theorem g07(f:α→α)(n:N8 α):a0 (u7 f n)=a0 n:=rfl
theorem g10(f:α→α)(n:N8 α):a1 (u0 f n)=a1 n:=rfl
theorem g11(f:α→α)(n:N8 α):a1 (u1 f n)=f (a1 n):=rfl
theorem g12(f:α→α)(n:N8 α):a1 (u2 f n)=a1 n:=rfl
theorem g13(f:α→α)(n:N8 α):a1 (u3 f n)=a1 n:=rfl
theorem g14(f:α→α)(n:N8 α):a1 (u4 f n)=a1 n:=rfl
theorem g15(f:α→α)(n:N8 α):a1 (u5 f n)=a1 n:=rfl
theorem g16(f:α→α)(n:N8 α):a1 (u6 f n)=a1 n:=rfl
theorem g17(f:α→α)(n:N8 α):a1 (u7 f n)=a1 n:=rfl
theorem g20(f:α→α)(n:N8 α):a2 (u0 f n)=a2 n:=rfl
theorem g21(f:α→α)(n:N8 α):a2 (u1 f n)=a2 n:=rfl
theorem g22(f:α→α)(n:N8 α):a2 (u2 f n)=f (a2 n):=rfl
theorem g23(f:α→α)(n:N8 α):a2 (u3 f n)=a2 n:=rfl
theorem g24(f:α→α)(n:N8 α):a2 (u4 f n)=a2 n:=rfl
theorem g25(f:α→α)(n:N8 α):a2 (u5 f n)=a2 n:=rfl
theorem g26(f:α→α)(n:N8 α):a2 (u6 f n)=a2 n:=rfl
theorem g27(f:α→α)(n:N8 α):a2 (u7 f n)=a2 n:=rfl
theorem g30(f:α→α)(n:N8 α):a3 (u0 f n)=a3 n:=rfl
theorem g31(f:α→α)(n:N8 α):a3 (u1 f n)=a3 n:=rfl
theorem g32(f:α→α)(n:N8 α):a3 (u2 f n)=a3 n:=rfl
theorem g33(f:α→α)(n:N8 α):a3 (u3 f n)=f (a3 n):=rfl
theorem g34(f:α→α)(n:N8 α):a3 (u4 f n)=a3 n:=rfl
theorem g35(f:α→α)(n:N8 α):a3 (u5 f n)=a3 n:=rfl
theorem g36(f:α→α)(n:N8 α):a3 (u6 f n)=a3 n:=rfl
theorem g37(f:α→α)(n:N8 α):a3 (u7 f n)=a3 n:=rfl
theorem g40(f:α→α)(n:N8 α):a4 (u0 f n)=a4 n:=rfl
theorem g41(f:α→α)(n:N8 α):a4 (u1 f n)=a4 n:=rfl
theorem g42(f:α→α)(n:N8 α):a4 (u2 f n)=a4 n:=rfl
theorem g43(f:α→α)(n:N8 α):a4 (u3 f n)=a4 n:=rfl
theorem g44(f:α→α)(n:N8 α):a4 (u4 f n)=f (a4 n):=rfl
theorem g45(f:α→α)(n:N8 α):a4 (u5 f n)=a4 n:=rfl
theorem g46(f:α→α)(n:N8 α):a4 (u6 f n)=a4 n:=rfl
theorem g47(f:α→α)(n:N8 α):a4 (u7 f n)=a4 n:=rfl
theorem g50(f:α→α)(n:N8 α):a5 (u0 f n)=a5 n:=rfl
theorem g51(f:α→α)(n:N8 α):a5 (u1 f n)=a5 n:=rfl
theorem g52(f:α→α)(n:N8 α):a5 (u2 f n)=a5 n:=rfl
theorem g53(f:α→α)(n:N8 α):a5 (u3 f n)=a5 n:=rfl
theorem g54(f:α→α)(n:N8 α):a5 (u4 f n)=a5 n:=rfl
theorem g55(f:α→α)(n:N8 α):a5 (u5 f n)=f (a5 n):=rfl
theorem g56(f:α→α)(n:N8 α):a5 (u6 f n)=a5 n:=rfl
theorem g57(f:α→α)(n:N8 α):a5 (u7 f n)=a5 n:=rfl
theorem g60(f:α→α)(n:N8 α):a6 (u0 f n)=a6 n:=rfl
theorem g61(f:α→α)(n:N8 α):a6 (u1 f n)=a6 n:=rfl
theorem g62(f:α→α)(n:N8 α):a6 (u2 f n)=a6 n:=rfl
theorem g63(f:α→α)(n:N8 α):a6 (u3 f n)=a6 n:=rfl
theorem g64(f:α→α)(n:N8 α):a6 (u4 f n)=a6 n:=rfl
theorem g65(f:α→α)(n:N8 α):a6 (u5 f n)=a6 n:=rfl
theorem g66(f:α→α)(n:N8 α):a6 (u6 f n)=f (a6 n):=rfl
theorem g67(f:α→α)(n:N8 α):a6 (u7 f n)=a6 n:=rfl
theorem g70(f:α→α)(n:N8 α):a7 (u0 f n)=a7 n:=rfl
theorem g71(f:α→α)(n:N8 α):a7 (u1 f n)=a7 n:=rfl
theorem g72(f:α→α)(n:N8 α):a7 (u2 f n)=a7 n:=rfl
theorem g73(f:α→α)(n:N8 α):a7 (u3 f n)=a7 n:=rfl
theorem g74(f:α→α)(n:N8 α):a7 (u4 f n)=a7 n:=rfl
theorem g75(f:α→α)(n:N8 α):a7 (u5 f n)=a7 n:=rfl
theorem g76(f:α→α)(n:N8 α):a7 (u6 f n)=a7 n:=rfl
theorem g77(f:α→α)(n:N8 α):a7 (u7 f n)=f (a7 n):=rfl
end N8
end
section
theorem ZwT(f:OpF)(dst:ZD)(next:D)(c:Ctx)(tm:TM)(H:Heap)(x:X):Za f dst next c tm H x=Zal (next c) dst c tm H x (f tm H):=rfl
theorem ZwU(g:EvF)(b:Bool)(f:OpF)(dst:ZD)(next:D)(c:Ctx)(tm:TM)(H:Heap)(x:X):ZP g b f dst next c tm H x=Vh (g tm) b (Zal (next c) dst c tm H x (f tm H)) (next c (dst tm Yo) H x):=rfl
theorem ZtT(yes no:Res):Vh (.bool true) true yes no=yes:=rfl
theorem ZtU(yes no:Res):Vh (.bool false) false yes no=yes:=rfl
theorem ZtV(yes no:Res):Vh (.bool true) false yes no=no:=rfl
theorem ZtW(yes no:Res):Vh (.bool false) true yes no=no:=rfl
theorem ZwV(next:TM→Heap→X→Res)(dst:ZD)(c:Ctx)(tm:TM)(H:Heap)(x:X)(v:AV)(H':Heap):Zal next dst c tm H x (.val v H')=next (dst tm v) H' x:=rfl
theorem ZtX(next:TM→Heap→X→Res)(dst:ZD)(c:Ctx)(tm:TM)(H:Heap)(x:X)(f:Nat)(args:List AV)(H':Heap):Zal next dst c tm H x (.oth (.call f args H'))=Zjz next dst tm x (c.call f args H'):=rfl
theorem Zef(next:TM→Heap→X→Res)(dst:ZD)(tm:TM)(x:X)(v:AV)(H:Heap):Zjz next dst tm x (.ret v H)=next (dst tm v) H x:=rfl
theorem ZwW(a b:D)(c:Ctx)(tm:TM)(H:Heap)(x:X):Zg a b c tm H x=QH (a c tm H x) (b c):=rfl
theorem Vm(tm:TM)(H:Heap)(x:X)(k:TM→Heap→X→Res):QH (.ok .normal tm H x) k=k tm H x:=rfl
theorem ZtY(tm:TM)(H:Heap)(x:X)(k:TM→Heap→X→Res):QH (.ok .ret tm H x) k= .ok .ret tm H x:=rfl
theorem Zq1(i:Nat)(tm:TM)(H:Heap)(x:X)(k:TM→Heap→X→Res):QH (.ok (.exit i) tm H x) k= .ok (.exit i) tm H x:=rfl
theorem ZtZ(c:Ctx)(tm:TM)(H:Heap)(x:X):Zb c tm H x= .ok .normal tm H x:=rfl
theorem ZwX(c:Ctx)(tm:TM)(H:Heap)(x:X):Z2 c tm H x= .ok .ret tm H x:=rfl
theorem Zt0(i:Nat)(c:Ctx)(tm:TM)(H:Heap)(x:X):WQ i c tm H x= .ok (.exit i) tm H x:=rfl
theorem Zt1(q:EvF)(a b:D)(c:Ctx)(tm:TM)(H:Heap)(x:X):ZJ q a b c tm H x=Znp (q tm) fun v=>Zgg (a c) (b c) v tm H x:=rfl
theorem Zt2(b:Bool)(k:Bool→Res):Znp (.bool b) k=k b:=rfl
theorem Zq2(a b:TM→Heap→X→Res)(tm:TM)(H:Heap)(x:X):Zgg a b true tm H x=a tm H x:=rfl
theorem ZpC(a b:TM→Heap→X→Res)(tm:TM)(H:Heap)(x:X):Zgg a b false tm H x=b tm H x:=rfl
theorem Zq3(i:Nat)(a:D)(c:Ctx)(tm:TM)(H:Heap)(x:X):Z9 i a c tm H x=QY i (a c tm H x):=rfl
theorem Zt3(a:D)(c:Ctx)(tm:TM)(H:Heap)(x:X):WV a c tm H x=WC (a c) c.fuel tm H x:=rfl
theorem ZlT(i:Nat)(tm:TM)(H:Heap)(x:X):QY i (.ok .normal tm H x)= .ok .normal tm H x:=rfl
theorem VN(i:Nat)(tm:TM)(H:Heap)(x:X):QY i (.ok (.exit i) tm H x)= .ok .normal tm H x:=by
 show @Bool.rec (fun _=>Res) (.ok (.exit i) tm H x) (.ok .normal tm H x) (Nat.beq i i)=_
 rw[Nat.beq_refl]
theorem Zq4(i:Nat)(tm:TM)(H:Heap)(x:X):QY i (.ok .ret tm H x)= .ok .ret tm H x:=rfl
theorem ZB4(tm:TM)(v:AV):d0 tm v=tm:=rfl
theorem ZDL(v:AV)(tm:TM):k v tm=v:=rfl
theorem ZzI:Ub []=tm0:=rfl
theorem ZzJ(a:AV):Ub [a]=st0 tm0 a:=rfl
theorem ZzK(a b:AV):Ub [a,b]=st1 (st0 tm0 a) b:=rfl
theorem ZzL(a b c:AV):Ub [a,b,c]=st2 (st1 (st0 tm0 a) b) c:=rfl
theorem ZzM(a b c d:AV):Ub [a,b,c,d]=st3 (st2 (st1 (st0 tm0 a) b) c) d:=rfl
theorem ZzN(tm:TM):evs tm []=[]:=rfl
theorem ZwY(tm:TM)(f:EvF)(l:List EvF):evs tm (f::l)=f tm::evs tm l:=rfl
theorem ZV{lib:Nat→List AV→Heap→Option CR}{fs:T CF}{fuel n f:Nat}{args:List AV}{H:Heap}{cf:CF}(hl:lib f args H=none)(hf:fs.get f=some cf):ZQ lib fs fuel (n+1) f args H=
  ZcH (fun pn g as H=>ZhS .fail fs g fun cg=>ZhR pn cg.rs (cg.body ⟨ZQ lib fs fuel n,Y1,WI,fuel,false⟩ (Ub as) H ⟨[],pn⟩))
   cf.rs (cf.body ⟨ZQ lib fs fuel n,Y1,UI fs fuel (ZQ lib fs fuel n),fuel,false⟩ (Ub args) H ⟨[],none⟩):=by
 show Zsk (lib f args H) _=_
 rw[hl]
 unfold ZhS
 rw[hf]
 rfl
theorem ZwZ(dc:Option AV→Nat→List AV→Heap→DR)(rs:List (EvF×Option (Nat×Bool)))(tm:TM)(H:Heap)(rc:Option AV):ZcH dc rs (.ok .ret tm H ⟨[],rc⟩)=results rs tm H:=rfl
theorem ZpD(dc:Option AV→Nat→List AV→Heap→DR)(rs:List (EvF×Option (Nat×Bool)))(tm:TM)(H:Heap)(rc:Option AV):ZcH dc rs (.ok .normal tm H ⟨[],rc⟩)=results rs tm H:=rfl
theorem ZpE(f:EvF)(tm:TM)(H:Heap):results [(f,none)] tm H= .ret (f tm) H:=rfl
theorem ZnZ(tm:TM)(H:Heap):results [] tm H= .ret (.tup []) H:=rfl
theorem ZzO(x:EvF)(tm:TM)(H:Heap):oMv x tm H= .val (x tm) H:=rfl
noncomputable def ZB5(a:AV)(H:Heap):OR:=QG a fun k a=>Vv k (Zkb 0 a) H
noncomputable def ZjS(k:IntKind)(a:AV)(H:Heap):OR:=QG a fun _ a=>Vv k a H
noncomputable def Zq5(a b:AV)(H:Heap):OR:=match a with
 | .int j a=>QG b fun l b=>ZR (kEq j l) (Vv j (Zqs a b) H)
 | .str a=>Za6 b fun b=>ZR (Nat.ble (Nat.add (Yi a) (Yi b)) 4611686018427387904) (.val (.str (a++b)) H)
 |_=> .fail
noncomputable def ZzP(a b:AV)(H:Heap):OR:=ZhJ a b fun k a b=>Vv k (Zkb a b) H
noncomputable def ZzQ(a b:AV)(H:Heap):OR:=ZhJ a b fun k a b=>Vv k (ZhG a b) H
noncomputable def Zw0(a b:AV)(H:Heap):OR:=ZhJ a b fun k a b=>cond (ieq b 0) .fail (Vv k (ZBu a b) H)
noncomputable def Zw1(a b:AV)(H:Heap):OR:=ZhJ a b fun k a b=>cond (ieq b 0) .fail (Zak (ZBv a b) fun n=> .val (.int k n) H)
noncomputable def ZmH(f:Nat→Nat→Nat→Nat)(a b:AV)(H:Heap):OR:=ZhJ a b fun k a b=>Vv k (.ofNat (f (ZaH k) (Zb2 (ZaH k) a) (Zb2 (ZaH k) b))) H
noncomputable def Zq6(a b:AV)(H:Heap):OR:=QG a fun k a=>Qj b fun b=>Vv k (ZhG a (.ofNat (Nat.pow 2 (cond (Nat.ble b 64) b 64)))) H
noncomputable def Zt4(a b:AV)(H:Heap):OR:=QG a fun k a=>Qj b fun b=>Zak (ZBw a (Zdx b (Zsg k))) fun n=> .val (.int k n) H
noncomputable def ZBg(a:AV)(H:Heap):OR:=QG a fun k a=>Vv k (.ofNat (Nat.sub (Nat.sub (ZaH k) 1) (Zb2 (ZaH k) a))) H
noncomputable def ZcR(f:Int→Int→Bool)(g:List UInt8→List UInt8→Bool)(a b:AV)(H:Heap):OR:=match a with
 | .int j a=>QG b fun l b=>ZR (kEq j l) (Uh (f a b) H)
 | .str a=>Za6 b fun b=>Uh (g a b) H
 |_=> .fail
noncomputable def eqV(f:AV→AV→Option Bool)(neg:Bool)(a b:AV)(H:Heap):OR:=VZ (f a b) fun b=>Uh (cond neg (cond b false true) b) H
noncomputable def ZzR(a:AV)(H:Heap):OR:=ZhH a fun b=> .val (.bool (cond b false true)) H
noncomputable def ZmI(a b c:AV)(H:Heap):OR:=ZhH a fun t=> .val (cond t b c) H
theorem Zw2(x:EvF)(tm:TM)(H:Heap):Ztf x tm H=ZB5 (x tm) H:=rfl
theorem Zw3(x:EvF)(k:IntKind)(tm:TM)(H:Heap):Vg x k tm H=ZjS k (x tm) H:=rfl
theorem Zt5(x y:EvF)(tm:TM)(H:Heap):Yj x y tm H=Zq5 (x tm) (y tm) H:=rfl
theorem Zw4(x y:EvF)(tm:TM)(H:Heap):WT x y tm H=ZzP (x tm) (y tm) H:=rfl
theorem Zw5(x y:EvF)(tm:TM)(H:Heap):ZcC x y tm H=ZzQ (x tm) (y tm) H:=rfl
theorem Zw6(x y:EvF)(tm:TM)(H:Heap):ZhK x y tm H=Zw0 (x tm) (y tm) H:=rfl
theorem Zw7(x y:EvF)(tm:TM)(H:Heap):Zkd x y tm H=Zw1 (x tm) (y tm) H:=rfl
theorem Zt6(x y:EvF)(f:Nat→Nat→Nat→Nat)(tm:TM)(H:Heap):Y6 x y f tm H=ZmH f (x tm) (y tm) H:=rfl
theorem Zw8(x y:EvF)(tm:TM)(H:Heap):ZaS x y tm H=Zq6 (x tm) (y tm) H:=rfl
theorem Zw9(x y:EvF)(tm:TM)(H:Heap):Zke x y tm H=Zt4 (x tm) (y tm) H:=rfl
theorem Zt7(x:EvF)(tm:TM)(H:Heap):Zvu x tm H=ZBg (x tm) H:=rfl
theorem Zxa(x y:EvF)(f:Int→Int→Bool)(g:List UInt8→List UInt8→Bool)(tm:TM)(H:Heap):Yh x y f g tm H=ZcR f g (x tm) (y tm) H:=rfl
theorem ZzS(x y:EvF)(f:AV→AV→Option Bool)(neg:Bool)(tm:TM)(H:Heap):oEq x y f neg tm H=eqV f neg (x tm) (y tm) H:=rfl
theorem Zxb(x:EvF)(tm:TM)(H:Heap):ZbH x tm H=ZzR (x tm) H:=rfl
theorem Zt8(x y z:EvF)(tm:TM)(H:Heap):Z6 x y z tm H=ZmI (x tm) (y tm) (z tm) H:=rfl
theorem Zq7(f:Nat)(args:List EvF)(tm:TM)(H:Heap):Zq f args tm H= .oth (.call f (evs tm args) H):=rfl
theorem V6(b:Bool)(H:Heap):Uh b H= .val (.bool b) H:=by cases b<;>rfl
theorem YU(k:IntKind)(n:Int)(H:Heap):Vv k n H= .val (.int k (k.wrap n)) H:=by simp only[Vv,QK,Zbu]
theorem Zis(k:IntKind)(m n:Nat):Zl1 k m (.ofNat n)= .ofNat (n % m):=by
 show cond (Nat.ble m n) (Int.ofNat (Nat.mod n m)) (.ofNat n)=_
 cases h:Nat.ble m n with
 |true=>rfl
 |false=>
  have:n<m:=by
   have h2: ¬m≤n:=fun hh=>by rw[Zj hh] at h;cases h
   omega
  rw[ZX this];rfl
theorem Zj3(n:Nat):IntKind.u8.wrap (.ofNat n)= .ofNat (n % 256):=by rw[←Zbu];exact Zis .u8 256 n
theorem Zeg(n:Nat):IntKind.u32.wrap (.ofNat n)= .ofNat (n % 4294967296):=by rw[←Zbu];exact Zis .u32 4294967296 n
theorem Zbz(n:Nat):IntKind.u64.wrap (.ofNat n)= .ofNat (n % 18446744073709551616):=by rw[←Zbu];exact Zis .u64 18446744073709551616 n
theorem Zcu{n:Nat}(h:n<9223372036854775808):IntKind.i64.wrap (.ofNat n)= .ofNat n:=by
 rw[←Zbu]
 show cond (Nat.ble 9223372036854775808 n) _ (Int.ofNat n)=_
 cases h2:Nat.ble 9223372036854775808 n with
 |true=>have:=ZN h2;omega
 |false=>rfl
theorem Zk8(a b:Nat):Zqs (.ofNat a) (.ofNat b)= .ofNat (a+b):=rfl
theorem Zk9(a b:Nat):ZhG (.ofNat a) (.ofNat b)= .ofNat (a*b):=rfl
theorem Zxc{a b:Nat}(h:b≤a):Zkb (.ofNat a) (.ofNat b)= .ofNat (a - b):=by
 show cond (Nat.ble b a) (Int.ofNat (Nat.sub a b)) (Int.ofNat a - Int.ofNat b)=_
 rw[Zj h];rfl
theorem ZeB(a b:Nat):ilt (.ofNat a) (.ofNat b)=decide (a<b):=by
 show Nat.ble (Nat.succ a) b=_
 cases h:Nat.ble (Nat.succ a) b with
 |true=>have:=ZN h;exact(Zh this).symm
 |false=>
  have h2: ¬Nat.succ a≤b:=fun hh=>by rw[Zj hh] at h;cases h
  exact(Zc h2).symm
theorem ZbX(a b:Nat):ieq (.ofNat a) (.ofNat b)=decide (a=b):=Z3 a b
theorem YH(k:IntKind):kEq k k=true:=by cases k<;>rfl
def i64(n:Nat):AV:=nI .i64 n
def u8V(x:UInt8):AV:= .int .u8 (.ofNat x.toNat)
def Zf1(x:UInt32):AV:= .int .u32 (.ofNat x.toNat)
def ZzT(x:UInt64):AV:= .int .u64 (.ofNat x.toNat)
theorem Yt{a b:Nat}(h:a+b<9223372036854775808)(H:Heap):Zq5 (nI .i64 a) (nI .i64 b) H= .val (nI .i64 (a+b)) H:=by
 show ZR (kEq .i64 .i64) (Vv .i64 (Zqs (.ofNat a) (.ofNat b)) H)=_
 rw[YH,YU,Zk8,Zcu h];rfl
theorem YX{a b:Nat}(h:b≤a)(h2:a<9223372036854775808)(H:Heap):ZzP (nI .i64 a) (nI .i64 b) H= .val (nI .i64 (a - b)) H:=by
 show ZR (kEq .i64 .i64) (Vv .i64 (Zkb (.ofNat a) (.ofNat b)) H)=_
 rw[YH,YU,Zxc h,Zcu (by omega)];rfl
theorem Zla{a b:Nat}(h:a*b<9223372036854775808)(H:Heap):ZzQ (nI .i64 a) (nI .i64 b) H= .val (nI .i64 (a*b)) H:=by
 show ZR (kEq .i64 .i64) (Vv .i64 (ZhG (.ofNat a) (.ofNat b)) H)=_
 rw[YH,YU,Zk9,Zcu h];rfl
theorem ZB6{a b:Nat}(h:0<b)(H:Heap):Zw1 (nI .i64 a) (nI .i64 b) H= .val (nI .i64 (a % b)) H:=by
 show ZR (kEq .i64 .i64) (cond (ieq (.ofNat b) (.ofNat 0)) .fail (Zak (.ofNat (Nat.mod a b)) fun n=> .val (.int .i64 n) H))=_
 rw[YH,ZbX,Zc (by omega),QK];rfl
theorem ZB7{a b:Nat}(h:0<b)(h2:a<9223372036854775808)(H:Heap):Zw0 (nI .i64 a) (nI .i64 b) H= .val (nI .i64 (a/b)) H:=by
 show ZR (kEq .i64 .i64) (cond (ieq (.ofNat b) (.ofNat 0)) .fail (Vv .i64 (.ofNat (Nat.div a b)) H))=_
 rw[YH,ZbX,Zc (by omega),YU,show(Int.ofNat (Nat.div a b))=Int.ofNat (a/b) from rfl,Zcu (Nat.lt_of_le_of_lt (Nat.div_le_self a b) h2)];rfl
theorem ZU(k:IntKind)(a b:Nat)(H:Heap):ZcR YY Yd (nI k a) (nI k b) H= .val (.bool (decide (a<b))) H:=by
 show ZR (kEq k k) (Uh (ilt (.ofNat a) (.ofNat b)) H)=_
 rw[YH,V6,ZeB];rfl
theorem YO(k:IntKind)(a b:Nat)(H:Heap):ZcR UF WU (nI k a) (nI k b) H= .val (.bool (decide (b≤a))) H:=by
 show ZR (kEq k k) (Uh (!ilt (.ofNat a) (.ofNat b)) H)=_
 rw[YH,V6,ZeB]
 show OR.val (.bool (!decide (a<b))) H=_
 congr 2
 by_cases h:a<b
 ·rw[Zh h,Zc (by omega)];rfl
 ·rw[Zc h,Zh (by omega)];rfl
theorem ZcS(k:IntKind)(a b:Nat)(H:Heap):eqV eqI true (nI k a) (nI k b) H= .val (.bool (decide (a≠b))) H:=by
 show VZ (cond (kEq k k) (some (ieq (.ofNat a) (.ofNat b))) none) _=_
 rw[YH,ZbX]
 show Uh (cond true (cond (decide (a=b)) false true) (decide (a=b))) H=_
 rw[V6]
 congr 2
 by_cases h:a=b
 ·rw[Zh h,Zc (by omega)];rfl
 ·rw[Zc h,Zh h];rfl
theorem ZW(k:IntKind)(a b:Nat)(H:Heap):eqV eqI false (nI k a) (nI k b) H= .val (.bool (decide (a=b))) H:=by
 show VZ (cond (kEq k k) (some (ieq (.ofNat a) (.ofNat b))) none) _=_
 rw[YH,ZbX]
 exact V6 _ _
theorem ZzU(a b:UInt32)(H:Heap):Zq5 (Zf1 a) (Zf1 b) H= .val (Zf1 (a+b)) H:=by
 show ZR (kEq .u32 .u32) (Vv .u32 (Zqs (.ofNat a.toNat) (.ofNat b.toNat)) H)=_
 rw[YH,YU,Zk8,Zeg];unfold Zf1;rw[UInt32.toNat_add];rfl
end
end Go.AI
namespace Go.AI
open Go
section
structure Cells(r:Row)(l:List AV):Prop where
 size:r.size=l.length
 get: ∀i,i<l.length→r.get i=l.getD i .unk
theorem Cells.load{r:Row}{l:List AV}(h:Cells r l){o n:Nat}(hn:o+n≤l.length):loadN r o n=(l.drop o).take n:=by
 refine List.ext_getElem? fun j=>?_
 by_cases hj:j<n
 ·rw[VC r n o j hj,List.getElem?_take_of_lt hj,List.getElem?_drop,h.get (o+j) (by omega),Zi]
  rw[Zp (show o+j<l.length by omega)];rfl
 ·rw[List.getElem?_eq_none (by rw[VM];omega),List.getElem?_eq_none (by rw[List.length_take,List.length_drop];omega)]
theorem Cells.store{r:Row}{l:List AV}(h:Cells r l){o:Nat}{vs:List AV}(ho:o+vs.length≤l.length):Cells (r.setCells (Y4 r.cells o vs)) (l.take o++(vs++l.drop (o+vs.length))):=by
 have hlen:(l.take o++(vs++l.drop (o+vs.length))).length=l.length:=by
  rw[Zx,Zx,List.length_take,List.length_drop];omega
 refine⟨by rw[hlen];exact h.size,fun i hi=>?_⟩
 rw[hlen] at hi
 rw[Row.get_eq]
 show((Y4 r.cells o vs).get i).getD r.dflt=_
 rw[UO,Zi]
 by_cases h1:o≤i∧i<o+vs.length
 ·rw[if_pos h1,List.getElem?_append_right (by rw[List.length_take];omega),List.length_take,Nat.min_eq_left (by omega),List.getElem?_append_left (by omega),
   Zp (show i - o<vs.length by omega)];rfl
 ·rw[if_neg h1]
  have h2:=h.get i hi
  rw[Row.get_eq,Zi] at h2
  rw[h2]
  by_cases h3:i<o
  ·rw[List.getElem?_append_left (by rw[List.length_take];omega),List.getElem?_take_of_lt h3]
  ·rw[List.getElem?_append_right (by rw[List.length_take];omega),List.length_take,Nat.min_eq_left (by omega),List.getElem?_append_right (by omega),List.getElem?_drop,
    show o+vs.length+(i - o - vs.length)=i by omega]
theorem Cells.new(e sz:Nat)(l:List AV)(fz:Nat)(sm own ex:Bool):Cells ⟨e,sz,Yi l,T.ofList l, .unk,fz,sm,own,ex⟩ l:=by
 refine⟨Ye l,fun i hi=>?_⟩
 rw[Row.get_eq]
 show((T.ofList l).get i).getD .unk=_
 rw[T.get_ofList,Zi]
theorem Cells.zero(e n:Nat)(v:AV)(fz:Nat)(sm own ex:Bool):Cells ⟨e,1,n, .leaf,v,fz,sm,own,ex⟩ (List.replicate n v):=by
 refine⟨by simp,fun i hi=>?_⟩
 rw[List.length_replicate] at hi
 rw[Row.get_eq]
 show((T.leaf:T AV).get i).getD v=_
 rw[T.get_leaf,Zi,List.getElem?_replicate,if_pos hi];rfl
structure Own(H:Heap)(b e:Nat)(l:List AV)(r:Row):Prop where
 at_:H.t.get b=some (.row r)
 elem:r.elem=e
 sz:r.sz=1
 own:r.own=true
 fz:r.fz=0
 sm:r.sm=false
 cells:Cells r l
 ro:H.ro≤b
noncomputable def Zit(a:AV)(H:Heap):OR:=QV a fun b o=>Yr H b fun r=>ZR (Nat.ble (Nat.succ o) r.size) (.val (r.get o) H)
noncomputable def ZmJ(n:Nat)(a:AV)(H:Heap):OR:=QV a fun b o=>Yr H b fun r=>ZR (Nat.ble (Nat.add o n) r.size) (.val (.agg (loadN r o n)) H)
noncomputable def Zn0(n:Nat)(a v:AV)(H:Heap):OR:=QV a fun b o=>Yr H b fun r=>
 ZR (Nat.ble 1 n)<|ZR (H.may r b) (ZR (Nat.ble (Nat.add o n) r.size) (ZR (Nat.ble r.fz o) (ZR (Nat.beq (Yi v.cells) n)
  (.val Yo (H.put b (.row (r.setCells (Y4 r.cells o v.cells))))))))
def ZzV(n:Nat)(a:AV)(H:Heap):OR:=QV a fun b o=> .val (.ptr b (Nat.add o n)) H
def ZsG(n sz:Nat)(a i:AV)(H:Heap):OR:=Qj i fun i=>QV a fun b o=>ZR (Nat.ble (Nat.succ i) n) (.val (.ptr b (Nat.add o (Nat.mul i sz))) H)
def Zlb(sz:Nat)(a i:AV)(H:Heap):OR:=Qj i fun i=>Vu a .fail fun b o len _=>ZR (Nat.ble (Nat.succ i) len) (.val (.ptr b (Nat.add o (Nat.mul i sz))) H)
def ZzW(a:AV)(H:Heap):OR:=Znk a (.val a H)
noncomputable def Za2(a:AV)(H:Heap):OR:=Vu a (.val (.int .i64 0) H) fun _ _ n _=>UD n fun n=> .val (.int .i64 (.ofNat n)) H
theorem Zq8(x:EvF)(tm:TM)(H:Heap):Zz x tm H=Zit (x tm) H:=rfl
theorem Zt9(x:EvF)(n:Nat)(tm:TM)(H:Heap):Z8 x n tm H=ZmJ n (x tm) H:=rfl
theorem Zq9(x y:EvF)(n:Nat)(tm:TM)(H:Heap):ZS x y n tm H=Zn0 n (x tm) (y tm) H:=rfl
theorem Zxd(x:EvF)(n:Nat)(tm:TM)(H:Heap):Z7 x n tm H=ZzV n (x tm) H:=rfl
theorem Zua(x y:EvF)(n sz:Nat)(tm:TM)(H:Heap):ZeZ x y n sz tm H=ZsG n sz (x tm) (y tm) H:=rfl
theorem Zub(x y:EvF)(sz:Nat)(tm:TM)(H:Heap):Y7 x y sz tm H=Zlb sz (x tm) (y tm) H:=rfl
theorem Zxe(x:EvF)(tm:TM)(H:Heap):YC x tm H=ZzW (x tm) H:=rfl
theorem Zuc(x:EvF)(tm:TM)(H:Heap):Wo x tm H=Za2 (x tm) H:=rfl
theorem ZpF(e n:Nat)(v:AV)(tm:TM)(H:Heap):ZjU e n v tm H= .val (.ptr H.nx 0) (H.new (.row ⟨e,1,n, .leaf,v,0,false,true,true⟩)):=rfl
theorem Zra(e:Nat)(cs:List AV)(h:1≤Yi cs)(tm:TM)(H:Heap):Yk e cs tm H= .val (.ptr H.nx 0) (H.newRow e 1 cs true):=by
 show ZR (Nat.ble 1 (Yi cs)) _=_
 rw[Zj h];rfl
theorem Zxf(n b o:Nat)(H:Heap):ZzV n (.ptr b o) H= .val (.ptr b (o+n)) H:=rfl
theorem Zxg(b o:Nat)(H:Heap):ZzW (.ptr b o) H= .val (.ptr b o) H:=rfl
theorem Vb(b o n:Nat)(c:Option Nat)(H:Heap):Za2 (.slice b o n c) H= .val (nI .i64 n) H:=by
 show UD n (fun n=>OR.val (.int .i64 (.ofNat n)) H)=_
 rw[Zbk];rfl
theorem ZbA(H:Heap):Za2 .nils H= .val (nI .i64 0) H:=rfl
theorem VF{n i:Nat}(h:i<n)(b o:Nat)(k:IntKind)(H:Heap):ZsG n 1 (.ptr b o) (nI k i) H= .val (.ptr b (o+i)) H:=by
 show ZR (Nat.ble (Nat.succ i) n) (.val (.ptr b (o+i*1)) H)=_
 rw[Zj h,Nat.mul_one];rfl
theorem We{n i:Nat}(h:i<n)(b o:Nat)(c:Option Nat)(k:IntKind)(H:Heap):Zlb 1 (.slice b o n c) (nI k i) H= .val (.ptr b (o+i)) H:=by
 show ZR (Nat.ble (Nat.succ i) n) (.val (.ptr b (o+i*1)) H)=_
 rw[Zj h,Nat.mul_one];rfl
theorem Zrb{H:Heap}{b o:Nat}{r:Row}{l:List AV}(hr:H.t.get b=some (.row r))(hc:Cells r l)(ho:o<l.length):Zit (.ptr b o) H= .val (l.getD o .unk) H:=by
 show Yr H b _=_
 unfold Yr
 rw[hr]
 show ZR (Nat.ble (Nat.succ o) r.size) _=_
 rw[hc.size,Zj ho,hc.get o ho];rfl
theorem Zud{H:Heap}{b o n:Nat}{r:Row}{l:List AV}(hr:H.t.get b=some (.row r))(hc:Cells r l)(ho:o+n≤l.length):ZmJ n (.ptr b o) H= .val (.agg ((l.drop o).take n)) H:=by
 show Yr H b _=_
 unfold Yr
 rw[hr]
 show ZR (Nat.ble (o+n) r.size) _=_
 rw[hc.size,Zj ho,hc.load ho];rfl
theorem ZcT(H:Heap)(b c:Nat)(o:Obj):(H.put b o).t.get c=if b=c then some o else H.t.get c:=T.get_set _ _ _ _
theorem ZaC(H:Heap)(c:Nat)(o:Obj):(H.new o).t.get c=if H.nx=c then some o else H.t.get c:=T.get_set _ _ _ _
theorem Zrc(H:Heap)(b:Nat)(o:Obj):(H.put b o).nx=H.nx:=rfl
theorem Zxh(H:Heap)(b:Nat)(o:Obj):(H.put b o).ro=H.ro:=rfl
theorem Vn(H:Heap)(o:Obj):(H.new o).nx=H.nx+1:=rfl
theorem Zxi(H:Heap)(o:Obj):(H.new o).ro=H.ro:=rfl
theorem Zcv(H:Heap)(e sz:Nat)(l:List AV)(ex:Bool):H.newRow e sz l ex=H.new (.row ⟨e,sz,Yi l,T.ofList l, .unk,0,false,true,ex⟩):=rfl
end
end Go.AI
namespace Go.AI
open Go
section
theorem Zrd(l:List PI)(c:Ctx)(tm:TM)(H:Heap)(x:X):Yy l c tm H x=WD (l.map (·.dst)) ZdB l c [] tm H x:=rfl
theorem Zue(ds:List ZD)(fin:PK)(c:Ctx)(rs:List RD)(tm:TM)(H:Heap)(x:X):WD ds fin [] c rs tm H x=cond (still tm H rs) (fin rs tm H x) .fail:=rfl
theorem Zre(ds:List ZD)(fin:PK)(p:PI)(l:List PI)(c:Ctx)(rs:List RD)(tm:TM)(H:Heap)(x:X):WD ds fin (p::l) c rs tm H x=Ui ds p (WD ds fin l c) c rs tm H x:=rfl
theorem Zuf(rs:List RD)(tm:TM)(H:Heap)(x:X):ZdB rs tm H x= .ok .normal tm H x:=rfl
section
variable (ds:List ZD) (f:OpF) (os:List (ZD×EvF)) (dst:ZD) (i bef:Nat) (nx:PK) (c:Ctx) (rs:List RD) (tm:TM) (H:Heap) (x:X)
theorem Zrf:Ui ds ⟨f,none,os,dst, .free,i,bef⟩ nx c rs tm H x=cond (U7 H.nx tm os) (ZdA ⟨f,none,os,dst, .free,i,bef⟩ nx rs tm H x (f (rsF tm os) ⟨H.nx, .leaf,H.nx⟩)) .fail:=rfl
theorem Zrg:Ui ds ⟨f,none,os,dst, .read,i,bef⟩ nx c rs tm H x=Zgh ⟨f,none,os,dst, .read,i,bef⟩ nx rs tm H x (f (rsF tm os) ⟨H.nx,H.t,H.nx⟩):=rfl
theorem Zug:Ui ds ⟨f,none,os,dst, .eff,i,bef⟩ nx c rs tm H x=cond (still tm H rs) (Zgi ds ⟨f,none,os,dst, .eff,i,bef⟩ nx rs c tm x (f (rsF tm os) H)) .fail:=rfl
variable (g:Option (EvF×Bool)) (kd:ZfH) (v:AV) (H':Heap)
theorem Zuh:ZdA ⟨f,g,os,dst,kd,i,bef⟩ nx rs tm H x (.val v ⟨H.nx, .leaf,H.nx⟩)=nx rs (dst tm v) H x:=by
 show cond (Nat.beq H.nx H.nx) (nx rs (dst tm v) H x) _=_
 rw[Nat.beq_refl];rfl
theorem Zxj:Zgi ds ⟨f,g,os,dst,kd,i,bef⟩ nx rs c tm x (.val v H')=nx (WW bef rs) (dst tm v) H' x:=rfl
theorem Zui(q:Nat)(args:List AV):Zgi ds ⟨f,g,os,dst,kd,i,bef⟩ nx rs c tm x (.oth (.call q args H'))=Zkh ds ⟨f,g,os,dst,kd,i,bef⟩ nx rs tm x (c.call q args H'):=rfl
theorem Zxk:Zkh ds ⟨f,g,os,dst,kd,i,bef⟩ nx rs tm x (.ret v H')=nx (WW bef rs) (dst tm v) H' x:=rfl
theorem Zuj(b:Nat):WW b []=[]:=rfl
theorem Zrh(b:Nat):WW b (⟨⟨f,g,os,dst,kd,i,bef⟩,v⟩::rs)=cond (Nat.testBit b i) (WW b rs) (⟨⟨f,g,os,dst,kd,i,bef⟩,v⟩::WW b rs):=rfl
theorem Zuk:still tm H []=true:=rfl
theorem Zri:still tm H (⟨⟨f,g,os,dst,kd,i,bef⟩,v⟩::rs)=cond (ZoL ⟨⟨f,g,os,dst,kd,i,bef⟩,v⟩ tm H) (still tm H rs) false:=rfl
noncomputable def WG(r:OR)(w:AV)(n:Nat):Bool:=OR.rec (fun v H1=>cond (Nat.beq H1.nx n) (same v w) false) (fun _=>false) r
theorem Zxl:ZoL ⟨⟨f,g,os,dst,kd,i,bef⟩,v⟩ tm H=WG (f (rsF tm os) ⟨H.nx,H.t,H.nx⟩) v H.nx:=rfl
end
theorem Vt(v:AV)(n:Nat)(t:T Obj)(h:same v v=true):WG (.val v ⟨n,t,n⟩) v n=true:=by
 show cond (Nat.beq n n) (same v v) false=true
 rw[Nat.beq_refl,h];rfl
theorem Zhk(k:IntKind)(n:Int):same (.int k n) (.int k n)=true:=by
 show cond (kEq k k) (ieq n n) false=true
 rw[YH,ZaZ];simp
theorem Zxm(x:UInt32):same (Zf1 x) (Zf1 x)=true:=Zhk ..
theorem ZzX(x:UInt8):same (u8V x) (u8V x)=true:=Zhk ..
theorem ZsH(k:IntKind)(n:Nat):same (nI k n) (nI k n)=true:=Zhk ..
theorem Zrj(v:UInt32)(n:Nat)(t:T Obj):WG (.val (Zf1 v) ⟨n,t,n⟩) (Zf1 v) n=true:=Vt _ _ _ (Zxm v)
theorem Zul(v:UInt8)(n:Nat)(t:T Obj):WG (.val (u8V v) ⟨n,t,n⟩) (u8V v) n=true:=Vt _ _ _ (ZzX v)
theorem ZmK(k:IntKind)(v:Nat)(n:Nat)(t:T Obj):WG (.val (nI k v) ⟨n,t,n⟩) (nI k v) n=true:=Vt _ _ _ (ZsH k v)
theorem Zum(n:Nat)(tm:TM):U7 n tm []=true:=rfl
theorem Zrk(n:Nat)(tm:TM)(s:ZD)(g:EvF)(os:List (ZD×EvF)):U7 n tm ((s,g)::os)=cond (Yn n (g tm)) (U7 n tm os) false:=rfl
theorem ZzY(n:Nat)(k:IntKind)(m:Nat):Yn n (nI k m)=true:=rfl
theorem Zxn(n:Nat)(x:UInt32):Yn n (Zf1 x)=true:=rfl
theorem ZzZ(n:Nat)(x:UInt8):Yn n (u8V x)=true:=rfl
theorem Zun(n:Nat)(x:Bool):Yn n (.bool x)=true:=rfl
theorem ZO{n b:Nat}(h:b<n)(o:Nat):Yn n (.ptr b o)=true:=Zj h
theorem YD{n b:Nat}(h:b<n)(o l:Nat)(c:Option Nat):Yn n (.slice b o l c)=true:=Zj h
theorem Zz0(tm:TM):rsF tm []=tm0:=rfl
theorem Zxo(tm:TM)(s:ZD)(g:EvF)(os:List (ZD×EvF)):rsF tm ((s,g)::os)=s (rsF tm os) (g tm):=rfl
end
end Go.AI
namespace Go.AI
section
theorem ZbJ(tm:TM):gt0 tm=N8.a0 (N8.a0 (N8.a0 tm)):=rfl
theorem ZbK(tm:TM):gt1 tm=N8.a1 (N8.a0 (N8.a0 tm)):=rfl
theorem Zeh(tm:TM):gt2 tm=N8.a2 (N8.a0 (N8.a0 tm)):=rfl
theorem Zn1(tm:TM):gt3 tm=N8.a3 (N8.a0 (N8.a0 tm)):=rfl
theorem Zlc(tm:TM):gt4 tm=N8.a4 (N8.a0 (N8.a0 tm)):=rfl
theorem Ziu(tm:TM):gt5 tm=N8.a5 (N8.a0 (N8.a0 tm)):=rfl
theorem Zld(tm:TM):gt6 tm=N8.a6 (N8.a0 (N8.a0 tm)):=rfl
theorem Zuo(tm:TM):gt7 tm=N8.a7 (N8.a0 (N8.a0 tm)):=rfl
theorem ZlU(tm:TM):gt8 tm=N8.a0 (N8.a1 (N8.a0 tm)):=rfl
theorem Zup(tm:TM):gt9 tm=N8.a1 (N8.a1 (N8.a0 tm)):=rfl
theorem ZsI(tm:TM):Yg tm=N8.a2 (N8.a1 (N8.a0 tm)):=rfl
theorem Zxp(tm:TM):Yq tm=N8.a3 (N8.a1 (N8.a0 tm)):=rfl
theorem ZDM(tm:TM):Yv tm=N8.a4 (N8.a1 (N8.a0 tm)):=rfl
theorem ZDN(tm:TM):YB tm=N8.a5 (N8.a1 (N8.a0 tm)):=rfl
theorem ZDO(tm:TM):YP tm=N8.a6 (N8.a1 (N8.a0 tm)):=rfl
theorem Zxq(tm:TM):YJ tm=N8.a7 (N8.a1 (N8.a0 tm)):=rfl
theorem Zxr(tm:TM):YK tm=N8.a0 (N8.a2 (N8.a0 tm)):=rfl
theorem Zxs(tm:TM):YQ tm=N8.a1 (N8.a2 (N8.a0 tm)):=rfl
theorem ZDP(tm:TM):Wj tm=N8.a2 (N8.a2 (N8.a0 tm)):=rfl
theorem ZDQ(tm:TM):Wc tm=N8.a3 (N8.a2 (N8.a0 tm)):=rfl
theorem ZDR(tm:TM):Wh tm=N8.a4 (N8.a2 (N8.a0 tm)):=rfl
theorem ZBh(tm:TM):Y0 tm=N8.a5 (N8.a2 (N8.a0 tm)):=rfl
theorem ZDS(tm:TM):WJ tm=N8.a6 (N8.a2 (N8.a0 tm)):=rfl
theorem ZDT(tm:TM):Y8 tm=N8.a7 (N8.a2 (N8.a0 tm)):=rfl
theorem ZDU(tm:TM):W7 tm=N8.a0 (N8.a3 (N8.a0 tm)):=rfl
theorem ZDV(tm:TM):Ws tm=N8.a1 (N8.a3 (N8.a0 tm)):=rfl
theorem ZDW(tm:TM):W1 tm=N8.a2 (N8.a3 (N8.a0 tm)):=rfl
theorem Zxt(tm:TM):Wz tm=N8.a7 (N8.a3 (N8.a0 tm)):=rfl
theorem ZBi(tm:TM):V0 tm=N8.a0 (N8.a4 (N8.a0 tm)):=rfl
theorem ZBj(tm:TM):WX tm=N8.a1 (N8.a4 (N8.a0 tm)):=rfl
theorem ZDX(tm:TM):UJ tm=N8.a7 (N8.a4 (N8.a0 tm)):=rfl
theorem ZDY(tm:TM):Uj tm=N8.a0 (N8.a5 (N8.a0 tm)):=rfl
theorem ZDZ(tm:TM):VW tm=N8.a1 (N8.a5 (N8.a0 tm)):=rfl
theorem ZD0(tm:TM):W3 tm=N8.a2 (N8.a5 (N8.a0 tm)):=rfl
theorem ZD1(tm:TM):Uk tm=N8.a3 (N8.a6 (N8.a0 tm)):=rfl
theorem ZD2(tm:TM):W9 tm=N8.a4 (N8.a6 (N8.a0 tm)):=rfl
theorem ZD3(tm:TM):Qm tm=N8.a5 (N8.a6 (N8.a0 tm)):=rfl
theorem ZD4(tm:TM):Zag tm=N8.a3 (N8.a7 (N8.a0 tm)):=rfl
theorem ZD5(tm:TM):Q3 tm=N8.a4 (N8.a7 (N8.a0 tm)):=rfl
theorem ZD6(tm:TM):Zaq tm=N8.a7 (N8.a7 (N8.a0 tm)):=rfl
theorem ZD7(tm:TM):ZaX tm=N8.a0 (N8.a0 (N8.a1 tm)):=rfl
theorem ZD8(tm:TM):ZaY tm=N8.a1 (N8.a0 (N8.a1 tm)):=rfl
theorem ZD9(tm:TM):ZfK tm=N8.a4 (N8.a2 (N8.a1 tm)):=rfl
theorem ZEa(tm:TM):ZdE tm=N8.a5 (N8.a2 (N8.a1 tm)):=rfl
end
end Go.AI
namespace Go.AI
open Go
section
structure Keep(H H':Heap)(S:List Nat):Prop where
 nx:H.nx≤H'.nx
 ro:H'.ro=H.ro
 get: ∀c,c<H.nx→c∉S→H'.t.get c=H.t.get c
theorem Keep.refl(H:Heap)(S:List Nat):Keep H H S:=⟨Zl _,rfl,fun _ _ _=>rfl⟩
theorem Keep.trans{H H' H'':Heap}{S S':List Nat}(a:Keep H H' S)(b:Keep H' H'' S')(h: ∀c,c∈S'→c<H.nx→c∈S):Keep H H'' S:=
 ⟨Nat.le_trans a.nx b.nx,b.ro.trans a.ro,fun c hc hn=>(b.get c (ZC hc a.nx) (fun hh=>hn (h c hh hc))).trans (a.get c hc hn)⟩
theorem Keep.put{H:Heap}{b:Nat}{o:Obj}{S:List Nat}(h:b<H.nx→b∈S):Keep H (H.put b o) S:=
 ⟨Zl _,rfl,fun c hc hn=>by rw[ZcT,if_neg (fun(e:b=c)=>hn (by rw[←e];exact h (by omega)))]⟩
theorem Keep.new(H:Heap)(o:Obj)(S:List Nat):Keep H (H.new o) S:=
 ⟨Nat.le_succ _,rfl,fun c hc _=>by rw[ZaC,if_neg (by omega)]⟩
theorem Keep.then_put{H H':Heap}{b:Nat}{o:Obj}{S:List Nat}(k:Keep H H' S)(h:b<H.nx→b∈S):Keep H (H'.put b o) S:=
 ⟨k.nx,k.ro,fun c hc hn=>by rw[ZcT,if_neg (fun(e:b=c)=>hn (by rw[←e];exact h (by omega)))];exact k.get c hc hn⟩
theorem Keep.then_new{H H':Heap}{S:List Nat}(k:Keep H H' S)(o:Obj):Keep H (H'.new o) S:=
 ⟨Nat.le_succ_of_le k.nx,k.ro,fun c hc hn=>by rw[ZaC,if_neg (by have:=k.nx;omega)];exact k.get c hc hn⟩
theorem Keep.trans'{H H' H'':Heap}{S':List Nat}(a:Keep H H' [])(b:Keep H' H'' S'):Keep H H'' S':=
 ⟨Nat.le_trans a.nx b.nx,b.ro.trans a.ro,fun c hc hn=>(b.get c (ZC hc a.nx) hn).trans (a.get c hc (by simp))⟩
structure ZGc(H:Heap)(b o:Nat)(cap:Option Nat)(l:List UInt8)(r:Row):Prop where
 at_:H.t.get b=some (.row r)
 sz:r.sz=1
 fits:o+l.length≤r.size
 get: ∀i,i<l.length→r.get (o+i)=u8V (l.getD i 0)
 cap: ∀c,cap=some c→l.length≤c∧o+c≤r.size
def Zei(x:Option AV)(d top:Nat)(k:Nat→OR):OR:=match x with|none=>k d|some v=>Qj v fun n=>ZR (Nat.ble n top) (k n)
noncomputable def Zle(sz:Nat)(a:AV)(lo hi:Option AV)(H:Heap):OR:=
 Vu a (Zei hi 0 0 fun h=>Zei lo 0 h fun _=> .val .nils H) fun b o len cap=>Yr H b fun r=>ZR (ZhM r sz cap) (Zei hi len (VV r o cap) fun h=>Zei lo 0 h fun l=>ZR (Nat.ble l (VV r o cap))<|
  cond (Nat.beq l (VV r o cap)) (Option.rec (.val (.slice H.nx 0 (Nat.sub h l) none) ⟨Nat.succ H.nx,H.t,H.ro⟩) (fun _=> .val (.slice b o (Nat.sub h l) (some 0)) H) cap)
   (.val (.slice b (Nat.add o (Nat.mul l sz)) (Nat.sub h l) (Option.rec none (fun c=>some (Nat.sub c l)) cap)) H))
theorem Zrl(sz:Nat)(x:EvF)(lo hi:Option EvF)(tm:TM)(H:Heap):ZhN sz x lo hi none tm H=Zle sz (x tm) (lo.map fun f=>f tm) (hi.map fun f=>f tm) H:=by
 cases lo<;>cases hi<;>rfl
end
end Go.AI
namespace Go.AI
open Go
section
noncomputable def Zlf(n sz:Nat)(a:AV)(lo hi:Option AV)(H:Heap):OR:=QV a fun b o=>Zei hi n n fun h=>Zei lo 0 h fun l=>
 cond (Nat.beq l n) (.val (.slice b o (Nat.sub h l) (some (Nat.sub n l))) H) (.val (.slice b (Nat.add o (Nat.mul l sz)) (Nat.sub h l) (some (Nat.sub n l))) H)
theorem Zrm(n sz:Nat)(x:EvF)(lo hi:Option EvF)(tm:TM)(H:Heap):ZhO n sz x lo hi none tm H=Zlf n sz (x tm) (lo.map fun f=>f tm) (hi.map fun f=>f tm) H:=by
 cases lo<;>cases hi<;>rfl
theorem Ziv{n l:Nat}(h:l<n)(b o:Nat)(k:IntKind)(H:Heap):Zlf n 1 (.ptr b o) (some (nI k l)) none H= .val (.slice b (o+l) (n - l) (some (n - l))) H:=by
 show ZR (Nat.ble l n) (cond (Nat.beq l n) _ _)=_
 rw[Zj (Nat.le_of_lt h),Z3,Zc (by omega)]
 show OR.val (.slice b (o+l*1) (n - l) (some (n - l))) H=_
 rw[Nat.mul_one]
theorem Ziw{n m:Nat}(h:m≤n)(h0:0<n)(b o:Nat)(k:IntKind)(H:Heap):Zlf n 1 (.ptr b o) none (some (nI k m)) H= .val (.slice b o m (some n)) H:=by
 show ZR (Nat.ble m n) (ZR (Nat.ble 0 m) (cond (Nat.beq 0 n) _ _))=_
 rw[Zj h,Zj (Nat.zero_le _),Z3,Zc (by omega)]
 show OR.val (.slice b (o+0*1) (m - 0) (some (n - 0))) H=_
 rw[Nat.zero_mul];rfl
noncomputable def Zxu(sz:Nat)(a v:AV)(H:Heap):OR:=ZoH v fun sn=>Vu a (.val (.int .i64 0) H) fun b o dn _=>UD (Zdx dn sn) fun n=>Wt H sz v n fun new=>
 cond (Nat.beq n 0) (.val (.int .i64 0) H) (Yr H b fun r=>ZR (H.may r b) (ZR (Nat.ble r.fz o) (ZR (Nat.ble (Nat.add o (Nat.mul n sz)) r.size) (.val (.int .i64 (.ofNat n)) (H.put b (.row (r.setCells (Y4 r.cells o new))))))))
theorem Zuq(x y:EvF)(sz:Nat)(tm:TM)(H:Heap):ZoJ x y sz tm H=Zxu sz (x tm) (y tm) H:=rfl
noncomputable def ZbB(k:List AV→OR)(ps:List (Nat×Nat×AV)):List AV→OR:=List.rec (fun cells=>k cells) (fun p _ ih cells=>
 ZR (Nat.ble 1 p.2.1)<|ZR (Nat.beq (Yi p.2.2.cells) p.2.1) (ZR (Nat.ble (Nat.add p.1 p.2.1) (Yi cells)) (ih (Za7 p.1 cells++(p.2.2.cells++ZaI (Nat.add p.1 p.2.1) cells))))) ps
theorem Zix(tm:TM)(k:List AV→OR): ∀(ps:List Znj) (cells:List AV),Zl3 tm k ps cells=ZbB k (ps.map fun p=>(p.off,p.sz,p.x tm)) cells
 |[],_=>rfl
 |p::ps,cells=>by
  show ZR (Nat.ble 1 p.sz) (ZR (Nat.beq (Yi (p.x tm).cells) p.sz) (ZR (Nat.ble (Nat.add p.off p.sz) (Yi cells)) (Zl3 tm k ps (Za7 p.off cells++((p.x tm).cells++ZaI (Nat.add p.off p.sz) cells)))))=_
  rw[Zix tm k ps]
  rfl
noncomputable def Zay(zs:List AV)(ps:List (Nat×Nat×AV))(H:Heap):OR:=ZR (Nat.ble 1 (Yi zs))<|ZbB (fun cs=> .val (.agg cs) H) ps zs
theorem Zrn(zs:List AV)(ps:List Znj)(tm:TM)(H:Heap):YZ zs ps tm H=Zay zs (ps.map fun p=>(p.off,p.sz,p.x tm)) H:=by
 unfold YZ Zay
 rw[Zix]
noncomputable def Uz(e sz n:Nat)(zs:List AV)(ps:List (Nat×Nat×AV))(H:Heap):OR:=ZR (Nat.ble 1 sz)<|ZR (Nat.beq (Yi zs) (Nat.mul n sz))<|ZbB (fun cs=> .val (.slice H.nx 0 n none) (H.newRow e sz cs true)) ps zs
theorem Zej(e sz n:Nat)(zs:List AV)(ps:List Znj)(tm:TM)(H:Heap):YL e sz n zs ps tm H=Uz e sz n zs (ps.map fun p=>(p.off,p.sz,p.x tm)) H:=by
 unfold YL Uz
 rw[Zix]
theorem ZbY(e:Nat)(z v:AV)(h:v.cells=[v])(H:Heap):Uz e 1 1 [z] [(0,1,v)] H= .val (.slice H.nx 0 1 none) (H.newRow e 1 [v] true):=by
 show ZR (Nat.beq (Yi v.cells) 1) (ZR (Nat.ble 1 1) (.val _ (H.newRow e 1 (v.cells++[]) true)))=_
 rw[h];rfl
end
end Go.AI
namespace Go.AI
open Go
section
noncomputable def Ug(e sz bytes:Nat)(a v:AV)(H:Heap):OR:=ZR (Nat.ble 1 sz)<|ZR (Nat.ble 1 bytes)<|ZoH v fun n=>Wt H sz v n fun new=>Zb3 a e sz bytes H n new
theorem ZbZ(x y:EvF)(e sz bytes:Nat)(tm:TM)(H:Heap):VY x y e sz bytes tm H=Ug e sz bytes (x tm) (y tm) H:=rfl
def Src(H:Heap)(v:AV)(l:List AV):Prop:= ∀k:Nat→List AV→OR,(ZoH v fun n=>Wt H 1 v n fun new=>k n new)=k l.length l
theorem Src.nils(H:Heap):Src H .nils []:=fun _=>rfl
theorem Src.none(H:Heap)(b o:Nat)(c:Option Nat):Src H (.slice b o 0 c) []:=fun _=>rfl
theorem Src.row{H:Heap}{b o:Nat}{c:Option Nat}{r:Row}{l:List AV}(hr:H.t.get b=some (.row r))(hf:o+l.length≤r.size)(hg: ∀i,i<l.length→r.get (o+i)=l.getD i .unk):Src H (.slice b o l.length c) l:=by
 intro k
 show(Wt H 1 (.slice b o l.length c) l.length fun new=>k l.length new)=_
 unfold Wt
 rw[Z3]
 by_cases h0:l.length=0
 ·rw[Zh h0]
  have:l=[]:=List.length_eq_zero_iff.1 h0
  subst this;rfl
 ·rw[Zc h0]
  unfold Yr
  simp only[hr,cond_false,Nat.mul_one]
  show ZR (Nat.ble (o+l.length*1) r.size) (k l.length (loadN r o (l.length*1)))=_
  rw[Nat.mul_one,Zj hf]
  have:loadN r o l.length=l:=by
   refine List.ext_getElem? fun j=>?_
   by_cases hj:j<l.length
   ·rw[VC r _ o j hj,hg j hj,Zi,Zp hj];rfl
   ·rw[List.getElem?_eq_none (by rw[VM];omega),List.getElem?_eq_none (by omega)]
  rw[this];rfl
theorem Zek{H:Heap}{e bytes:Nat}{a v:AV}{l:List AV}(hb:1≤bytes)(h:Src H v l):Ug e 1 bytes a v H=Zb3 a e 1 bytes H l.length l:=by
 show ZR (Nat.ble 1 1) (ZR (Nat.ble 1 bytes) _)=_
 rw[Zj hb]
 exact h fun n new=>Zb3 a e 1 bytes H n new
theorem ZpG{e:Nat}{H:Heap}{l:List AV}(h0:0<l.length)(hl:l.length≤140737488355328):Zb3 .nils e 1 1 H l.length l= .val (.slice H.nx 0 l.length none) (H.newRow e 1 l false):=by
 show cond (Nat.beq l.length 0) _ (ZR (Nat.ble (l.length*1) 140737488355328) _)=_
 rw[Z3,Zc (by omega),Nat.mul_one,Zj hl];rfl
structure Zxv(H:Heap)(b e:Nat)(l:List AV)(r:Row):Prop extends Own H b e l r where
 exact_:r.exact=false
 low:b<H.nx
theorem ZpH{H:Heap}{e:Nat}{l:List AV}(hro:H.ro≤H.nx):Zxv (H.newRow e 1 l false) H.nx e l ⟨e,1,Yi l,T.ofList l, .unk,0,false,true,false⟩:=
 ⟨⟨by rw[Zcv,ZaC,if_pos rfl],rfl,rfl,rfl,rfl,rfl,Cells.new ..,hro⟩,rfl,Yf _⟩
theorem ZmL{H:Heap}{b e:Nat}{l m:List AV}{r:Row}(g:Zxv H b e l r)(hm:0<m.length)(hl:l.length+m.length≤140737488355328):
  ∃H' r',Zb3 (.slice b 0 l.length none) e 1 1 H m.length m= .val (.slice H.nx 0 (l.length+m.length) none) H'∧Zxv H' H.nx e (l++m) r'∧Keep H H' [b]∧H'.nx=H.nx+1:=by
 have hsz:r.size=l.length:=g.cells.size
 have hcap:VV r 0 none=l.length:=by
  show cond (Nat.beq r.sz 1) (r.size - 0) _=_
  rw[g.sz,hsz];rfl
 have hmay:H.may r b=true:=by unfold Heap.may;rw[g.own,Zj g.ro];rfl
 refine⟨⟨Nat.succ H.nx,(H.t.del b).set H.nx (.row ⟨r.elem,1,(l.length+m.length)*1,Y4 r.cells (l.length*1) m,r.dflt,r.fz,r.sm,true,false⟩),H.ro⟩,⟨r.elem,1,(l.length+m.length)*1,Y4 r.cells (l.length*1) m,r.dflt,r.fz,r.sm,true,false⟩,?_,⟨⟨by rw[T.get_set,if_pos rfl],g.elem,rfl,rfl,g.fz,g.sm,?_,Nat.le_trans g.ro (Nat.le_of_lt g.low)⟩,rfl,Yf _⟩,⟨Nat.le_succ _,rfl,fun c hc hn=>?_⟩,rfl⟩
 ·show Yr H b (fun r=>ZR (ZhM r 1 none) (cond (Nat.ble (Nat.add l.length m.length) (VV r 0 none)) (Zkf H _ b 0 l.length m.length 1 none r m) (ZcE H e b 0 l.length m.length 1 1 none r m)))=_
  unfold Yr
  simp only[g.at_]
  have h1:ZhM r 1 none=true:=by show Nat.beq r.sz 1=true;rw[g.sz];rfl
  have h2:Nat.ble (Nat.add l.length m.length) (VV r 0 none)=false:=by
   rw[hcap]
   cases h:Nat.ble (Nat.add l.length m.length) l.length with
   |false=>rfl
   |true=>have:=ZN h;have:l.length+m.length≤l.length:=this;omega
  rw[h1,h2]
  show ZR (Nat.ble ((l.length+m.length)*1) 140737488355328) (ZR (Nat.ble (0+l.length*1) r.size) (cond r.exact _ (ZfG H e b 0 l.length m.length 1 r m)))=_
  rw[Nat.mul_one,Zj hl,hsz,Nat.mul_one,Zo,Zj (Zl _),g.exact_]
  show ZR (Nat.beq r.elem e) (ZR (H.may r b) (ZR (Nat.ble r.fz (l.length*1)) (ZR (Nat.beq (l.length*1) r.size) (ZR (Nat.beq 0 0) _))))=_
  rw[g.elem,Nat.beq_refl,hmay,g.fz,Zj (Nat.zero_le _),hsz,Nat.mul_one,Nat.beq_refl]
  show OR.val (.slice H.nx 0 (l.length+m.length) none) ⟨Nat.succ H.nx,(H.t.del b).set H.nx (.row ⟨e,1,(l.length+m.length)*1,Y4 r.cells (l.length*1) m,r.dflt,0,r.sm,true,false⟩),H.ro⟩=_
  rw[Nat.mul_one,Nat.mul_one]
 ·refine⟨by show(l.length+m.length)*1=_;rw[Zx];omega,fun i hi=>?_⟩
  rw[Zx] at hi
  rw[Row.get_eq]
  show((Y4 r.cells (l.length*1) m).get i).getD r.dflt=_
  rw[Nat.mul_one,UO,Zi]
  by_cases h1:l.length≤i
  ·rw[if_pos ⟨h1,by omega⟩,List.getElem?_append_right h1,Zp (show i - l.length<m.length by omega)];rfl
  ·rw[if_neg (by omega),List.getElem?_append_left (by omega)]
   have:=g.cells.get i (by omega)
   rw[Row.get_eq,Zi] at this
   exact this
 ·show((H.t.del b).set H.nx _).get c=_
  rw[T.get_set,if_neg (by omega),T.get_del,if_neg (fun e=>hn (by simp[e]))]
end
end Go.AI
namespace Go.AI
open Go
section
variable {P:Program}
theorem Zaz{l:List AV}(h:Vy l l=true)(n:Nat)(t:T Obj):WG (.val (.agg l) ⟨n,t,n⟩) (.agg l) n=true:=Vt _ _ _ (by unfold same;exact h)
theorem Zcw(s:List UInt8):same (.str s) (.str s)=true:=by
 unfold same;rw[Uo];simp
theorem Zro(s:List UInt8)(n:Nat)(t:T Obj):WG (.val (.str s) ⟨n,t,n⟩) (.str s) n=true:=Vt _ _ _ (Zcw s)
theorem Vo(b o n:Nat)(c:Option Nat)(k:Nat)(t:T Obj):WG (.val (.slice b o n c) ⟨k,t,k⟩) (.slice b o n c) k=true:=Vt _ _ _ (by
 unfold same
 rw[Nat.beq_refl,Nat.beq_refl,Nat.beq_refl]
 cases c with
 |none=>rfl
 |some x=>show Nat.beq x x=true;exact Nat.beq_refl x)
theorem QP(n:Nat)(t:T Obj):WG (.val .nils ⟨n,t,n⟩) .nils n=true:=Vt _ _ _ (by unfold same;rfl)
variable (ds:List ZD) (f:OpF) (e:EvF) (b:Bool) (os:List (ZD×EvF)) (dst:ZD) (i bef:Nat) (nx:PK) (c:Ctx) (rs:List RD) (tm:TM) (H:Heap) (x:X)
theorem ZpI:Ui ds ⟨f,some (e,b),os,dst, .free,i,bef⟩ nx c rs tm H x=Vh (e tm) b (cond (U7 H.nx tm os) (ZdA ⟨f,some (e,b),os,dst, .free,i,bef⟩ nx rs tm H x (f (rsF tm os) ⟨H.nx, .leaf,H.nx⟩)) .fail) (nx rs (dst tm Yo) H x):=rfl
theorem ZpJ:Ui ds ⟨f,some (e,b),os,dst, .read,i,bef⟩ nx c rs tm H x=Vh (e tm) b (Zgh ⟨f,some (e,b),os,dst, .read,i,bef⟩ nx rs tm H x (f (rsF tm os) ⟨H.nx,H.t,H.nx⟩)) (nx rs (dst tm Yo) H x):=rfl
theorem Zrp:Ui ds ⟨f,some (e,b),os,dst, .eff,i,bef⟩ nx c rs tm H x=cond (still tm H rs) (Vh (e tm) b (Zgi ds ⟨f,some (e,b),os,dst, .eff,i,bef⟩ nx rs c tm x (f (rsF tm os) H)) (nx (WW bef rs) (dst tm Yo) H x)) .fail:=rfl
theorem Zur(g:Option (EvF×Bool))(kd:ZfH)(v:AV)(o:Obj)(hw:wrO o=true):ZdA ⟨f,g,os,dst,kd,i,bef⟩ nx rs tm H x (.val v ((⟨H.nx, .leaf,H.nx⟩:Heap).new o))=nx rs (dst tm v) (H.new o) x:=by
 show cond (Nat.beq (H.nx+1) H.nx) _ (cond (Nat.beq (H.nx+1) (Nat.succ H.nx)) (Zvw (((T.leaf:T Obj).set H.nx o).get H.nx) fun o=>nx rs (dst tm v) (H.new o) x) .fail)=_
 rw[Z3,Zc (by omega),Z3,Zh rfl,T.get_set,if_pos rfl]
 show cond (wrO o) _ _=_
 rw[hw];rfl
end
theorem ZmM{lib:Nat→List AV→Heap→Option CR}{fs:T CF}{fuel n f:Nat}{args:List AV}{H:Heap}{r:CR}(h:lib f args H=some r):ZQ lib fs fuel (n+1) f args H=r:=by
 show Zsk (lib f args H) _=_
 rw[h];rfl
end Go.AI
namespace Go.AI
open Go
variable {P:Program}
theorem Zz1{call:Nat→List AV→Heap→CR}(hcall:Uw P call){f:FuncId}{args:List AV}{H H':Heap}{v:AV}(hrun:call f args H= .ret v H')(k:Keep H H' [])(hlow:Yn 0 v=true)
  {σ:Mp}{w:World}{vs:List Value}(hs:Sim P σ H w)(hv:RelL σ args vs):ZcO P σ H w (.ret v H) ((callFunc f ⟨vs⟩).run P w):=by
 have hcr:=hcall f _ H σ w vs hs hv
 rw[hrun] at hcr
 refine Ends.mono (fun u' w' hx=>?_) (fun _ _ hx=>hx) hcr
 obtain⟨σ2,h1,t⟩:=hx
 refine⟨σ,?_,t.drop hs fun b hb=>k.get b hb (by simp)⟩
 exact(Rel.cut hlow h1).mono fun y _ hy=>by have:=(Mp.cut_some hy).1;omega
end Go.AI
namespace Go.AI
open Go
noncomputable section
noncomputable def ZsJ(a:AV)(H:Heap):OR:=Za6 a fun s=>UD (Yi s) fun n=> .val (.int .i64 (.ofNat n)) H
theorem Zus(x:EvF)(tm:TM)(H:Heap):WB x tm H=ZsJ (x tm) H:=rfl
theorem Z1(s:List UInt8)(H:Heap):ZsJ (.str s) H= .val (nI .i64 s.length) H:=by
 show UD (Yi s) (fun n=>OR.val (.int .i64 (.ofNat n)) H)=_
 rw[Zbk,Ye];rfl
noncomputable def ZcU(a i:AV)(H:Heap):OR:=Qj i fun i=>Za6 a fun s=>VZ (ZoD s i) fun b=>UD b.toNat fun n=> .val (.int .u8 (.ofNat n)) H
theorem ZpK(x y:EvF)(tm:TM)(H:Heap):Ya x y tm H=ZcU (x tm) (y tm) H:=rfl
theorem Zf2{s:List UInt8}{i:Nat}(h:i<s.length)(k:IntKind)(H:Heap):ZcU (.str s) (nI k i) H= .val (u8V (s.getD i 0)) H:=by
 show VZ (ZoD s i) _=_
 rw[Znx,Zp h]
 show UD s[i].toNat (fun n=>OR.val (.int .u8 (.ofNat n)) H)=_
 rw[Zbk,Zi,Zp h];rfl
noncomputable def Zf3(a:AV)(lo hi:Option AV)(H:Heap):OR:=Za6 a fun s=>Zei hi (Yi s) (Yi s) fun h=>Zei lo 0 h fun l=> .val (.str (Zgd l (Zdy h s))) H
theorem Zrq(x:EvF)(lo hi:Option EvF)(tm:TM)(H:Heap):Wl x lo hi none tm H=Zf3 (x tm) (lo.map fun f=>f tm) (hi.map fun f=>f tm) H:=by
 cases lo<;>cases hi<;>rfl
theorem ZbC{a b:List UInt8}(h:a.length+b.length≤4611686018427387904)(H:Heap):Zq5 (.str a) (.str b) H= .val (.str (a++b)) H:=by
 show ZR (Nat.ble (Nat.add (Yi a) (Yi b)) 4611686018427387904) _=_
 rw[Ye,Ye,Zj (show Nat.add a.length b.length≤_ from h)];rfl
theorem VB(a b:List UInt8)(H:Heap):eqV eqS false (.str a) (.str b) H= .val (.bool (decide (a=b))) H:=by
 show Uh (Zdf a b) H=_
 rw[V6,Uo]
 congr 2
 by_cases h:a=b<;>simp[h]
theorem ZcV(a b:List UInt8)(H:Heap):eqV eqS true (.str a) (.str b) H= .val (.bool (!decide (a=b))) H:=by
 show Uh (cond (Zdf a b) false true) H=_
 rw[V6,Uo]
 congr 2
 by_cases h:a=b<;>simp[h]
structure Below(n:Nat)(H H':Heap):Prop where
 nx:H.nx≤H'.nx
 ro:H'.ro=H.ro
 get: ∀c,c<n→c<H.nx→H'.t.get c=H.t.get c
theorem Below.refl(n:Nat)(H:Heap):Below n H H:=⟨Zl _,rfl,fun _ _ _=>rfl⟩
theorem Below.trans{n:Nat}{H H' H'':Heap}(a:Below n H H')(b:Below n H' H''):Below n H H'':=
 ⟨Nat.le_trans a.nx b.nx,b.ro.trans a.ro,fun c h1 h2=>(b.get c h1 (ZC h2 a.nx)).trans (a.get c h1 h2)⟩
theorem Below.put{n b:Nat}{H:Heap}{o:Obj}(h:n≤b):Below n H (H.put b o):=⟨Zl _,rfl,fun c h1 _=>by rw[ZcT,if_neg (by omega)]⟩
theorem Below.new(n:Nat)(H:Heap)(o:Obj):Below n H (H.new o):=⟨Nat.le_succ _,rfl,fun c _ h2=>by rw[ZaC,if_neg (by omega)]⟩
theorem Below.mono{n m:Nat}{H H':Heap}(a:Below n H H')(h:m≤n):Below m H H':=⟨a.nx,a.ro,fun c h1 h2=>a.get c (by omega) h2⟩
theorem Keep.below{H0 H H':Heap}{n:Nat}(k:Keep H0 H [])(b:Below n H H')(h:H0.nx≤n):Keep H0 H' []:=
 ⟨Nat.le_trans k.nx b.nx,b.ro.trans k.ro,fun c h1 h2=>(b.get c (by omega) (ZC h1 k.nx)).trans (k.get c h1 h2)⟩
def ZFY(H:Heap)(v:AV)(l:List UInt8)(lo:Nat):Prop:= ∃b r,v= .slice b 0 l.length none∧Zxv H b 5 (l.map u8V) r∧lo≤b
def Buf(H:Heap)(v:AV)(l:List UInt8)(lo:Nat):Prop:=(l=[]∧v= .nils)∨(l≠[]∧ZFY H v l lo)
theorem Zxw{H:Heap}{v:AV}{l:List UInt8}{lo:Nat}(h:Buf H v l lo)(hl:l.length<140737488355328)(hro:H.ro≤H.nx)(hlo:lo≤H.nx)(x:UInt8):
  ∃v' H',Ug 5 1 1 v (.slice H.nx 0 1 none) (H.newRow 5 1 [u8V x] true)= .val v' H'∧Buf H' v' (l++[x]) lo∧Below lo H H':=by
 generalize hH1:H.newRow 5 1 [u8V x] true=H1
 have nx1:H1.nx=H.nx+1:=by rw[←hH1];rfl
 have k1:Keep H H1 []:=by rw[←hH1];exact Keep.new H _ []
 have b1:Below lo H H1:=by rw[←hH1];exact Below.new lo H _
 have gx:H1.t.get H.nx=some (.row ⟨5,1,1,T.ofList [u8V x], .unk,0,false,true,true⟩):=by rw[←hH1,Zcv,ZaC,if_pos rfl];rfl
 have src:Src H1 (.slice H.nx 0 1 none) [u8V x]:=Src.row (l:=[u8V x]) gx (Zl _) (fun i hi=>by
  have:i=0:=by simp at hi;exact hi
  subst this
  rfl)
 rw[Zek (Zl 1) src]
 rcases h with⟨rfl,rfl⟩|⟨hne,b,r,rfl,g,hb⟩
 ·have g:=ZpH (H:=H1) (e:=5) (l:=[u8V x]) (by rw[k1.ro];omega)
  exact⟨_,_,ZpG (l:=[u8V x]) (by simp) (by simp), .inr ⟨by simp,_,_,rfl,g,by omega⟩,b1.trans (Below.new lo H1 _)⟩
 ·have g1:Zxv H1 b 5 (l.map u8V) r:=⟨⟨by rw[k1.get b g.low (by simp)];exact g.at_,g.elem,g.sz,g.own,g.fz,g.sm,g.cells,by rw[k1.ro];exact g.ro⟩,g.exact_,by have:=g.low;omega⟩
  obtain⟨H',r',e,g',k',nx'⟩:=ZmL (m:=[u8V x]) g1 (by simp) (by rw[Zy];simp;omega)
  rw[Zy] at e
  refine⟨_,H',e, .inr ⟨by simp,H1.nx,r',by rw[Zx];rfl,by rw[List.map_append];exact g',by omega⟩,b1.trans ⟨by omega,k'.ro,fun c h1 h2=>k'.get c h2 (by simp;omega)⟩⟩
theorem Buf.below{H H':Heap}{v:AV}{l:List UInt8}{lo:Nat}(h:Buf H v l lo)(hp: ∀c,lo≤c→c<H.nx→H'.t.get c=H.t.get c)(hro:H'.ro=H.ro)(hnx:H.nx≤H'.nx):Buf H' v l lo:=by
 rcases h with h|⟨hne,b,r,rfl,g,hb⟩
 ·exact .inl h
 ·exact .inr ⟨hne,b,r,rfl,⟨⟨by rw[hp b hb g.low];exact g.at_,g.elem,g.sz,g.own,g.fz,g.sm,g.cells,by rw[hro];exact g.ro⟩,g.exact_,ZC g.low hnx⟩,hb⟩
end
end Go.AI
namespace Go.AI
open Go
noncomputable section
theorem Z4(k:IntKind)(a b:Nat)(H:Heap):ZcR Za9 Uy (nI k a) (nI k b) H= .val (.bool (decide (b<a))) H:=by
 show ZR (kEq k k) (Uh (ilt (.ofNat b) (.ofNat a)) H)=_
 rw[YH,V6,ZeB];rfl
theorem Zhl(k:IntKind)(a b:Nat)(H:Heap):ZcR ZbG U6 (nI k a) (nI k b) H= .val (.bool (decide (a≤b))) H:=by
 show ZR (kEq k k) (Uh (!ilt (.ofNat b) (.ofNat a)) H)=_
 rw[YH,V6,ZeB]
 show OR.val (.bool (!decide (b<a))) H=_
 congr 2
 by_cases h:b<a
 ·rw[Zh h,Zc (by omega)];rfl
 ·rw[Zc h,Zh (by omega)];rfl
theorem Zz2(b c:AV)(H:Heap):ZmI (.bool true) b c H= .val b H:=rfl
theorem Zz3(b c:AV)(H:Heap):ZmI (.bool false) b c H= .val c H:=rfl
theorem Zca(b:Bool)(H:Heap):ZzR (.bool b) H= .val (.bool (cond b false true)) H:=rfl
theorem Zxx(n:Nat)(l:List AV):Yn n (.agg l)=Zae n l:=rfl
theorem Zrr(n:Nat):Yn n Yo=true:=rfl
theorem Zlg(n:Nat)(s:List UInt8):Yn n (.str s)=true:=rfl
noncomputable def ZB8(mx:Bool)(l:List AV)(H:Heap):OR:=match l with
 | .int k a::l=>min2 mx k a H l
 |_=> .fail
theorem ZpL(mx:Bool)(args:List EvF)(tm:TM)(H:Heap):Zba mx args tm H=ZB8 mx (evs tm args) H:=rfl
theorem ZpM(a b:Nat)(H:Heap):ZB8 false [nI .i64 a,nI .i64 b] H= .val (nI .i64 (min a b)) H:=by
 show ZR (kEq .i64 .i64) (min2 false .i64 (cond (cond false (ilt (.ofNat a) (.ofNat b)) (ilt (.ofNat b) (.ofNat a))) (.ofNat b) (.ofNat a)) H [])=_
 rw[YH,ZeB,ZeB]
 show OR.val (.int .i64 (cond (decide (b<a)) (.ofNat b) (.ofNat a))) H=_
 by_cases h:b<a
 ·rw[Zh h,Nat.min_eq_right (by omega)];rfl
 ·rw[Zc h,Nat.min_eq_left (by omega)];rfl
noncomputable def Zjs(i:Nat)(a:AV)(H:Heap):OR:=Zsf a fun vs=>VZ (Zkc vs i) fun v=> .val v H
theorem Zut(x:EvF)(i:Nat)(tm:TM)(H:Heap):Yz x i tm H=Zjs i (x tm) H:=rfl
theorem Zz4(a:AV)(l:List AV)(H:Heap):Zjs 0 (.tup (a::l)) H= .val a H:=rfl
theorem Zz5(a b:AV)(l:List AV)(H:Heap):Zjs 1 (.tup (a::b::l)) H= .val b H:=rfl
theorem Zz6(a b c:AV)(l:List AV)(H:Heap):Zjs 2 (.tup (a::b::c::l)) H= .val c H:=rfl
theorem Zz7(a b:Bool)(H:Heap):eqV eqB false (.bool a) (.bool b) H= .val (.bool (decide (a=b))) H:=by cases a<;>cases b<;>rfl
theorem Zz8(b o:Nat)(H:Heap):eqV eqP false (.ptr b o) .nilp H= .val (.bool false) H:=rfl
theorem Zrs(H:Heap):eqV eqP false .nilp .nilp H= .val (.bool true) H:=rfl
theorem Zxy(b o:Nat)(H:Heap):eqV eqP true (.ptr b o) (.ptr b o) H= .val (.bool false) H:=by
 show VZ (cond (Nat.beq b b) (some (Nat.beq o o)) none) (fun b=>Uh (cond true (cond b false true) b) H)=_
 rw[Nat.beq_refl,Nat.beq_refl];rfl
noncomputable def Zxz(a:AV)(H:Heap):OR:=match a with
 | .nilp=> .val .nilp H
 | .ptr b o=>Yr H b fun r=>ZR (Nat.ble (Nat.succ o) r.size) (.val (.ptr b o) H)
 |_=> .fail
theorem ZmN(x:EvF)(tm:TM)(H:Heap):Zl5 x tm H=Zxz (x tm) H:=rfl
noncomputable def ZxA(u n:Nat)(a:AV)(H:Heap):OR:=match a with
 | .nilp=> .val .nilp H
 | .ptr b o=>Yr H b fun r=>ZR r.exact (ZR (Nat.beq r.elem u) (ZR (Nat.beq o 0) (ZR (Nat.ble n r.size) (.val (.ptr b o) H))))
 |_=> .fail
theorem ZmO(x:EvF)(u n:Nat)(tm:TM)(H:Heap):Zl6 x u n tm H=ZxA u n (x tm) H:=rfl
noncomputable def Zj4(a:AV)(H:Heap):OR:=Vu a (.val .nilp H) fun b o _ cap=>Option.rec (Yr H b fun r=>ZR (Nat.ble (Nat.succ o) r.size) (.val (.ptr b o) H)) (fun c=>ZR (Nat.ble 1 c) (.val (.ptr b o) H)) cap
theorem Zel(x:EvF)(tm:TM)(H:Heap):ZjW x tm H=Zj4 (x tm) H:=rfl
noncomputable def ZsK(e:Nat)(a n:AV)(H:Heap):OR:=Qj n fun n=>cond (Nat.beq n 0) (match a with| .nilp=> .val (.str []) H| .ptr .. => .val (.str []) H|_=> .fail)
 (ZR (Nat.ble n 140737488355328)<|QV a fun b o=>Yr H b fun r=>ZR (Nat.beq r.elem e)<|ZR (cond r.sm false (H.may r b)) (ZR (Nat.ble (Nat.add o n) r.size) (Qy (fun s=> .val (.str s)
  (H.put b (.row ⟨r.elem,r.sz,r.size,r.cells,r.dflt,cond (Nat.ble r.fz (Nat.add o n)) (Nat.add o n) r.fz,r.sm,r.own,r.exact⟩))) (loadN r o n))))
theorem Ziy(x y:EvF)(e:Nat)(tm:TM)(H:Heap):ZoK x y e tm H=ZsK e (x tm) (y tm) H:=rfl
theorem ZcW: ∀(l:List UInt8) (k:List UInt8→OR),Qy k (l.map u8V)=k l
 |[],k=>rfl
 |x::l,k=>by
  show Qy (fun s=>k (UInt8.ofNat x.toNat::s)) (l.map u8V)=_
  rw[ZcW l]
  simp
theorem Zrt{H:Heap}{v:AV}{l:List UInt8}{lo:Nat}(h:Buf H v l lo)(hl:l.length≤140737488355328): ∃p,(∀G:Heap,G.t=H.t→Zj4 v G= .val p G)∧(∃H',ZsK 5 p (nI .i64 l.length) H= .val (.str l) H'∧Below lo H H')∧(∀n,H.nx≤n→Yn n p=true)∧(∀n t,WG (.val p ⟨n,t,n⟩) p n=true)∧(∀n,H.nx≤n→Yn n v=true)∧(∀n t,WG (.val v ⟨n,t,n⟩) v n=true)∧ ∀G,Za2 v G= .val (nI .i64 l.length) G:=by
 rcases h with⟨rfl,rfl⟩|⟨hne,b,r,rfl,g,hb⟩
 ·exact⟨.nilp,fun _ _=>rfl,⟨H,rfl,Below.refl _ _⟩,fun _ _=>rfl,fun n t=>Vt _ _ _ (by unfold same;rfl),fun _ _=>rfl,fun n t=>QP n t,fun G=>ZbA G⟩
 ·have hp:0<l.length:=List.length_pos_iff.2 hne
  have hsz:r.size=l.length:=by rw[g.cells.size,Zy]
  refine⟨.ptr b 0,fun G e=>?_,?_,fun n hn=>ZO (ZC g.low hn) 0,fun n t=>Vt _ _ _ (by unfold same;rw[Nat.beq_refl,Nat.beq_refl];rfl),fun n hn=>YD (ZC g.low hn) _ _ _,fun n t=>Vo _ _ _ _ _ _,fun G=>Vb ..⟩
  ·show Yr G b _=_
   unfold Yr
   rw[e,g.at_]
   show ZR (Nat.ble 1 r.size) _=_
   rw[Zj (by omega)];rfl
  ·refine⟨H.put b (.row ⟨r.elem,r.sz,r.size,r.cells,r.dflt,cond (Nat.ble r.fz (Nat.add 0 l.length)) (Nat.add 0 l.length) r.fz,r.sm,r.own,r.exact⟩),?_,Below.put hb⟩
   show cond (Nat.beq l.length 0) _ (ZR (Nat.ble l.length 140737488355328) (Yr H b _))=_
   rw[Z3,Zc (by omega),Zj hl]
   unfold Yr
   rw[g.at_]
   show ZR (Nat.beq r.elem 5) (ZR (cond r.sm false (H.may r b)) (ZR (Nat.ble (0+l.length) r.size) (Qy _ (loadN r 0 l.length))))=_
   have hmay:H.may r b=true:=by unfold Heap.may;rw[g.own,Zj g.ro];rfl
   rw[g.elem,g.sm,hmay,Zj (by omega),g.cells.load (by rw[Zy];omega),ZK,Zv (by rw[Zy];omega),ZcW]
   rfl
end
end Go.AI
namespace Go.AI
open Go
namespace T
variable {α:Type}
theorem Ziz(x:α)(l:T α)(v:Option α)(r:T α)(bs:List Bool):setB x (node l v r) (true::bs)=node (setB x l bs) v r:=rfl
theorem ZiA(x:α)(l:T α)(v:Option α)(r:T α)(bs:List Bool):setB x (node l v r) (false::bs)=node l v (setB x r bs):=rfl
theorem ZmP(x:α)(bs:List Bool):setB x leaf bs=single x bs:=rfl
theorem ZpN(x:α)(bs:List Bool):single x (true::bs)=node (single x bs) none leaf:=rfl
theorem ZpO(x:α)(bs:List Bool):single x (false::bs)=node leaf none (single x bs):=rfl
theorem Zem(x y:α): ∀bs:List Bool,setB y (single x bs) bs=single y bs
 |[]=>rfl
 |true::bs=>by rw[ZpN,Ziz,Zem x y bs,ZpN]
 |false::bs=>by rw[ZpO,ZiA,Zem x y bs,ZpO]
theorem ZiB(x y:α): ∀(t:T α) (bs:List Bool),setB y (setB x t bs) bs=setB y t bs
 |leaf,bs=>by rw[ZmP,Zem,ZmP]
 |node l v r,[]=>rfl
 |node l v r,true::bs=>by rw[Ziz,Ziz,Ziz,ZiB x y l bs]
 |node l v r,false::bs=>by rw[ZiA,ZiA,ZiA,ZiB x y r bs]
theorem set_set(t:T α)(n:Nat)(x y:α):(t.set n x).set n y=t.set n y:=ZiB x y t (bits n)
theorem ZbD(a b:α)(l:List α):Us (a::b::l)=a::Us l:=by simp[Us]
theorem Zlh: ∀(l:List α) (i:Nat) (v:α),Us (l.set (2*i) v)=(Us l).set i v
 |[],_,_=>by simp[Us]
 |[a],0,_=>by simp[Us]
 |[a],i+1,v=>by
  rw[show 2*(i+1)=2*i+1+1 by omega];simp[Us]
 |a::b::l,0,v=>by simp[Us]
 |a::b::l,i+1,v=>by
  rw[show 2*(i+1)=2*i+1+1 by omega,List.set_cons_succ,List.set_cons_succ,ZbD,ZbD,Zlh l i v,List.set_cons_succ]
theorem ZcX: ∀(l:List α) (i:Nat) (v:α),Us (l.set (2*i+1) v)=Us l
 |[],_,_=>by simp[Us]
 |[a],i,_=>by simp[Us]
 |a::b::l,0,v=>by simp[Us]
 |a::b::l,i+1,v=>by
  rw[show 2*(i+1)+1=(2*i+1)+1+1 by omega,List.set_cons_succ,List.set_cons_succ,ZbD,ZbD,ZcX l i v]
theorem ZpP(l:List α)(i:Nat)(v:α):(l.set (i+1) v).tail=l.tail.set i v:=by cases l<;>rfl
theorem Zuu(l:List α)(v:α):(l.set 0 v).tail=l.tail:=by cases l<;>rfl
theorem Zhm(l:List α):(Us l).length=(l.length+1)/2:=by
 have: ∀(n:Nat) (l:List α),l.length≤n→(Us l).length=(l.length+1)/2:=by
  intro n
  induction n with
  |zero=>intro l h;cases l with|nil=>simp[Us]|cons=>simp at h
  |succ n ih=>
   intro l h
   match l,h with
   |[],_=>simp[Us]
   |[a],_=>simp[Us]
   |a::b::l,h=>
    rw[ZbD,Zn,ih l (by simp at h;omega)]
    simp only[Zn];omega
 exact this _ l (Zl _)
theorem Zhn(f:Nat)(x:α)(l:List α):UX (f+1) (x::l)=node (UX f (Us l)) (some x) (UX f (Us l.tail)):=rfl
theorem ZpQ: ∀(f:Nat) (l:List α) (i:Nat) (v:α),l.length≤f→i<l.length→(UX f l).set i v=UX f (l.set i v):=by
 intro f
 induction f with
 |zero=>intro l i v h hi;omega
 |succ f ih=>
  intro l i v h hi
  cases l with
  |nil=>cases hi
  |cons x l=>
   rw[Zhn]
   by_cases h0:i=0
   ·subst h0;rfl
   ·obtain⟨j,rfl⟩: ∃j,i=j+1:=⟨i - 1,by omega⟩
    rw[List.set_cons_succ,Zhn]
    simp only[Zn] at h hi
    unfold set
    by_cases h1:(j+1) % 2=1
    ·obtain⟨m,rfl⟩: ∃m,j=2*m:=⟨j/2,by omega⟩
     rw[ZoZ h1,Ziz,show(2*m+1)/2=m by omega]
     have:=ih (Us l) m v (by rw[Zhm];omega) (by rw[Zhm];omega)
     unfold set at this
     rw[this,Zlh]
     cases m with
     |zero=>rw[Zuu]
     |succ m=>rw[show 2*(m+1)=2*m+1+1 by omega,ZpP,ZcX]
    ·obtain⟨m,rfl⟩: ∃m,j=2*m+1:=⟨j/2,by omega⟩
     rw[Zmc (by omega) (by omega),ZiA,show(2*m+1+1)/2 - 1=m by omega]
     have:=ih (Us l.tail) m v (by rw[Zhm,List.length_tail];omega) (by rw[Zhm,List.length_tail];omega)
     unfold set at this
     rw[this,ZcX,ZpP,Zlh]
theorem set_ofList{l:List α}{i:Nat}(v:α)(h:i<l.length):(ofList l).set i v=ofList (l.set i v):=by
 unfold ofList
 rw[ZnB,ZnB,List.length_set]
 exact ZpQ _ l i v (Zl _) h
end T
def lay(l:List AV):Nat→List AV→List AV
 |_,[]=>l
 |o,v::vs=>lay (l.set o v) (o+1) vs
theorem Zn2: ∀(l:List AV) (o:Nat) (vs:List AV),(lay l o vs).length=l.length
 |_,_,[]=>rfl
 |l,o,v::vs=>by
  show(lay (l.set o v) (o+1) vs).length=_
  rw[Zn2,List.length_set]
theorem Zli: ∀(l:List AV) (o:Nat) (vs:List AV),o+vs.length≤l.length→Y4 (T.ofList l) o vs=T.ofList (lay l o vs)
 |_,_,[],_=>rfl
 |l,o,v::vs,h=>by
  simp only[Zn] at h
  show Y4 ((T.ofList l).set o v) (o+1) vs=T.ofList (lay (l.set o v) (o+1) vs)
  rw[T.set_ofList v (by omega),Zli (l.set o v) (o+1) vs (by rw[List.length_set];omega)]
theorem Zru: ∀(l:List AV) (o:Nat) (vs:List AV),o+vs.length≤l.length→lay l o vs=l.take o++(vs++l.drop (o+vs.length))
 |l,o,[],h=>by show l=_;simp
 |l,o,v::vs,h=>by
  simp only[Zn] at h
  show lay (l.set o v) (o+1) vs=_
  rw[Zru (l.set o v) (o+1) vs (by rw[List.length_set];omega),List.set_eq_take_append_cons_drop,if_pos (by omega)]
  have e1:(l.take o++v::l.drop (o+1)).take (o+1)=l.take o++[v]:=by
   rw[List.take_append,Zv (by rw[List.length_take];omega),List.length_take,Nat.min_eq_left (by omega),show o+1 - o=1 by omega];rfl
  have e2:(l.take o++v::l.drop (o+1)).drop (o+1+vs.length)=l.drop (o+(v::vs).length):=by
   rw[List.drop_append,List.drop_eq_nil_of_le (by rw[List.length_take];omega),List.nil_append,List.length_take,Nat.min_eq_left (by omega),show o+1+vs.length - o=vs.length+1 by omega,List.drop_succ_cons,List.drop_drop,Zn]
   congr 1;omega
  rw[e1,e2];simp
noncomputable section
def rG(e sz:Nat)(l:List AV)(fz:Nat)(sm own ex:Bool):Obj:= .row ⟨e,sz,Yi l,T.ofList l, .unk,fz,sm,own,ex⟩
theorem Zrv(e sz:Nat)(l:List AV)(fz:Nat)(sm own ex:Bool)(i:Nat):Row.get ⟨e,sz,Yi l,T.ofList l, .unk,fz,sm,own,ex⟩ i=l.getD i .unk:=by
 rw[Row.get_eq]
 show((T.ofList l).get i).getD .unk=_
 rw[T.get_ofList,Zi]
theorem ZpR(e sz:Nat)(l:List AV)(fz:Nat)(sm own ex:Bool):Cells ⟨e,sz,Yi l,T.ofList l, .unk,fz,sm,own,ex⟩ l:=Cells.new ..
def ld1(x:Option Obj)(o:Nat)(H:Heap):OR:=match x with|some (.row r)=>ZR (Nat.ble (Nat.succ o) r.size) (.val (r.get o) H)|_=> .fail
theorem ZmQ(b o:Nat)(H:Heap):Zit (.ptr b o) H=ld1 (H.t.get b) o H:=rfl
theorem ZT{o:Nat}{l:List AV}(h:o<l.length)(e sz fz:Nat)(sm own ex:Bool)(H:Heap):ld1 (some (rG e sz l fz sm own ex)) o H= .val (l.getD o .unk) H:=by
 show ZR (Nat.ble (Nat.succ o) (Yi l)) (.val (Row.get ⟨e,sz,Yi l,T.ofList l, .unk,fz,sm,own,ex⟩ o) H)=_
 rw[Ye,Zj (show Nat.succ o≤l.length from h)]
 show OR.val (Row.get ⟨e,sz,l.length,T.ofList l, .unk,fz,sm,own,ex⟩ o) H=_
 rw[←Ye,Zrv]
def ldN(n:Nat)(x:Option Obj)(o:Nat)(H:Heap):OR:=match x with|some (.row r)=>ZR (Nat.ble (Nat.add o n) r.size) (.val (.agg (loadN r o n)) H)|_=> .fail
theorem ZxB(n b o:Nat)(H:Heap):ZmJ n (.ptr b o) H=ldN n (H.t.get b) o H:=rfl
theorem Yu{n o:Nat}{l:List AV}(h:o+n≤l.length)(e sz fz:Nat)(sm own ex:Bool)(H:Heap):ldN n (some (rG e sz l fz sm own ex)) o H= .val (.agg ((l.drop o).take n)) H:=by
 show ZR (Nat.ble (o+n) (Yi l)) (.val (.agg (loadN ⟨e,sz,Yi l,T.ofList l, .unk,fz,sm,own,ex⟩ o n)) H)=_
 rw[(ZpR e sz l fz sm own ex).load h,Ye,Zj h];rfl
def stN(n:Nat)(x:Option Obj)(b o:Nat)(v:AV)(H:Heap):OR:=match x with
 |some (.row r)=>ZR (Nat.ble 1 n)<|ZR (H.may r b) (ZR (Nat.ble (Nat.add o n) r.size) (ZR (Nat.ble r.fz o) (ZR (Nat.beq (Yi v.cells) n) (.val Yo (H.put b (.row (r.setCells (Y4 r.cells o v.cells))))))))
 |_=> .fail
theorem Zuv(n b o:Nat)(v:AV)(H:Heap):Zn0 n (.ptr b o) v H=stN n (H.t.get b) b o v H:=rfl
theorem ZcY{n b o:Nat}{l:List AV}{v:AV}{H:Heap}{fz:Nat}(hn:1≤n)(hv:v.cells.length=n)(ho:o+n≤l.length)(hro:H.ro≤b)(hfz:fz≤o)(e sz:Nat)(sm ex:Bool):
  stN n (some (rG e sz l fz sm true ex)) b o v H= .val Yo (H.put b (rG e sz (lay l o v.cells) fz sm true ex)):=by
 show ZR (Nat.ble 1 n) (ZR (cond true (Nat.ble H.ro b) false) (ZR (Nat.ble (o+n) (Yi l)) (ZR (Nat.ble fz o) (ZR (Nat.beq (Yi v.cells) n) (.val Yo (H.put b (.row ⟨e,sz,Yi l,Y4 (T.ofList l) o v.cells, .unk,fz,sm,true,ex⟩)))))))=_
 rw[Zj hn,Zj hro,Ye,Zj ho,Zj hfz,Ye,hv,Nat.beq_refl,Zli l o v.cells (by omega)]
 unfold rG
 rw[Ye,Zn2];rfl
theorem Zbf{b o:Nat}{l:List AV}{v:AV}{H:Heap}{fz:Nat}(hv:v.cells=[v])(ho:o<l.length)(hro:H.ro≤b)(hfz:fz≤o)(e sz:Nat)(sm ex:Bool):
  stN 1 (some (rG e sz l fz sm true ex)) b o v H= .val Yo (H.put b (rG e sz (l.set o v) fz sm true ex)):=by
 rw[ZcY (Zl 1) (by rw[hv];rfl) ho hro hfz,hv];rfl
theorem Z5(H:Heap)(b:Nat)(o:Obj):(H.put b o).t.get b=some o:=by rw[ZcT,if_pos rfl]
theorem ZF{b c:Nat}(h: ¬b=c)(H:Heap)(o:Obj):(H.put b o).t.get c=H.t.get c:=by rw[ZcT,if_neg h]
theorem ZA{H:Heap}{c:Nat}(h:H.nx=c)(o:Obj):(H.new o).t.get c=some o:=by rw[ZaC,if_pos h]
theorem ZH{H:Heap}{c:Nat}(h: ¬H.nx=c)(o:Obj):(H.new o).t.get c=H.t.get c:=by rw[ZaC,if_neg h]
theorem Zn3(H:Heap)(b:Nat)(o o':Obj):(H.put b o).put b o'=H.put b o':=by
 unfold Heap.put;simp only[T.set_set]
theorem Wy{H:Heap}{b:Nat}(h:H.nx=b)(o o':Obj):(H.new o).put b o'=H.new o':=by
 subst h;unfold Heap.put Heap.new;simp only[T.set_set]
theorem Wk(H:Heap)(e sz:Nat)(l:List AV)(ex:Bool):H.newRow e sz l ex=H.new (rG e sz l 0 false true ex):=rfl
theorem ZpS(e:Nat)(c:AV)(cs:List AV)(tm:TM)(H:Heap):Yk e (c::cs) tm H= .val (.ptr H.nx 0) (H.new (rG e 1 (c::cs) 0 false true true)):=by
 rw[Zra _ _ (by rw[Ye];simp)];rfl
def Zrw(e:Nat)(a:AV)(H:Heap):OR:=ZR (Nat.ble 1 (Yi a.cells))<| .val (.ptr H.nx 0) (H.newRow e 1 a.cells true)
theorem Zz9(x:EvF)(e:Nat)(tm:TM)(H:Heap):UE x e tm H=Zrw e (x tm) H:=rfl
theorem ZsL{a:AV}{l:List AV}(h:a.cells=l)(h1:1≤l.length)(e:Nat)(H:Heap):Zrw e a H= .val (.ptr H.nx 0) (H.new (rG e 1 l 0 false true true)):=by
 subst h
 show ZR (Nat.ble 1 (Yi a.cells)) _=_
 rw[Ye,Zj h1];rfl
theorem Zrx(l:List AV):(AV.agg l).cells=l:=rfl
theorem WK{l:List AV}(h1:1≤l.length)(e:Nat)(H:Heap):Zrw e (.agg l) H= .val (.ptr H.nx 0) (H.new (rG e 1 l 0 false true true)):=ZsL (Zrx l) h1 e H
theorem ZpT{a:AV}(h:a.cells=[a])(e:Nat)(H:Heap):Zrw e a H= .val (.ptr H.nx 0) (H.new (rG e 1 [a] 0 false true true)):=ZsL h (Zl 1) e H
theorem Zlj(b:Bool):(AV.bool b).cells=[.bool b]:=rfl
theorem ZmR(k:IntKind)(n:Int):(AV.int k n).cells=[.int k n]:=rfl
theorem ZpU(k:IntKind)(n:Nat):(nI k n).cells=[nI k n]:=rfl
theorem ZmS(x:UInt8):(u8V x).cells=[u8V x]:=rfl
theorem ZmT(s:List UInt8):(AV.str s).cells=[.str s]:=rfl
theorem Zlk:AV.nilp.cells=[.nilp]:=rfl
theorem ZmU(b o:Nat):(AV.ptr b o).cells=[.ptr b o]:=rfl
theorem Zll:AV.nils.cells=[.nils]:=rfl
theorem Zjt(b o n:Nat)(c:Option Nat):(AV.slice b o n c).cells=[.slice b o n c]:=rfl
theorem ZmV(b:Nat):(AV.map b).cells=[.map b]:=rfl
theorem Zlm(f:Nat)(a b:List AV):(AV.func f a b).cells=[.func f a b]:=rfl
theorem Zju(t:Nat)(v:AV):(AV.iface t v).cells=[.iface t v]:=rfl
theorem Zln:AV.nili.cells=[.nili]:=rfl
theorem ZmW(l:List AV):(AV.agg l).cells=l:=rfl
theorem YV{a:TM→Heap→X→Res}{x:X}(I:Nat→TM→Heap→Prop)(Q:Out→TM→Heap→Prop)
  (step: ∀m tm H,I m tm H→ ∃o tm' H',a tm H x= .ok o tm' H' x∧((o= .normal∧ ∃k,k<m∧I k tm' H')∨(o≠ .normal∧Q o tm' H'))):
  ∀(F m:Nat) (tm:TM) (H:Heap),m<F→I m tm H→ ∃o tm' H',WC a F tm H x= .ok o tm' H' x∧o≠ .normal∧Q o tm' H'
 |0,m,_,_,h,_=>by omega
 |F+1,m,tm,H,h,hi=>by
  obtain⟨o,tm',H',h1,h2⟩:=step m tm H hi
  rcases h2 with⟨rfl,k,hk,h3⟩|⟨h2,h3⟩
  ·obtain⟨o2,tm2,H2,e,h4,h5⟩:=YV I Q step F k tm' H' (by omega) h3
   refine⟨o2,tm2,H2,?_,h4,h5⟩
   show QH (a tm H x) (WC a F)=_
   rw[h1];exact e
  ·refine⟨o,tm',H',?_,h2,h3⟩
   show QH (a tm H x) (WC a F)=_
   rw[h1]
   cases o with
   |normal=>exact absurd rfl h2
   |_=>rfl
theorem YS{a:TM→Heap→X→Res}{F:Nat}{H:Heap}{x:X}{L:Res}{P:TM→Prop}{Q:Out→TM→Heap→Prop}(lp: ∀T,P T→ ∃o tm' H',WC a F T H x= .ok o tm' H' x∧o≠ .normal∧Q o tm' H'){T:TM}(hL:WC a F T H x=L)(hi:P T):
  ∃o tm' H',L= .ok o tm' H' x∧o≠ .normal∧Q o tm' H':=by
 obtain⟨o,b,c,e,j⟩:=lp T hi
 exact⟨o,b,c,hL.symm.trans e,j⟩
end
end Go.AI
namespace Go.AI
open Go
noncomputable section
theorem ZG:(∀(f:OpF) (dst:ZD) (next:D) (c:Ctx) (tm:TM) (H:Heap) (x:X),Za f dst next c tm H x=Zal (next c) dst c tm H x (f tm H))∧(∀(next:TM→Heap→X→Res) (dst:ZD) (c:Ctx) (tm:TM) (H:Heap) (x:X) (v:AV) (H':Heap),Zal next dst c tm H x (.val v H')=next (dst tm v) H' x)∧(∀(next:TM→Heap→X→Res) (dst:ZD) (c:Ctx) (tm:TM) (H:Heap) (x:X) (f:Nat) (args:List AV) (H':Heap),Zal next dst c tm H x (.oth (.call f args H'))=Zjz next dst tm x (c.call f args H'))∧(∀(next:TM→Heap→X→Res) (dst:ZD) (tm:TM) (x:X) (v:AV) (H:Heap),Zjz next dst tm x (.ret v H)=next (dst tm v) H x)∧(∀(a b:D) (c:Ctx) (tm:TM) (H:Heap) (x:X),Zg a b c tm H x=QH (a c tm H x) (b c))∧(∀(tm:TM) (H:Heap) (x:X) (k:TM→Heap→X→Res),QH (.ok .normal tm H x) k=k tm H x)∧(∀(tm:TM) (H:Heap) (x:X) (k:TM→Heap→X→Res),QH (.ok .ret tm H x) k= .ok .ret tm H x)∧(∀(i:Nat) (tm:TM) (H:Heap) (x:X) (k:TM→Heap→X→Res),QH (.ok (.exit i) tm H x) k= .ok (.exit i) tm H x)∧(∀(c:Ctx) (tm:TM) (H:Heap) (x:X),Zb c tm H x= .ok .normal tm H x)∧(∀(c:Ctx) (tm:TM) (H:Heap) (x:X),Z2 c tm H x= .ok .ret tm H x)∧(∀(i:Nat) (c:Ctx) (tm:TM) (H:Heap) (x:X),WQ i c tm H x= .ok (.exit i) tm H x)∧(∀(q:EvF) (a b:D) (c:Ctx) (tm:TM) (H:Heap) (x:X),ZJ q a b c tm H x=Znp (q tm) fun v=>Zgg (a c) (b c) v tm H x)∧(∀(b:Bool) (k:Bool→Res),Znp (.bool b) k=k b)∧(∀(a b:TM→Heap→X→Res) (tm:TM) (H:Heap) (x:X),Zgg a b true tm H x=a tm H x)∧(∀(a b:TM→Heap→X→Res) (tm:TM) (H:Heap) (x:X),Zgg a b false tm H x=b tm H x)∧(∀(i:Nat) (a:D) (c:Ctx) (tm:TM) (H:Heap) (x:X),Z9 i a c tm H x=QY i (a c tm H x))∧(∀(a:D) (c:Ctx) (tm:TM) (H:Heap) (x:X),WV a c tm H x=WC (a c) c.fuel tm H x)∧(∀(i:Nat) (tm:TM) (H:Heap) (x:X),QY i (.ok .normal tm H x)= .ok .normal tm H x)∧(∀(i:Nat) (tm:TM) (H:Heap) (x:X),QY i (.ok (.exit i) tm H x)= .ok .normal tm H x)∧(∀(i:Nat) (tm:TM) (H:Heap) (x:X),QY i (.ok .ret tm H x)= .ok .ret tm H x)∧(∀(tm:TM) (v:AV),d0 tm v=tm)∧(∀(v:AV) (tm:TM),k v tm=v)∧(∀(tm:TM),evs tm []=[])∧(∀(tm:TM) (f:EvF) (l:List EvF),evs tm (f::l)=f tm::evs tm l)∧(∀(x:EvF) (tm:TM) (H:Heap),oMv x tm H= .val (x tm) H)∧(∀(x:EvF) (tm:TM) (H:Heap),Ztf x tm H=ZB5 (x tm) H)∧(∀(x:EvF) (k:IntKind) (tm:TM) (H:Heap),Vg x k tm H=ZjS k (x tm) H)∧(∀(x y:EvF) (tm:TM) (H:Heap),Yj x y tm H=Zq5 (x tm) (y tm) H)∧(∀(x y:EvF) (tm:TM) (H:Heap),WT x y tm H=ZzP (x tm) (y tm) H)∧(∀(x y:EvF) (tm:TM) (H:Heap),ZcC x y tm H=ZzQ (x tm) (y tm) H)∧(∀(x y:EvF) (tm:TM) (H:Heap),ZhK x y tm H=Zw0 (x tm) (y tm) H)∧(∀(x y:EvF) (tm:TM) (H:Heap),Zkd x y tm H=Zw1 (x tm) (y tm) H)∧(∀(x y:EvF) (f:Nat→Nat→Nat→Nat) (tm:TM) (H:Heap),Y6 x y f tm H=ZmH f (x tm) (y tm) H)∧(∀(x y:EvF) (tm:TM) (H:Heap),ZaS x y tm H=Zq6 (x tm) (y tm) H)∧(∀(x y:EvF) (tm:TM) (H:Heap),Zke x y tm H=Zt4 (x tm) (y tm) H)∧(∀(x:EvF) (tm:TM) (H:Heap),Zvu x tm H=ZBg (x tm) H)∧(∀(x y:EvF) (f:Int→Int→Bool) (g:List UInt8→List UInt8→Bool) (tm:TM) (H:Heap),Yh x y f g tm H=ZcR f g (x tm) (y tm) H)∧(∀(x y:EvF) (f:AV→AV→Option Bool) (neg:Bool) (tm:TM) (H:Heap),oEq x y f neg tm H=eqV f neg (x tm) (y tm) H)∧(∀(x:EvF) (tm:TM) (H:Heap),ZbH x tm H=ZzR (x tm) H)∧(∀(x y z:EvF) (tm:TM) (H:Heap),Z6 x y z tm H=ZmI (x tm) (y tm) (z tm) H)∧(∀(f:Nat) (args:List EvF) (tm:TM) (H:Heap),Zq f args tm H= .oth (.call f (evs tm args) H))∧(∀(yes no:Res),Vh (.bool true) true yes no=yes)∧(∀(yes no:Res),Vh (.bool false) true yes no=no)∧(∀(yes no:Res),Vh (.bool false) false yes no=yes)∧(∀(yes no:Res),Vh (.bool true) false yes no=no)∧(∀(g:EvF) (b:Bool) (f:OpF) (dst:ZD) (next:D) (c:Ctx) (tm:TM) (H:Heap) (x:X),ZP g b f dst next c tm H x=Vh (g tm) b (Zal (next c) dst c tm H x (f tm H)) (next c (dst tm Yo) H x))∧(∀(n:Nat) (l:List AV),Yn n (.agg l)=Zae n l)∧(∀(n:Nat),Yn n Yo=true)∧(∀(n:Nat) (s:List UInt8),Yn n (.str s)=true)∧(∀(n:Nat) (k:IntKind) (m:Nat),Yn n (nI k m)=true)∧(∀(n:Nat) (x:UInt32),Yn n (Zf1 x)=true)∧(∀(n:Nat) (x:UInt8),Yn n (u8V x)=true)∧(∀(n:Nat) (x:Bool),Yn n (.bool x)=true)∧(∀(sz:Nat) (x:EvF) (lo hi:Option EvF) (tm:TM) (H:Heap),ZhN sz x lo hi none tm H=Zle sz (x tm) (lo.map fun f=>f tm) (hi.map fun f=>f tm) H)∧(∀(mx:Bool) (args:List EvF) (tm:TM) (H:Heap),Zba mx args tm H=ZB8 mx (evs tm args) H)∧(∀(zs:List AV) (ps:List Znj) (tm:TM) (H:Heap),YZ zs ps tm H=Zay zs (ps.map fun p=>(p.off,p.sz,p.x tm)) H)∧(∀(e sz n:Nat) (zs:List AV) (ps:List Znj) (tm:TM) (H:Heap),YL e sz n zs ps tm H=Uz e sz n zs (ps.map fun p=>(p.off,p.sz,p.x tm)) H)∧(∀(x y:EvF) (e sz bytes:Nat) (tm:TM) (H:Heap),VY x y e sz bytes tm H=Ug e sz bytes (x tm) (y tm) H)∧(∀(x y:EvF) (sz:Nat) (tm:TM) (H:Heap),ZoJ x y sz tm H=Zxu sz (x tm) (y tm) H)∧(∀(n sz:Nat) (x:EvF) (lo hi:Option EvF) (tm:TM) (H:Heap),ZhO n sz x lo hi none tm H=Zlf n sz (x tm) (lo.map fun f=>f tm) (hi.map fun f=>f tm) H)∧(∀(x:EvF) (tm:TM) (H:Heap),WB x tm H=ZsJ (x tm) H)∧(∀(x y:EvF) (tm:TM) (H:Heap),Ya x y tm H=ZcU (x tm) (y tm) H)∧(∀(x:EvF) (lo hi:Option EvF) (tm:TM) (H:Heap),Wl x lo hi none tm H=Zf3 (x tm) (lo.map fun f=>f tm) (hi.map fun f=>f tm) H)∧(∀(x:EvF) (i:Nat) (tm:TM) (H:Heap),Yz x i tm H=Zjs i (x tm) H)∧(∀(b c:AV) (H:Heap),ZmI (.bool true) b c H= .val b H)∧(∀(b c:AV) (H:Heap),ZmI (.bool false) b c H= .val c H)∧(∀(b:Bool) (H:Heap),ZzR (.bool b) H= .val (.bool (cond b false true)) H)∧(∀(x:EvF) (tm:TM) (H:Heap),Zz x tm H=Zit (x tm) H)∧(∀(x:EvF) (n:Nat) (tm:TM) (H:Heap),Z8 x n tm H=ZmJ n (x tm) H)∧(∀(x y:EvF) (n:Nat) (tm:TM) (H:Heap),ZS x y n tm H=Zn0 n (x tm) (y tm) H)∧(∀(x:EvF) (n:Nat) (tm:TM) (H:Heap),Z7 x n tm H=ZzV n (x tm) H)∧(∀(x y:EvF) (n sz:Nat) (tm:TM) (H:Heap),ZeZ x y n sz tm H=ZsG n sz (x tm) (y tm) H)∧(∀(x y:EvF) (sz:Nat) (tm:TM) (H:Heap),Y7 x y sz tm H=Zlb sz (x tm) (y tm) H)∧(∀(x:EvF) (tm:TM) (H:Heap),YC x tm H=ZzW (x tm) H)∧(∀(x:EvF) (tm:TM) (H:Heap),Wo x tm H=Za2 (x tm) H)∧(∀(e n:Nat) (v:AV) (tm:TM) (H:Heap),ZjU e n v tm H= .val (.ptr H.nx 0) (H.new (.row ⟨e,1,n, .leaf,v,0,false,true,true⟩)))∧(∀(x:EvF) (e:Nat) (tm:TM) (H:Heap),UE x e tm H=Zrw e (x tm) H)∧(∀(e:Nat) (c:AV) (cs:List AV) (tm:TM) (H:Heap),Yk e (c::cs) tm H= .val (.ptr H.nx 0) (H.new (rG e 1 (c::cs) 0 false true true)))∧(∀(n b o:Nat) (H:Heap),ZzV n (.ptr b o) H= .val (.ptr b (o+n)) H)∧(∀(b o:Nat) (H:Heap),ZzW (.ptr b o) H= .val (.ptr b o) H)∧(∀(b o n:Nat) (c:Option Nat) (H:Heap),Za2 (.slice b o n c) H= .val (nI .i64 n) H)∧(∀(H:Heap),Za2 .nils H= .val (nI .i64 0) H)∧(∀(H:Heap) (b:Nat) (o:Obj),(H.put b o).nx=H.nx)∧(∀(H:Heap) (b:Nat) (o:Obj),(H.put b o).ro=H.ro)∧(∀(H:Heap) (o:Obj),(H.new o).nx=H.nx+1)∧(∀(H:Heap) (o:Obj),(H.new o).ro=H.ro)∧(∀(H:Heap) (b:Nat) (o:Obj),(H.put b o).t.get b=some o)∧(∀(H:Heap) (b:Nat) (o o':Obj),(H.put b o).put b o'=H.put b o')∧(∀(H:Heap) (e sz:Nat) (l:List AV) (ex:Bool),H.newRow e sz l ex=H.new (rG e sz l 0 false true ex))∧(∀(b o:Nat) (H:Heap),Zit (.ptr b o) H=ld1 (H.t.get b) o H)∧(∀(n b o:Nat) (H:Heap),ZmJ n (.ptr b o) H=ldN n (H.t.get b) o H)∧(∀(n b o:Nat) (v:AV) (H:Heap),Zn0 n (.ptr b o) v H=stN n (H.t.get b) b o v H)∧(∀(b:Bool),(AV.bool b).cells=[.bool b])∧(∀(k:IntKind) (n:Int),(AV.int k n).cells=[.int k n])∧(∀(k:IntKind) (n:Nat),(nI k n).cells=[nI k n])∧(∀(x:UInt8),(u8V x).cells=[u8V x])∧(∀(s:List UInt8),(AV.str s).cells=[.str s])∧(AV.nilp.cells=[.nilp])∧(∀(b o:Nat),(AV.ptr b o).cells=[.ptr b o])∧(AV.nils.cells=[.nils])∧(∀(b o n:Nat) (c:Option Nat),(AV.slice b o n c).cells=[.slice b o n c])∧(∀(b:Nat),(AV.map b).cells=[.map b])∧(∀(f:Nat) (a b:List AV),(AV.func f a b).cells=[.func f a b])∧(∀(t:Nat) (v:AV),(AV.iface t v).cells=[.iface t v])∧(AV.nili.cells=[.nili])∧(∀(l:List AV),(AV.agg l).cells=l)∧(∀(l:List PI) (c:Ctx) (tm:TM) (H:Heap) (x:X),Yy l c tm H x=WD (l.map (·.dst)) ZdB l c [] tm H x)∧(∀(ds:List ZD) (fin:PK) (c:Ctx) (rs:List RD) (tm:TM) (H:Heap) (x:X),WD ds fin [] c rs tm H x=cond (still tm H rs) (fin rs tm H x) .fail)∧(∀(ds:List ZD) (fin:PK) (p:PI) (l:List PI) (c:Ctx) (rs:List RD) (tm:TM) (H:Heap) (x:X),WD ds fin (p::l) c rs tm H x=Ui ds p (WD ds fin l c) c rs tm H x)∧(∀(rs:List RD) (tm:TM) (H:Heap) (x:X),ZdB rs tm H x= .ok .normal tm H x)∧(∀(ds:List ZD) (f:OpF) (os:List (ZD×EvF)) (dst:ZD) (i bef:Nat) (nx:PK) (c:Ctx) (rs:List RD) (tm:TM) (H:Heap) (x:X),Ui ds ⟨f,none,os,dst, .free,i,bef⟩ nx c rs tm H x=cond (U7 H.nx tm os) (ZdA ⟨f,none,os,dst, .free,i,bef⟩ nx rs tm H x (f (rsF tm os) ⟨H.nx, .leaf,H.nx⟩)) .fail)∧(∀(ds:List ZD) (f:OpF) (os:List (ZD×EvF)) (dst:ZD) (i bef:Nat) (nx:PK) (c:Ctx) (rs:List RD) (tm:TM) (H:Heap) (x:X),Ui ds ⟨f,none,os,dst, .read,i,bef⟩ nx c rs tm H x=Zgh ⟨f,none,os,dst, .read,i,bef⟩ nx rs tm H x (f (rsF tm os) ⟨H.nx,H.t,H.nx⟩))∧(∀(ds:List ZD) (f:OpF) (os:List (ZD×EvF)) (dst:ZD) (i bef:Nat) (nx:PK) (c:Ctx) (rs:List RD) (tm:TM) (H:Heap) (x:X),Ui ds ⟨f,none,os,dst, .eff,i,bef⟩ nx c rs tm H x=cond (still tm H rs) (Zgi ds ⟨f,none,os,dst, .eff,i,bef⟩ nx rs c tm x (f (rsF tm os) H)) .fail)∧(∀(ds:List ZD) (f:OpF) (e:EvF) (b:Bool) (os:List (ZD×EvF)) (dst:ZD) (i bef:Nat) (nx:PK) (c:Ctx) (rs:List RD) (tm:TM) (H:Heap) (x:X),Ui ds ⟨f,some (e,b),os,dst, .free,i,bef⟩ nx c rs tm H x=Vh (e tm) b (cond (U7 H.nx tm os) (ZdA ⟨f,some (e,b),os,dst, .free,i,bef⟩ nx rs tm H x (f (rsF tm os) ⟨H.nx, .leaf,H.nx⟩)) .fail) (nx rs (dst tm Yo) H x))∧(∀(ds:List ZD) (f:OpF) (e:EvF) (b:Bool) (os:List (ZD×EvF)) (dst:ZD) (i bef:Nat) (nx:PK) (c:Ctx) (rs:List RD) (tm:TM) (H:Heap) (x:X),Ui ds ⟨f,some (e,b),os,dst, .read,i,bef⟩ nx c rs tm H x=Vh (e tm) b (Zgh ⟨f,some (e,b),os,dst, .read,i,bef⟩ nx rs tm H x (f (rsF tm os) ⟨H.nx,H.t,H.nx⟩)) (nx rs (dst tm Yo) H x))∧(∀(ds:List ZD) (f:OpF) (e:EvF) (b:Bool) (os:List (ZD×EvF)) (dst:ZD) (i bef:Nat) (nx:PK) (c:Ctx) (rs:List RD) (tm:TM) (H:Heap) (x:X),Ui ds ⟨f,some (e,b),os,dst, .eff,i,bef⟩ nx c rs tm H x=cond (still tm H rs) (Vh (e tm) b (Zgi ds ⟨f,some (e,b),os,dst, .eff,i,bef⟩ nx rs c tm x (f (rsF tm os) H)) (nx (WW bef rs) (dst tm Yo) H x)) .fail)∧(∀(ds:List ZD) (f:OpF) (os:List (ZD×EvF)) (dst:ZD) (i bef:Nat) (nx:PK) (c:Ctx) (rs:List RD) (tm:TM) (x:X) (g:Option (EvF×Bool)) (kd:ZfH) (v:AV) (H':Heap),Zgi ds ⟨f,g,os,dst,kd,i,bef⟩ nx rs c tm x (.val v H')=nx (WW bef rs) (dst tm v) H' x)∧(∀(ds:List ZD) (f:OpF) (os:List (ZD×EvF)) (dst:ZD) (i bef:Nat) (nx:PK) (c:Ctx) (rs:List RD) (tm:TM) (x:X) (g:Option (EvF×Bool)) (kd:ZfH) (H':Heap) (q:Nat) (args:List AV),Zgi ds ⟨f,g,os,dst,kd,i,bef⟩ nx rs c tm x (.oth (.call q args H'))=Zkh ds ⟨f,g,os,dst,kd,i,bef⟩ nx rs tm x (c.call q args H'))∧(∀(ds:List ZD) (f:OpF) (os:List (ZD×EvF)) (dst:ZD) (i bef:Nat) (nx:PK) (rs:List RD) (tm:TM) (x:X) (g:Option (EvF×Bool)) (kd:ZfH) (v:AV) (H':Heap),Zkh ds ⟨f,g,os,dst,kd,i,bef⟩ nx rs tm x (.ret v H')=nx (WW bef rs) (dst tm v) H' x)∧(∀(b:Nat),WW b []=[])∧(∀(f:OpF) (os:List (ZD×EvF)) (dst:ZD) (i bef:Nat) (rs:List RD) (g:Option (EvF×Bool)) (kd:ZfH) (v:AV) (b:Nat),WW b (⟨⟨f,g,os,dst,kd,i,bef⟩,v⟩::rs)=cond (Nat.testBit b i) (WW b rs) (⟨⟨f,g,os,dst,kd,i,bef⟩,v⟩::WW b rs))∧(∀(tm:TM) (H:Heap),still tm H []=true)∧(∀(f:OpF) (os:List (ZD×EvF)) (dst:ZD) (i bef:Nat) (rs:List RD) (tm:TM) (H:Heap) (g:Option (EvF×Bool)) (kd:ZfH) (v:AV),still tm H (⟨⟨f,g,os,dst,kd,i,bef⟩,v⟩::rs)=cond (ZoL ⟨⟨f,g,os,dst,kd,i,bef⟩,v⟩ tm H) (still tm H rs) false)∧(∀(f:OpF) (os:List (ZD×EvF)) (dst:ZD) (i bef:Nat) (tm:TM) (H:Heap) (g:Option (EvF×Bool)) (kd:ZfH) (v:AV),ZoL ⟨⟨f,g,os,dst,kd,i,bef⟩,v⟩ tm H=WG (f (rsF tm os) ⟨H.nx,H.t,H.nx⟩) v H.nx)∧(∀(v:UInt32) (n:Nat) (t:T Obj),WG (.val (Zf1 v) ⟨n,t,n⟩) (Zf1 v) n=true)∧(∀(v:UInt8) (n:Nat) (t:T Obj),WG (.val (u8V v) ⟨n,t,n⟩) (u8V v) n=true)∧(∀(k:IntKind) (v:Nat) (n:Nat) (t:T Obj),WG (.val (nI k v) ⟨n,t,n⟩) (nI k v) n=true)∧(∀(s:List UInt8) (n:Nat) (t:T Obj),WG (.val (.str s) ⟨n,t,n⟩) (.str s) n=true)∧(∀(n:Nat) (t:T Obj),WG (.val .nils ⟨n,t,n⟩) .nils n=true)∧(∀(b o n:Nat) (c:Option Nat) (k:Nat) (t:T Obj),WG (.val (.slice b o n c) ⟨k,t,k⟩) (.slice b o n c) k=true)∧(∀(n:Nat) (tm:TM),U7 n tm []=true)∧(∀(n:Nat) (tm:TM) (s:ZD) (g:EvF) (os:List (ZD×EvF)),U7 n tm ((s,g)::os)=cond (Yn n (g tm)) (U7 n tm os) false)∧(∀(tm:TM),rsF tm []=tm0)∧(∀(tm:TM) (s:ZD) (g:EvF) (os:List (ZD×EvF)),rsF tm ((s,g)::os)=s (rsF tm os) (g tm))∧(∀(a:AV) (l:List AV) (H:Heap),Zjs 0 (.tup (a::l)) H= .val a H)∧(∀(a b:AV) (l:List AV) (H:Heap),Zjs 1 (.tup (a::b::l)) H= .val b H)∧(∀(a b c:AV) (l:List AV) (H:Heap),Zjs 2 (.tup (a::b::c::l)) H= .val c H)∧(∀(dc:Option AV→Nat→List AV→Heap→DR) (rs:List (EvF×Option (Nat×Bool))) (tm:TM) (H:Heap) (rc:Option AV),ZcH dc rs (.ok .ret tm H ⟨[],rc⟩)=results rs tm H)∧(∀(dc:Option AV→Nat→List AV→Heap→DR) (rs:List (EvF×Option (Nat×Bool))) (tm:TM) (H:Heap) (rc:Option AV),ZcH dc rs (.ok .normal tm H ⟨[],rc⟩)=results rs tm H)∧(∀(f:EvF) (tm:TM) (H:Heap),results [(f,none)] tm H= .ret (f tm) H)∧(∀(tm:TM) (H:Heap),results [] tm H= .ret (.tup []) H)∧(∀(a b:UInt32) (H:Heap),Zq5 (Zf1 a) (Zf1 b) H= .val (Zf1 (a+b)) H)∧(Ub []=tm0)∧(∀(a:AV),Ub [a]=st0 tm0 a)∧(∀(a b:AV),Ub [a,b]=st1 (st0 tm0 a) b)∧(∀(a b c:AV),Ub [a,b,c]=st2 (st1 (st0 tm0 a) b) c)∧(∀(a b c d:AV),Ub [a,b,c,d]=st3 (st2 (st1 (st0 tm0 a) b) c) d)∧(∀(a b:List UInt8) (H:Heap),eqV eqS false (.str a) (.str b) H= .val (.bool (decide (a=b))) H)∧(∀(a b:List UInt8) (H:Heap),eqV eqS true (.str a) (.str b) H= .val (.bool (!decide (a=b))) H)∧(∀(a b:Bool) (H:Heap),eqV eqB false (.bool a) (.bool b) H= .val (.bool (decide (a=b))) H)∧(∀(k:IntKind) (a b:Nat) (H:Heap),ZcR YY Yd (nI k a) (nI k b) H= .val (.bool (decide (a<b))) H)∧(∀(k:IntKind) (a b:Nat) (H:Heap),ZcR UF WU (nI k a) (nI k b) H= .val (.bool (decide (b≤a))) H)∧(∀(k:IntKind) (a b:Nat) (H:Heap),ZcR Za9 Uy (nI k a) (nI k b) H= .val (.bool (decide (b<a))) H)∧(∀(k:IntKind) (a b:Nat) (H:Heap),ZcR ZbG U6 (nI k a) (nI k b) H= .val (.bool (decide (a≤b))) H)∧(∀(k:IntKind) (a b:Nat) (H:Heap),eqV eqI false (nI k a) (nI k b) H= .val (.bool (decide (a=b))) H)∧(∀(k:IntKind) (a b:Nat) (H:Heap),eqV eqI true (nI k a) (nI k b) H= .val (.bool (decide (a≠b))) H)∧(∀(s:List UInt8) (H:Heap),ZsJ (.str s) H= .val (nI .i64 s.length) H)∧(∀(x:EvF) (tm:TM) (H:Heap),Zl5 x tm H=Zxz (x tm) H)∧(∀(x:EvF) (u n:Nat) (tm:TM) (H:Heap),Zl6 x u n tm H=ZxA u n (x tm) H)∧(∀(x:EvF) (tm:TM) (H:Heap),ZjW x tm H=Zj4 (x tm) H)∧(∀(x y:EvF) (e:Nat) (tm:TM) (H:Heap),ZoK x y e tm H=ZsK e (x tm) (y tm) H):=⟨@ZwT, @ZwV, @ZtX, @Zef, @ZwW, @Vm, @ZtY, @Zq1, @ZtZ, @ZwX, @Zt0, @Zt1, @Zt2, @Zq2, @ZpC, @Zq3, @Zt3, @ZlT, @VN, @Zq4, @ZB4, @ZDL, @ZzN, @ZwY, @ZzO, @Zw2, @Zw3, @Zt5, @Zw4, @Zw5, @Zw6, @Zw7, @Zt6, @Zw8, @Zw9, @Zt7, @Zxa, @ZzS, @Zxb, @Zt8, @Zq7, @ZtT, @ZtW, @ZtU, @ZtV, @ZwU, @Zxx, @Zrr, @Zlg, @ZzY, @Zxn, @ZzZ, @Zun, @Zrl, @ZpL, @Zrn, @Zej, @ZbZ, @Zuq, @Zrm, @Zus, @ZpK, @Zrq, @Zut, @Zz2, @Zz3, @Zca, @Zq8, @Zt9, @Zq9, @Zxd, @Zua, @Zub, @Zxe, @Zuc, @ZpF, @Zz9, @ZpS, @Zxf, @Zxg, @Vb, @ZbA, @Zrc, @Zxh, @Vn, @Zxi, @Z5, @Zn3, @Wk, @ZmQ, @ZxB, @Zuv, @Zlj, @ZmR, @ZpU, @ZmS, @ZmT, @Zlk, @ZmU, @Zll, @Zjt, @ZmV, @Zlm, @Zju, @Zln, @ZmW, @Zrd, @Zue, @Zre, @Zuf, @Zrf, @Zrg, @Zug, @ZpI, @ZpJ, @Zrp, @Zxj, @Zui, @Zxk, @Zuj, @Zrh, @Zuk, @Zri, @Zxl, @Zrj, @Zul, @ZmK, @Zro, @QP, @Vo, @Zum, @Zrk, @Zz0, @Zxo, @Zz4, @Zz5, @Zz6, @ZwZ, @ZpD, @ZpE, @ZnZ, @ZzU, @ZzI, @ZzJ, @ZzK, @ZzL, @ZzM, @VB, @ZcV, @Zz7, @ZU, @YO, @Z4, @Zhl, @ZW, @ZcS, @Z1, @ZmN, @ZmO, @Zel, @Ziy⟩
theorem N8G:(∀{α:Type} (f:α→α) (n:N8 α),N8.a0 (N8.u0 f n)=f (N8.a0 n))∧(∀{α:Type} (f:α→α) (n:N8 α),N8.a0 (N8.u1 f n)=N8.a0 n)∧(∀{α:Type} (f:α→α) (n:N8 α),N8.a0 (N8.u2 f n)=N8.a0 n)∧(∀{α:Type} (f:α→α) (n:N8 α),N8.a0 (N8.u3 f n)=N8.a0 n)∧(∀{α:Type} (f:α→α) (n:N8 α),N8.a0 (N8.u4 f n)=N8.a0 n)∧(∀{α:Type} (f:α→α) (n:N8 α),N8.a0 (N8.u5 f n)=N8.a0 n)∧(∀{α:Type} (f:α→α) (n:N8 α),N8.a0 (N8.u6 f n)=N8.a0 n)∧(∀{α:Type} (f:α→α) (n:N8 α),N8.a0 (N8.u7 f n)=N8.a0 n)∧(∀{α:Type} (f:α→α) (n:N8 α),N8.a1 (N8.u0 f n)=N8.a1 n)∧(∀{α:Type} (f:α→α) (n:N8 α),N8.a1 (N8.u1 f n)=f (N8.a1 n))∧(∀{α:Type} (f:α→α) (n:N8 α),N8.a1 (N8.u2 f n)=N8.a1 n)∧(∀{α:Type} (f:α→α) (n:N8 α),N8.a1 (N8.u3 f n)=N8.a1 n)∧(∀{α:Type} (f:α→α) (n:N8 α),N8.a1 (N8.u4 f n)=N8.a1 n)∧(∀{α:Type} (f:α→α) (n:N8 α),N8.a1 (N8.u5 f n)=N8.a1 n)∧(∀{α:Type} (f:α→α) (n:N8 α),N8.a1 (N8.u6 f n)=N8.a1 n)∧(∀{α:Type} (f:α→α) (n:N8 α),N8.a1 (N8.u7 f n)=N8.a1 n)∧(∀{α:Type} (f:α→α) (n:N8 α),N8.a2 (N8.u0 f n)=N8.a2 n)∧(∀{α:Type} (f:α→α) (n:N8 α),N8.a2 (N8.u1 f n)=N8.a2 n)∧(∀{α:Type} (f:α→α) (n:N8 α),N8.a2 (N8.u2 f n)=f (N8.a2 n))∧(∀{α:Type} (f:α→α) (n:N8 α),N8.a2 (N8.u3 f n)=N8.a2 n)∧(∀{α:Type} (f:α→α) (n:N8 α),N8.a2 (N8.u4 f n)=N8.a2 n)∧(∀{α:Type} (f:α→α) (n:N8 α),N8.a2 (N8.u5 f n)=N8.a2 n)∧(∀{α:Type} (f:α→α) (n:N8 α),N8.a2 (N8.u6 f n)=N8.a2 n)∧(∀{α:Type} (f:α→α) (n:N8 α),N8.a2 (N8.u7 f n)=N8.a2 n)∧(∀{α:Type} (f:α→α) (n:N8 α),N8.a3 (N8.u0 f n)=N8.a3 n)∧(∀{α:Type} (f:α→α) (n:N8 α),N8.a3 (N8.u1 f n)=N8.a3 n)∧(∀{α:Type} (f:α→α) (n:N8 α),N8.a3 (N8.u2 f n)=N8.a3 n)∧(∀{α:Type} (f:α→α) (n:N8 α),N8.a3 (N8.u3 f n)=f (N8.a3 n))∧(∀{α:Type} (f:α→α) (n:N8 α),N8.a3 (N8.u4 f n)=N8.a3 n)∧(∀{α:Type} (f:α→α) (n:N8 α),N8.a3 (N8.u5 f n)=N8.a3 n)∧(∀{α:Type} (f:α→α) (n:N8 α),N8.a3 (N8.u6 f n)=N8.a3 n)∧(∀{α:Type} (f:α→α) (n:N8 α),N8.a3 (N8.u7 f n)=N8.a3 n)∧(∀{α:Type} (f:α→α) (n:N8 α),N8.a4 (N8.u0 f n)=N8.a4 n)∧(∀{α:Type} (f:α→α) (n:N8 α),N8.a4 (N8.u1 f n)=N8.a4 n)∧(∀{α:Type} (f:α→α) (n:N8 α),N8.a4 (N8.u2 f n)=N8.a4 n)∧(∀{α:Type} (f:α→α) (n:N8 α),N8.a4 (N8.u3 f n)=N8.a4 n)∧(∀{α:Type} (f:α→α) (n:N8 α),N8.a4 (N8.u4 f n)=f (N8.a4 n))∧(∀{α:Type} (f:α→α) (n:N8 α),N8.a4 (N8.u5 f n)=N8.a4 n)∧(∀{α:Type} (f:α→α) (n:N8 α),N8.a4 (N8.u6 f n)=N8.a4 n)∧(∀{α:Type} (f:α→α) (n:N8 α),N8.a4 (N8.u7 f n)=N8.a4 n)∧(∀{α:Type} (f:α→α) (n:N8 α),N8.a5 (N8.u0 f n)=N8.a5 n)∧(∀{α:Type} (f:α→α) (n:N8 α),N8.a5 (N8.u1 f n)=N8.a5 n)∧(∀{α:Type} (f:α→α) (n:N8 α),N8.a5 (N8.u2 f n)=N8.a5 n)∧(∀{α:Type} (f:α→α) (n:N8 α),N8.a5 (N8.u3 f n)=N8.a5 n)∧(∀{α:Type} (f:α→α) (n:N8 α),N8.a5 (N8.u4 f n)=N8.a5 n)∧(∀{α:Type} (f:α→α) (n:N8 α),N8.a5 (N8.u5 f n)=f (N8.a5 n))∧(∀{α:Type} (f:α→α) (n:N8 α),N8.a5 (N8.u6 f n)=N8.a5 n)∧(∀{α:Type} (f:α→α) (n:N8 α),N8.a5 (N8.u7 f n)=N8.a5 n)∧(∀{α:Type} (f:α→α) (n:N8 α),N8.a6 (N8.u0 f n)=N8.a6 n)∧(∀{α:Type} (f:α→α) (n:N8 α),N8.a6 (N8.u1 f n)=N8.a6 n)∧(∀{α:Type} (f:α→α) (n:N8 α),N8.a6 (N8.u2 f n)=N8.a6 n)∧(∀{α:Type} (f:α→α) (n:N8 α),N8.a6 (N8.u3 f n)=N8.a6 n)∧(∀{α:Type} (f:α→α) (n:N8 α),N8.a6 (N8.u4 f n)=N8.a6 n)∧(∀{α:Type} (f:α→α) (n:N8 α),N8.a6 (N8.u5 f n)=N8.a6 n)∧(∀{α:Type} (f:α→α) (n:N8 α),N8.a6 (N8.u6 f n)=f (N8.a6 n))∧(∀{α:Type} (f:α→α) (n:N8 α),N8.a6 (N8.u7 f n)=N8.a6 n)∧(∀{α:Type} (f:α→α) (n:N8 α),N8.a7 (N8.u0 f n)=N8.a7 n)∧(∀{α:Type} (f:α→α) (n:N8 α),N8.a7 (N8.u1 f n)=N8.a7 n)∧(∀{α:Type} (f:α→α) (n:N8 α),N8.a7 (N8.u2 f n)=N8.a7 n)∧(∀{α:Type} (f:α→α) (n:N8 α),N8.a7 (N8.u3 f n)=N8.a7 n)∧(∀{α:Type} (f:α→α) (n:N8 α),N8.a7 (N8.u4 f n)=N8.a7 n)∧(∀{α:Type} (f:α→α) (n:N8 α),N8.a7 (N8.u5 f n)=N8.a7 n)∧(∀{α:Type} (f:α→α) (n:N8 α),N8.a7 (N8.u6 f n)=N8.a7 n)∧(∀{α:Type} (f:α→α) (n:N8 α),N8.a7 (N8.u7 f n)=f (N8.a7 n)):=⟨@N8.g00, @N8.g01, @N8.g02, @N8.g03, @N8.g04, @N8.g05, @N8.g06, @N8.g07, @N8.g10, @N8.g11, @N8.g12, @N8.g13, @N8.g14, @N8.g15, @N8.g16, @N8.g17, @N8.g20, @N8.g21, @N8.g22, @N8.g23, @N8.g24, @N8.g25, @N8.g26, @N8.g27, @N8.g30, @N8.g31, @N8.g32, @N8.g33, @N8.g34, @N8.g35, @N8.g36, @N8.g37, @N8.g40, @N8.g41, @N8.g42, @N8.g43, @N8.g44, @N8.g45, @N8.g46, @N8.g47, @N8.g50, @N8.g51, @N8.g52, @N8.g53, @N8.g54, @N8.g55, @N8.g56, @N8.g57, @N8.g60, @N8.g61, @N8.g62, @N8.g63, @N8.g64, @N8.g65, @N8.g66, @N8.g67, @N8.g70, @N8.g71, @N8.g72, @N8.g73, @N8.g74, @N8.g75, @N8.g76, @N8.g77⟩
end
end Go.AI
set_option maxRecDepth 100000
namespace Go.AI
open Go
noncomputable section
theorem Zad{j:IntKind}{a:Nat}(h:a<9223372036854775808)(H:Heap):ZjS .i64 (nI j a) H= .val (nI .i64 a) H:=by
 show Vv .i64 (.ofNat a) H=_
 rw[YU,Zcu h];rfl
theorem Zuw{j:IntKind}{a b:Nat}(h:b<64)(H:Heap):Zt4 (nI .i64 a) (nI j b) H= .val (nI .i64 (a/2^b)) H:=by
 show Zak (.ofNat (Nat.div a (Nat.pow 2 (Zdx b 64)))) (fun n=>OR.val (.int .i64 n) H)=_
 have:Zdx b 64=b:=by unfold Zdx;rw[Zj (by omega)];rfl
 rw[QK,this];rfl
theorem Qs{a b:Nat}(h:0<b)(h2:a<18446744073709551616)(H:Heap):Zw0 (nI .u64 a) (nI .u64 b) H= .val (nI .u64 (a/b)) H:=by
 show ZR (kEq .u64 .u64) (cond (ieq (.ofNat b) (.ofNat 0)) .fail (Vv .u64 (.ofNat (Nat.div a b)) H))=_
 rw[YH,ZbX,Zc (by omega),YU,show(Int.ofNat (Nat.div a b))=Int.ofNat (a/b) from rfl,Zbz,ZX (Nat.lt_of_le_of_lt (Nat.div_le_self a b) h2)];rfl
theorem Qt{a b:Nat}(h:0<b)(H:Heap):Zw1 (nI .u64 a) (nI .u64 b) H= .val (nI .u64 (a % b)) H:=by
 show ZR (kEq .u64 .u64) (cond (ieq (.ofNat b) (.ofNat 0)) .fail (Zak (.ofNat (Nat.mod a b)) fun n=> .val (.int .u64 n) H))=_
 rw[YH,ZbX,Zc (by omega),QK];rfl
theorem Zlo{j:IntKind}{a:Nat}(h:a<18446744073709551616)(H:Heap):ZjS .u64 (nI j a) H= .val (nI .u64 a) H:=by
 show Vv .u64 (.ofNat a) H=_
 rw[YU,Zbz,ZX h];rfl
theorem QQ{j:IntKind}{a b:Nat}(h:b<64)(H:Heap):Zt4 (nI .u64 a) (nI j b) H= .val (nI .u64 (a/2^b)) H:=by
 show Zak (.ofNat (Nat.div a (Nat.pow 2 (Zdx b 64)))) (fun n=>OR.val (.int .u64 n) H)=_
 have:Zdx b 64=b:=by unfold Zdx;rw[Zj (by omega)];rfl
 rw[QK,this];rfl
theorem Zux{j:IntKind}{a b:Nat}(h:b≤64)(H:Heap):Zq6 (nI .u64 a) (nI j b) H= .val (nI .u64 (a*2^b % 18446744073709551616)) H:=by
 show Vv .u64 (ZhG (.ofNat a) (.ofNat (Nat.pow 2 (cond (Nat.ble b 64) b 64)))) H=_
 rw[YU,Zk9,Zbz,Zj h];rfl
theorem WL{a b:Nat}(h:a+b<4294967296)(H:Heap):Zq5 (nI .u32 a) (nI .u32 b) H= .val (nI .u32 (a+b)) H:=by
 show ZR (kEq .u32 .u32) (Vv .u32 (Zqs (.ofNat a) (.ofNat b)) H)=_
 rw[YH,YU,Zk8,Zeg,ZX h];rfl
theorem Qu{a b:Nat}(h:a*b<4294967296)(H:Heap):ZzQ (nI .u32 a) (nI .u32 b) H= .val (nI .u32 (a*b)) H:=by
 show ZR (kEq .u32 .u32) (Vv .u32 (ZhG (.ofNat a) (.ofNat b)) H)=_
 rw[YH,YU,Zk9,Zeg,ZX h];rfl
theorem Qv{a b:Nat}(h:0<b)(h2:a<4294967296)(H:Heap):Zw0 (nI .u32 a) (nI .u32 b) H= .val (nI .u32 (a/b)) H:=by
 show ZR (kEq .u32 .u32) (cond (ieq (.ofNat b) (.ofNat 0)) .fail (Vv .u32 (.ofNat (Nat.div a b)) H))=_
 rw[YH,ZbX,Zc (by omega),YU,show(Int.ofNat (Nat.div a b))=Int.ofNat (a/b) from rfl,Zeg,ZX (Nat.lt_of_le_of_lt (Nat.div_le_self a b) h2)];rfl
theorem Qw{a b:Nat}(h:0<b)(H:Heap):Zw1 (nI .u32 a) (nI .u32 b) H= .val (nI .u32 (a % b)) H:=by
 show ZR (kEq .u32 .u32) (cond (ieq (.ofNat b) (.ofNat 0)) .fail (Zak (.ofNat (Nat.mod a b)) fun n=> .val (.int .u32 n) H))=_
 rw[YH,ZbX,Zc (by omega),QK];rfl
theorem Qx{j:IntKind}{a:Nat}(h:a<4294967296)(H:Heap):ZjS .u32 (nI j a) H= .val (nI .u32 a) H:=by
 show Vv .u32 (.ofNat a) H=_
 rw[YU,Zeg,ZX h];rfl
theorem ZaD{j:IntKind}{a:Nat}(h:a<256)(H:Heap):ZjS .u8 (nI j a) H= .val (nI .u8 a) H:=by
 show Vv .u8 (.ofNat a) H=_
 rw[YU,Zj3,ZX h];rfl
theorem ZxC{j:IntKind}{a b:Nat}(h:b<8)(H:Heap):Zt4 (nI .u8 a) (nI j b) H= .val (nI .u8 (a/2^b)) H:=by
 show Zak (.ofNat (Nat.div a (Nat.pow 2 (Zdx b 8)))) (fun n=>OR.val (.int .u8 n) H)=_
 have:Zdx b 8=b:=by unfold Zdx;rw[Zj (by omega)];rfl
 rw[QK,this];rfl
theorem Zb0(j:IntKind)(a:Nat)(H:Heap):ZjS .u8 (nI j a) H= .val (nI .u8 (a % 256)) H:=by
 show Vv .u8 (.ofNat a) H=_
 rw[YU,Zj3];rfl
theorem Zn4(k:IntKind)(m b:Nat)(H:Heap):ZcR YY Yd (.int k (.negSucc m)) (nI k b) H= .val (.bool true) H:=by
 show ZR (kEq k k) (Uh true H)=_
 rw[YH];rfl
theorem Zn5(k:IntKind)(m b:Nat)(H:Heap):ZcR ZbG U6 (nI k b) (.int k (.negSucc m)) H= .val (.bool false) H:=by
 show ZR (kEq k k) (Uh (!ilt (.negSucc m) (.ofNat b)) H)=_
 rw[YH];rfl
theorem ZB9(k:IntKind)(a b:Int)(H:Heap):eqV eqI false (.int k a) (.int k b) H= .val (.bool (decide (a=b))) H:=by
 show VZ (cond (kEq k k) (some (ieq a b)) none) (fun b=>Uh (cond false (cond b false true) b) H)=_
 rw[YH,ZaZ]
 exact V6 _ _
theorem ZmX(n:Int):IntKind.u64.wrap n=n % 18446744073709551616:=by
 unfold IntKind.wrap
 simp[IntKind.bits,IntKind.signed]
theorem Zho(k j:IntKind)(n:Int)(H:Heap):ZjS k (.int j n) H=Vv k n H:=rfl
theorem Zf4{m:Nat}(h:m<9223372036854775808)(H:Heap):ZjS .u64 (.int .i64 (.negSucc m)) H= .val (nI .u64 (18446744073709551615 - m)) H:=by
 have e1:IntKind.u64.wrap (.negSucc m)=Int.ofNat (18446744073709551615 - m):=by
  rw[Int.negSucc_eq,ZmX,Int.ofNat_eq_natCast]
  omega
 rw[Zho,YU,e1];unfold nI;rfl
theorem Zlp{u:Nat}(h0:0<u)(h:u<18446744073709551616)(H:Heap):ZB5 (nI .u64 u) H= .val (nI .u64 (18446744073709551616 - u)) H:=by
 show Vv .u64 (Zkb 0 (.ofNat u)) H=_
 rw[YU]
 congr 2
 have e:Zkb 0 (.ofNat u)= -(u:Int):=by
  show cond (Nat.ble u 0) (Int.ofNat (Nat.sub 0 u)) (Int.ofNat 0 - Int.ofNat u)=_
  cases hb:Nat.ble u 0 with
  |true=>have:=ZN hb;omega
  |false=>show(0:Int) - u=_;omega
 rw[e,ZmX,Int.ofNat_eq_natCast]
 omega
theorem ZeC{s:List UInt8}{p q:Nat}(h1:p≤q)(h2:q≤s.length)(k j:IntKind)(H:Heap):Zf3 (.str s) (some (nI k p)) (some (nI j q)) H= .val (.str ((s.take q).drop p)) H:=by
 show ZR (Nat.ble q (Yi s)) (ZR (Nat.ble p q) (OR.val (.str (Zgd p (Zdy q s))) H))=_
 rw[Ye,Zj h2,Zj h1,Zcm,ZgR];rfl
theorem Z0{s:List UInt8}{p:Nat}(h1:p≤s.length)(k:IntKind)(H:Heap):Zf3 (.str s) (some (nI k p)) none H= .val (.str (s.drop p)) H:=by
 show ZR (Nat.ble p (Yi s)) (OR.val (.str (Zgd p (Zdy (Yi s) s))) H)=_
 rw[Ye,Zj h1,Zcm,ZgR,List.take_length];rfl
theorem U3{s:List UInt8}{i:Nat}(h:i<s.length)(k:IntKind)(H:Heap):ZcU (.str s) (nI k i) H= .val (nI .u8 (s.getD i 0).toNat) H:=Zf2 h k H
section
variable (f:OpF) (os:List (ZD×EvF)) (dst:ZD) (i bef:Nat) (nx:PK) (rs:List RD) (tm:TM) (H:Heap) (x:X) (g:Option (EvF×Bool)) (kd:ZfH) (v:AV)
theorem Zd{m:Nat}(h:H.nx=m):ZdA ⟨f,g,os,dst,kd,i,bef⟩ nx rs tm H x (.val v ⟨m, .leaf,m⟩)=nx rs (dst tm v) H x:=by subst h;exact Zuh ..
theorem Ze{m:Nat}(h:H.nx=m)(t:T Obj)(k:Nat):Zgh ⟨f,g,os,dst,kd,i,bef⟩ nx rs tm H x (.val v ⟨m,t,k⟩)=nx (⟨⟨f,g,os,dst,kd,i,bef⟩,v⟩::rs) (dst tm v) H x:=by
 subst h
 show cond (Nat.beq H.nx H.nx) _ _=_
 rw[Nat.beq_refl];rfl
theorem Zf{m:Nat}(h:H.nx=m)(o:Obj)(hw:wrO o=true):ZdA ⟨f,g,os,dst,kd,i,bef⟩ nx rs tm H x (.val v ((⟨m, .leaf,m⟩:Heap).new o))=nx rs (dst tm v) (H.new o) x:=by subst h;exact Zur _ _ _ _ _ _ _ _ _ _ _ _ _ _ hw
end
theorem ZxD(e sz:Nat)(l:List AV)(fz:Nat)(sm ex:Bool):wrO (rG e sz l fz sm true ex)=true:=rfl
def Row.st(r:Row)(o:Nat)(v:AV):Row:=r.setCells (r.cells.set o v)
theorem Row.st_size(r:Row)(o:Nat)(v:AV):(r.st o v).size=r.size:=rfl
theorem Row.st_own(r:Row)(o:Nat)(v:AV):(r.st o v).own=r.own:=rfl
theorem Row.st_fz(r:Row)(o:Nat)(v:AV):(r.st o v).fz=r.fz:=rfl
theorem Row.st_get(r:Row)(o:Nat)(v:AV)(i:Nat):(r.st o v).get i=if o=i then v else r.get i:=by
 rw[Row.get_eq,Row.get_eq]
 show((r.cells.set o v).get i).getD r.dflt=_
 rw[T.get_set]
 split<;>rfl
theorem Zn6{r:Row}{o:Nat}(h:o<r.size)(H:Heap):ld1 (some (.row r)) o H= .val (r.get o) H:=by
 show ZR (Nat.ble (Nat.succ o) r.size) (.val (r.get o) H)=_
 rw[Zj (show Nat.succ o≤r.size from h)];rfl
theorem U4{r:Row}{b o:Nat}{v:AV}{H:Heap}(hv:v.cells=[v])(ho:o<r.size)(how:r.own=true)(hro:H.ro≤b)(hfz:r.fz≤o):stN 1 (some (.row r)) b o v H= .val Yo (H.put b (.row (r.st o v))):=by
 show ZR (Nat.ble 1 1) (ZR (cond r.own (Nat.ble H.ro b) false) (ZR (Nat.ble (o+1) r.size) (ZR (Nat.ble r.fz o) (ZR (Nat.beq (Yi v.cells) 1) (.val Yo (H.put b (.row (r.setCells (Y4 r.cells o v.cells)))))))))=_
 rw[how,cond_true,Zj hro,Zj (show o+1≤r.size from ho),Zj hfz,hv];rfl
def ZlV(a:AV)(H:Heap):OR:=Vu a (.val (.str []) H) fun b o n _=>cond (Nat.beq n 0) (.val (.str []) H) (Yr H b fun r=>ZR (Nat.ble (Nat.add o n) r.size) (Qy (fun s=> .val (.str s) H) (loadN r o n)))
theorem Zj5(x:EvF)(tm:TM)(H:Heap):Znl x tm H=ZlV (x tm) H:=rfl
theorem Zlq{H:Heap}{b o n:Nat}{c:Option Nat}{r:Row}{l:List UInt8}(hr:H.t.get b=some (.row r))(hl:l.length=n)(hf:o+n≤r.size)(hg: ∀i,i<n→r.get (o+i)=u8V (l.getD i 0)):ZlV (.slice b o n c) H= .val (.str l) H:=by
 subst hl
 by_cases h0:l.length=0
 ·have:l=[]:=List.length_eq_zero_iff.1 h0
  subst this;rfl
 ·show cond (Nat.beq l.length 0) _ (Yr H b _)=_
  rw[Z3,Zc h0]
  show Yr H b _=_
  unfold Yr
  rw[hr]
  show ZR (Nat.ble (o+l.length) r.size) (Qy _ (loadN r o l.length))=_
  have:loadN r o l.length=l.map u8V:=by
   refine List.ext_getElem? fun i=>?_
   by_cases hi:i<l.length
   ·rw[VC r l.length o i hi,hg i hi,List.getElem?_map,Zp hi,Zi,Zp hi];rfl
   ·rw[List.getElem?_eq_none (by rw[VM];omega),List.getElem?_eq_none (by rw[Zy];omega)]
  rw[Zj hf,this,ZcW];rfl
end
end Go.AI
set_option maxRecDepth 100000
namespace Go.AI
open Go
noncomputable section
def Zn7(e:Nat)(a:AV)(H:Heap):OR:=Za6 a fun s=> .val (.slice H.nx 0 (Yi s) none) (H.new (.row ⟨e,1,Yi s,T.ofList (Zgc s), .unk,0,true,true,false⟩))
theorem Zuy(x:EvF)(e:Nat)(tm:TM)(H:Heap):ZfF x e tm H=Zn7 e (x tm) H:=rfl
theorem Zry(e:Nat)(s:List UInt8)(H:Heap):Zn7 e (.str s) H= .val (.slice H.nx 0 s.length none) (H.new (rG e 1 (s.map u8V) 0 true true false)):=by
 show OR.val (.slice H.nx 0 (Yi s) none) (H.new (.row ⟨e,1,Yi s,T.ofList (Zgc s), .unk,0,true,true,false⟩))=_
 have:Zgc s=s.map u8V:=by rw[Zj0];rfl
 unfold rG
 rw[this,Ye,Ye,Zy]
theorem Zuz(x:EvF)(t:Nat)(tm:TM)(H:Heap):Ys x t tm H= .val (.iface t (x tm)) H:=rfl
theorem ZxE(f:Nat)(a b:List EvF)(tm:TM)(H:Heap):Zbo f a b tm H= .val (.func f (evs tm a) (evs tm b)) H:=rfl
def ZpV(P:Program)(a:AV)(args:List AV)(H:Heap):OR:=match a with
 | .func f x y=> .oth (.call f (x++(args++y)) H)
 | .meth n r=>QW r .fail fun u v=>Zge P n u fun g=> .oth (.call g (v::args) H)
 | .yield b=> .oth (.yield b args H)
 |_=> .fail
theorem ZxF(x:EvF)(P:Program)(args:List EvF)(tm:TM)(H:Heap):Ql x P args tm H=ZpV P (x tm) (evs tm args) H:=rfl
theorem Zrz(P:Program)(f:Nat)(x y args:List AV)(H:Heap):ZpV P (.func f x y) args H= .oth (.call f (x++(args++y)) H):=rfl
theorem ZCa(lit:Bool)(g:Nat→AV→AV→Option Bool)(neg:Bool)(t:Nat)(v:AV)(H:Heap):eqV (eqF lit g) neg (.iface t v) .nili H= .val (.bool neg) H:=by cases neg<;>rfl
theorem ZCb(g:Nat→AV→AV→Option Bool)(neg:Bool)(H:Heap):eqV (eqF true g) neg .nili .nili H= .val (.bool (!neg)) H:=by cases neg<;>rfl
def ZAa(neg:Bool)(r:Option Bool)(H:Heap):OR:=match r with|some b=> .val (.bool (cond neg (!b) b)) H|none=> .fail
theorem ZuA(neg b:Bool)(H:Heap):ZAa neg (some b) H= .val (.bool (cond neg (!b) b)) H:=rfl
theorem ZCc(lit:Bool)(g:Nat→AV→AV→Option Bool)(neg:Bool)(t:Nat)(v w:AV)(H:Heap):eqV (eqF lit g) neg (.iface t v) (.iface t w) H=ZAa neg (g t v w) H:=by
 show VZ (cond (Nat.beq t t) (g t v w) (some false)) _=_
 rw[Nat.beq_refl,cond_true]
 cases g t v w with
 |none=>rfl
 |some b=>
  show Uh (cond neg (cond b false true) b) H=_
  rw[V6];cases neg<;>cases b<;>rfl
theorem ZxG(n:Nat):Zae n []=true:=rfl
theorem ZuB(n:Nat)(v:AV)(l:List AV):Zae n (v::l)=cond (Yn n v) (Zae n l) false:=rfl
theorem ZrA(n t:Nat)(v:AV):Yn n (.iface t v)=Yn n v:=rfl
theorem ZxH(n:Nat)(l:List AV):Yn n (.tup l)=Zae n l:=rfl
theorem ZrB(b o n:Nat)(t:T Obj):WG (.val (.ptr b o) ⟨n,t,n⟩) (.ptr b o) n=true:=Vt _ _ _ (by unfold same;rw[Nat.beq_refl,Nat.beq_refl];rfl)
theorem ZuC(n:Nat):Yn n .nili=true:=rfl
theorem ZuD(n:Nat):Yn n .nils=true:=rfl
theorem ZxI(n:Nat)(k:IntKind)(z:Int):Yn n (.int k z)=true:=rfl
def ZcZ(t:Nat)(zv:AV)(ok:Bool)(a:AV)(H:Heap):OR:=QW a (Qk zv ok H none) fun u v=>Qk zv ok H (cond (Nat.beq u t) (some v) none)
theorem ZrC(x:EvF)(t:Nat)(zv:AV)(ok:Bool)(tm:TM)(H:Heap):QX x t zv ok tm H=ZcZ t zv ok (x tm) H:=rfl
theorem ZrD(t:Nat)(zv:AV)(H:Heap):ZcZ t zv true .nili H= .val (.tup [zv, .bool false]) H:=rfl
theorem ZrE(t:Nat)(zv v:AV)(H:Heap):ZcZ t zv true (.iface t v) H= .val (.tup [v, .bool true]) H:=by
 show Qk zv true H (cond (Nat.beq t t) (some v) none)=_
 rw[Nat.beq_refl];rfl
def ZAb(a:AV)(H:Heap):OR:=QW a .fail fun _ _=> .oth (.pan a H)
theorem ZuE(x:EvF)(tm:TM)(H:Heap):ZaT x tm H=ZAb (x tm) H:=rfl
theorem ZAc(t:Nat)(v:AV)(H:Heap):ZAb (.iface t v) H= .oth (.pan (.iface t v) H):=rfl
theorem ZxJ(next:TM→Heap→X→Res)(dst:ZD)(c:Ctx)(tm:TM)(H:Heap)(x:X)(v:AV)(H':Heap):Zal next dst c tm H x (.oth (.pan v H'))= .ok (.pan v) tm H' x:=rfl
theorem ZxK(next:TM→Heap→X→Res)(dst:ZD)(tm:TM)(x:X)(v:AV)(H:Heap):Zjz next dst tm x (.pan v H)= .ok (.pan v) tm H x:=rfl
theorem ZuF(v:AV)(tm:TM)(H:Heap)(x:X)(k:TM→Heap→X→Res):QH (.ok (.pan v) tm H x) k= .ok (.pan v) tm H x:=rfl
theorem ZrF(i:Nat)(v:AV)(tm:TM)(H:Heap)(x:X):QY i (.ok (.pan v) tm H x)= .ok (.pan v) tm H x:=rfl
theorem ZxL(dc:Option AV→Nat→List AV→Heap→DR)(rs:List (EvF×Option (Nat×Bool)))(v:AV)(tm:TM)(H:Heap)(rc:Option AV):ZcH dc rs (.ok (.pan v) tm H ⟨[],rc⟩)= .pan v H:=rfl
theorem ZxM(ds:List ZD)(p:PI)(nx:PK)(rs:List RD)(tm:TM)(x:X)(v:AV)(H:Heap):Zkh ds p nx rs tm x (.pan v H)= .ok (.pan v) (QZ tm ds) H x:=rfl
def ZpW(H:Heap)(vs:List AV):CR:=match vs with|[v]=> .ret v H|vs=> .ret (.tup vs) H
theorem ZpX(rs:List (EvF×Option (Nat×Bool)))(tm:TM)(H:Heap):results rs tm H=Za8 tm H (ZpW H) rs:=rfl
theorem ZCd(H:Heap)(v:AV):ZpW H [v]= .ret v H:=rfl
theorem ZCe(H:Heap):ZpW H []= .ret (.tup []) H:=rfl
theorem ZCf(H:Heap)(v w:AV)(l:List AV):ZpW H (v::w::l)= .ret (.tup (v::w::l)) H:=rfl
theorem ZuG(tm:TM)(H:Heap)(k:List AV→CR):Za8 tm H k []=k []:=rfl
def rV(n:Nat)(ag:Bool)(o:Option Obj)(off:Nat)(k:AV→CR):CR:=match o with
 |some (.row r)=>cond (Nat.ble (Nat.add off n) r.size) (cond ag (k (.agg (loadN r off n))) (k (r.get off))) .fail
 |_=> .fail
def ZAd(H:Heap)(a:AV)(n:Nat)(ag:Bool)(k:AV→CR):CR:=match a with
 | .ptr b o=>rV n ag (H.t.get b) o k
 |_=> .fail
theorem ZxN(H:Heap)(b o n:Nat)(ag:Bool)(k:AV→CR):ZAd H (.ptr b o) n ag k=rV n ag (H.t.get b) o k:=rfl
theorem ZrG(f:EvF)(tm:TM)(H:Heap)(k:List AV→CR)(l:List (EvF×Option (Nat×Bool))):Za8 tm H k ((f,none)::l)=Za8 tm H (fun vs=>k (f tm::vs)) l:=rfl
theorem ZrH(f:EvF)(n:Nat)(ag:Bool)(tm:TM)(H:Heap)(k:List AV→CR)(l:List (EvF×Option (Nat×Bool))):Za8 tm H k ((f,some (n,ag))::l)=ZAd H (f tm) n ag (fun v=>Za8 tm H (fun vs=>k (v::vs)) l):=rfl
theorem QF{n e sz:Nat}{l:List AV}{fz:Nat}{sm own ex:Bool}(hn:l.length=n)(k:AV→CR):rV n true (some (rG e sz l fz sm own ex)) 0 k=k (.agg l):=by
 subst hn
 show cond (Nat.ble (0+l.length) (Yi l)) (k (.agg (loadN ⟨e,sz,Yi l,T.ofList l, .unk,fz,sm,own,ex⟩ 0 l.length))) .fail=_
 rw[(ZpR e sz l fz sm own ex).load (by omega),ZK,List.take_length,Ye,Zo,Zj (Zl _)];rfl
theorem ZuH(x:EvF)(args:List EvF)(tm:TM)(H:Heap):ZhP x args tm H= .oth (.defer (x tm) (evs tm args)):=rfl
theorem ZpY(tm:TM)(H:Heap):Zgf tm H= .oth .recov:=rfl
theorem ZrI(next:TM→Heap→X→Res)(dst:ZD)(cl y rg fu)(tm:TM)(H:Heap)(x:X)(f:Nat)(a b args:List AV):Zal next dst ⟨cl,y,rg,fu,false⟩ tm H x (.oth (.defer (.func f a b) args))=next (dst tm Yo) H ⟨(.func f a b,args)::x.df,x.rc⟩:=rfl
theorem ZpZ(next:TM→Heap→X→Res)(dst:ZD)(cl y rg fu)(tm:TM)(H:Heap)(df:List (AV×List AV)):Zal next dst ⟨cl,y,rg,fu,false⟩ tm H ⟨df,none⟩ (.oth .recov)=next (dst tm .nili) H ⟨df,none⟩:=rfl
theorem Zp0(next:TM→Heap→X→Res)(dst:ZD)(cl y rg fu)(tm:TM)(H:Heap)(df:List (AV×List AV))(v:AV):Zal next dst ⟨cl,y,rg,fu,false⟩ tm H ⟨df,some v⟩ (.oth .recov)=next (dst tm v) H ⟨df,none⟩:=rfl
theorem ZuI(dc:Option AV→Nat→List AV→Heap→DR)(rs:List (EvF×Option (Nat×Bool)))(tm:TM)(H:Heap)(d:AV×List AV)(l:List (AV×List AV))(rc:Option AV):ZcH dc rs (.ok .ret tm H ⟨d::l,rc⟩)=deferred dc rs tm (d::l) none H:=rfl
theorem ZuJ(dc:Option AV→Nat→List AV→Heap→DR)(rs:List (EvF×Option (Nat×Bool)))(v:AV)(tm:TM)(H:Heap)(d:AV×List AV)(l:List (AV×List AV))(rc:Option AV):ZcH dc rs (.ok (.pan v) tm H ⟨d::l,rc⟩)=deferred dc rs tm (d::l) (some v) H:=rfl
def Zlr(dc:Option AV→Nat→List AV→Heap→DR)(rs:List (EvF×Option (Nat×Bool)))(tm:TM)(l:List (AV×List AV))(pn:Option AV)(r:DR):CR:=match r with
 | .ret _ H rec=>deferred dc rs tm l (cond rec none pn) H
 |_=> .fail
theorem ZlW(dc:Option AV→Nat→List AV→Heap→DR)(rs:List (EvF×Option (Nat×Bool)))(tm:TM)(g:Nat)(a b args:List AV)(l:List (AV×List AV))(pn:Option AV)(H:Heap):deferred dc rs tm ((.func g a b,args)::l) pn H=Zlr dc rs tm l pn (dc pn g (a++(args++b)) H):=by
 show(match dc pn g (a++(args++b)) H with| .ret _ H rec=>deferred dc rs tm l (cond rec none pn) H|_=> .fail)=_
 unfold Zlr
 cases dc pn g (a++(args++b)) H<;>rfl
theorem ZrJ(dc:Option AV→Nat→List AV→Heap→DR)(rs:List (EvF×Option (Nat×Bool)))(tm:TM)(l:List (AV×List AV))(pn:Option AV)(v:AV)(H:Heap)(rec:Bool):Zlr dc rs tm l pn (.ret v H rec)=deferred dc rs tm l (cond rec none pn) H:=rfl
theorem Zn8(dc:Option AV→Nat→List AV→Heap→DR)(rs:List (EvF×Option (Nat×Bool)))(tm:TM)(H:Heap):deferred dc rs tm [] none H=results rs tm H:=rfl
theorem Zn9(dc:Option AV→Nat→List AV→Heap→DR)(rs:List (EvF×Option (Nat×Bool)))(tm:TM)(v:AV)(H:Heap):deferred dc rs tm [] (some v) H= .pan v H:=rfl
def ZEb{α β:Type}(o:Option α)(d:β)(k:α→β):β:=match o with|some x=>k x|none=>d
theorem ZuK{α β:Type}(x:α)(d:β)(k:α→β):ZEb (some x) d k=k x:=rfl
def ZrK(rc:Option AV)(x:X)(r:CR):DR:=match r with| .ret v H=> .ret v H (Zcb rc x)|_=> .fail
theorem ZxO(rc:Option AV)(x:X)(v:AV)(H:Heap):ZrK rc x (.ret v H)= .ret v H (Zcb rc x):=rfl
theorem Zjv(rc:Option AV)(rs:List (EvF×Option (Nat×Bool)))(tm:TM)(H:Heap)(q:Option AV):ZhR rc rs (.ok .normal tm H ⟨[],q⟩)=ZrK rc ⟨[],q⟩ (results rs tm H):=by
 show(match([]:List (AV×List AV)),results rs tm H with|[], .ret v H=>DR.ret v H (Zcb rc ⟨[],q⟩)|_,_=> .fail)=_
 unfold ZrK
 cases results rs tm H<;>rfl
theorem ZxP(rc:Option AV)(rs:List (EvF×Option (Nat×Bool)))(tm:TM)(H:Heap)(q:Option AV):ZhR rc rs (.ok .ret tm H ⟨[],q⟩)=ZrK rc ⟨[],q⟩ (results rs tm H):=Zjv rc rs tm H q
theorem ZxQ(rc:Option AV)(rs:List (EvF×Option (Nat×Bool)))(v:AV)(tm:TM)(H:Heap)(q:Option AV):ZhR rc rs (.ok (.pan v) tm H ⟨[],q⟩)= .pan v H (Zcb rc ⟨[],q⟩):=rfl
theorem ZCg(v:AV)(l:List (AV×List AV)):Zcb (some v) ⟨l,none⟩=true:=rfl
theorem ZCh(x:X):Zcb none x=false:=rfl
theorem Zj6(a b c d e:AV):Ub [a,b,c,d,e]=st4 (st3 (st2 (st1 (st0 tm0 a) b) c) d) e:=rfl
theorem ZuL(k:List AV→OR)(cells:List AV):ZbB k [] cells=k cells:=rfl
theorem ZrL(k:List AV→OR)(o n:Nat)(v:AV)(ps:List (Nat×Nat×AV))(cells:List AV):ZbB k ((o,n,v)::ps) cells=ZR (Nat.ble 1 n) (ZR (Nat.beq (Yi v.cells) n) (ZR (Nat.ble (Nat.add o n) (Yi cells)) (ZbB k ps (Za7 o cells++(v.cells++ZaI (Nat.add o n) cells))))):=rfl
theorem ZxR{cells l:List AV}{o:Nat}(h:o+l.length≤cells.length):Za7 o cells++(l++ZaI (Nat.add o l.length) cells)=lay cells o l:=by
 rw[Zru cells o l h]
 have h1:Za7 o cells=cells.take o:=Zck ..
 have h2:ZaI (o+l.length) cells=cells.drop (o+l.length):=Zcl ..
 rw[h1]
 show _++(_++ZaI (o+l.length) cells)=_
 rw[h2]
theorem ZrM{k:List AV→OR}{o n:Nat}{v:AV}{l:List AV}{ps:List (Nat×Nat×AV)}{cells:List AV}(hv:v.cells=l)(hl:l.length=n)(hn:1≤n)(h:o+n≤cells.length):ZbB k ((o,n,v)::ps) cells=ZbB k ps (lay cells o l):=by
 subst hv;subst hl
 rw[ZrL,Zj hn,Ye,Nat.beq_refl,Ye,Zj (show Nat.add o v.cells.length≤cells.length from h),ZxR h];rfl
theorem ZuM{k:List AV→OR}{o:Nat}{v:AV}{ps:List (Nat×Nat×AV)}{cells:List AV}(hv:v.cells=[v])(h:o<cells.length):ZbB k ((o,1,v)::ps) cells=ZbB k ps (cells.set o v):=ZrM hv rfl (Zl 1) h
theorem Zc0(l:List AV)(o:Nat):lay l o []=l:=rfl
theorem ZbE(l:List AV)(o:Nat)(v:AV)(vs:List AV):lay l o (v::vs)=lay (l.set o v) (o+1) vs:=rfl
theorem Zp1(z:AV)(zs:List AV)(ps:List (Nat×Nat×AV))(H:Heap):Zay (z::zs) ps H=ZbB (fun cs=> .val (.agg cs) H) ps (z::zs):=by
 show ZR (Nat.ble 1 (Yi (z::zs))) _=_
 rw[Ye,Zj (by simp)];rfl
end
end Go.AI
namespace Go.AI
open Go
noncomputable section
theorem Zr:(∀(x:EvF) (args:List EvF) (tm:TM) (H:Heap),ZhP x args tm H= .oth (.defer (x tm) (evs tm args)))∧
 (∀(tm:TM) (H:Heap),Zgf tm H= .oth .recov)∧
 (∀(next:TM→Heap→X→Res) (dst:ZD) (cl y rg fu) (tm:TM) (H:Heap) (x:X) (f:Nat) (a b args:List AV),Zal next dst ⟨cl,y,rg,fu,false⟩ tm H x (.oth (.defer (.func f a b) args))=next (dst tm Yo) H ⟨(.func f a b,args)::x.df,x.rc⟩)∧
 (∀(next:TM→Heap→X→Res) (dst:ZD) (cl y rg fu) (tm:TM) (H:Heap) (df:List (AV×List AV)),Zal next dst ⟨cl,y,rg,fu,false⟩ tm H ⟨df,none⟩ (.oth .recov)=next (dst tm .nili) H ⟨df,none⟩)∧
 (∀(next:TM→Heap→X→Res) (dst:ZD) (cl y rg fu) (tm:TM) (H:Heap) (df:List (AV×List AV)) (v:AV),Zal next dst ⟨cl,y,rg,fu,false⟩ tm H ⟨df,some v⟩ (.oth .recov)=next (dst tm v) H ⟨df,none⟩)∧
 (∀(dc:Option AV→Nat→List AV→Heap→DR) (rs:List (EvF×Option (Nat×Bool))) (tm:TM) (H:Heap) (d:AV×List AV) (l:List (AV×List AV)) (rc:Option AV),ZcH dc rs (.ok .ret tm H ⟨d::l,rc⟩)=deferred dc rs tm (d::l) none H)∧
 (∀(dc:Option AV→Nat→List AV→Heap→DR) (rs:List (EvF×Option (Nat×Bool))) (v:AV) (tm:TM) (H:Heap) (d:AV×List AV) (l:List (AV×List AV)) (rc:Option AV),ZcH dc rs (.ok (.pan v) tm H ⟨d::l,rc⟩)=deferred dc rs tm (d::l) (some v) H)∧
 (∀(dc:Option AV→Nat→List AV→Heap→DR) (rs:List (EvF×Option (Nat×Bool))) (tm:TM) (g:Nat) (a b args:List AV) (l:List (AV×List AV)) (pn:Option AV) (H:Heap),deferred dc rs tm ((.func g a b,args)::l) pn H=Zlr dc rs tm l pn (dc pn g (a++(args++b)) H))∧
 (∀(dc:Option AV→Nat→List AV→Heap→DR) (rs:List (EvF×Option (Nat×Bool))) (tm:TM) (l:List (AV×List AV)) (pn:Option AV) (v:AV) (H:Heap) (rec:Bool),Zlr dc rs tm l pn (.ret v H rec)=deferred dc rs tm l (cond rec none pn) H)∧
 (∀(dc:Option AV→Nat→List AV→Heap→DR) (rs:List (EvF×Option (Nat×Bool))) (tm:TM) (H:Heap),deferred dc rs tm [] none H=results rs tm H)∧
 (∀(dc:Option AV→Nat→List AV→Heap→DR) (rs:List (EvF×Option (Nat×Bool))) (tm:TM) (v:AV) (H:Heap),deferred dc rs tm [] (some v) H= .pan v H)∧
 (∀{α β:Type} (x:α) (d:β) (k:α→β),ZEb (some x) d k=k x)∧
 (∀(rc:Option AV) (x:X) (v:AV) (H:Heap),ZrK rc x (.ret v H)= .ret v H (Zcb rc x))∧
 (∀(rc:Option AV) (rs:List (EvF×Option (Nat×Bool))) (tm:TM) (H:Heap) (q:Option AV),ZhR rc rs (.ok .normal tm H ⟨[],q⟩)=ZrK rc ⟨[],q⟩ (results rs tm H))∧
 (∀(rc:Option AV) (rs:List (EvF×Option (Nat×Bool))) (tm:TM) (H:Heap) (q:Option AV),ZhR rc rs (.ok .ret tm H ⟨[],q⟩)=ZrK rc ⟨[],q⟩ (results rs tm H))∧
 (∀(rc:Option AV) (rs:List (EvF×Option (Nat×Bool))) (v:AV) (tm:TM) (H:Heap) (q:Option AV),ZhR rc rs (.ok (.pan v) tm H ⟨[],q⟩)= .pan v H (Zcb rc ⟨[],q⟩))∧
 (∀(v:AV) (l:List (AV×List AV)),Zcb (some v) ⟨l,none⟩=true)∧
 (∀(x:X),Zcb none x=false)∧
 (∀{a:AV} (h:a.cells=[a]) (e:Nat) (H:Heap),Zrw e a H= .val (.ptr H.nx 0) (H.new (rG e 1 [a] 0 false true true)))∧
 (∀{l:List AV} (h1:1≤l.length) (e:Nat) (H:Heap),Zrw e (.agg l) H= .val (.ptr H.nx 0) (H.new (rG e 1 l 0 false true true)))∧
 (∀{b c:Nat} (h: ¬b=c) (H:Heap) (o:Obj),(H.put b o).t.get c=H.t.get c)∧
 (∀{H:Heap} {c:Nat} (h: ¬H.nx=c) (o:Obj),(H.new o).t.get c=H.t.get c)∧
 (∀{H:Heap} {c:Nat} (h:H.nx=c) (o:Obj),(H.new o).t.get c=some o)∧
 (∀{H:Heap} {b:Nat} (h:H.nx=b) (o o':Obj),(H.new o).put b o'=H.new o')∧
 (∀(neg b:Bool) (H:Heap),ZAa neg (some b) H= .val (.bool (cond neg (!b) b)) H)∧
 (∀(lit:Bool) (g:Nat→AV→AV→Option Bool) (neg:Bool) (t:Nat) (v w:AV) (H:Heap),eqV (eqF lit g) neg (.iface t v) (.iface t w) H=ZAa neg (g t v w) H)∧
 (∀(n:Nat),Zae n []=true)∧
 (∀(n:Nat) (v:AV) (l:List AV),Zae n (v::l)=cond (Yn n v) (Zae n l) false)∧
 (∀(n t:Nat) (v:AV),Yn n (.iface t v)=Yn n v)∧
 (∀(n:Nat) (l:List AV),Yn n (.tup l)=Zae n l)∧
 (∀(b o n:Nat) (t:T Obj),WG (.val (.ptr b o) ⟨n,t,n⟩) (.ptr b o) n=true)∧
 (∀(n:Nat),Yn n .nili=true)∧
 (∀(n:Nat),Yn n .nils=true)∧
 (∀(n:Nat) (k:IntKind) (z:Int),Yn n (.int k z)=true)∧
 (∀(k:List AV→OR) (cells:List AV),ZbB k [] cells=k cells)∧
 (∀{k:List AV→OR} {o:Nat} {v:AV} {ps:List (Nat×Nat×AV)} {cells:List AV} (hv:v.cells=[v]) (h:o<cells.length),ZbB k ((o,1,v)::ps) cells=ZbB k ps (cells.set o v))∧
 (∀(z:AV) (zs:List AV) (ps:List (Nat×Nat×AV)) (H:Heap),Zay (z::zs) ps H=ZbB (fun cs=> .val (.agg cs) H) ps (z::zs))∧
 (∀(e sz:Nat) (l:List AV) (fz:Nat) (sm ex:Bool),wrO (rG e sz l fz sm true ex)=true)∧
 (∀(x:EvF) (e:Nat) (tm:TM) (H:Heap),ZfF x e tm H=Zn7 e (x tm) H)∧
 (∀(e:Nat) (s:List UInt8) (H:Heap),Zn7 e (.str s) H= .val (.slice H.nx 0 s.length none) (H.new (rG e 1 (s.map u8V) 0 true true false)))∧
 (∀(x:EvF) (t:Nat) (tm:TM) (H:Heap),Ys x t tm H= .val (.iface t (x tm)) H)∧
 (∀(f:Nat) (a b:List EvF) (tm:TM) (H:Heap),Zbo f a b tm H= .val (.func f (evs tm a) (evs tm b)) H)∧
 (∀(x:EvF) (P:Program) (args:List EvF) (tm:TM) (H:Heap),Ql x P args tm H=ZpV P (x tm) (evs tm args) H)∧
 (∀(P:Program) (f:Nat) (x y args:List AV) (H:Heap),ZpV P (.func f x y) args H= .oth (.call f (x++(args++y)) H))∧
 (∀(lit:Bool) (g:Nat→AV→AV→Option Bool) (neg:Bool) (t:Nat) (v:AV) (H:Heap),eqV (eqF lit g) neg (.iface t v) .nili H= .val (.bool neg) H)∧
 (∀(g:Nat→AV→AV→Option Bool) (neg:Bool) (H:Heap),eqV (eqF true g) neg .nili .nili H= .val (.bool (!neg)) H)∧
 (∀(x:EvF) (t:Nat) (zv:AV) (ok:Bool) (tm:TM) (H:Heap),QX x t zv ok tm H=ZcZ t zv ok (x tm) H)∧
 (∀(t:Nat) (zv:AV) (H:Heap),ZcZ t zv true .nili H= .val (.tup [zv, .bool false]) H)∧
 (∀(t:Nat) (zv v:AV) (H:Heap),ZcZ t zv true (.iface t v) H= .val (.tup [v, .bool true]) H)∧
 (∀(x:EvF) (tm:TM) (H:Heap),ZaT x tm H=ZAb (x tm) H)∧
 (∀(t:Nat) (v:AV) (H:Heap),ZAb (.iface t v) H= .oth (.pan (.iface t v) H))∧
 (∀(next:TM→Heap→X→Res) (dst:ZD) (c:Ctx) (tm:TM) (H:Heap) (x:X) (v:AV) (H':Heap),Zal next dst c tm H x (.oth (.pan v H'))= .ok (.pan v) tm H' x)∧
 (∀(next:TM→Heap→X→Res) (dst:ZD) (tm:TM) (x:X) (v:AV) (H:Heap),Zjz next dst tm x (.pan v H)= .ok (.pan v) tm H x)∧
 (∀(v:AV) (tm:TM) (H:Heap) (x:X) (k:TM→Heap→X→Res),QH (.ok (.pan v) tm H x) k= .ok (.pan v) tm H x)∧
 (∀(i:Nat) (v:AV) (tm:TM) (H:Heap) (x:X),QY i (.ok (.pan v) tm H x)= .ok (.pan v) tm H x)∧
 (∀(dc:Option AV→Nat→List AV→Heap→DR) (rs:List (EvF×Option (Nat×Bool))) (v:AV) (tm:TM) (H:Heap) (rc:Option AV),ZcH dc rs (.ok (.pan v) tm H ⟨[],rc⟩)= .pan v H)∧
 (∀(ds:List ZD) (p:PI) (nx:PK) (rs:List RD) (tm:TM) (x:X) (v:AV) (H:Heap),Zkh ds p nx rs tm x (.pan v H)= .ok (.pan v) (QZ tm ds) H x)∧
 (∀(rs:List (EvF×Option (Nat×Bool))) (tm:TM) (H:Heap),results rs tm H=Za8 tm H (ZpW H) rs)∧
 (∀(H:Heap) (v:AV),ZpW H [v]= .ret v H)∧
 (∀(H:Heap),ZpW H []= .ret (.tup []) H)∧
 (∀(H:Heap) (v w:AV) (l:List AV),ZpW H (v::w::l)= .ret (.tup (v::w::l)) H)∧
 (∀(tm:TM) (H:Heap) (k:List AV→CR),Za8 tm H k []=k [])∧
 (∀(f:EvF) (tm:TM) (H:Heap) (k:List AV→CR) (l:List (EvF×Option (Nat×Bool))),Za8 tm H k ((f,none)::l)=Za8 tm H (fun vs=>k (f tm::vs)) l)∧
 (∀(f:EvF) (n:Nat) (ag:Bool) (tm:TM) (H:Heap) (k:List AV→CR) (l:List (EvF×Option (Nat×Bool))),Za8 tm H k ((f,some (n,ag))::l)=ZAd H (f tm) n ag (fun v=>Za8 tm H (fun vs=>k (v::vs)) l))∧
 (∀(H:Heap) (b o n:Nat) (ag:Bool) (k:AV→CR),ZAd H (.ptr b o) n ag k=rV n ag (H.t.get b) o k)∧
 (∀(x:EvF) (tm:TM) (H:Heap),Znl x tm H=ZlV (x tm) H):=⟨@ZuH, @ZpY, @ZrI, @ZpZ, @Zp0, @ZuI, @ZuJ, @ZlW, @ZrJ, @Zn8, @Zn9, @ZuK, @ZxO, @Zjv, @ZxP, @ZxQ, @ZCg, @ZCh, @ZpT, @WK, @ZF, @ZH, @ZA, @Wy, @ZuA, @ZCc, @ZxG, @ZuB, @ZrA, @ZxH, @ZrB, @ZuC, @ZuD, @ZxI, @ZuL, @ZuM, @Zp1, @ZxD, @Zuy, @Zry, @Zuz, @ZxE, @ZxF, @Zrz, @ZCa, @ZCb, @ZrC, @ZrD, @ZrE, @ZuE, @ZAc, @ZxJ, @ZxK, @ZuF, @ZrF, @ZxL, @ZxM, @ZpX, @ZCd, @ZCe, @ZCf, @ZuG, @ZrG, @ZrH, @ZxN, @Zj5⟩
theorem Zt:(∀(e sz:Nat) (l:List AV) (fz:Nat) (sm ex:Bool),wrO (rG e sz l fz sm true ex)=true)∧
 (∀(H:Heap) (b:Nat) (o:Obj),(H.put b o).nx=H.nx)∧
 (∀(H:Heap) (o:Obj),(H.new o).nx=H.nx+1)∧
 (∀(H:Heap) (b:Nat) (o:Obj),(H.put b o).ro=H.ro)∧
 (∀(H:Heap) (o:Obj),(H.new o).ro=H.ro)∧
 (∀(b:Bool),(AV.bool b).cells=[.bool b])∧
 (∀(k:IntKind) (n:Int),(AV.int k n).cells=[.int k n])∧
 (∀(k:IntKind) (n:Nat),(nI k n).cells=[nI k n])∧
 (∀(x:UInt8),(u8V x).cells=[u8V x])∧
 (∀(s:List UInt8),(AV.str s).cells=[.str s])∧
 (AV.nilp.cells=[.nilp])∧
 (∀(b o:Nat),(AV.ptr b o).cells=[.ptr b o])∧
 (AV.nils.cells=[.nils])∧
 (∀(b o n:Nat) (c:Option Nat),(AV.slice b o n c).cells=[.slice b o n c])∧
 (∀(b:Nat),(AV.map b).cells=[.map b])∧
 (∀(f:Nat) (a b:List AV),(AV.func f a b).cells=[.func f a b])∧
 (∀(t:Nat) (v:AV),(AV.iface t v).cells=[.iface t v])∧
 (AV.nili.cells=[.nili])∧
 (∀(l:List AV),(AV.agg l).cells=l)∧
 (∀(r:Row) (o:Nat) (v:AV),(r.st o v).size=r.size)∧
 (∀(r:Row) (o:Nat) (v:AV),(r.st o v).own=r.own)∧
 (∀(r:Row) (o:Nat) (v:AV),(r.st o v).fz=r.fz)∧
 (∀(l:List AV) (o:Nat) (vs:List AV),(lay l o vs).length=l.length):=⟨@ZxD, @Zrc, @Vn, @Zxh, @Zxi, @Zlj, @ZmR, @ZpU, @ZmS, @ZmT, @Zlk, @ZmU, @Zll, @Zjt, @ZmV, @Zlm, @Zju, @Zln, @ZmW, @Row.st_size, @Row.st_own, @Row.st_fz, @Zn2⟩
theorem Zs:((!true)=false)∧((!false)=true)∧(∀{α:Type} (l:List α),[]++l=l)∧(∀{α:Type} (l:List α),l++[]=l)∧(∀{α β:Type} (f:α→β),Option.map f none=none)∧(∀{α β:Type} (f:α→β) (a:α),Option.map f (some a)=some (f a))∧(∀{α β:Type} (f:α→β) (a:α) (l:List α),List.map f (a::l)=f a::List.map f l)∧(∀{α β:Type} (f:α→β),List.map f []=[])∧(∀{α:Type} (a b:α),cond true a b=a)∧(∀{α:Type} (a b:α),cond false a b=b)∧(∀(x i:Nat),x.testBit i=decide (x/2^i % 2=1))∧(∀h:Decidable True, @decide True h=true)∧(∀h:Decidable False, @decide False h=false)∧(∀n:Nat,0+n=n)∧
 (∀{α:Type} (a d:α) (l:List α),(a::l).getD 0 d=a)∧(∀{α:Type} (a d:α) (l:List α) (n:Nat),(a::l).getD (n+1) d=l.getD n d)∧(∀{α:Type} (a b:α) (l:List α),(a::l).set 0 b=b::l)∧(∀{α:Type} (a b:α) (l:List α) (n:Nat),(a::l).set (n+1) b=a::l.set n b):=
 ⟨Bool.not_true,Bool.not_false,fun _=>rfl,List.append_nil,fun _=>rfl,fun _ _=>rfl,fun _ _ _=>rfl,fun _=>rfl,fun _ _=>rfl,fun _ _=>rfl,fun _ _=>Nat.testBit_eq_decide_div_mod_eq,fun _=>Zh trivial,fun _=>Zc id,Zo,fun _ _ _=>rfl,fun _ _ _ _=>rfl,fun _ _ _=>rfl,fun _ _ _ _=>rfl⟩
theorem Zu:(∀{α:Type} (a:α) (l:List α),(a::l).length=l.length+1)∧(∀{α:Type},([]:List α).length=0)∧(∀{α:Type} (l:List α) (n:Nat) (a:α),(l.set n a).length=l.length)∧(∀{α β:Type} (f:α→β) (l:List α),(l.map f).length=l.length):=
 ⟨fun _ _=>rfl,rfl,fun _ _ _=>List.length_set,fun _ _=>Zy ..⟩
end
end Go.AI
namespace Go.AI
open Go
noncomputable section
variable {P:Program}
def ZCi(n:Nat):Obj→Prop
 | .row r=> ∀i,i<r.size→Yn n (r.get i)=true
 | .map es _=> ∀x∈es,Yn n x.key=true∧Yn n x.val=true
 | .siter _ _=>True
 | .loop=>True
 |_=>False
theorem ObjRel.cutX{σ:Mp}{n:Nat}{o:Obj}{l:Loc}{c:Go.Obj}(h:ZCi n o)(r:ObjRel σ o l c):ObjRel (σ.cut n) o l c:=by
 cases o with
 |row q=>
  obtain⟨cs,fr,rfl,r⟩:=r
  refine⟨cs,fr,rfl,r.sz,r.sz1,r.fits,r.room,r.exact,fun i hi=>?_,r.one,r.frz,r.frs⟩
  obtain⟨v,h1,h2⟩:=r.cell i hi
  exact⟨v,h1,Rel.cut (h i hi) h2⟩
 |map es clock=>
  obtain⟨ents,e,h1,h2⟩:=r
  exact⟨ents,e,EntsRel.cutE h h1,h2⟩
 |siter s pos=>exact r
 |loop=>exact r
 |miter _ _ _=>exact h.elim
 |cmap _=>exact h.elim
structure Less(H H' G:Heap):Prop where
 nx:H.nx≤G.nx
 ro:G.ro=H.ro
 old: ∀b,b<H.nx→G.t.get b=H'.t.get b
 new: ∀b o,H.nx≤b→G.t.get b=some o→H.t.get b=some o∨(b<G.nx∧H'.t.get b=some o)
 low: ∀b o,G.t.get b=some o→H.t.get b=some o∨ZCi G.nx o
theorem Tr.less{σ σ':Mp}{H H' G:Heap}{w w':World}(hs:Sim P σ H w)(t:Tr P σ H w σ' H' w')(g:Less H H' G):Tr P σ H w (σ'.cut G.nx) G w':=by
 have hex:Ext σ (σ'.cut G.nx):=fun b l hb=>by
  have:=hs.dom b l hb
  rw[Mp.cut_lt (ZC this g.nx)]
  exact t.ext b l hb
 have hcut: ∀{b l},σ'.cut G.nx b=some l→σ' b=some l:=fun h=>(Mp.cut_some h).2
 have hin: ∀b o,G.t.get b=some o→H'.t.get b=some o:=fun b o h=>by
  by_cases hb:b<H.nx
  ·rw[←g.old b hb];exact h
  ·rcases g.new b o (by omega) h with h1|h1
   ·exact absurd (hs.low b o h1) hb
   ·exact h1.2
 have hs':Sim P (σ'.cut G.nx) G w':=by
  refine⟨fun b l h=>(Mp.cut_some h).1,fun b o h=>?_,fun b o l hb hl=>?_,fun b b' o o' l l' h1 h2 h3 h4 e=>t.sim.inj b b' o o' l l' (hin _ _ h1) (hin _ _ h2) (hcut h3) (hcut h4) e,fun q hq=>?_,by rw[g.ro];exact Nat.le_trans hs.ro g.nx⟩
  ·by_cases hb:b<H.nx
   ·exact ZC hb g.nx
   ·rcases g.new b o (by omega) h with h1|h1
    ·exact absurd (hs.low b o h1) hb
    ·exact h1.1
  ·obtain⟨c,h2,h3⟩:=t.sim.alive b o l (hin b o hb) (hcut hl)
   refine⟨c,h2,?_⟩
   rcases g.low b o hb with h5|h4
   ·cases hσ:σ b with
    |none=>
     have:=(t.pend b (hs.low b o h5) hσ).2
     rw[hcut hl] at this;cases this
    |some l0=>
     have e:=t.ext b l0 hσ
     rw[hcut hl] at e;cases e
     obtain⟨c0,_,h1⟩:=hs.alive b o l h5 hσ
     exact(h1.back t.ext h3).mono hex
   ·exact h3.cutX h4
  ·obtain⟨l,h1,h2,h3⟩:=hs.glob q hq
   exact⟨l,hex _ _ h1,h2,h3⟩
 refine⟨hex,hs',t.size,t.frame,fun b l hw hl hlt=>?_,g.nx,g.ro,fun b hb=>?_,t.tape,t.os,t.out,fun b hb hn=>?_⟩
 ·obtain⟨h1,o,h2,h3⟩:=hw
  exact t.wr b l ⟨by rw[t.ro,←g.ro];exact h1,o,hin b o h2,h3⟩ (hcut hl) hlt
 ·rw[g.old b (ZC hb hs.ro)]
  exact t.low b hb
 ·obtain⟨h1,h2⟩:=t.pend b hb hn
  refine⟨by rw[g.old b hb,h1],?_⟩
  rw[Mp.cut_lt (ZC hb g.nx)];exact h2
def ZBk(H:Heap):CR→CR→Prop
 | .ret v H', .ret u G=>u=v∧Less H H' G∧Yn G.nx v=true
 | .pan v H', .pan u G=>u=v∧Less H H' G∧Yn G.nx v=true
 |_,_=>False
theorem ZAe{call:Nat→List AV→Heap→CR}(hcall:Uw P call){f:FuncId}{args:List AV}{H:Heap}{r:CR}(g:ZBk H (call f args H) r)
  {σ:Mp}{w:World}{vs:List Value}(hs:Sim P σ H w)(hv:RelL σ args vs):ZcO P σ H w r ((callFunc f ⟨vs⟩).run P w):=by
 have hcr:=hcall f _ H σ w vs hs hv
 generalize call f args H=q at g hcr
 cases q with
 |fail=>cases r<;>exact g.elim
 |ret v H'=>
  cases r with
  |ret u G=>
   obtain⟨rfl,g,hlow⟩:=g
   refine Ends.mono (fun u' w' hx=>?_) (fun _ _ hx=>hx) hcr
   obtain⟨σ2,h1,t⟩:=hx
   exact⟨σ2.cut G.nx,Rel.cut hlow h1,t.less hs g⟩
  |_=>exact g.elim
 |pan v H'=>
  cases r with
  |pan u G=>
   obtain⟨rfl,g,hlow⟩:=g
   refine Ends.mono (fun _ _ hx=>hx) (fun u' w' hx=>?_) hcr
   obtain⟨σ2,h1,t⟩:=hx
   exact⟨σ2.cut G.nx,Rel.cut hlow h1,t.less hs g⟩
  |_=>exact g.elim
theorem Less.put{H:Heap}{b:Nat}{o:Obj}(hb:b<H.nx)(ho:ZCi H.nx o){H':Heap}(h: ∀c,c<H.nx→H'.t.get c=(H.put b o).t.get c):Less H H' (H.put b o):=by
 refine⟨Zl _,rfl,fun c hc=>(h c hc).symm,fun c q hc hq=> .inl ?_,fun c q hq=>?_⟩
 ·rw[ZcT,if_neg (by omega)] at hq;exact hq
 ·rw[ZcT] at hq
  split at hq
  ·cases hq;exact .inr ho
  ·exact .inl hq
theorem Less.same{H H':Heap}(h: ∀c,c<H.nx→H'.t.get c=H.t.get c):Less H H' H:=
 ⟨Zl _,rfl,fun c hc=>(h c hc).symm,fun _ _ _ hq=> .inl hq,fun _ _ hq=> .inl hq⟩
end
end Go.AI
namespace Go.AI
open Go
noncomputable section
variable {P:Program}
abbrev Lib:=Nat→List AV→Heap→Option CR
def Zhp(V7:Nat→Nat)(Qg:Lib)(call:Nat→List AV→Heap→CR)(lib:Lib)(k:Nat):Lib:=fun f args H=>
 open Classical in if V7 f=k then
  (match Qg f args H with
  |some r=>if ZBk H (call f args H) r then some r else lib f args H
  |none=>if ∃v H',call f args H= .ret v H'∧Keep H H' []∧Yn 0 v=true then(match call f args H with| .ret v _=>some (.ret v H)|_=>none) else lib f args H)
 else lib f args H
theorem ZxS{V7:Nat→Nat}{Qg:Lib}{call:Nat→List AV→Heap→CR}{lib:Lib}{k:Nat}(hcall:Uw P call)(hl:Zct P lib):Zct P (Zhp V7 Qg call lib k):=by
 intro f args H r h σ w vs hs hv
 unfold Zhp at h
 split at h
 ·split at h
  ·split at h
   ·rename_i hc
    cases h
    exact ZAe hcall hc hs hv
   ·exact hl f args H r h σ w vs hs hv
  ·split at h
   ·rename_i hc
    obtain⟨v,H',h1,h2,h3⟩:=hc
    rw[h1] at h
    cases h
    exact Zz1 hcall h1 h2 h3 hs hv
   ·exact hl f args H r h σ w vs hs hv
 ·exact hl f args H r h σ w vs hs hv
theorem Zf5{V7:Nat→Nat}{Qg:Lib}{call:Nat→List AV→Heap→CR}{lib:Lib}{k f:Nat}(h:V7 f≠k)(args:List AV)(H:Heap):Zhp V7 Qg call lib k f args H=lib f args H:=by
 unfold Zhp;rw[if_neg h]
theorem ZrN{V7:Nat→Nat}{Qg:Lib}{call:Nat→List AV→Heap→CR}{lib:Lib}{k f:Nat}{args:List AV}{H H':Heap}{v:AV}(h:V7 f=k)(hs:Qg f args H=none)(hr:call f args H= .ret v H')(g:Keep H H' [])(hv:Yn 0 v=true):Zhp V7 Qg call lib k f args H=some (.ret v H):=by
 unfold Zhp;rw[if_pos h,hs]
 simp only
 rw[if_pos ⟨v,H',hr,g,hv⟩,hr]
def Zhq(Zk:Lib)(fs:T CF)(fuel:Nat)(V7:Nat→Nat)(Qg:Lib):Nat→Lib
 |0=>Zk
 |k+1=>Zhp V7 Qg (ZQ (Zhq Zk fs fuel V7 Qg k) fs fuel 900) (Zhq Zk fs fuel V7 Qg k) (k+1)
variable {Zk:Lib} {fs:T CF} {fuel:Nat} {V7:Nat→Nat} {Qg:Lib}
theorem Zoa(hc: ∀lib,Zct P lib→Uw P (ZQ lib fs fuel 900))(h0:Zct P Zk): ∀k,Zct P (Zhq Zk fs fuel V7 Qg k)
 |0=>h0
 |k+1=>ZxS (hc _ (Zoa hc h0 k)) (Zoa hc h0 k)
theorem Zp2{f:Nat}(args:List AV)(H:Heap): ∀k,k<V7 f→Zhq Zk fs fuel V7 Qg k f args H=Zk f args H
 |0,_=>rfl
 |k+1,h=>(Zf5 (by omega) args H).trans (Zp2 args H k (by omega))
theorem ZiC{f:Nat}(h:V7 f=0)(args:List AV)(H:Heap): ∀k,Zhq Zk fs fuel V7 Qg k f args H=Zk f args H
 |0=>rfl
 |k+1=>(Zf5 (by omega) args H).trans (ZiC h args H k)
theorem ZsM{f r:Nat}(h:V7 f=r)(args:List AV)(H:Heap): ∀k,r≤k→Zhq Zk fs fuel V7 Qg k f args H=Zhq Zk fs fuel V7 Qg r f args H:=by
 intro k hk
 induction k with
 |zero=>rw[Nat.le_zero.1 hk]
 |succ k ih=>
  by_cases e:r=k+1
  ·rw[e]
  ·exact(Zf5 (by omega) args H).trans (ih (by omega))
theorem ZL{f k:Nat}(h0: ∀l H,Zk f l H=none)(h:k<V7 f∨V7 f=0)(args:List AV)(H:Heap):Zhq Zk fs fuel V7 Qg k f args H=none:=by
 rcases h with h|h
 ·rw[Zp2 args H k h,h0]
 ·rw[ZiC h args H k,h0]
theorem Zhr{f k n:Nat}{args:List AV}{H:Heap}{r:CR}(h:V7 f=0)(hr:Zk f args H=some r):ZQ (Zhq Zk fs fuel V7 Qg k) fs fuel (n+1) f args H=r:=
 ZmM (by rw[ZiC h];exact hr)
theorem YI{f r k n:Nat}{args:List AV}{H H':Heap}{v:AV}(h:V7 f=r+1)(hs:Qg f args H=none)(hr:ZQ (Zhq Zk fs fuel V7 Qg r) fs fuel 900 f args H= .ret v H')(g:Keep H H' [])(hv:Yn 0 v=true)(hk:r+1≤k):
  ZQ (Zhq Zk fs fuel V7 Qg k) fs fuel (n+1) f args H= .ret v H:=
 ZmM (by rw[ZsM h args H k hk];exact ZrN h hs hr g hv)
end
end Go.AI
