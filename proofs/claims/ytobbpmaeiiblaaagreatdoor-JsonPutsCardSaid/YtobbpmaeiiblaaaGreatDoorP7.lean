/- Running the interpreter's code on values that are not known: equations, proved without conditions but those that each names; what is looked up rank by rank. -/
import Derived.Test.YtobbpmaeiiblaaaGreatDoorP6
import Derived.Test.YtobbpmaeiiblaaaGreatDoorP5
set_option maxRecDepth 1000000
set_option maxHeartbeats 0
set_option linter.unusedVariables false
set_option linter.unusedSimpArgs false
namespace Go.AI
open Go
section
variable {α:Type}
namespace N8
theorem g00(f:α→α)(n:N8 α):a0 (u0 f n)=f (a0 n):=rfl
theorem g01(f:α→α)(n:N8 α):a0 (u1 f n)=a0 n:=rfl
theorem g02(f:α→α)(n:N8 α):a0 (u2 f n)=a0 n:=rfl
theorem g03(f:α→α)(n:N8 α):a0 (u3 f n)=a0 n:=rfl
theorem g04(f:α→α)(n:N8 α):a0 (u4 f n)=a0 n:=rfl
theorem g05(f:α→α)(n:N8 α):a0 (u5 f n)=a0 n:=rfl
theorem g06(f:α→α)(n:N8 α):a0 (u6 f n)=a0 n:=rfl
theorem g07(f:α→α)(n:N8 α):a0 (u7 f n)=a0 n:=rfl
theorem g10(f:α→α)(n:N8 α):a1 (u0 f n)=a1 n:=rfl
theorem g11(f:α→α)(n:N8 α):a1 (u1 f n)=f (a1 n):=rfl
theorem g12(f:α→α)(n:N8 α):a1 (u2 f n)=a1 n:=rfl
theorem g13(f:α→α)(n:N8 α):a1 (u3 f n)=a1 n:=rfl
theorem g14(f:α→α)(n:N8 α):a1 (u4 f n)=a1 n:=rfl
theorem g15(f:α→α)(n:N8 α):a1 (u5 f n)=a1 n:=rfl
theorem g16(f:α→α)(n:N8 α):a1 (u6 f n)=a1 n:=rfl
theorem g17(f:α→α)(n:N8 α):a1 (u7 f n)=a1 n:=rfl
theorem g20(f:α→α)(n:N8 α):a2 (u0 f n)=a2 n:=rfl
theorem g21(f:α→α)(n:N8 α):a2 (u1 f n)=a2 n:=rfl
theorem g22(f:α→α)(n:N8 α):a2 (u2 f n)=f (a2 n):=rfl
theorem g23(f:α→α)(n:N8 α):a2 (u3 f n)=a2 n:=rfl
theorem g24(f:α→α)(n:N8 α):a2 (u4 f n)=a2 n:=rfl
theorem g25(f:α→α)(n:N8 α):a2 (u5 f n)=a2 n:=rfl
theorem g26(f:α→α)(n:N8 α):a2 (u6 f n)=a2 n:=rfl
theorem g27(f:α→α)(n:N8 α):a2 (u7 f n)=a2 n:=rfl
theorem g30(f:α→α)(n:N8 α):a3 (u0 f n)=a3 n:=rfl
theorem g31(f:α→α)(n:N8 α):a3 (u1 f n)=a3 n:=rfl
theorem g32(f:α→α)(n:N8 α):a3 (u2 f n)=a3 n:=rfl
theorem g33(f:α→α)(n:N8 α):a3 (u3 f n)=f (a3 n):=rfl
theorem g34(f:α→α)(n:N8 α):a3 (u4 f n)=a3 n:=rfl
theorem g35(f:α→α)(n:N8 α):a3 (u5 f n)=a3 n:=rfl
theorem g36(f:α→α)(n:N8 α):a3 (u6 f n)=a3 n:=rfl
theorem g37(f:α→α)(n:N8 α):a3 (u7 f n)=a3 n:=rfl
theorem g40(f:α→α)(n:N8 α):a4 (u0 f n)=a4 n:=rfl
theorem g41(f:α→α)(n:N8 α):a4 (u1 f n)=a4 n:=rfl
theorem g42(f:α→α)(n:N8 α):a4 (u2 f n)=a4 n:=rfl
theorem g43(f:α→α)(n:N8 α):a4 (u3 f n)=a4 n:=rfl
theorem g44(f:α→α)(n:N8 α):a4 (u4 f n)=f (a4 n):=rfl
theorem g45(f:α→α)(n:N8 α):a4 (u5 f n)=a4 n:=rfl
theorem g46(f:α→α)(n:N8 α):a4 (u6 f n)=a4 n:=rfl
theorem g47(f:α→α)(n:N8 α):a4 (u7 f n)=a4 n:=rfl
theorem g50(f:α→α)(n:N8 α):a5 (u0 f n)=a5 n:=rfl
theorem g51(f:α→α)(n:N8 α):a5 (u1 f n)=a5 n:=rfl
theorem g52(f:α→α)(n:N8 α):a5 (u2 f n)=a5 n:=rfl
theorem g53(f:α→α)(n:N8 α):a5 (u3 f n)=a5 n:=rfl
theorem g54(f:α→α)(n:N8 α):a5 (u4 f n)=a5 n:=rfl
theorem g55(f:α→α)(n:N8 α):a5 (u5 f n)=f (a5 n):=rfl
theorem g56(f:α→α)(n:N8 α):a5 (u6 f n)=a5 n:=rfl
theorem g57(f:α→α)(n:N8 α):a5 (u7 f n)=a5 n:=rfl
theorem g60(f:α→α)(n:N8 α):a6 (u0 f n)=a6 n:=rfl
theorem g61(f:α→α)(n:N8 α):a6 (u1 f n)=a6 n:=rfl
theorem g62(f:α→α)(n:N8 α):a6 (u2 f n)=a6 n:=rfl
theorem g63(f:α→α)(n:N8 α):a6 (u3 f n)=a6 n:=rfl
theorem g64(f:α→α)(n:N8 α):a6 (u4 f n)=a6 n:=rfl
theorem g65(f:α→α)(n:N8 α):a6 (u5 f n)=a6 n:=rfl
theorem g66(f:α→α)(n:N8 α):a6 (u6 f n)=f (a6 n):=rfl
theorem g67(f:α→α)(n:N8 α):a6 (u7 f n)=a6 n:=rfl
theorem g70(f:α→α)(n:N8 α):a7 (u0 f n)=a7 n:=rfl
theorem g71(f:α→α)(n:N8 α):a7 (u1 f n)=a7 n:=rfl
theorem g72(f:α→α)(n:N8 α):a7 (u2 f n)=a7 n:=rfl
theorem g73(f:α→α)(n:N8 α):a7 (u3 f n)=a7 n:=rfl
theorem g74(f:α→α)(n:N8 α):a7 (u4 f n)=a7 n:=rfl
theorem g75(f:α→α)(n:N8 α):a7 (u5 f n)=a7 n:=rfl
theorem g76(f:α→α)(n:N8 α):a7 (u6 f n)=a7 n:=rfl
theorem g77(f:α→α)(n:N8 α):a7 (u7 f n)=f (a7 n):=rfl
end N8
end
section
theorem ZwT(f:OpF)(dst:ZE)(next:D)(c:Ctx)(tm:TM)(H:Heap)(x:X):Za f dst next c tm H x=ZaT (next c) dst c tm H x (f tm H):=rfl
theorem ZwU(g:EvF)(b:Bool)(f:OpF)(dst:ZE)(next:D)(c:Ctx)(tm:TM)(H:Heap)(x:X):ZJ g b f dst next c tm H x=VS (g tm) b (ZaT (next c) dst c tm H x (f tm H)) (next c (dst tm Yx) H x):=rfl
theorem Zup(yes no:Res):VS (.bool true) true yes no=yes:=rfl
theorem Zuq(yes no:Res):VS (.bool false) false yes no=yes:=rfl
theorem Zur(yes no:Res):VS (.bool true) false yes no=no:=rfl
theorem Zus(yes no:Res):VS (.bool false) true yes no=no:=rfl
theorem ZwV(next:TM→Heap→X→Res)(dst:ZE)(c:Ctx)(tm:TM)(H:Heap)(x:X)(v:AV)(H':Heap):ZaT next dst c tm H x (.val v H')=next (dst tm v) H' x:=rfl
theorem Zut(next:TM→Heap→X→Res)(dst:ZE)(c:Ctx)(tm:TM)(H:Heap)(x:X)(f:Nat)(args:List AV)(H':Heap):ZaT next dst c tm H x (.oth (.call f args H'))=ZjZ next dst tm x (c.call f args H'):=rfl
theorem Zfi(next:TM→Heap→X→Res)(dst:ZE)(tm:TM)(x:X)(v:AV)(H:Heap):ZjZ next dst tm x (.ret v H)=next (dst tm v) H x:=rfl
theorem ZwW(a b:D)(c:Ctx)(tm:TM)(H:Heap)(x:X):Zg a b c tm H x=ZaP (a c tm H x) (b c):=rfl
theorem VV(tm:TM)(H:Heap)(x:X)(k:TM→Heap→X→Res):ZaP (.ok .normal tm H x) k=k tm H x:=rfl
theorem Zuu(tm:TM)(H:Heap)(x:X)(k:TM→Heap→X→Res):ZaP (.ok .ret tm H x) k= .ok .ret tm H x:=rfl
theorem Zrw(i:Nat)(tm:TM)(H:Heap)(x:X)(k:TM→Heap→X→Res):ZaP (.ok (.exit i) tm H x) k= .ok (.exit i) tm H x:=rfl
theorem Zuv(c:Ctx)(tm:TM)(H:Heap)(x:X):Zb c tm H x= .ok .normal tm H x:=rfl
theorem ZwX(c:Ctx)(tm:TM)(H:Heap)(x:X):Z9 c tm H x= .ok .ret tm H x:=rfl
theorem Zuw(i:Nat)(c:Ctx)(tm:TM)(H:Heap)(x:X):WF i c tm H x= .ok (.exit i) tm H x:=rfl
theorem Zux(q:EvF)(a b:D)(c:Ctx)(tm:TM)(H:Heap)(x:X):ZD q a b c tm H x=ZnV (q tm) fun v=>Zg9 (a c) (b c) v tm H x:=rfl
theorem Zuy(b:Bool)(k:Bool→Res):ZnV (.bool b) k=k b:=rfl
theorem Zrx(a b:TM→Heap→X→Res)(tm:TM)(H:Heap)(x:X):Zg9 a b true tm H x=a tm H x:=rfl
theorem Zp7(a b:TM→Heap→X→Res)(tm:TM)(H:Heap)(x:X):Zg9 a b false tm H x=b tm H x:=rfl
theorem Zry(i:Nat)(a:D)(c:Ctx)(tm:TM)(H:Heap)(x:X):Z4 i a c tm H x=Zaw i (a c tm H x):=rfl
theorem Zuz(a:D)(c:Ctx)(tm:TM)(H:Heap)(x:X):Wx a c tm H x=WI (a c) c.fuel tm H x:=rfl
theorem Zl7(i:Nat)(tm:TM)(H:Heap)(x:X):Zaw i (.ok .normal tm H x)= .ok .normal tm H x:=rfl
theorem Un(i:Nat)(tm:TM)(H:Heap)(x:X):Zaw i (.ok (.exit i) tm H x)= .ok .normal tm H x:=by
 show @Bool.rec (fun _=>Res) (.ok (.exit i) tm H x) (.ok .normal tm H x) (Nat.beq i i)=_
 rw[Yc]
theorem Zrz(i:Nat)(tm:TM)(H:Heap)(x:X):Zaw i (.ok .ret tm H x)= .ok .ret tm H x:=rfl
theorem ZCp(tm:TM)(v:AV):d0 tm v=tm:=rfl
theorem ZEC(v:AV)(tm:TM):k v tm=v:=rfl
theorem ZzF:UN []=tm0:=rfl
theorem ZzG(a:AV):UN [a]=st0 tm0 a:=rfl
theorem ZzH(a b:AV):UN [a,b]=st1 (st0 tm0 a) b:=rfl
theorem ZzI(a b c:AV):UN [a,b,c]=st2 (st1 (st0 tm0 a) b) c:=rfl
theorem ZzJ(a b c d:AV):UN [a,b,c,d]=st3 (st2 (st1 (st0 tm0 a) b) c) d:=rfl
theorem ZzK(tm:TM):evs tm []=[]:=rfl
theorem ZwY(tm:TM)(f:EvF)(l:List EvF):evs tm (f::l)=f tm::evs tm l:=rfl
theorem ZV{lib:Nat→List AV→Heap→Option CR}{fs:T CF}{fuel n f:Nat}{args:List AV}{H:Heap}{cf:CF}(hl:lib f args H=none)(hf:fs.get f=some cf):ZR lib fs fuel (n+1) f args H=
  Zdk (fun pn g as H=>ZiA .fail fs g fun cg=>Ziz pn cg.rs (cg.body ⟨ZR lib fs fuel n,Wk,Vc,fuel,false⟩ (UN as) H ⟨[],pn⟩))
   cf.rs (cf.body ⟨ZR lib fs fuel n,Wk,Qn fs fuel (ZR lib fs fuel n),fuel,false⟩ (UN args) H ⟨[],none⟩):=by
 show ZsS (lib f args H) _=_
 rw[hl]
 unfold ZiA
 rw[hf]
 rfl
theorem ZwZ(dc:Option AV→Nat→List AV→Heap→DR)(rs:List (EvF×Option (Nat×Bool)))(tm:TM)(H:Heap)(rc:Option AV):Zdk dc rs (.ok .ret tm H ⟨[],rc⟩)=results rs tm H:=rfl
theorem Zp8(dc:Option AV→Nat→List AV→Heap→DR)(rs:List (EvF×Option (Nat×Bool)))(tm:TM)(H:Heap)(rc:Option AV):Zdk dc rs (.ok .normal tm H ⟨[],rc⟩)=results rs tm H:=rfl
theorem Zp9(f:EvF)(tm:TM)(H:Heap):results [(f,none)] tm H= .ret (f tm) H:=rfl
theorem Zox(tm:TM)(H:Heap):results [] tm H= .ret (.tup []) H:=rfl
theorem ZzL(x:EvF)(tm:TM)(H:Heap):oMv x tm H= .val (x tm) H:=rfl
noncomputable def ZzM(a:AV)(H:Heap):OR:=Zae a fun k a=>VM k (Zio 0 a) H
noncomputable def ZhZ(k:IntKind)(a:AV)(H:Heap):OR:=Zae a fun _ a=>VM k a H
noncomputable def Zl8(a b:AV)(H:Heap):OR:=match a with
 | .int j a=>Zae b fun l b=>ZS (kEq j l) (VM j (Zkv a b) H)
 | .str a=>ZbF b fun b=>ZS (Nat.ble (Nat.add (Yt a) (Yt b)) 4611686018427387904) (.val (.str (a++b)) H)
 |_=> .fail
noncomputable def ZzN(a b:AV)(H:Heap):OR:=Zis a b fun k a b=>VM k (Zio a b) H
noncomputable def ZzO(a b:AV)(H:Heap):OR:=Zis a b fun k a b=>VM k (Zip a b) H
noncomputable def Zw0(a b:AV)(H:Heap):OR:=Zis a b fun k a b=>cond (ieq b 0) .fail (VM k (ZBP a b) H)
noncomputable def ZuA(a b:AV)(H:Heap):OR:=Zis a b fun k a b=>cond (ieq b 0) .fail (Zar (ZBQ a b) fun n=> .val (.int k n) H)
noncomputable def Zng(f:Nat→Nat→Nat→Nat)(a b:AV)(H:Heap):OR:=Zis a b fun k a b=>VM k (.ofNat (f (Zbg k) (ZcF (Zbg k) a) (ZcF (Zbg k) b))) H
noncomputable def ZrA(a b:AV)(H:Heap):OR:=Zae a fun k a=>QT b fun b=>VM k (Zip a (.ofNat (Nat.pow 2 (cond (Nat.ble b 64) b 64)))) H
noncomputable def ZuB(a b:AV)(H:Heap):OR:=Zae a fun k a=>QT b fun b=>Zar (ZBR a (Zes b (ZsO k))) fun n=> .val (.int k n) H
noncomputable def ZBB(a:AV)(H:Heap):OR:=Zae a fun k a=>VM k (.ofNat (Nat.sub (Nat.sub (Zbg k) 1) (ZcF (Zbg k) a))) H
noncomputable def Zeo(f:Int→Int→Bool)(g:List UInt8→List UInt8→Bool)(a b:AV)(H:Heap):OR:=match a with
 | .int j a=>Zae b fun l b=>ZS (kEq j l) (U0 (f a b) H)
 | .str a=>ZbF b fun b=>U0 (g a b) H
 |_=> .fail
noncomputable def eqV(f:AV→AV→Option Bool)(neg:Bool)(a b:AV)(H:Heap):OR:=Uy (f a b) fun b=>U0 (cond neg (cond b false true) b) H
noncomputable def ZzP(a:AV)(H:Heap):OR:=Ziq a fun b=> .val (.bool (cond b false true)) H
noncomputable def Znh(a b c:AV)(H:Heap):OR:=Ziq a fun t=> .val (cond t b c) H
theorem Zw1(x:EvF)(tm:TM)(H:Heap):ZqY x tm H=ZzM (x tm) H:=rfl
theorem Zw2(x:EvF)(k:IntKind)(tm:TM)(H:Heap):Vm x k tm H=ZhZ k (x tm) H:=rfl
theorem ZuC(x y:EvF)(tm:TM)(H:Heap):Yh x y tm H=Zl8 (x tm) (y tm) H:=rfl
theorem Zw3(x y:EvF)(tm:TM)(H:Heap):WK x y tm H=ZzN (x tm) (y tm) H:=rfl
theorem Zw4(x y:EvF)(tm:TM)(H:Heap):Zer x y tm H=ZzO (x tm) (y tm) H:=rfl
theorem Zw5(x y:EvF)(tm:TM)(H:Heap):Zgm x y tm H=Zw0 (x tm) (y tm) H:=rfl
theorem Zw6(x y:EvF)(tm:TM)(H:Heap):Zg3 x y tm H=ZuA (x tm) (y tm) H:=rfl
theorem ZuD(x y:EvF)(f:Nat→Nat→Nat→Nat)(tm:TM)(H:Heap):Wp x y f tm H=Zng f (x tm) (y tm) H:=rfl
theorem Zw7(x y:EvF)(tm:TM)(H:Heap):Zbw x y tm H=ZrA (x tm) (y tm) H:=rfl
theorem Zw8(x y:EvF)(tm:TM)(H:Heap):Zkx x y tm H=ZuB (x tm) (y tm) H:=rfl
theorem ZuE(x:EvF)(tm:TM)(H:Heap):Zv0 x tm H=ZBB (x tm) H:=rfl
theorem Zw9(x y:EvF)(f:Int→Int→Bool)(g:List UInt8→List UInt8→Bool)(tm:TM)(H:Heap):Yf x y f g tm H=Zeo f g (x tm) (y tm) H:=rfl
theorem ZzQ(x y:EvF)(f:AV→AV→Option Bool)(neg:Bool)(tm:TM)(H:Heap):oEq x y f neg tm H=eqV f neg (x tm) (y tm) H:=rfl
theorem Zxa(x:EvF)(tm:TM)(H:Heap):Zek x tm H=ZzP (x tm) H:=rfl
theorem ZuF(x y z:EvF)(tm:TM)(H:Heap):Yk x y z tm H=Znh (x tm) (y tm) (z tm) H:=rfl
theorem ZrB(f:Nat)(args:List EvF)(tm:TM)(H:Heap):Zz f args tm H= .oth (.call f (evs tm args) H):=rfl
theorem UG(b:Bool)(H:Heap):U0 b H= .val (.bool b) H:=by cases b<;>rfl
theorem YV(k:IntKind)(n:Int)(H:Heap):VM k n H= .val (.int k (k.wrap n)) H:=by simp only[VM,QJ,Zb7]
theorem ZiY(k:IntKind)(m n:Nat):Zmf k m (.ofNat n)= .ofNat (n % m):=by
 show cond (Nat.ble m n) (Int.ofNat (Nat.mod n m)) (.ofNat n)=_
 cases h:Nat.ble m n with
 |true=>rfl
 |false=>
  have:n<m:=by
   have h2: ¬m≤n:=fun hh=>by rw[Zl hh] at h;cases h
   omega
  rw[Z0 this];rfl
theorem Zh0(n:Nat):IntKind.u8.wrap (.ofNat n)= .ofNat (n % 256):=by rw[←Zb7];exact ZiY .u8 256 n
theorem Zfj(n:Nat):IntKind.u32.wrap (.ofNat n)= .ofNat (n % 4294967296):=by rw[←Zb7];exact ZiY .u32 4294967296 n
theorem Zbs(n:Nat):IntKind.u64.wrap (.ofNat n)= .ofNat (n % 18446744073709551616):=by rw[←Zb7];exact ZiY .u64 18446744073709551616 n
theorem Zc8{n:Nat}(h:n<9223372036854775808):IntKind.i64.wrap (.ofNat n)= .ofNat n:=by
 rw[←Zb7]
 show cond (Nat.ble 9223372036854775808 n) _ (Int.ofNat n)=_
 cases h2:Nat.ble 9223372036854775808 n with
 |true=>have:=ZO h2;omega
 |false=>rfl
theorem Zfk(a b:Nat):Zkv (.ofNat a) (.ofNat b)= .ofNat (a+b):=rfl
theorem Zlt(a b:Nat):Zip (.ofNat a) (.ofNat b)= .ofNat (a*b):=rfl
theorem Zxb{a b:Nat}(h:b≤a):Zio (.ofNat a) (.ofNat b)= .ofNat (a - b):=by
 show cond (Nat.ble b a) (Int.ofNat (Nat.sub a b)) (Int.ofNat a - Int.ofNat b)=_
 rw[Zl h];rfl
theorem ZfG(a b:Nat):ilt (.ofNat a) (.ofNat b)=decide (a<b):=by
 show Nat.ble (Nat.succ a) b=_
 cases h:Nat.ble (Nat.succ a) b with
 |true=>have:=ZO h;exact(Zh this).symm
 |false=>
  have h2: ¬Nat.succ a≤b:=fun hh=>by rw[Zl hh] at h;cases h
  exact(Zc h2).symm
theorem ZbQ(a b:Nat):ieq (.ofNat a) (.ofNat b)=decide (a=b):=Ye a b
theorem YM(k:IntKind):kEq k k=true:=by cases k<;>rfl
def i64(n:Nat):AV:=nI .i64 n
def u8V(x:UInt8):AV:= .int .u8 (.ofNat x.toNat)
def ZgW(x:UInt32):AV:= .int .u32 (.ofNat x.toNat)
def ZzR(x:UInt64):AV:= .int .u64 (.ofNat x.toNat)
theorem Yw{a b:Nat}(h:a+b<9223372036854775808)(H:Heap):Zl8 (nI .i64 a) (nI .i64 b) H= .val (nI .i64 (a+b)) H:=by
 show ZS (kEq .i64 .i64) (VM .i64 (Zkv (.ofNat a) (.ofNat b)) H)=_
 rw[YM,YV,Zfk,Zc8 h];rfl
theorem YO{a b:Nat}(h:b≤a)(h2:a<9223372036854775808)(H:Heap):ZzN (nI .i64 a) (nI .i64 b) H= .val (nI .i64 (a - b)) H:=by
 show ZS (kEq .i64 .i64) (VM .i64 (Zio (.ofNat a) (.ofNat b)) H)=_
 rw[YM,YV,Zxb h,Zc8 (by omega)];rfl
theorem Zlu{a b:Nat}(h:a*b<9223372036854775808)(H:Heap):ZzO (nI .i64 a) (nI .i64 b) H= .val (nI .i64 (a*b)) H:=by
 show ZS (kEq .i64 .i64) (VM .i64 (Zip (.ofNat a) (.ofNat b)) H)=_
 rw[YM,YV,Zlt,Zc8 h];rfl
theorem ZCq{a b:Nat}(h:0<b)(H:Heap):ZuA (nI .i64 a) (nI .i64 b) H= .val (nI .i64 (a % b)) H:=by
 show ZS (kEq .i64 .i64) (cond (ieq (.ofNat b) (.ofNat 0)) .fail (Zar (.ofNat (Nat.mod a b)) fun n=> .val (.int .i64 n) H))=_
 rw[YM,ZbQ,Zc (by omega),QJ];rfl
theorem ZCr{a b:Nat}(h:0<b)(h2:a<9223372036854775808)(H:Heap):Zw0 (nI .i64 a) (nI .i64 b) H= .val (nI .i64 (a/b)) H:=by
 show ZS (kEq .i64 .i64) (cond (ieq (.ofNat b) (.ofNat 0)) .fail (VM .i64 (.ofNat (Nat.div a b)) H))=_
 rw[YM,ZbQ,Zc (by omega),YV,show(Int.ofNat (Nat.div a b))=Int.ofNat (a/b) from rfl,Zc8 (UZ (Nat.div_le_self a b) h2)];rfl
theorem ZI(k:IntKind)(a b:Nat)(H:Heap):Zeo YR Yg (nI k a) (nI k b) H= .val (.bool (decide (a<b))) H:=by
 show ZS (kEq k k) (U0 (ilt (.ofNat a) (.ofNat b)) H)=_
 rw[YM,UG,ZfG];rfl
theorem Y2(k:IntKind)(a b:Nat)(H:Heap):Zeo UK WW (nI k a) (nI k b) H= .val (.bool (decide (b≤a))) H:=by
 show ZS (kEq k k) (U0 (!ilt (.ofNat a) (.ofNat b)) H)=_
 rw[YM,UG,ZfG]
 show OR.val (.bool (!decide (a<b))) H=_
 congr 2
 by_cases h:a<b
 ·rw[Zh h,Zc (by omega)];rfl
 ·rw[Zc h,Zh (by omega)];rfl
theorem Zlv(k:IntKind)(a b:Nat)(H:Heap):eqV eqI true (nI k a) (nI k b) H= .val (.bool (decide (a≠b))) H:=by
 show Uy (cond (kEq k k) (some (ieq (.ofNat a) (.ofNat b))) none) _=_
 rw[YM,ZbQ]
 show U0 (cond true (cond (decide (a=b)) false true) (decide (a=b))) H=_
 rw[UG]
 congr 2
 by_cases h:a=b
 ·rw[Zh h,Zc (by omega)];rfl
 ·rw[Zc h,Zh h];rfl
theorem ZW(k:IntKind)(a b:Nat)(H:Heap):eqV eqI false (nI k a) (nI k b) H= .val (.bool (decide (a=b))) H:=by
 show Uy (cond (kEq k k) (some (ieq (.ofNat a) (.ofNat b))) none) _=_
 rw[YM,ZbQ]
 exact UG _ _
theorem ZzS(a b:UInt32)(H:Heap):Zl8 (ZgW a) (ZgW b) H= .val (ZgW (a+b)) H:=by
 show ZS (kEq .u32 .u32) (VM .u32 (Zkv (.ofNat a.toNat) (.ofNat b.toNat)) H)=_
 rw[YM,YV,Zfk,Zfj];unfold ZgW;rw[UInt32.toNat_add];rfl
end
end Go.AI
namespace Go.AI
open Go
section
structure Cells(r:Row)(l:List AV):Prop where
 size:r.size=l.length
 get: ∀i,i<l.length→r.get i=l.getD i .unk
theorem Cells.load{r:Row}{l:List AV}(h:Cells r l){o n:Nat}(hn:o+n≤l.length):loadN r o n=(l.drop o).take n:=by
 refine List.ext_getElem? fun j=>?_
 by_cases hj:j<n
 ·rw[UD r n o j hj,List.getElem?_take_of_lt hj,List.getElem?_drop,h.get (o+j) (by omega),Zj]
  rw[Zp (show o+j<l.length by omega)];rfl
 ·rw[Yp (by rw[Um];omega),Yp (by rw[Yb,List.length_drop];omega)]
theorem Cells.store{r:Row}{l:List AV}(h:Cells r l){o:Nat}{vs:List AV}(ho:o+vs.length≤l.length):Cells (r.setCells (Wn r.cells o vs)) (l.take o++(vs++l.drop (o+vs.length))):=by
 have hlen:(l.take o++(vs++l.drop (o+vs.length))).length=l.length:=by
  rw[Zq,Zq,Yb,List.length_drop];omega
 refine⟨by rw[hlen];exact h.size,fun i hi=>?_⟩
 rw[hlen] at hi
 rw[Row.get_eq]
 show((Wn r.cells o vs).get i).getD r.dflt=_
 rw[Qq,Zj]
 by_cases h1:o≤i∧i<o+vs.length
 ·rw[if_pos h1,List.getElem?_append_right (by rw[Yb];omega),Yb,Nat.min_eq_left (by omega),Ym (by omega),
   Zp (show i - o<vs.length by omega)];rfl
 ·rw[if_neg h1]
  have h2:=h.get i hi
  rw[Row.get_eq,Zj] at h2
  rw[h2]
  by_cases h3:i<o
  ·rw[Ym (by rw[Yb];omega),List.getElem?_take_of_lt h3]
  ·rw[List.getElem?_append_right (by rw[Yb];omega),Yb,Nat.min_eq_left (by omega),List.getElem?_append_right (by omega),List.getElem?_drop,
    show o+vs.length+(i - o - vs.length)=i by omega]
theorem Cells.new(e sz:Nat)(l:List AV)(fz:Nat)(sm own ex:Bool):Cells ⟨e,sz,Yt l,T.ofList l, .unk,fz,sm,own,ex⟩ l:=by
 refine⟨Yr l,fun i hi=>?_⟩
 rw[Row.get_eq]
 show((T.ofList l).get i).getD .unk=_
 rw[T.get_ofList,Zj]
theorem Cells.zero(e n:Nat)(v:AV)(fz:Nat)(sm own ex:Bool):Cells ⟨e,1,n, .leaf,v,fz,sm,own,ex⟩ (List.replicate n v):=by
 refine⟨by simp,fun i hi=>?_⟩
 rw[List.length_replicate] at hi
 rw[Row.get_eq]
 show((T.leaf:T AV).get i).getD v=_
 rw[T.get_leaf,Zj,List.getElem?_replicate,if_pos hi];rfl
structure Own(H:Heap)(b e:Nat)(l:List AV)(r:Row):Prop where
 at_:H.t.get b=some (.row r)
 elem:r.elem=e
 sz:r.sz=1
 own:r.own=true
 fz:r.fz=0
 sm:r.sm=false
 cells:Cells r l
 ro:H.ro≤b
noncomputable def ZiZ(a:AV)(H:Heap):OR:=Zas a fun b o=>YH H b fun r=>ZS (Nat.ble (Nat.succ o) r.size) (.val (r.get o) H)
noncomputable def Zni(n:Nat)(a:AV)(H:Heap):OR:=Zas a fun b o=>YH H b fun r=>ZS (Nat.ble (Nat.add o n) r.size) (.val (.agg (loadN r o n)) H)
noncomputable def Zoy(n:Nat)(a v:AV)(H:Heap):OR:=Zas a fun b o=>YH H b fun r=>
 ZS (Nat.ble 1 n)<|ZS (H.may r b) (ZS (Nat.ble (Nat.add o n) r.size) (ZS (Nat.ble r.fz o) (ZS (Nat.beq (Yt v.cells) n)
  (.val Yx (H.put b (.row (r.setCells (Wn r.cells o v.cells))))))))
def ZzT(n:Nat)(a:AV)(H:Heap):OR:=Zas a fun b o=> .val (.ptr b (Nat.add o n)) H
def Ztc(n sz:Nat)(a i:AV)(H:Heap):OR:=QT i fun i=>Zas a fun b o=>ZS (Nat.ble (Nat.succ i) n) (.val (.ptr b (Nat.add o (Nat.mul i sz))) H)
def Zlw(sz:Nat)(a i:AV)(H:Heap):OR:=QT i fun i=>V7 a .fail fun b o len _=>ZS (Nat.ble (Nat.succ i) len) (.val (.ptr b (Nat.add o (Nat.mul i sz))) H)
def ZzU(a:AV)(H:Heap):OR:=ZnR a (.val a H)
noncomputable def Qe(a:AV)(H:Heap):OR:=V7 a (.val (.int .i64 0) H) fun _ _ n _=>Qk n fun n=> .val (.int .i64 (.ofNat n)) H
theorem ZrC(x:EvF)(tm:TM)(H:Heap):Zx x tm H=ZiZ (x tm) H:=rfl
theorem ZuG(x:EvF)(n:Nat)(tm:TM)(H:Heap):YY x n tm H=Zni n (x tm) H:=rfl
theorem ZrD(x y:EvF)(n:Nat)(tm:TM)(H:Heap):Z2 x y n tm H=Zoy n (x tm) (y tm) H:=rfl
theorem Zxc(x:EvF)(n:Nat)(tm:TM)(H:Heap):Z5 x n tm H=ZzT n (x tm) H:=rfl
theorem ZuH(x y:EvF)(n sz:Nat)(tm:TM)(H:Heap):Zf1 x y n sz tm H=Ztc n sz (x tm) (y tm) H:=rfl
theorem ZuI(x y:EvF)(sz:Nat)(tm:TM)(H:Heap):YU x y sz tm H=Zlw sz (x tm) (y tm) H:=rfl
theorem Zxd(x:EvF)(tm:TM)(H:Heap):YQ x tm H=ZzU (x tm) H:=rfl
theorem ZuJ(x:EvF)(tm:TM)(H:Heap):WE x tm H=Qe (x tm) H:=rfl
theorem Zqa(e n:Nat)(v:AV)(tm:TM)(H:Heap):Zkc e n v tm H= .val (.ptr H.nx 0) (H.new (.row ⟨e,1,n, .leaf,v,0,false,true,true⟩)):=rfl
theorem ZrE(e:Nat)(cs:List AV)(h:1≤Yt cs)(tm:TM)(H:Heap):Wa e cs tm H= .val (.ptr H.nx 0) (H.newRow e 1 cs true):=by
 show ZS (Nat.ble 1 (Yt cs)) _=_
 rw[Zl h];rfl
theorem Zxe(n b o:Nat)(H:Heap):ZzT n (.ptr b o) H= .val (.ptr b (o+n)) H:=rfl
theorem Zxf(b o:Nat)(H:Heap):ZzU (.ptr b o) H= .val (.ptr b o) H:=rfl
theorem VL(b o n:Nat)(c:Option Nat)(H:Heap):Qe (.slice b o n c) H= .val (nI .i64 n) H:=by
 show Qk n (fun n=>OR.val (.int .i64 (.ofNat n)) H)=_
 rw[ZbW];rfl
theorem Zcc(H:Heap):Qe .nils H= .val (nI .i64 0) H:=rfl
theorem Uh{n i:Nat}(h:i<n)(b o:Nat)(k:IntKind)(H:Heap):Ztc n 1 (.ptr b o) (nI k i) H= .val (.ptr b (o+i)) H:=by
 show ZS (Nat.ble (Nat.succ i) n) (.val (.ptr b (o+i*1)) H)=_
 rw[Zl h,Nat.mul_one];rfl
theorem Wz{n i:Nat}(h:i<n)(b o:Nat)(c:Option Nat)(k:IntKind)(H:Heap):Zlw 1 (.slice b o n c) (nI k i) H= .val (.ptr b (o+i)) H:=by
 show ZS (Nat.ble (Nat.succ i) n) (.val (.ptr b (o+i*1)) H)=_
 rw[Zl h,Nat.mul_one];rfl
theorem ZrF{H:Heap}{b o:Nat}{r:Row}{l:List AV}(hr:H.t.get b=some (.row r))(hc:Cells r l)(ho:o<l.length):ZiZ (.ptr b o) H= .val (l.getD o .unk) H:=by
 show YH H b _=_
 unfold YH
 rw[hr]
 show ZS (Nat.ble (Nat.succ o) r.size) _=_
 rw[hc.size,Zl ho,hc.get o ho];rfl
theorem ZuK{H:Heap}{b o n:Nat}{r:Row}{l:List AV}(hr:H.t.get b=some (.row r))(hc:Cells r l)(ho:o+n≤l.length):Zni n (.ptr b o) H= .val (.agg ((l.drop o).take n)) H:=by
 show YH H b _=_
 unfold YH
 rw[hr]
 show ZS (Nat.ble (o+n) r.size) _=_
 rw[hc.size,Zl ho,hc.load ho];rfl
theorem Zdz(H:Heap)(b c:Nat)(o:Obj):(H.put b o).t.get c=if b=c then some o else H.t.get c:=T.get_set _ _ _ _
theorem Zbb(H:Heap)(c:Nat)(o:Obj):(H.new o).t.get c=if H.nx=c then some o else H.t.get c:=T.get_set _ _ _ _
theorem ZrG(H:Heap)(b:Nat)(o:Obj):(H.put b o).nx=H.nx:=rfl
theorem Zxg(H:Heap)(b:Nat)(o:Obj):(H.put b o).ro=H.ro:=rfl
theorem ZdA(H:Heap)(o:Obj):(H.new o).nx=H.nx+1:=rfl
theorem Zxh(H:Heap)(o:Obj):(H.new o).ro=H.ro:=rfl
theorem Zc9(H:Heap)(e sz:Nat)(l:List AV)(ex:Bool):H.newRow e sz l ex=H.new (.row ⟨e,sz,Yt l,T.ofList l, .unk,0,false,true,ex⟩):=rfl
end
end Go.AI
namespace Go.AI
open Go
section
theorem ZrH(l:List PI)(c:Ctx)(tm:TM)(H:Heap)(x:X):YK l c tm H x=W5 (l.map (·.dst)) Zey l c [] tm H x:=rfl
theorem ZuL(ds:List ZE)(fin:PK)(c:Ctx)(rs:List RD)(tm:TM)(H:Heap)(x:X):W5 ds fin [] c rs tm H x=cond (still tm H rs) (fin rs tm H x) .fail:=rfl
theorem ZrI(ds:List ZE)(fin:PK)(p:PI)(l:List PI)(c:Ctx)(rs:List RD)(tm:TM)(H:Heap)(x:X):W5 ds fin (p::l) c rs tm H x=U2 ds p (W5 ds fin l c) c rs tm H x:=rfl
theorem ZuM(rs:List RD)(tm:TM)(H:Heap)(x:X):Zey rs tm H x= .ok .normal tm H x:=rfl
section
variable (ds:List ZE) (f:OpF) (os:List (ZE×EvF)) (dst:ZE) (i bef:Nat) (nx:PK) (c:Ctx) (rs:List RD) (tm:TM) (H:Heap) (x:X)
theorem ZrJ:U2 ds ⟨f,none,os,dst, .free,i,bef⟩ nx c rs tm H x=cond (QP H.nx tm os) (Zex ⟨f,none,os,dst, .free,i,bef⟩ nx rs tm H x (f (rsF tm os) ⟨H.nx, .leaf,H.nx⟩)) .fail:=rfl
theorem ZrK:U2 ds ⟨f,none,os,dst, .read,i,bef⟩ nx c rs tm H x=Zha ⟨f,none,os,dst, .read,i,bef⟩ nx rs tm H x (f (rsF tm os) ⟨H.nx,H.t,H.nx⟩):=rfl
theorem ZuN:U2 ds ⟨f,none,os,dst, .eff,i,bef⟩ nx c rs tm H x=cond (still tm H rs) (Zhb ds ⟨f,none,os,dst, .eff,i,bef⟩ nx rs c tm x (f (rsF tm os) H)) .fail:=rfl
variable (g:Option (EvF×Bool)) (kd:Zgo) (v:AV) (H':Heap)
theorem ZuO:Zex ⟨f,g,os,dst,kd,i,bef⟩ nx rs tm H x (.val v ⟨H.nx, .leaf,H.nx⟩)=nx rs (dst tm v) H x:=by
 show cond (Nat.beq H.nx H.nx) (nx rs (dst tm v) H x) _=_
 rw[Yc];rfl
theorem Zxi:Zhb ds ⟨f,g,os,dst,kd,i,bef⟩ nx rs c tm x (.val v H')=nx (Vt bef rs) (dst tm v) H' x:=rfl
theorem ZuP(q:Nat)(args:List AV):Zhb ds ⟨f,g,os,dst,kd,i,bef⟩ nx rs c tm x (.oth (.call q args H'))=ZkB ds ⟨f,g,os,dst,kd,i,bef⟩ nx rs tm x (c.call q args H'):=rfl
theorem Zxj:ZkB ds ⟨f,g,os,dst,kd,i,bef⟩ nx rs tm x (.ret v H')=nx (Vt bef rs) (dst tm v) H' x:=rfl
theorem ZuQ(b:Nat):Vt b []=[]:=rfl
theorem ZrL(b:Nat):Vt b (⟨⟨f,g,os,dst,kd,i,bef⟩,v⟩::rs)=cond (Nat.testBit b i) (Vt b rs) (⟨⟨f,g,os,dst,kd,i,bef⟩,v⟩::Vt b rs):=rfl
theorem ZuR:still tm H []=true:=rfl
theorem ZrM:still tm H (⟨⟨f,g,os,dst,kd,i,bef⟩,v⟩::rs)=cond (Zo7 ⟨⟨f,g,os,dst,kd,i,bef⟩,v⟩ tm H) (still tm H rs) false:=rfl
noncomputable def Vk(r:OR)(w:AV)(n:Nat):Bool:=OR.rec (fun v H1=>cond (Nat.beq H1.nx n) (same v w) false) (fun _=>false) r
theorem Zxk:Zo7 ⟨⟨f,g,os,dst,kd,i,bef⟩,v⟩ tm H=Vk (f (rsF tm os) ⟨H.nx,H.t,H.nx⟩) v H.nx:=rfl
end
theorem V6(v:AV)(n:Nat)(t:T Obj)(h:same v v=true):Vk (.val v ⟨n,t,n⟩) v n=true:=by
 show cond (Nat.beq n n) (same v v) false=true
 rw[Yc,h];rfl
theorem Zh1(k:IntKind)(n:Int):same (.int k n) (.int k n)=true:=by
 show cond (kEq k k) (ieq n n) false=true
 rw[YM,ZbB];simp
theorem Zxl(x:UInt32):same (ZgW x) (ZgW x)=true:=Zh1 ..
theorem ZzV(x:UInt8):same (u8V x) (u8V x)=true:=Zh1 ..
theorem Ztd(k:IntKind)(n:Nat):same (nI k n) (nI k n)=true:=Zh1 ..
theorem ZrN(v:UInt32)(n:Nat)(t:T Obj):Vk (.val (ZgW v) ⟨n,t,n⟩) (ZgW v) n=true:=V6 _ _ _ (Zxl v)
theorem ZuS(v:UInt8)(n:Nat)(t:T Obj):Vk (.val (u8V v) ⟨n,t,n⟩) (u8V v) n=true:=V6 _ _ _ (ZzV v)
theorem Znj(k:IntKind)(v:Nat)(n:Nat)(t:T Obj):Vk (.val (nI k v) ⟨n,t,n⟩) (nI k v) n=true:=V6 _ _ _ (Ztd k v)
theorem ZuT(n:Nat)(tm:TM):QP n tm []=true:=rfl
theorem ZrO(n:Nat)(tm:TM)(s:ZE)(g:EvF)(os:List (ZE×EvF)):QP n tm ((s,g)::os)=cond (YA n (g tm)) (QP n tm os) false:=rfl
theorem ZzW(n:Nat)(k:IntKind)(m:Nat):YA n (nI k m)=true:=rfl
theorem Zxm(n:Nat)(x:UInt32):YA n (ZgW x)=true:=rfl
theorem ZzX(n:Nat)(x:UInt8):YA n (u8V x)=true:=rfl
theorem ZuU(n:Nat)(x:Bool):YA n (.bool x)=true:=rfl
theorem ZL{n b:Nat}(h:b<n)(o:Nat):YA n (.ptr b o)=true:=Zl h
theorem YP{n b:Nat}(h:b<n)(o l:Nat)(c:Option Nat):YA n (.slice b o l c)=true:=Zl h
theorem ZzY(tm:TM):rsF tm []=tm0:=rfl
theorem Zxn(tm:TM)(s:ZE)(g:EvF)(os:List (ZE×EvF)):rsF tm ((s,g)::os)=s (rsF tm os) (g tm):=rfl
end
end Go.AI
namespace Go.AI
section
theorem Zck(tm:TM):gt0 tm=N8.a0 (N8.a0 (N8.a0 tm)):=rfl
theorem ZbE(tm:TM):gt1 tm=N8.a1 (N8.a0 (N8.a0 tm)):=rfl
theorem ZaN(tm:TM):gt2 tm=N8.a2 (N8.a0 (N8.a0 tm)):=rfl
theorem Zfl(tm:TM):gt3 tm=N8.a3 (N8.a0 (N8.a0 tm)):=rfl
theorem Zj7(tm:TM):gt4 tm=N8.a4 (N8.a0 (N8.a0 tm)):=rfl
theorem ZfU(tm:TM):gt5 tm=N8.a5 (N8.a0 (N8.a0 tm)):=rfl
theorem Zj8(tm:TM):gt6 tm=N8.a6 (N8.a0 (N8.a0 tm)):=rfl
theorem Zxo(tm:TM):gt7 tm=N8.a7 (N8.a0 (N8.a0 tm)):=rfl
theorem Zl9(tm:TM):gt8 tm=N8.a0 (N8.a1 (N8.a0 tm)):=rfl
theorem ZED(tm:TM):gt9 tm=N8.a1 (N8.a1 (N8.a0 tm)):=rfl
theorem ZEE(tm:TM):YF tm=N8.a3 (N8.a1 (N8.a0 tm)):=rfl
theorem ZBC(tm:TM):YJ tm=N8.a5 (N8.a1 (N8.a0 tm)):=rfl
theorem ZEF(tm:TM):Y3 tm=N8.a6 (N8.a1 (N8.a0 tm)):=rfl
theorem ZBD(tm:TM):Wg tm=N8.a2 (N8.a2 (N8.a0 tm)):=rfl
theorem ZEG(tm:TM):Wt tm=N8.a3 (N8.a2 (N8.a0 tm)):=rfl
theorem ZEH(tm:TM):WG tm=N8.a4 (N8.a2 (N8.a0 tm)):=rfl
theorem ZEI(tm:TM):We tm=N8.a5 (N8.a2 (N8.a0 tm)):=rfl
theorem ZEJ(tm:TM):Wv tm=N8.a3 (N8.a3 (N8.a0 tm)):=rfl
theorem Zxp(tm:TM):WL tm=N8.a7 (N8.a3 (N8.a0 tm)):=rfl
theorem ZBE(tm:TM):Ud tm=N8.a0 (N8.a4 (N8.a0 tm)):=rfl
theorem Zxq(tm:TM):W7 tm=N8.a1 (N8.a4 (N8.a0 tm)):=rfl
theorem ZEK(tm:TM):W8 tm=N8.a2 (N8.a4 (N8.a0 tm)):=rfl
theorem ZEL(tm:TM):Vd tm=N8.a3 (N8.a4 (N8.a0 tm)):=rfl
theorem ZEM(tm:TM):VB tm=N8.a5 (N8.a4 (N8.a0 tm)):=rfl
theorem ZEN(tm:TM):V4 tm=N8.a7 (N8.a4 (N8.a0 tm)):=rfl
theorem ZEO(tm:TM):Ui tm=N8.a0 (N8.a5 (N8.a0 tm)):=rfl
theorem ZEP(tm:TM):VC tm=N8.a1 (N8.a5 (N8.a0 tm)):=rfl
theorem ZEQ(tm:TM):Ve tm=N8.a2 (N8.a5 (N8.a0 tm)):=rfl
theorem ZER(tm:TM):Vv tm=N8.a7 (N8.a5 (N8.a0 tm)):=rfl
theorem ZES(tm:TM):Qc tm=N8.a3 (N8.a6 (N8.a0 tm)):=rfl
theorem ZET(tm:TM):Vi tm=N8.a4 (N8.a6 (N8.a0 tm)):=rfl
theorem ZEU(tm:TM):ZaA tm=N8.a5 (N8.a6 (N8.a0 tm)):=rfl
theorem ZEV(tm:TM):Ue tm=N8.a2 (N8.a7 (N8.a0 tm)):=rfl
theorem ZEW(tm:TM):ZaZ tm=N8.a3 (N8.a7 (N8.a0 tm)):=rfl
theorem ZEX(tm:TM):ZaL tm=N8.a4 (N8.a7 (N8.a0 tm)):=rfl
theorem ZEY(tm:TM):QW tm=N8.a7 (N8.a7 (N8.a0 tm)):=rfl
theorem ZEZ(tm:TM):Zbk tm=N8.a0 (N8.a0 (N8.a1 tm)):=rfl
theorem ZE0(tm:TM):ZbL tm=N8.a1 (N8.a0 (N8.a1 tm)):=rfl
theorem ZE1(tm:TM):Zap tm=N8.a5 (N8.a0 (N8.a1 tm)):=rfl
theorem ZE2(tm:TM):ZcP tm=N8.a2 (N8.a1 (N8.a1 tm)):=rfl
theorem ZE3(tm:TM):ZcS tm=N8.a4 (N8.a2 (N8.a1 tm)):=rfl
theorem ZE4(tm:TM):Zen tm=N8.a5 (N8.a2 (N8.a1 tm)):=rfl
end
end Go.AI
namespace Go.AI
open Go
section
structure Keep(H H':Heap)(S:List Nat):Prop where
 nx:H.nx≤H'.nx
 ro:H'.ro=H.ro
 get: ∀c,c<H.nx→c∉S→H'.t.get c=H.t.get c
theorem Keep.refl(H:Heap)(S:List Nat):Keep H H S:=⟨Zk _,rfl,fun _ _ _=>rfl⟩
theorem Keep.trans{H H' H'':Heap}{S S':List Nat}(a:Keep H H' S)(b:Keep H' H'' S')(h: ∀c,c∈S'→c<H.nx→c∈S):Keep H H'' S:=
 ⟨Z6 a.nx b.nx,b.ro.trans a.ro,fun c hc hn=>(b.get c (ZF hc a.nx) (fun hh=>hn (h c hh hc))).trans (a.get c hc hn)⟩
theorem Keep.put{H:Heap}{b:Nat}{o:Obj}{S:List Nat}(h:b<H.nx→b∈S):Keep H (H.put b o) S:=
 ⟨Zk _,rfl,fun c hc hn=>by rw[Zdz,if_neg (fun(e:b=c)=>hn (by rw[←e];exact h (by omega)))]⟩
theorem Keep.new(H:Heap)(o:Obj)(S:List Nat):Keep H (H.new o) S:=
 ⟨Nat.le_succ _,rfl,fun c hc _=>by rw[Zbb,if_neg (by omega)]⟩
theorem Keep.then_put{H H':Heap}{b:Nat}{o:Obj}{S:List Nat}(k:Keep H H' S)(h:b<H.nx→b∈S):Keep H (H'.put b o) S:=
 ⟨k.nx,k.ro,fun c hc hn=>by rw[Zdz,if_neg (fun(e:b=c)=>hn (by rw[←e];exact h (by omega)))];exact k.get c hc hn⟩
theorem Keep.then_new{H H':Heap}{S:List Nat}(k:Keep H H' S)(o:Obj):Keep H (H'.new o) S:=
 ⟨Nat.le_succ_of_le k.nx,k.ro,fun c hc hn=>by rw[Zbb,if_neg (by have:=k.nx;omega)];exact k.get c hc hn⟩
theorem Keep.trans'{H H' H'':Heap}{S':List Nat}(a:Keep H H' [])(b:Keep H' H'' S'):Keep H H'' S':=
 ⟨Z6 a.nx b.nx,b.ro.trans a.ro,fun c hc hn=>(b.get c (ZF hc a.nx) hn).trans (a.get c hc (by simp))⟩
structure ZHh(H:Heap)(b o:Nat)(cap:Option Nat)(l:List UInt8)(r:Row):Prop where
 at_:H.t.get b=some (.row r)
 sz:r.sz=1
 fits:o+l.length≤r.size
 get: ∀i,i<l.length→r.get (o+i)=u8V (l.getD i 0)
 cap: ∀c,cap=some c→l.length≤c∧o+c≤r.size
def Zfm(x:Option AV)(d top:Nat)(k:Nat→OR):OR:=match x with|none=>k d|some v=>QT v fun n=>ZS (Nat.ble n top) (k n)
noncomputable def Zlx(sz:Nat)(a:AV)(lo hi:Option AV)(H:Heap):OR:=
 V7 a (Zfm hi 0 0 fun h=>Zfm lo 0 h fun _=> .val .nils H) fun b o len cap=>YH H b fun r=>ZS (Ziu r sz cap) (Zfm hi len (Uu r o cap) fun h=>Zfm lo 0 h fun l=>ZS (Nat.ble l (Uu r o cap))<|
  cond (Nat.beq l (Uu r o cap)) (Option.rec (.val (.slice H.nx 0 (Nat.sub h l) none) ⟨Nat.succ H.nx,H.t,H.ro⟩) (fun _=> .val (.slice b o (Nat.sub h l) (some 0)) H) cap)
   (.val (.slice b (Nat.add o (Nat.mul l sz)) (Nat.sub h l) (Option.rec none (fun c=>some (Nat.sub c l)) cap)) H))
theorem ZrP(sz:Nat)(x:EvF)(lo hi:Option EvF)(tm:TM)(H:Heap):Ziv sz x lo hi none tm H=Zlx sz (x tm) (lo.map fun f=>f tm) (hi.map fun f=>f tm) H:=by
 cases lo<;>cases hi<;>rfl
end
end Go.AI
namespace Go.AI
open Go
section
noncomputable def Zly(n sz:Nat)(a:AV)(lo hi:Option AV)(H:Heap):OR:=Zas a fun b o=>Zfm hi n n fun h=>Zfm lo 0 h fun l=>
 cond (Nat.beq l n) (.val (.slice b o (Nat.sub h l) (some (Nat.sub n l))) H) (.val (.slice b (Nat.add o (Nat.mul l sz)) (Nat.sub h l) (some (Nat.sub n l))) H)
theorem ZrQ(n sz:Nat)(x:EvF)(lo hi:Option EvF)(tm:TM)(H:Heap):Ziw n sz x lo hi none tm H=Zly n sz (x tm) (lo.map fun f=>f tm) (hi.map fun f=>f tm) H:=by
 cases lo<;>cases hi<;>rfl
theorem Zi0{n l:Nat}(h:l<n)(b o:Nat)(k:IntKind)(H:Heap):Zly n 1 (.ptr b o) (some (nI k l)) none H= .val (.slice b (o+l) (n - l) (some (n - l))) H:=by
 show ZS (Nat.ble l n) (cond (Nat.beq l n) _ _)=_
 rw[Zl (Zbf h),Ye,Zc (by omega)]
 show OR.val (.slice b (o+l*1) (n - l) (some (n - l))) H=_
 rw[Nat.mul_one]
theorem Zi1{n m:Nat}(h:m≤n)(h0:0<n)(b o:Nat)(k:IntKind)(H:Heap):Zly n 1 (.ptr b o) none (some (nI k m)) H= .val (.slice b o m (some n)) H:=by
 show ZS (Nat.ble m n) (ZS (Nat.ble 0 m) (cond (Nat.beq 0 n) _ _))=_
 rw[Zl h,Zl (ZX _),Ye,Zc (by omega)]
 show OR.val (.slice b (o+0*1) (m - 0) (some (n - 0))) H=_
 rw[Nat.zero_mul];rfl
noncomputable def Zxr(sz:Nat)(a v:AV)(H:Heap):OR:=Zo3 v fun sn=>V7 a (.val (.int .i64 0) H) fun b o dn _=>Qk (Zes dn sn) fun n=>Vs H sz v n fun new=>
 cond (Nat.beq n 0) (.val (.int .i64 0) H) (YH H b fun r=>ZS (H.may r b) (ZS (Nat.ble r.fz o) (ZS (Nat.ble (Nat.add o (Nat.mul n sz)) r.size) (.val (.int .i64 (.ofNat n)) (H.put b (.row (r.setCells (Wn r.cells o new))))))))
theorem ZuV(x y:EvF)(sz:Nat)(tm:TM)(H:Heap):Zo5 x y sz tm H=Zxr sz (x tm) (y tm) H:=rfl
noncomputable def Zcd(k:List AV→OR)(ps:List (Nat×Nat×AV)):List AV→OR:=List.rec (fun cells=>k cells) (fun p _ ih cells=>
 ZS (Nat.ble 1 p.2.1)<|ZS (Nat.beq (Yt p.2.2.cells) p.2.1) (ZS (Nat.ble (Nat.add p.1 p.2.1) (Yt cells)) (ih (ZbG p.1 cells++(p.2.2.cells++Zbh (Nat.add p.1 p.2.1) cells))))) ps
theorem Zi2(tm:TM)(k:List AV→OR): ∀(ps:List ZnQ) (cells:List AV),Zmh tm k ps cells=Zcd k (ps.map fun p=>(p.off,p.sz,p.x tm)) cells
 |[],_=>rfl
 |p::ps,cells=>by
  show ZS (Nat.ble 1 p.sz) (ZS (Nat.beq (Yt (p.x tm).cells) p.sz) (ZS (Nat.ble (Nat.add p.off p.sz) (Yt cells)) (Zmh tm k ps (ZbG p.off cells++((p.x tm).cells++Zbh (Nat.add p.off p.sz) cells)))))=_
  rw[Zi2 tm k ps]
  rfl
noncomputable def ZcL(zs:List AV)(ps:List (Nat×Nat×AV))(H:Heap):OR:=ZS (Nat.ble 1 (Yt zs))<|Zcd (fun cs=> .val (.agg cs) H) ps zs
theorem ZrR(zs:List AV)(ps:List ZnQ)(tm:TM)(H:Heap):WR zs ps tm H=ZcL zs (ps.map fun p=>(p.off,p.sz,p.x tm)) H:=by
 unfold WR ZcL
 rw[Zi2]
noncomputable def ZbR(e sz n:Nat)(zs:List AV)(ps:List (Nat×Nat×AV))(H:Heap):OR:=ZS (Nat.ble 1 sz)<|ZS (Nat.beq (Yt zs) (Nat.mul n sz))<|Zcd (fun cs=> .val (.slice H.nx 0 n none) (H.newRow e sz cs true)) ps zs
theorem Zfn(e sz n:Nat)(zs:List AV)(ps:List ZnQ)(tm:TM)(H:Heap):WO e sz n zs ps tm H=ZbR e sz n zs (ps.map fun p=>(p.off,p.sz,p.x tm)) H:=by
 unfold WO ZbR
 rw[Zi2]
theorem Zbt(e:Nat)(z v:AV)(h:v.cells=[v])(H:Heap):ZbR e 1 1 [z] [(0,1,v)] H= .val (.slice H.nx 0 1 none) (H.newRow e 1 [v] true):=by
 show ZS (Nat.beq (Yt v.cells) 1) (ZS (Nat.ble 1 1) (.val _ (H.newRow e 1 (v.cells++[]) true)))=_
 rw[h];rfl
end
end Go.AI
namespace Go.AI
open Go
section
noncomputable def UX(e sz bytes:Nat)(a v:AV)(H:Heap):OR:=ZS (Nat.ble 1 sz)<|ZS (Nat.ble 1 bytes)<|Zo3 v fun n=>Vs H sz v n fun new=>Zel a e sz bytes H n new
theorem ZcC(x y:EvF)(e sz bytes:Nat)(tm:TM)(H:Heap):Vb x y e sz bytes tm H=UX e sz bytes (x tm) (y tm) H:=rfl
def Src(H:Heap)(v:AV)(l:List AV):Prop:= ∀k:Nat→List AV→OR,(Zo3 v fun n=>Vs H 1 v n fun new=>k n new)=k l.length l
theorem Src.nils(H:Heap):Src H .nils []:=fun _=>rfl
theorem Src.none(H:Heap)(b o:Nat)(c:Option Nat):Src H (.slice b o 0 c) []:=fun _=>rfl
theorem Src.row{H:Heap}{b o:Nat}{c:Option Nat}{r:Row}{l:List AV}(hr:H.t.get b=some (.row r))(hf:o+l.length≤r.size)(hg: ∀i,i<l.length→r.get (o+i)=l.getD i .unk):Src H (.slice b o l.length c) l:=by
 intro k
 show(Vs H 1 (.slice b o l.length c) l.length fun new=>k l.length new)=_
 unfold Vs
 rw[Ye]
 by_cases h0:l.length=0
 ·rw[Zh h0]
  have:l=[]:=List.length_eq_zero_iff.1 h0
  subst this;rfl
 ·rw[Zc h0]
  unfold YH
  simp only[hr,cond_false,Nat.mul_one]
  show ZS (Nat.ble (o+l.length*1) r.size) (k l.length (loadN r o (l.length*1)))=_
  rw[Nat.mul_one,Zl hf]
  have:loadN r o l.length=l:=by
   refine List.ext_getElem? fun j=>?_
   by_cases hj:j<l.length
   ·rw[UD r _ o j hj,hg j hj,Zj,Zp hj];rfl
   ·rw[Yp (by rw[Um];omega),Yp (by omega)]
  rw[this];rfl
theorem Zfo{H:Heap}{e bytes:Nat}{a v:AV}{l:List AV}(hb:1≤bytes)(h:Src H v l):UX e 1 bytes a v H=Zel a e 1 bytes H l.length l:=by
 show ZS (Nat.ble 1 1) (ZS (Nat.ble 1 bytes) _)=_
 rw[Zl hb]
 exact h fun n new=>Zel a e 1 bytes H n new
theorem Zqb{e:Nat}{H:Heap}{l:List AV}(h0:0<l.length)(hl:l.length≤140737488355328):Zel .nils e 1 1 H l.length l= .val (.slice H.nx 0 l.length none) (H.newRow e 1 l false):=by
 show cond (Nat.beq l.length 0) _ (ZS (Nat.ble (l.length*1) 140737488355328) _)=_
 rw[Ye,Zc (by omega),Nat.mul_one,Zl hl];rfl
structure Zxs(H:Heap)(b e:Nat)(l:List AV)(r:Row):Prop extends Own H b e l r where
 exact_:r.exact=false
 low:b<H.nx
theorem Zqc{H:Heap}{e:Nat}{l:List AV}(hro:H.ro≤H.nx):Zxs (H.newRow e 1 l false) H.nx e l ⟨e,1,Yt l,T.ofList l, .unk,0,false,true,false⟩:=
 ⟨⟨by rw[Zc9,Zbb,if_pos rfl],rfl,rfl,rfl,rfl,rfl,Cells.new ..,hro⟩,rfl,Ys _⟩
theorem Znk{H:Heap}{b e:Nat}{l m:List AV}{r:Row}(g:Zxs H b e l r)(hm:0<m.length)(hl:l.length+m.length≤140737488355328):
  ∃H' r',Zel (.slice b 0 l.length none) e 1 1 H m.length m= .val (.slice H.nx 0 (l.length+m.length) none) H'∧Zxs H' H.nx e (l++m) r'∧Keep H H' [b]∧H'.nx=H.nx+1:=by
 have hsz:r.size=l.length:=g.cells.size
 have hcap:Uu r 0 none=l.length:=by
  show cond (Nat.beq r.sz 1) (r.size - 0) _=_
  rw[g.sz,hsz];rfl
 have hmay:H.may r b=true:=by unfold Heap.may;rw[g.own,Zl g.ro];rfl
 refine⟨⟨Nat.succ H.nx,(H.t.del b).set H.nx (.row ⟨r.elem,1,(l.length+m.length)*1,Wn r.cells (l.length*1) m,r.dflt,r.fz,r.sm,true,false⟩),H.ro⟩,⟨r.elem,1,(l.length+m.length)*1,Wn r.cells (l.length*1) m,r.dflt,r.fz,r.sm,true,false⟩,?_,⟨⟨by rw[T.get_set,if_pos rfl],g.elem,rfl,rfl,g.fz,g.sm,?_,Z6 g.ro (Zbf g.low)⟩,rfl,Ys _⟩,⟨Nat.le_succ _,rfl,fun c hc hn=>?_⟩,rfl⟩
 ·show YH H b (fun r=>ZS (Ziu r 1 none) (cond (Nat.ble (Nat.add l.length m.length) (Uu r 0 none)) (Zkz H _ b 0 l.length m.length 1 none r m) (Zev H e b 0 l.length m.length 1 1 none r m)))=_
  unfold YH
  simp only[g.at_]
  have h1:Ziu r 1 none=true:=by show Nat.beq r.sz 1=true;rw[g.sz];rfl
  have h2:Nat.ble (Nat.add l.length m.length) (Uu r 0 none)=false:=by
   rw[hcap]
   cases h:Nat.ble (Nat.add l.length m.length) l.length with
   |false=>rfl
   |true=>have:=ZO h;have:l.length+m.length≤l.length:=this;omega
  rw[h1,h2]
  show ZS (Nat.ble ((l.length+m.length)*1) 140737488355328) (ZS (Nat.ble (0+l.length*1) r.size) (cond r.exact _ (Zgn H e b 0 l.length m.length 1 r m)))=_
  rw[Nat.mul_one,Zl hl,hsz,Nat.mul_one,Zi,Zl (Zk _),g.exact_]
  show ZS (Nat.beq r.elem e) (ZS (H.may r b) (ZS (Nat.ble r.fz (l.length*1)) (ZS (Nat.beq (l.length*1) r.size) (ZS (Nat.beq 0 0) _))))=_
  rw[g.elem,Yc,hmay,g.fz,Zl (ZX _),hsz,Nat.mul_one,Yc]
  show OR.val (.slice H.nx 0 (l.length+m.length) none) ⟨Nat.succ H.nx,(H.t.del b).set H.nx (.row ⟨e,1,(l.length+m.length)*1,Wn r.cells (l.length*1) m,r.dflt,0,r.sm,true,false⟩),H.ro⟩=_
  rw[Nat.mul_one,Nat.mul_one]
 ·refine⟨by show(l.length+m.length)*1=_;rw[Zq];omega,fun i hi=>?_⟩
  rw[Zq] at hi
  rw[Row.get_eq]
  show((Wn r.cells (l.length*1) m).get i).getD r.dflt=_
  rw[Nat.mul_one,Qq,Zj]
  by_cases h1:l.length≤i
  ·rw[if_pos ⟨h1,by omega⟩,List.getElem?_append_right h1,Zp (show i - l.length<m.length by omega)];rfl
  ·rw[if_neg (by omega),Ym (by omega)]
   have:=g.cells.get i (by omega)
   rw[Row.get_eq,Zj] at this
   exact this
 ·show((H.t.del b).set H.nx _).get c=_
  rw[T.get_set,if_neg (by omega),T.get_del,if_neg (fun e=>hn (by simp[e]))]
end
end Go.AI
namespace Go.AI
open Go
section
variable {P:Program}
theorem Zad{l:List AV}(h:UM l l=true)(n:Nat)(t:T Obj):Vk (.val (.agg l) ⟨n,t,n⟩) (.agg l) n=true:=V6 _ _ _ (by unfold same;exact h)
theorem Zh2(s:List UInt8):same (.str s) (.str s)=true:=by
 unfold same;rw[U5];simp
theorem ZrS(s:List UInt8)(n:Nat)(t:T Obj):Vk (.val (.str s) ⟨n,t,n⟩) (.str s) n=true:=V6 _ _ _ (Zh2 s)
theorem UY(b o n:Nat)(c:Option Nat)(k:Nat)(t:T Obj):Vk (.val (.slice b o n c) ⟨k,t,k⟩) (.slice b o n c) k=true:=V6 _ _ _ (by
 unfold same
 rw[Yc,Yc,Yc]
 cases c with
 |none=>rfl
 |some x=>show Nat.beq x x=true;exact Yc x)
theorem Zbu(n:Nat)(t:T Obj):Vk (.val .nils ⟨n,t,n⟩) .nils n=true:=V6 _ _ _ (by unfold same;rfl)
variable (ds:List ZE) (f:OpF) (e:EvF) (b:Bool) (os:List (ZE×EvF)) (dst:ZE) (i bef:Nat) (nx:PK) (c:Ctx) (rs:List RD) (tm:TM) (H:Heap) (x:X)
theorem Zqd:U2 ds ⟨f,some (e,b),os,dst, .free,i,bef⟩ nx c rs tm H x=VS (e tm) b (cond (QP H.nx tm os) (Zex ⟨f,some (e,b),os,dst, .free,i,bef⟩ nx rs tm H x (f (rsF tm os) ⟨H.nx, .leaf,H.nx⟩)) .fail) (nx rs (dst tm Yx) H x):=rfl
theorem Zqe:U2 ds ⟨f,some (e,b),os,dst, .read,i,bef⟩ nx c rs tm H x=VS (e tm) b (Zha ⟨f,some (e,b),os,dst, .read,i,bef⟩ nx rs tm H x (f (rsF tm os) ⟨H.nx,H.t,H.nx⟩)) (nx rs (dst tm Yx) H x):=rfl
theorem ZrT:U2 ds ⟨f,some (e,b),os,dst, .eff,i,bef⟩ nx c rs tm H x=cond (still tm H rs) (VS (e tm) b (Zhb ds ⟨f,some (e,b),os,dst, .eff,i,bef⟩ nx rs c tm x (f (rsF tm os) H)) (nx (Vt bef rs) (dst tm Yx) H x)) .fail:=rfl
theorem ZuW(g:Option (EvF×Bool))(kd:Zgo)(v:AV)(o:Obj)(hw:wrO o=true):Zex ⟨f,g,os,dst,kd,i,bef⟩ nx rs tm H x (.val v ((⟨H.nx, .leaf,H.nx⟩:Heap).new o))=nx rs (dst tm v) (H.new o) x:=by
 show cond (Nat.beq (H.nx+1) H.nx) _ (cond (Nat.beq (H.nx+1) (Nat.succ H.nx)) (Zv2 (((T.leaf:T Obj).set H.nx o).get H.nx) fun o=>nx rs (dst tm v) (H.new o) x) .fail)=_
 rw[Ye,Zc (by omega),Ye,Zh rfl,T.get_set,if_pos rfl]
 show cond (wrO o) _ _=_
 rw[hw];rfl
end
theorem Znl{lib:Nat→List AV→Heap→Option CR}{fs:T CF}{fuel n f:Nat}{args:List AV}{H:Heap}{r:CR}(h:lib f args H=some r):ZR lib fs fuel (n+1) f args H=r:=by
 show ZsS (lib f args H) _=_
 rw[h];rfl
end Go.AI
namespace Go.AI
open Go
variable {P:Program}
theorem ZzZ{call:Nat→List AV→Heap→CR}(hcall:Qd P call){f:FuncId}{args:List AV}{H H':Heap}{v:AV}(hrun:call f args H= .ret v H')(k:Keep H H' [])(hlow:YA 0 v=true)
  {σ:Mp}{w:World}{vs:List Value}(hs:Sim P σ H w)(hv:RelL σ args vs):Zdw P σ H w (.ret v H) ((callFunc f ⟨vs⟩).run P w):=by
 have hcr:=hcall f _ H σ w vs hs hv
 rw[hrun] at hcr
 refine Ends.mono (fun u' w' hx=>?_) (fun _ _ hx=>hx) hcr
 obtain⟨σ2,h1,t⟩:=hx
 refine⟨σ,?_,t.drop hs fun b hb=>k.get b hb (by simp)⟩
 exact(Rel.cut hlow h1).mono fun y _ hy=>by have:=(Mp.cut_some hy).1;omega
end Go.AI
namespace Go.AI
open Go
noncomputable section
noncomputable def Zte(a:AV)(H:Heap):OR:=ZbF a fun s=>Qk (Yt s) fun n=> .val (.int .i64 (.ofNat n)) H
theorem ZuX(x:EvF)(tm:TM)(H:Heap):WX x tm H=Zte (x tm) H:=rfl
theorem Yd(s:List UInt8)(H:Heap):Zte (.str s) H= .val (nI .i64 s.length) H:=by
 show Qk (Yt s) (fun n=>OR.val (.int .i64 (.ofNat n)) H)=_
 rw[ZbW,Yr];rfl
noncomputable def ZdB(a i:AV)(H:Heap):OR:=QT i fun i=>ZbF a fun s=>Uy (ZoZ s i) fun b=>Qk b.toNat fun n=> .val (.int .u8 (.ofNat n)) H
theorem Zqf(x y:EvF)(tm:TM)(H:Heap):Yj x y tm H=ZdB (x tm) (y tm) H:=rfl
theorem ZgX{s:List UInt8}{i:Nat}(h:i<s.length)(k:IntKind)(H:Heap):ZdB (.str s) (nI k i) H= .val (u8V (s.getD i 0)) H:=by
 show Uy (ZoZ s i) _=_
 rw[Zn3,Zp h]
 show Qk s[i].toNat (fun n=>OR.val (.int .u8 (.ofNat n)) H)=_
 rw[ZbW,Zj,Zp h];rfl
noncomputable def Zoz(a:AV)(lo hi:Option AV)(H:Heap):OR:=ZbF a fun s=>Zfm hi (Yt s) (Yt s) fun h=>Zfm lo 0 h fun l=> .val (.str (Zg6 l (Zeu h s))) H
theorem ZrU(x:EvF)(lo hi:Option EvF)(tm:TM)(H:Heap):WV x lo hi none tm H=Zoz (x tm) (lo.map fun f=>f tm) (hi.map fun f=>f tm) H:=by
 cases lo<;>cases hi<;>rfl
theorem WN{a b:List UInt8}(h:a.length+b.length≤4611686018427387904)(H:Heap):Zl8 (.str a) (.str b) H= .val (.str (a++b)) H:=by
 show ZS (Nat.ble (Nat.add (Yt a) (Yt b)) 4611686018427387904) _=_
 rw[Yr,Yr,Zl (show Nat.add a.length b.length≤_ from h)];rfl
theorem UH(a b:List UInt8)(H:Heap):eqV eqS false (.str a) (.str b) H= .val (.bool (decide (a=b))) H:=by
 show U0 (Zd1 a b) H=_
 rw[UG,U5]
 congr 2
 by_cases h:a=b<;>simp[h]
theorem VW(a b:List UInt8)(H:Heap):eqV eqS true (.str a) (.str b) H= .val (.bool (!decide (a=b))) H:=by
 show U0 (cond (Zd1 a b) false true) H=_
 rw[UG,U5]
 congr 2
 by_cases h:a=b<;>simp[h]
structure Below(n:Nat)(H H':Heap):Prop where
 nx:H.nx≤H'.nx
 ro:H'.ro=H.ro
 get: ∀c,c<n→c<H.nx→H'.t.get c=H.t.get c
theorem Below.refl(n:Nat)(H:Heap):Below n H H:=⟨Zk _,rfl,fun _ _ _=>rfl⟩
theorem Below.trans{n:Nat}{H H' H'':Heap}(a:Below n H H')(b:Below n H' H''):Below n H H'':=
 ⟨Z6 a.nx b.nx,b.ro.trans a.ro,fun c h1 h2=>(b.get c h1 (ZF h2 a.nx)).trans (a.get c h1 h2)⟩
theorem Below.put{n b:Nat}{H:Heap}{o:Obj}(h:n≤b):Below n H (H.put b o):=⟨Zk _,rfl,fun c h1 _=>by rw[Zdz,if_neg (by omega)]⟩
theorem Below.new(n:Nat)(H:Heap)(o:Obj):Below n H (H.new o):=⟨Nat.le_succ _,rfl,fun c _ h2=>by rw[Zbb,if_neg (by omega)]⟩
theorem Below.mono{n m:Nat}{H H':Heap}(a:Below n H H')(h:m≤n):Below m H H':=⟨a.nx,a.ro,fun c h1 h2=>a.get c (by omega) h2⟩
theorem Keep.below{H0 H H':Heap}{n:Nat}(k:Keep H0 H [])(b:Below n H H')(h:H0.nx≤n):Keep H0 H' []:=
 ⟨Z6 k.nx b.nx,b.ro.trans k.ro,fun c h1 h2=>(b.get c (by omega) (ZF h1 k.nx)).trans (k.get c h1 h2)⟩
def ZG5(H:Heap)(v:AV)(l:List UInt8)(lo:Nat):Prop:= ∃b r,v= .slice b 0 l.length none∧Zxs H b 5 (l.map u8V) r∧lo≤b
def Buf(H:Heap)(v:AV)(l:List UInt8)(lo:Nat):Prop:=(l=[]∧v= .nils)∨(l≠[]∧ZG5 H v l lo)
theorem Zxt{H:Heap}{v:AV}{l:List UInt8}{lo:Nat}(h:Buf H v l lo)(hl:l.length<140737488355328)(hro:H.ro≤H.nx)(hlo:lo≤H.nx)(x:UInt8):
  ∃v' H',UX 5 1 1 v (.slice H.nx 0 1 none) (H.newRow 5 1 [u8V x] true)= .val v' H'∧Buf H' v' (l++[x]) lo∧Below lo H H':=by
 generalize hH1:H.newRow 5 1 [u8V x] true=H1
 have nx1:H1.nx=H.nx+1:=by rw[←hH1];rfl
 have k1:Keep H H1 []:=by rw[←hH1];exact Keep.new H _ []
 have b1:Below lo H H1:=by rw[←hH1];exact Below.new lo H _
 have gx:H1.t.get H.nx=some (.row ⟨5,1,1,T.ofList [u8V x], .unk,0,false,true,true⟩):=by rw[←hH1,Zc9,Zbb,if_pos rfl];rfl
 have src:Src H1 (.slice H.nx 0 1 none) [u8V x]:=Src.row (l:=[u8V x]) gx (Zk _) (fun i hi=>by
  have:i=0:=by simp at hi;exact hi
  subst this
  rfl)
 rw[Zfo (Zk 1) src]
 rcases h with⟨rfl,rfl⟩|⟨hne,b,r,rfl,g,hb⟩
 ·have g:=Zqc (H:=H1) (e:=5) (l:=[u8V x]) (by rw[k1.ro];omega)
  exact⟨_,_,Zqb (l:=[u8V x]) (by simp) (by simp), .inr ⟨by simp,_,_,rfl,g,by omega⟩,b1.trans (Below.new lo H1 _)⟩
 ·have g1:Zxs H1 b 5 (l.map u8V) r:=⟨⟨by rw[k1.get b g.low (by simp)];exact g.at_,g.elem,g.sz,g.own,g.fz,g.sm,g.cells,by rw[k1.ro];exact g.ro⟩,g.exact_,by have:=g.low;omega⟩
  obtain⟨H',r',e,g',k',nx'⟩:=Znk (m:=[u8V x]) g1 (by simp) (by rw[ZA];simp;omega)
  rw[ZA] at e
  refine⟨_,H',e, .inr ⟨by simp,H1.nx,r',by rw[Zq];rfl,by rw[List.map_append];exact g',by omega⟩,b1.trans ⟨by omega,k'.ro,fun c h1 h2=>k'.get c h2 (by simp;omega)⟩⟩
theorem Buf.below{H H':Heap}{v:AV}{l:List UInt8}{lo:Nat}(h:Buf H v l lo)(hp: ∀c,lo≤c→c<H.nx→H'.t.get c=H.t.get c)(hro:H'.ro=H.ro)(hnx:H.nx≤H'.nx):Buf H' v l lo:=by
 rcases h with h|⟨hne,b,r,rfl,g,hb⟩
 ·exact .inl h
 ·exact .inr ⟨hne,b,r,rfl,⟨⟨by rw[hp b hb g.low];exact g.at_,g.elem,g.sz,g.own,g.fz,g.sm,g.cells,by rw[hro];exact g.ro⟩,g.exact_,ZF g.low hnx⟩,hb⟩
end
end Go.AI
namespace Go.AI
open Go
noncomputable section
theorem ZU(k:IntKind)(a b:Nat)(H:Heap):Zeo U1 W4 (nI k a) (nI k b) H= .val (.bool (decide (b<a))) H:=by
 show ZS (kEq k k) (U0 (ilt (.ofNat b) (.ofNat a)) H)=_
 rw[YM,UG,ZfG];rfl
theorem Zh3(k:IntKind)(a b:Nat)(H:Heap):Zeo ZcG QU (nI k a) (nI k b) H= .val (.bool (decide (a≤b))) H:=by
 show ZS (kEq k k) (U0 (!ilt (.ofNat b) (.ofNat a)) H)=_
 rw[YM,UG,ZfG]
 show OR.val (.bool (!decide (b<a))) H=_
 congr 2
 by_cases h:b<a
 ·rw[Zh h,Zc (by omega)];rfl
 ·rw[Zc h,Zh (by omega)];rfl
theorem Zz0(b c:AV)(H:Heap):Znh (.bool true) b c H= .val b H:=rfl
theorem Zz1(b c:AV)(H:Heap):Znh (.bool false) b c H= .val c H:=rfl
theorem W3(b:Bool)(H:Heap):ZzP (.bool b) H= .val (.bool (cond b false true)) H:=rfl
theorem Zxu(n:Nat)(l:List AV):YA n (.agg l)=Zan n l:=rfl
theorem ZrV(n:Nat):YA n Yx=true:=rfl
theorem Zlz(n:Nat)(s:List UInt8):YA n (.str s)=true:=rfl
noncomputable def ZCs(mx:Bool)(l:List AV)(H:Heap):OR:=match l with
 | .int k a::l=>min2 mx k a H l
 |_=> .fail
theorem Zqg(mx:Bool)(args:List EvF)(tm:TM)(H:Heap):Zdh mx args tm H=ZCs mx (evs tm args) H:=rfl
theorem Zxv(a b:Nat)(H:Heap):ZCs false [nI .i64 a,nI .i64 b] H= .val (nI .i64 (min a b)) H:=by
 show ZS (kEq .i64 .i64) (min2 false .i64 (cond (cond false (ilt (.ofNat a) (.ofNat b)) (ilt (.ofNat b) (.ofNat a))) (.ofNat b) (.ofNat a)) H [])=_
 rw[YM,ZfG,ZfG]
 show OR.val (.int .i64 (cond (decide (b<a)) (.ofNat b) (.ofNat a))) H=_
 by_cases h:b<a
 ·rw[Zh h,Nat.min_eq_right (by omega)];rfl
 ·rw[Zc h,Nat.min_eq_left (by omega)];rfl
noncomputable def ZjP(i:Nat)(a:AV)(H:Heap):OR:=ZsN a fun vs=>Uy (Zkw vs i) fun v=> .val v H
theorem ZuY(x:EvF)(i:Nat)(tm:TM)(H:Heap):WC x i tm H=ZjP i (x tm) H:=rfl
theorem Zz2(a:AV)(l:List AV)(H:Heap):ZjP 0 (.tup (a::l)) H= .val a H:=rfl
theorem Zz3(a b:AV)(l:List AV)(H:Heap):ZjP 1 (.tup (a::b::l)) H= .val b H:=rfl
theorem Zz4(a b c:AV)(l:List AV)(H:Heap):ZjP 2 (.tup (a::b::c::l)) H= .val c H:=rfl
theorem Zz5(a b:Bool)(H:Heap):eqV eqB false (.bool a) (.bool b) H= .val (.bool (decide (a=b))) H:=by cases a<;>cases b<;>rfl
theorem Zz6(b o:Nat)(H:Heap):eqV eqP false (.ptr b o) .nilp H= .val (.bool false) H:=rfl
theorem ZrW(H:Heap):eqV eqP false .nilp .nilp H= .val (.bool true) H:=rfl
theorem Zxw(b o:Nat)(H:Heap):eqV eqP true (.ptr b o) (.ptr b o) H= .val (.bool false) H:=by
 show Uy (cond (Nat.beq b b) (some (Nat.beq o o)) none) (fun b=>U0 (cond true (cond b false true) b) H)=_
 rw[Yc,Yc];rfl
noncomputable def Zxx(a:AV)(H:Heap):OR:=match a with
 | .nilp=> .val .nilp H
 | .ptr b o=>YH H b fun r=>ZS (Nat.ble (Nat.succ o) r.size) (.val (.ptr b o) H)
 |_=> .fail
theorem Znm(x:EvF)(tm:TM)(H:Heap):Zmj x tm H=Zxx (x tm) H:=rfl
noncomputable def Zxy(u n:Nat)(a:AV)(H:Heap):OR:=match a with
 | .nilp=> .val .nilp H
 | .ptr b o=>YH H b fun r=>ZS r.exact (ZS (Nat.beq r.elem u) (ZS (Nat.beq o 0) (ZS (Nat.ble n r.size) (.val (.ptr b o) H))))
 |_=> .fail
theorem Znn(x:EvF)(u n:Nat)(tm:TM)(H:Heap):Zmk x u n tm H=Zxy u n (x tm) H:=rfl
noncomputable def Zkl(a:AV)(H:Heap):OR:=V7 a (.val .nilp H) fun b o _ cap=>Option.rec (YH H b fun r=>ZS (Nat.ble (Nat.succ o) r.size) (.val (.ptr b o) H)) (fun c=>ZS (Nat.ble 1 c) (.val (.ptr b o) H)) cap
theorem Zfp(x:EvF)(tm:TM)(H:Heap):Zke x tm H=Zkl (x tm) H:=rfl
noncomputable def Ztf(e:Nat)(a n:AV)(H:Heap):OR:=QT n fun n=>cond (Nat.beq n 0) (match a with| .nilp=> .val (.str []) H| .ptr .. => .val (.str []) H|_=> .fail)
 (ZS (Nat.ble n 140737488355328)<|Zas a fun b o=>YH H b fun r=>ZS (Nat.beq r.elem e)<|ZS (cond r.sm false (H.may r b)) (ZS (Nat.ble (Nat.add o n) r.size) (Q6 (fun s=> .val (.str s)
  (H.put b (.row ⟨r.elem,r.sz,r.size,r.cells,r.dflt,cond (Nat.ble r.fz (Nat.add o n)) (Nat.add o n) r.fz,r.sm,r.own,r.exact⟩))) (loadN r o n))))
theorem Zi3(x y:EvF)(e:Nat)(tm:TM)(H:Heap):Zo6 x y e tm H=Ztf e (x tm) (y tm) H:=rfl
theorem ZdC: ∀(l:List UInt8) (k:List UInt8→OR),Q6 k (l.map u8V)=k l
 |[],k=>rfl
 |x::l,k=>by
  show Q6 (fun s=>k (UInt8.ofNat x.toNat::s)) (l.map u8V)=_
  rw[ZdC l]
  simp
theorem ZrX{H:Heap}{v:AV}{l:List UInt8}{lo:Nat}(h:Buf H v l lo)(hl:l.length≤140737488355328): ∃p,(∀G:Heap,G.t=H.t→Zkl v G= .val p G)∧(∃H',Ztf 5 p (nI .i64 l.length) H= .val (.str l) H'∧Below lo H H')∧(∀n,H.nx≤n→YA n p=true)∧(∀n t,Vk (.val p ⟨n,t,n⟩) p n=true)∧(∀n,H.nx≤n→YA n v=true)∧(∀n t,Vk (.val v ⟨n,t,n⟩) v n=true)∧ ∀G,Qe v G= .val (nI .i64 l.length) G:=by
 rcases h with⟨rfl,rfl⟩|⟨hne,b,r,rfl,g,hb⟩
 ·exact⟨.nilp,fun _ _=>rfl,⟨H,rfl,Below.refl _ _⟩,fun _ _=>rfl,fun n t=>V6 _ _ _ (by unfold same;rfl),fun _ _=>rfl,fun n t=>Zbu n t,fun G=>Zcc G⟩
 ·have hp:0<l.length:=List.length_pos_iff.2 hne
  have hsz:r.size=l.length:=by rw[g.cells.size,ZA]
  refine⟨.ptr b 0,fun G e=>?_,?_,fun n hn=>ZL (ZF g.low hn) 0,fun n t=>V6 _ _ _ (by unfold same;rw[Yc,Yc];rfl),fun n hn=>YP (ZF g.low hn) _ _ _,fun n t=>UY _ _ _ _ _ _,fun G=>VL ..⟩
  ·show YH G b _=_
   unfold YH
   rw[e,g.at_]
   show ZS (Nat.ble 1 r.size) _=_
   rw[Zl (by omega)];rfl
  ·refine⟨H.put b (.row ⟨r.elem,r.sz,r.size,r.cells,r.dflt,cond (Nat.ble r.fz (Nat.add 0 l.length)) (Nat.add 0 l.length) r.fz,r.sm,r.own,r.exact⟩),?_,Below.put hb⟩
   show cond (Nat.beq l.length 0) _ (ZS (Nat.ble l.length 140737488355328) (YH H b _))=_
   rw[Ye,Zc (by omega),Zl hl]
   unfold YH
   rw[g.at_]
   show ZS (Nat.beq r.elem 5) (ZS (cond r.sm false (H.may r b)) (ZS (Nat.ble (0+l.length) r.size) (Q6 _ (loadN r 0 l.length))))=_
   have hmay:H.may r b=true:=by unfold Heap.may;rw[g.own,Zl g.ro];rfl
   rw[g.elem,g.sm,hmay,Zl (by omega),g.cells.load (by rw[ZA];omega),Yl,ZK (by rw[ZA];omega),ZdC]
   rfl
end
end Go.AI
namespace Go.AI
open Go
namespace T
variable {α:Type}
theorem Zi4(x:α)(l:T α)(v:Option α)(r:T α)(bs:List Bool):setB x (node l v r) (true::bs)=node (setB x l bs) v r:=rfl
theorem Zi5(x:α)(l:T α)(v:Option α)(r:T α)(bs:List Bool):setB x (node l v r) (false::bs)=node l v (setB x r bs):=rfl
theorem Zno(x:α)(bs:List Bool):setB x leaf bs=single x bs:=rfl
theorem Zqh(x:α)(bs:List Bool):single x (true::bs)=node (single x bs) none leaf:=rfl
theorem Zqi(x:α)(bs:List Bool):single x (false::bs)=node leaf none (single x bs):=rfl
theorem Zfq(x y:α): ∀bs:List Bool,setB y (single x bs) bs=single y bs
 |[]=>rfl
 |true::bs=>by rw[Zqh,Zi4,Zfq x y bs,Zqh]
 |false::bs=>by rw[Zqi,Zi5,Zfq x y bs,Zqi]
theorem Zi6(x y:α): ∀(t:T α) (bs:List Bool),setB y (setB x t bs) bs=setB y t bs
 |leaf,bs=>by rw[Zno,Zfq,Zno]
 |node l v r,[]=>rfl
 |node l v r,true::bs=>by rw[Zi4,Zi4,Zi4,Zi6 x y l bs]
 |node l v r,false::bs=>by rw[Zi5,Zi5,Zi5,Zi6 x y r bs]
theorem set_set(t:T α)(n:Nat)(x y:α):(t.set n x).set n y=t.set n y:=Zi6 x y t (bits n)
theorem Zce(a b:α)(l:List α):Qb (a::b::l)=a::Qb l:=by simp[Qb]
theorem ZlA: ∀(l:List α) (i:Nat) (v:α),Qb (l.set (2*i) v)=(Qb l).set i v
 |[],_,_=>by simp[Qb]
 |[a],0,_=>by simp[Qb]
 |[a],i+1,v=>by
  rw[show 2*(i+1)=2*i+1+1 by omega];simp[Qb]
 |a::b::l,0,v=>by simp[Qb]
 |a::b::l,i+1,v=>by
  rw[show 2*(i+1)=2*i+1+1 by omega,List.set_cons_succ,List.set_cons_succ,Zce,Zce,ZlA l i v,List.set_cons_succ]
theorem ZdD: ∀(l:List α) (i:Nat) (v:α),Qb (l.set (2*i+1) v)=Qb l
 |[],_,_=>by simp[Qb]
 |[a],i,_=>by simp[Qb]
 |a::b::l,0,v=>by simp[Qb]
 |a::b::l,i+1,v=>by
  rw[show 2*(i+1)+1=(2*i+1)+1+1 by omega,List.set_cons_succ,List.set_cons_succ,Zce,Zce,ZdD l i v]
theorem Zqj(l:List α)(i:Nat)(v:α):(l.set (i+1) v).tail=l.tail.set i v:=by cases l<;>rfl
theorem ZuZ(l:List α)(v:α):(l.set 0 v).tail=l.tail:=by cases l<;>rfl
theorem Zh4(l:List α):(Qb l).length=(l.length+1)/2:=by
 have: ∀(n:Nat) (l:List α),l.length≤n→(Qb l).length=(l.length+1)/2:=by
  intro n
  induction n with
  |zero=>intro l h;cases l with|nil=>simp[Qb]|cons=>simp at h
  |succ n ih=>
   intro l h
   match l,h with
   |[],_=>simp[Qb]
   |[a],_=>simp[Qb]
   |a::b::l,h=>
    rw[Zce,Zn,ih l (by simp at h;omega)]
    simp only[Zn];omega
 exact this _ l (Zk _)
theorem Zh5(f:Nat)(x:α)(l:List α):QD (f+1) (x::l)=node (QD f (Qb l)) (some x) (QD f (Qb l.tail)):=rfl
theorem Zqk: ∀(f:Nat) (l:List α) (i:Nat) (v:α),l.length≤f→i<l.length→(QD f l).set i v=QD f (l.set i v):=by
 intro f
 induction f with
 |zero=>intro l i v h hi;omega
 |succ f ih=>
  intro l i v h hi
  cases l with
  |nil=>cases hi
  |cons x l=>
   rw[Zh5]
   by_cases h0:i=0
   ·subst h0;rfl
   ·obtain⟨j,rfl⟩: ∃j,i=j+1:=⟨i - 1,by omega⟩
    rw[List.set_cons_succ,Zh5]
    simp only[Zn] at h hi
    unfold set
    by_cases h1:(j+1) % 2=1
    ·obtain⟨m,rfl⟩: ∃m,j=2*m:=⟨j/2,by omega⟩
     rw[Zpt h1,Zi4,show(2*m+1)/2=m by omega]
     have:=ih (Qb l) m v (by rw[Zh4];omega) (by rw[Zh4];omega)
     unfold set at this
     rw[this,ZlA]
     cases m with
     |zero=>rw[ZuZ]
     |succ m=>rw[show 2*(m+1)=2*m+1+1 by omega,Zqj,ZdD]
    ·obtain⟨m,rfl⟩: ∃m,j=2*m+1:=⟨j/2,by omega⟩
     rw[ZmL (by omega) (by omega),Zi5,show(2*m+1+1)/2 - 1=m by omega]
     have:=ih (Qb l.tail) m v (by rw[Zh4,List.length_tail];omega) (by rw[Zh4,List.length_tail];omega)
     unfold set at this
     rw[this,ZdD,Zqj,ZlA]
theorem set_ofList{l:List α}{i:Nat}(v:α)(h:i<l.length):(ofList l).set i v=ofList (l.set i v):=by
 unfold ofList
 rw[Zn8,Zn8,List.length_set]
 exact Zqk _ l i v (Zk _) h
end T
def lay(l:List AV):Nat→List AV→List AV
 |_,[]=>l
 |o,v::vs=>lay (l.set o v) (o+1) vs
theorem ZoA: ∀(l:List AV) (o:Nat) (vs:List AV),(lay l o vs).length=l.length
 |_,_,[]=>rfl
 |l,o,v::vs=>by
  show(lay (l.set o v) (o+1) vs).length=_
  rw[ZoA,List.length_set]
theorem ZlB: ∀(l:List AV) (o:Nat) (vs:List AV),o+vs.length≤l.length→Wn (T.ofList l) o vs=T.ofList (lay l o vs)
 |_,_,[],_=>rfl
 |l,o,v::vs,h=>by
  simp only[Zn] at h
  show Wn ((T.ofList l).set o v) (o+1) vs=T.ofList (lay (l.set o v) (o+1) vs)
  rw[T.set_ofList v (by omega),ZlB (l.set o v) (o+1) vs (by rw[List.length_set];omega)]
theorem ZrY: ∀(l:List AV) (o:Nat) (vs:List AV),o+vs.length≤l.length→lay l o vs=l.take o++(vs++l.drop (o+vs.length))
 |l,o,[],h=>by show l=_;simp
 |l,o,v::vs,h=>by
  simp only[Zn] at h
  show lay (l.set o v) (o+1) vs=_
  rw[ZrY (l.set o v) (o+1) vs (by rw[List.length_set];omega),List.set_eq_take_append_cons_drop,if_pos (by omega)]
  have e1:(l.take o++v::l.drop (o+1)).take (o+1)=l.take o++[v]:=by
   rw[List.take_append,ZK (by rw[Yb];omega),Yb,Nat.min_eq_left (by omega),show o+1 - o=1 by omega];rfl
  have e2:(l.take o++v::l.drop (o+1)).drop (o+1+vs.length)=l.drop (o+(v::vs).length):=by
   rw[List.drop_append,Y7 (by rw[Yb];omega),List.nil_append,Yb,Nat.min_eq_left (by omega),show o+1+vs.length - o=vs.length+1 by omega,V2,List.drop_drop,Zn]
   congr 1;omega
  rw[e1,e2];simp
noncomputable section
def rG(e sz:Nat)(l:List AV)(fz:Nat)(sm own ex:Bool):Obj:= .row ⟨e,sz,Yt l,T.ofList l, .unk,fz,sm,own,ex⟩
theorem ZrZ(e sz:Nat)(l:List AV)(fz:Nat)(sm own ex:Bool)(i:Nat):Row.get ⟨e,sz,Yt l,T.ofList l, .unk,fz,sm,own,ex⟩ i=l.getD i .unk:=by
 rw[Row.get_eq]
 show((T.ofList l).get i).getD .unk=_
 rw[T.get_ofList,Zj]
theorem Zql(e sz:Nat)(l:List AV)(fz:Nat)(sm own ex:Bool):Cells ⟨e,sz,Yt l,T.ofList l, .unk,fz,sm,own,ex⟩ l:=Cells.new ..
def ld1(x:Option Obj)(o:Nat)(H:Heap):OR:=match x with|some (.row r)=>ZS (Nat.ble (Nat.succ o) r.size) (.val (r.get o) H)|_=> .fail
theorem Znp(b o:Nat)(H:Heap):ZiZ (.ptr b o) H=ld1 (H.t.get b) o H:=rfl
theorem ZH{o:Nat}{l:List AV}(h:o<l.length)(e sz fz:Nat)(sm own ex:Bool)(H:Heap):ld1 (some (rG e sz l fz sm own ex)) o H= .val (l.getD o .unk) H:=by
 show ZS (Nat.ble (Nat.succ o) (Yt l)) (.val (Row.get ⟨e,sz,Yt l,T.ofList l, .unk,fz,sm,own,ex⟩ o) H)=_
 rw[Yr,Zl (show Nat.succ o≤l.length from h)]
 show OR.val (Row.get ⟨e,sz,l.length,T.ofList l, .unk,fz,sm,own,ex⟩ o) H=_
 rw[←Yr,ZrZ]
def ldN(n:Nat)(x:Option Obj)(o:Nat)(H:Heap):OR:=match x with|some (.row r)=>ZS (Nat.ble (Nat.add o n) r.size) (.val (.agg (loadN r o n)) H)|_=> .fail
theorem Zxz(n b o:Nat)(H:Heap):Zni n (.ptr b o) H=ldN n (H.t.get b) o H:=rfl
theorem WH{n o:Nat}{l:List AV}(h:o+n≤l.length)(e sz fz:Nat)(sm own ex:Bool)(H:Heap):ldN n (some (rG e sz l fz sm own ex)) o H= .val (.agg ((l.drop o).take n)) H:=by
 show ZS (Nat.ble (o+n) (Yt l)) (.val (.agg (loadN ⟨e,sz,Yt l,T.ofList l, .unk,fz,sm,own,ex⟩ o n)) H)=_
 rw[(Zql e sz l fz sm own ex).load h,Yr,Zl h];rfl
def stN(n:Nat)(x:Option Obj)(b o:Nat)(v:AV)(H:Heap):OR:=match x with
 |some (.row r)=>ZS (Nat.ble 1 n)<|ZS (H.may r b) (ZS (Nat.ble (Nat.add o n) r.size) (ZS (Nat.ble r.fz o) (ZS (Nat.beq (Yt v.cells) n) (.val Yx (H.put b (.row (r.setCells (Wn r.cells o v.cells))))))))
 |_=> .fail
theorem Zu0(n b o:Nat)(v:AV)(H:Heap):Zoy n (.ptr b o) v H=stN n (H.t.get b) b o v H:=rfl
theorem ZdE{n b o:Nat}{l:List AV}{v:AV}{H:Heap}{fz:Nat}(hn:1≤n)(hv:v.cells.length=n)(ho:o+n≤l.length)(hro:H.ro≤b)(hfz:fz≤o)(e sz:Nat)(sm ex:Bool):
  stN n (some (rG e sz l fz sm true ex)) b o v H= .val Yx (H.put b (rG e sz (lay l o v.cells) fz sm true ex)):=by
 show ZS (Nat.ble 1 n) (ZS (cond true (Nat.ble H.ro b) false) (ZS (Nat.ble (o+n) (Yt l)) (ZS (Nat.ble fz o) (ZS (Nat.beq (Yt v.cells) n) (.val Yx (H.put b (.row ⟨e,sz,Yt l,Wn (T.ofList l) o v.cells, .unk,fz,sm,true,ex⟩)))))))=_
 rw[Zl hn,Zl hro,Yr,Zl ho,Zl hfz,Yr,hv,Yc,ZlB l o v.cells (by omega)]
 unfold rG
 rw[Yr,ZoA];rfl
theorem Zbc{b o:Nat}{l:List AV}{v:AV}{H:Heap}{fz:Nat}(hv:v.cells=[v])(ho:o<l.length)(hro:H.ro≤b)(hfz:fz≤o)(e sz:Nat)(sm ex:Bool):
  stN 1 (some (rG e sz l fz sm true ex)) b o v H= .val Yx (H.put b (rG e sz (l.set o v) fz sm true ex)):=by
 rw[ZdE (Zk 1) (by rw[hv];rfl) ho hro hfz,hv];rfl
theorem Yo(H:Heap)(b:Nat)(o:Obj):(H.put b o).t.get b=some o:=by rw[Zdz,if_pos rfl]
theorem Z3{b c:Nat}(h: ¬b=c)(H:Heap)(o:Obj):(H.put b o).t.get c=H.t.get c:=by rw[Zdz,if_neg h]
theorem ZP{H:Heap}{c:Nat}(h:H.nx=c)(o:Obj):(H.new o).t.get c=some o:=by rw[Zbb,if_pos h]
theorem Yy{H:Heap}{c:Nat}(h: ¬H.nx=c)(o:Obj):(H.new o).t.get c=H.t.get c:=by rw[Zbb,if_neg h]
theorem Zh6(H:Heap)(b:Nat)(o o':Obj):(H.put b o).put b o'=H.put b o':=by
 unfold Heap.put;simp only[T.set_set]
theorem VX{H:Heap}{b:Nat}(h:H.nx=b)(o o':Obj):(H.new o).put b o'=H.new o':=by
 subst h;unfold Heap.put Heap.new;simp only[T.set_set]
theorem Wi(H:Heap)(e sz:Nat)(l:List AV)(ex:Bool):H.newRow e sz l ex=H.new (rG e sz l 0 false true ex):=rfl
theorem Zqm(e:Nat)(c:AV)(cs:List AV)(tm:TM)(H:Heap):Wa e (c::cs) tm H= .val (.ptr H.nx 0) (H.new (rG e 1 (c::cs) 0 false true true)):=by
 rw[ZrE _ _ (by rw[Yr];simp)];rfl
def Zr0(e:Nat)(a:AV)(H:Heap):OR:=ZS (Nat.ble 1 (Yt a.cells))<| .val (.ptr H.nx 0) (H.newRow e 1 a.cells true)
theorem Zz7(x:EvF)(e:Nat)(tm:TM)(H:Heap):QE x e tm H=Zr0 e (x tm) H:=rfl
theorem Ztg{a:AV}{l:List AV}(h:a.cells=l)(h1:1≤l.length)(e:Nat)(H:Heap):Zr0 e a H= .val (.ptr H.nx 0) (H.new (rG e 1 l 0 false true true)):=by
 subst h
 show ZS (Nat.ble 1 (Yt a.cells)) _=_
 rw[Yr,Zl h1];rfl
theorem Zr1(l:List AV):(AV.agg l).cells=l:=rfl
theorem Vf{l:List AV}(h1:1≤l.length)(e:Nat)(H:Heap):Zr0 e (.agg l) H= .val (.ptr H.nx 0) (H.new (rG e 1 l 0 false true true)):=Ztg (Zr1 l) h1 e H
theorem Zqn{a:AV}(h:a.cells=[a])(e:Nat)(H:Heap):Zr0 e a H= .val (.ptr H.nx 0) (H.new (rG e 1 [a] 0 false true true)):=Ztg h (Zk 1) e H
theorem ZlC(b:Bool):(AV.bool b).cells=[.bool b]:=rfl
theorem Znq(k:IntKind)(n:Int):(AV.int k n).cells=[.int k n]:=rfl
theorem Zqo(k:IntKind)(n:Nat):(nI k n).cells=[nI k n]:=rfl
theorem Znr(x:UInt8):(u8V x).cells=[u8V x]:=rfl
theorem Zns(s:List UInt8):(AV.str s).cells=[.str s]:=rfl
theorem ZlD:AV.nilp.cells=[.nilp]:=rfl
theorem Znt(b o:Nat):(AV.ptr b o).cells=[.ptr b o]:=rfl
theorem ZlE:AV.nils.cells=[.nils]:=rfl
theorem ZjQ(b o n:Nat)(c:Option Nat):(AV.slice b o n c).cells=[.slice b o n c]:=rfl
theorem Znu(b:Nat):(AV.map b).cells=[.map b]:=rfl
theorem ZlF(f:Nat)(a b:List AV):(AV.func f a b).cells=[.func f a b]:=rfl
theorem ZjR(t:Nat)(v:AV):(AV.iface t v).cells=[.iface t v]:=rfl
theorem ZlG:AV.nili.cells=[.nili]:=rfl
theorem Znv(l:List AV):(AV.agg l).cells=l:=rfl
theorem YE{a:TM→Heap→X→Res}{x:X}(I:Nat→TM→Heap→Prop)(Q:Out→TM→Heap→Prop)
  (step: ∀m tm H,I m tm H→ ∃o tm' H',a tm H x= .ok o tm' H' x∧((o= .normal∧ ∃k,k<m∧I k tm' H')∨(o≠ .normal∧Q o tm' H'))):
  ∀(F m:Nat) (tm:TM) (H:Heap),m<F→I m tm H→ ∃o tm' H',WI a F tm H x= .ok o tm' H' x∧o≠ .normal∧Q o tm' H'
 |0,m,_,_,h,_=>by omega
 |F+1,m,tm,H,h,hi=>by
  obtain⟨o,tm',H',h1,h2⟩:=step m tm H hi
  rcases h2 with⟨rfl,k,hk,h3⟩|⟨h2,h3⟩
  ·obtain⟨o2,tm2,H2,e,h4,h5⟩:=YE I Q step F k tm' H' (by omega) h3
   refine⟨o2,tm2,H2,?_,h4,h5⟩
   show ZaP (a tm H x) (WI a F)=_
   rw[h1];exact e
  ·refine⟨o,tm',H',?_,h2,h3⟩
   show ZaP (a tm H x) (WI a F)=_
   rw[h1]
   cases o with
   |normal=>exact absurd rfl h2
   |_=>rfl
theorem YC{a:TM→Heap→X→Res}{F:Nat}{H:Heap}{x:X}{L:Res}{P:TM→Prop}{Q:Out→TM→Heap→Prop}(lp: ∀T,P T→ ∃o tm' H',WI a F T H x= .ok o tm' H' x∧o≠ .normal∧Q o tm' H'){T:TM}(hL:WI a F T H x=L)(hi:P T):
  ∃o tm' H',L= .ok o tm' H' x∧o≠ .normal∧Q o tm' H':=by
 obtain⟨o,b,c,e,j⟩:=lp T hi
 exact⟨o,b,c,hL.symm.trans e,j⟩
end
end Go.AI
namespace Go.AI
open Go
noncomputable section
theorem ZC:(∀(f:OpF) (dst:ZE) (next:D) (c:Ctx) (tm:TM) (H:Heap) (x:X),Za f dst next c tm H x=ZaT (next c) dst c tm H x (f tm H))∧(∀(next:TM→Heap→X→Res) (dst:ZE) (c:Ctx) (tm:TM) (H:Heap) (x:X) (v:AV) (H':Heap),ZaT next dst c tm H x (.val v H')=next (dst tm v) H' x)∧(∀(next:TM→Heap→X→Res) (dst:ZE) (c:Ctx) (tm:TM) (H:Heap) (x:X) (f:Nat) (args:List AV) (H':Heap),ZaT next dst c tm H x (.oth (.call f args H'))=ZjZ next dst tm x (c.call f args H'))∧(∀(next:TM→Heap→X→Res) (dst:ZE) (tm:TM) (x:X) (v:AV) (H:Heap),ZjZ next dst tm x (.ret v H)=next (dst tm v) H x)∧(∀(a b:D) (c:Ctx) (tm:TM) (H:Heap) (x:X),Zg a b c tm H x=ZaP (a c tm H x) (b c))∧(∀(tm:TM) (H:Heap) (x:X) (k:TM→Heap→X→Res),ZaP (.ok .normal tm H x) k=k tm H x)∧(∀(tm:TM) (H:Heap) (x:X) (k:TM→Heap→X→Res),ZaP (.ok .ret tm H x) k= .ok .ret tm H x)∧(∀(i:Nat) (tm:TM) (H:Heap) (x:X) (k:TM→Heap→X→Res),ZaP (.ok (.exit i) tm H x) k= .ok (.exit i) tm H x)∧(∀(c:Ctx) (tm:TM) (H:Heap) (x:X),Zb c tm H x= .ok .normal tm H x)∧(∀(c:Ctx) (tm:TM) (H:Heap) (x:X),Z9 c tm H x= .ok .ret tm H x)∧(∀(i:Nat) (c:Ctx) (tm:TM) (H:Heap) (x:X),WF i c tm H x= .ok (.exit i) tm H x)∧(∀(q:EvF) (a b:D) (c:Ctx) (tm:TM) (H:Heap) (x:X),ZD q a b c tm H x=ZnV (q tm) fun v=>Zg9 (a c) (b c) v tm H x)∧(∀(b:Bool) (k:Bool→Res),ZnV (.bool b) k=k b)∧(∀(a b:TM→Heap→X→Res) (tm:TM) (H:Heap) (x:X),Zg9 a b true tm H x=a tm H x)∧(∀(a b:TM→Heap→X→Res) (tm:TM) (H:Heap) (x:X),Zg9 a b false tm H x=b tm H x)∧(∀(i:Nat) (a:D) (c:Ctx) (tm:TM) (H:Heap) (x:X),Z4 i a c tm H x=Zaw i (a c tm H x))∧(∀(a:D) (c:Ctx) (tm:TM) (H:Heap) (x:X),Wx a c tm H x=WI (a c) c.fuel tm H x)∧(∀(i:Nat) (tm:TM) (H:Heap) (x:X),Zaw i (.ok .normal tm H x)= .ok .normal tm H x)∧(∀(i:Nat) (tm:TM) (H:Heap) (x:X),Zaw i (.ok (.exit i) tm H x)= .ok .normal tm H x)∧(∀(i:Nat) (tm:TM) (H:Heap) (x:X),Zaw i (.ok .ret tm H x)= .ok .ret tm H x)∧(∀(tm:TM) (v:AV),d0 tm v=tm)∧(∀(v:AV) (tm:TM),k v tm=v)∧(∀(tm:TM),evs tm []=[])∧(∀(tm:TM) (f:EvF) (l:List EvF),evs tm (f::l)=f tm::evs tm l)∧(∀(x:EvF) (tm:TM) (H:Heap),oMv x tm H= .val (x tm) H)∧(∀(x:EvF) (tm:TM) (H:Heap),ZqY x tm H=ZzM (x tm) H)∧(∀(x:EvF) (k:IntKind) (tm:TM) (H:Heap),Vm x k tm H=ZhZ k (x tm) H)∧(∀(x y:EvF) (tm:TM) (H:Heap),Yh x y tm H=Zl8 (x tm) (y tm) H)∧(∀(x y:EvF) (tm:TM) (H:Heap),WK x y tm H=ZzN (x tm) (y tm) H)∧(∀(x y:EvF) (tm:TM) (H:Heap),Zer x y tm H=ZzO (x tm) (y tm) H)∧(∀(x y:EvF) (tm:TM) (H:Heap),Zgm x y tm H=Zw0 (x tm) (y tm) H)∧(∀(x y:EvF) (tm:TM) (H:Heap),Zg3 x y tm H=ZuA (x tm) (y tm) H)∧(∀(x y:EvF) (f:Nat→Nat→Nat→Nat) (tm:TM) (H:Heap),Wp x y f tm H=Zng f (x tm) (y tm) H)∧(∀(x y:EvF) (tm:TM) (H:Heap),Zbw x y tm H=ZrA (x tm) (y tm) H)∧(∀(x y:EvF) (tm:TM) (H:Heap),Zkx x y tm H=ZuB (x tm) (y tm) H)∧(∀(x:EvF) (tm:TM) (H:Heap),Zv0 x tm H=ZBB (x tm) H)∧(∀(x y:EvF) (f:Int→Int→Bool) (g:List UInt8→List UInt8→Bool) (tm:TM) (H:Heap),Yf x y f g tm H=Zeo f g (x tm) (y tm) H)∧(∀(x y:EvF) (f:AV→AV→Option Bool) (neg:Bool) (tm:TM) (H:Heap),oEq x y f neg tm H=eqV f neg (x tm) (y tm) H)∧(∀(x:EvF) (tm:TM) (H:Heap),Zek x tm H=ZzP (x tm) H)∧(∀(x y z:EvF) (tm:TM) (H:Heap),Yk x y z tm H=Znh (x tm) (y tm) (z tm) H)∧(∀(f:Nat) (args:List EvF) (tm:TM) (H:Heap),Zz f args tm H= .oth (.call f (evs tm args) H))∧(∀(yes no:Res),VS (.bool true) true yes no=yes)∧(∀(yes no:Res),VS (.bool false) true yes no=no)∧(∀(yes no:Res),VS (.bool false) false yes no=yes)∧(∀(yes no:Res),VS (.bool true) false yes no=no)∧(∀(g:EvF) (b:Bool) (f:OpF) (dst:ZE) (next:D) (c:Ctx) (tm:TM) (H:Heap) (x:X),ZJ g b f dst next c tm H x=VS (g tm) b (ZaT (next c) dst c tm H x (f tm H)) (next c (dst tm Yx) H x))∧(∀(n:Nat) (l:List AV),YA n (.agg l)=Zan n l)∧(∀(n:Nat),YA n Yx=true)∧(∀(n:Nat) (s:List UInt8),YA n (.str s)=true)∧(∀(n:Nat) (k:IntKind) (m:Nat),YA n (nI k m)=true)∧(∀(n:Nat) (x:UInt32),YA n (ZgW x)=true)∧(∀(n:Nat) (x:UInt8),YA n (u8V x)=true)∧(∀(n:Nat) (x:Bool),YA n (.bool x)=true)∧(∀(sz:Nat) (x:EvF) (lo hi:Option EvF) (tm:TM) (H:Heap),Ziv sz x lo hi none tm H=Zlx sz (x tm) (lo.map fun f=>f tm) (hi.map fun f=>f tm) H)∧(∀(mx:Bool) (args:List EvF) (tm:TM) (H:Heap),Zdh mx args tm H=ZCs mx (evs tm args) H)∧(∀(zs:List AV) (ps:List ZnQ) (tm:TM) (H:Heap),WR zs ps tm H=ZcL zs (ps.map fun p=>(p.off,p.sz,p.x tm)) H)∧(∀(e sz n:Nat) (zs:List AV) (ps:List ZnQ) (tm:TM) (H:Heap),WO e sz n zs ps tm H=ZbR e sz n zs (ps.map fun p=>(p.off,p.sz,p.x tm)) H)∧(∀(x y:EvF) (e sz bytes:Nat) (tm:TM) (H:Heap),Vb x y e sz bytes tm H=UX e sz bytes (x tm) (y tm) H)∧(∀(x y:EvF) (sz:Nat) (tm:TM) (H:Heap),Zo5 x y sz tm H=Zxr sz (x tm) (y tm) H)∧(∀(n sz:Nat) (x:EvF) (lo hi:Option EvF) (tm:TM) (H:Heap),Ziw n sz x lo hi none tm H=Zly n sz (x tm) (lo.map fun f=>f tm) (hi.map fun f=>f tm) H)∧(∀(x:EvF) (tm:TM) (H:Heap),WX x tm H=Zte (x tm) H)∧(∀(x y:EvF) (tm:TM) (H:Heap),Yj x y tm H=ZdB (x tm) (y tm) H)∧(∀(x:EvF) (lo hi:Option EvF) (tm:TM) (H:Heap),WV x lo hi none tm H=Zoz (x tm) (lo.map fun f=>f tm) (hi.map fun f=>f tm) H)∧(∀(x:EvF) (i:Nat) (tm:TM) (H:Heap),WC x i tm H=ZjP i (x tm) H)∧(∀(b c:AV) (H:Heap),Znh (.bool true) b c H= .val b H)∧(∀(b c:AV) (H:Heap),Znh (.bool false) b c H= .val c H)∧(∀(b:Bool) (H:Heap),ZzP (.bool b) H= .val (.bool (cond b false true)) H)∧(∀(x:EvF) (tm:TM) (H:Heap),Zx x tm H=ZiZ (x tm) H)∧(∀(x:EvF) (n:Nat) (tm:TM) (H:Heap),YY x n tm H=Zni n (x tm) H)∧(∀(x y:EvF) (n:Nat) (tm:TM) (H:Heap),Z2 x y n tm H=Zoy n (x tm) (y tm) H)∧(∀(x:EvF) (n:Nat) (tm:TM) (H:Heap),Z5 x n tm H=ZzT n (x tm) H)∧(∀(x y:EvF) (n sz:Nat) (tm:TM) (H:Heap),Zf1 x y n sz tm H=Ztc n sz (x tm) (y tm) H)∧(∀(x y:EvF) (sz:Nat) (tm:TM) (H:Heap),YU x y sz tm H=Zlw sz (x tm) (y tm) H)∧(∀(x:EvF) (tm:TM) (H:Heap),YQ x tm H=ZzU (x tm) H)∧(∀(x:EvF) (tm:TM) (H:Heap),WE x tm H=Qe (x tm) H)∧(∀(e n:Nat) (v:AV) (tm:TM) (H:Heap),Zkc e n v tm H= .val (.ptr H.nx 0) (H.new (.row ⟨e,1,n, .leaf,v,0,false,true,true⟩)))∧(∀(x:EvF) (e:Nat) (tm:TM) (H:Heap),QE x e tm H=Zr0 e (x tm) H)∧(∀(e:Nat) (c:AV) (cs:List AV) (tm:TM) (H:Heap),Wa e (c::cs) tm H= .val (.ptr H.nx 0) (H.new (rG e 1 (c::cs) 0 false true true)))∧(∀(n b o:Nat) (H:Heap),ZzT n (.ptr b o) H= .val (.ptr b (o+n)) H)∧(∀(b o:Nat) (H:Heap),ZzU (.ptr b o) H= .val (.ptr b o) H)∧(∀(b o n:Nat) (c:Option Nat) (H:Heap),Qe (.slice b o n c) H= .val (nI .i64 n) H)∧(∀(H:Heap),Qe .nils H= .val (nI .i64 0) H)∧(∀(H:Heap) (b:Nat) (o:Obj),(H.put b o).nx=H.nx)∧(∀(H:Heap) (b:Nat) (o:Obj),(H.put b o).ro=H.ro)∧(∀(H:Heap) (o:Obj),(H.new o).nx=H.nx+1)∧(∀(H:Heap) (o:Obj),(H.new o).ro=H.ro)∧(∀(H:Heap) (b:Nat) (o:Obj),(H.put b o).t.get b=some o)∧(∀(H:Heap) (b:Nat) (o o':Obj),(H.put b o).put b o'=H.put b o')∧(∀(H:Heap) (e sz:Nat) (l:List AV) (ex:Bool),H.newRow e sz l ex=H.new (rG e sz l 0 false true ex))∧(∀(b o:Nat) (H:Heap),ZiZ (.ptr b o) H=ld1 (H.t.get b) o H)∧(∀(n b o:Nat) (H:Heap),Zni n (.ptr b o) H=ldN n (H.t.get b) o H)∧(∀(n b o:Nat) (v:AV) (H:Heap),Zoy n (.ptr b o) v H=stN n (H.t.get b) b o v H)∧(∀(b:Bool),(AV.bool b).cells=[.bool b])∧(∀(k:IntKind) (n:Int),(AV.int k n).cells=[.int k n])∧(∀(k:IntKind) (n:Nat),(nI k n).cells=[nI k n])∧(∀(x:UInt8),(u8V x).cells=[u8V x])∧(∀(s:List UInt8),(AV.str s).cells=[.str s])∧(AV.nilp.cells=[.nilp])∧(∀(b o:Nat),(AV.ptr b o).cells=[.ptr b o])∧(AV.nils.cells=[.nils])∧(∀(b o n:Nat) (c:Option Nat),(AV.slice b o n c).cells=[.slice b o n c])∧(∀(b:Nat),(AV.map b).cells=[.map b])∧(∀(f:Nat) (a b:List AV),(AV.func f a b).cells=[.func f a b])∧(∀(t:Nat) (v:AV),(AV.iface t v).cells=[.iface t v])∧(AV.nili.cells=[.nili])∧(∀(l:List AV),(AV.agg l).cells=l)∧(∀(l:List PI) (c:Ctx) (tm:TM) (H:Heap) (x:X),YK l c tm H x=W5 (l.map (·.dst)) Zey l c [] tm H x)∧(∀(ds:List ZE) (fin:PK) (c:Ctx) (rs:List RD) (tm:TM) (H:Heap) (x:X),W5 ds fin [] c rs tm H x=cond (still tm H rs) (fin rs tm H x) .fail)∧(∀(ds:List ZE) (fin:PK) (p:PI) (l:List PI) (c:Ctx) (rs:List RD) (tm:TM) (H:Heap) (x:X),W5 ds fin (p::l) c rs tm H x=U2 ds p (W5 ds fin l c) c rs tm H x)∧(∀(rs:List RD) (tm:TM) (H:Heap) (x:X),Zey rs tm H x= .ok .normal tm H x)∧(∀(ds:List ZE) (f:OpF) (os:List (ZE×EvF)) (dst:ZE) (i bef:Nat) (nx:PK) (c:Ctx) (rs:List RD) (tm:TM) (H:Heap) (x:X),U2 ds ⟨f,none,os,dst, .free,i,bef⟩ nx c rs tm H x=cond (QP H.nx tm os) (Zex ⟨f,none,os,dst, .free,i,bef⟩ nx rs tm H x (f (rsF tm os) ⟨H.nx, .leaf,H.nx⟩)) .fail)∧(∀(ds:List ZE) (f:OpF) (os:List (ZE×EvF)) (dst:ZE) (i bef:Nat) (nx:PK) (c:Ctx) (rs:List RD) (tm:TM) (H:Heap) (x:X),U2 ds ⟨f,none,os,dst, .read,i,bef⟩ nx c rs tm H x=Zha ⟨f,none,os,dst, .read,i,bef⟩ nx rs tm H x (f (rsF tm os) ⟨H.nx,H.t,H.nx⟩))∧(∀(ds:List ZE) (f:OpF) (os:List (ZE×EvF)) (dst:ZE) (i bef:Nat) (nx:PK) (c:Ctx) (rs:List RD) (tm:TM) (H:Heap) (x:X),U2 ds ⟨f,none,os,dst, .eff,i,bef⟩ nx c rs tm H x=cond (still tm H rs) (Zhb ds ⟨f,none,os,dst, .eff,i,bef⟩ nx rs c tm x (f (rsF tm os) H)) .fail)∧(∀(ds:List ZE) (f:OpF) (e:EvF) (b:Bool) (os:List (ZE×EvF)) (dst:ZE) (i bef:Nat) (nx:PK) (c:Ctx) (rs:List RD) (tm:TM) (H:Heap) (x:X),U2 ds ⟨f,some (e,b),os,dst, .free,i,bef⟩ nx c rs tm H x=VS (e tm) b (cond (QP H.nx tm os) (Zex ⟨f,some (e,b),os,dst, .free,i,bef⟩ nx rs tm H x (f (rsF tm os) ⟨H.nx, .leaf,H.nx⟩)) .fail) (nx rs (dst tm Yx) H x))∧(∀(ds:List ZE) (f:OpF) (e:EvF) (b:Bool) (os:List (ZE×EvF)) (dst:ZE) (i bef:Nat) (nx:PK) (c:Ctx) (rs:List RD) (tm:TM) (H:Heap) (x:X),U2 ds ⟨f,some (e,b),os,dst, .read,i,bef⟩ nx c rs tm H x=VS (e tm) b (Zha ⟨f,some (e,b),os,dst, .read,i,bef⟩ nx rs tm H x (f (rsF tm os) ⟨H.nx,H.t,H.nx⟩)) (nx rs (dst tm Yx) H x))∧(∀(ds:List ZE) (f:OpF) (e:EvF) (b:Bool) (os:List (ZE×EvF)) (dst:ZE) (i bef:Nat) (nx:PK) (c:Ctx) (rs:List RD) (tm:TM) (H:Heap) (x:X),U2 ds ⟨f,some (e,b),os,dst, .eff,i,bef⟩ nx c rs tm H x=cond (still tm H rs) (VS (e tm) b (Zhb ds ⟨f,some (e,b),os,dst, .eff,i,bef⟩ nx rs c tm x (f (rsF tm os) H)) (nx (Vt bef rs) (dst tm Yx) H x)) .fail)∧(∀(ds:List ZE) (f:OpF) (os:List (ZE×EvF)) (dst:ZE) (i bef:Nat) (nx:PK) (c:Ctx) (rs:List RD) (tm:TM) (x:X) (g:Option (EvF×Bool)) (kd:Zgo) (v:AV) (H':Heap),Zhb ds ⟨f,g,os,dst,kd,i,bef⟩ nx rs c tm x (.val v H')=nx (Vt bef rs) (dst tm v) H' x)∧(∀(ds:List ZE) (f:OpF) (os:List (ZE×EvF)) (dst:ZE) (i bef:Nat) (nx:PK) (c:Ctx) (rs:List RD) (tm:TM) (x:X) (g:Option (EvF×Bool)) (kd:Zgo) (H':Heap) (q:Nat) (args:List AV),Zhb ds ⟨f,g,os,dst,kd,i,bef⟩ nx rs c tm x (.oth (.call q args H'))=ZkB ds ⟨f,g,os,dst,kd,i,bef⟩ nx rs tm x (c.call q args H'))∧(∀(ds:List ZE) (f:OpF) (os:List (ZE×EvF)) (dst:ZE) (i bef:Nat) (nx:PK) (rs:List RD) (tm:TM) (x:X) (g:Option (EvF×Bool)) (kd:Zgo) (v:AV) (H':Heap),ZkB ds ⟨f,g,os,dst,kd,i,bef⟩ nx rs tm x (.ret v H')=nx (Vt bef rs) (dst tm v) H' x)∧(∀(b:Nat),Vt b []=[])∧(∀(f:OpF) (os:List (ZE×EvF)) (dst:ZE) (i bef:Nat) (rs:List RD) (g:Option (EvF×Bool)) (kd:Zgo) (v:AV) (b:Nat),Vt b (⟨⟨f,g,os,dst,kd,i,bef⟩,v⟩::rs)=cond (Nat.testBit b i) (Vt b rs) (⟨⟨f,g,os,dst,kd,i,bef⟩,v⟩::Vt b rs))∧(∀(tm:TM) (H:Heap),still tm H []=true)∧(∀(f:OpF) (os:List (ZE×EvF)) (dst:ZE) (i bef:Nat) (rs:List RD) (tm:TM) (H:Heap) (g:Option (EvF×Bool)) (kd:Zgo) (v:AV),still tm H (⟨⟨f,g,os,dst,kd,i,bef⟩,v⟩::rs)=cond (Zo7 ⟨⟨f,g,os,dst,kd,i,bef⟩,v⟩ tm H) (still tm H rs) false)∧(∀(f:OpF) (os:List (ZE×EvF)) (dst:ZE) (i bef:Nat) (tm:TM) (H:Heap) (g:Option (EvF×Bool)) (kd:Zgo) (v:AV),Zo7 ⟨⟨f,g,os,dst,kd,i,bef⟩,v⟩ tm H=Vk (f (rsF tm os) ⟨H.nx,H.t,H.nx⟩) v H.nx)∧(∀(v:UInt32) (n:Nat) (t:T Obj),Vk (.val (ZgW v) ⟨n,t,n⟩) (ZgW v) n=true)∧(∀(v:UInt8) (n:Nat) (t:T Obj),Vk (.val (u8V v) ⟨n,t,n⟩) (u8V v) n=true)∧(∀(k:IntKind) (v:Nat) (n:Nat) (t:T Obj),Vk (.val (nI k v) ⟨n,t,n⟩) (nI k v) n=true)∧(∀(s:List UInt8) (n:Nat) (t:T Obj),Vk (.val (.str s) ⟨n,t,n⟩) (.str s) n=true)∧(∀(n:Nat) (t:T Obj),Vk (.val .nils ⟨n,t,n⟩) .nils n=true)∧(∀(b o n:Nat) (c:Option Nat) (k:Nat) (t:T Obj),Vk (.val (.slice b o n c) ⟨k,t,k⟩) (.slice b o n c) k=true)∧(∀(n:Nat) (tm:TM),QP n tm []=true)∧(∀(n:Nat) (tm:TM) (s:ZE) (g:EvF) (os:List (ZE×EvF)),QP n tm ((s,g)::os)=cond (YA n (g tm)) (QP n tm os) false)∧(∀(tm:TM),rsF tm []=tm0)∧(∀(tm:TM) (s:ZE) (g:EvF) (os:List (ZE×EvF)),rsF tm ((s,g)::os)=s (rsF tm os) (g tm))∧(∀(a:AV) (l:List AV) (H:Heap),ZjP 0 (.tup (a::l)) H= .val a H)∧(∀(a b:AV) (l:List AV) (H:Heap),ZjP 1 (.tup (a::b::l)) H= .val b H)∧(∀(a b c:AV) (l:List AV) (H:Heap),ZjP 2 (.tup (a::b::c::l)) H= .val c H)∧(∀(dc:Option AV→Nat→List AV→Heap→DR) (rs:List (EvF×Option (Nat×Bool))) (tm:TM) (H:Heap) (rc:Option AV),Zdk dc rs (.ok .ret tm H ⟨[],rc⟩)=results rs tm H)∧(∀(dc:Option AV→Nat→List AV→Heap→DR) (rs:List (EvF×Option (Nat×Bool))) (tm:TM) (H:Heap) (rc:Option AV),Zdk dc rs (.ok .normal tm H ⟨[],rc⟩)=results rs tm H)∧(∀(f:EvF) (tm:TM) (H:Heap),results [(f,none)] tm H= .ret (f tm) H)∧(∀(tm:TM) (H:Heap),results [] tm H= .ret (.tup []) H)∧(∀(a b:UInt32) (H:Heap),Zl8 (ZgW a) (ZgW b) H= .val (ZgW (a+b)) H)∧(UN []=tm0)∧(∀(a:AV),UN [a]=st0 tm0 a)∧(∀(a b:AV),UN [a,b]=st1 (st0 tm0 a) b)∧(∀(a b c:AV),UN [a,b,c]=st2 (st1 (st0 tm0 a) b) c)∧(∀(a b c d:AV),UN [a,b,c,d]=st3 (st2 (st1 (st0 tm0 a) b) c) d)∧(∀(a b:List UInt8) (H:Heap),eqV eqS false (.str a) (.str b) H= .val (.bool (decide (a=b))) H)∧(∀(a b:List UInt8) (H:Heap),eqV eqS true (.str a) (.str b) H= .val (.bool (!decide (a=b))) H)∧(∀(a b:Bool) (H:Heap),eqV eqB false (.bool a) (.bool b) H= .val (.bool (decide (a=b))) H)∧(∀(k:IntKind) (a b:Nat) (H:Heap),Zeo YR Yg (nI k a) (nI k b) H= .val (.bool (decide (a<b))) H)∧(∀(k:IntKind) (a b:Nat) (H:Heap),Zeo UK WW (nI k a) (nI k b) H= .val (.bool (decide (b≤a))) H)∧(∀(k:IntKind) (a b:Nat) (H:Heap),Zeo U1 W4 (nI k a) (nI k b) H= .val (.bool (decide (b<a))) H)∧(∀(k:IntKind) (a b:Nat) (H:Heap),Zeo ZcG QU (nI k a) (nI k b) H= .val (.bool (decide (a≤b))) H)∧(∀(k:IntKind) (a b:Nat) (H:Heap),eqV eqI false (nI k a) (nI k b) H= .val (.bool (decide (a=b))) H)∧(∀(k:IntKind) (a b:Nat) (H:Heap),eqV eqI true (nI k a) (nI k b) H= .val (.bool (decide (a≠b))) H)∧(∀(s:List UInt8) (H:Heap),Zte (.str s) H= .val (nI .i64 s.length) H)∧(∀(x:EvF) (tm:TM) (H:Heap),Zmj x tm H=Zxx (x tm) H)∧(∀(x:EvF) (u n:Nat) (tm:TM) (H:Heap),Zmk x u n tm H=Zxy u n (x tm) H)∧(∀(x:EvF) (tm:TM) (H:Heap),Zke x tm H=Zkl (x tm) H)∧(∀(x y:EvF) (e:Nat) (tm:TM) (H:Heap),Zo6 x y e tm H=Ztf e (x tm) (y tm) H):=⟨@ZwT, @ZwV, @Zut, @Zfi, @ZwW, @VV, @Zuu, @Zrw, @Zuv, @ZwX, @Zuw, @Zux, @Zuy, @Zrx, @Zp7, @Zry, @Zuz, @Zl7, @Un, @Zrz, @ZCp, @ZEC, @ZzK, @ZwY, @ZzL, @Zw1, @Zw2, @ZuC, @Zw3, @Zw4, @Zw5, @Zw6, @ZuD, @Zw7, @Zw8, @ZuE, @Zw9, @ZzQ, @Zxa, @ZuF, @ZrB, @Zup, @Zus, @Zuq, @Zur, @ZwU, @Zxu, @ZrV, @Zlz, @ZzW, @Zxm, @ZzX, @ZuU, @ZrP, @Zqg, @ZrR, @Zfn, @ZcC, @ZuV, @ZrQ, @ZuX, @Zqf, @ZrU, @ZuY, @Zz0, @Zz1, @W3, @ZrC, @ZuG, @ZrD, @Zxc, @ZuH, @ZuI, @Zxd, @ZuJ, @Zqa, @Zz7, @Zqm, @Zxe, @Zxf, @VL, @Zcc, @ZrG, @Zxg, @ZdA, @Zxh, @Yo, @Zh6, @Wi, @Znp, @Zxz, @Zu0, @ZlC, @Znq, @Zqo, @Znr, @Zns, @ZlD, @Znt, @ZlE, @ZjQ, @Znu, @ZlF, @ZjR, @ZlG, @Znv, @ZrH, @ZuL, @ZrI, @ZuM, @ZrJ, @ZrK, @ZuN, @Zqd, @Zqe, @ZrT, @Zxi, @ZuP, @Zxj, @ZuQ, @ZrL, @ZuR, @ZrM, @Zxk, @ZrN, @ZuS, @Znj, @ZrS, @Zbu, @UY, @ZuT, @ZrO, @ZzY, @Zxn, @Zz2, @Zz3, @Zz4, @ZwZ, @Zp8, @Zp9, @Zox, @ZzS, @ZzF, @ZzG, @ZzH, @ZzI, @ZzJ, @UH, @VW, @Zz5, @ZI, @Y2, @ZU, @Zh3, @ZW, @Zlv, @Yd, @Znm, @Znn, @Zfp, @Zi3⟩
theorem N8G:(∀{α:Type} (f:α→α) (n:N8 α),N8.a0 (N8.u0 f n)=f (N8.a0 n))∧(∀{α:Type} (f:α→α) (n:N8 α),N8.a0 (N8.u1 f n)=N8.a0 n)∧(∀{α:Type} (f:α→α) (n:N8 α),N8.a0 (N8.u2 f n)=N8.a0 n)∧(∀{α:Type} (f:α→α) (n:N8 α),N8.a0 (N8.u3 f n)=N8.a0 n)∧(∀{α:Type} (f:α→α) (n:N8 α),N8.a0 (N8.u4 f n)=N8.a0 n)∧(∀{α:Type} (f:α→α) (n:N8 α),N8.a0 (N8.u5 f n)=N8.a0 n)∧(∀{α:Type} (f:α→α) (n:N8 α),N8.a0 (N8.u6 f n)=N8.a0 n)∧(∀{α:Type} (f:α→α) (n:N8 α),N8.a0 (N8.u7 f n)=N8.a0 n)∧(∀{α:Type} (f:α→α) (n:N8 α),N8.a1 (N8.u0 f n)=N8.a1 n)∧(∀{α:Type} (f:α→α) (n:N8 α),N8.a1 (N8.u1 f n)=f (N8.a1 n))∧(∀{α:Type} (f:α→α) (n:N8 α),N8.a1 (N8.u2 f n)=N8.a1 n)∧(∀{α:Type} (f:α→α) (n:N8 α),N8.a1 (N8.u3 f n)=N8.a1 n)∧(∀{α:Type} (f:α→α) (n:N8 α),N8.a1 (N8.u4 f n)=N8.a1 n)∧(∀{α:Type} (f:α→α) (n:N8 α),N8.a1 (N8.u5 f n)=N8.a1 n)∧(∀{α:Type} (f:α→α) (n:N8 α),N8.a1 (N8.u6 f n)=N8.a1 n)∧(∀{α:Type} (f:α→α) (n:N8 α),N8.a1 (N8.u7 f n)=N8.a1 n)∧(∀{α:Type} (f:α→α) (n:N8 α),N8.a2 (N8.u0 f n)=N8.a2 n)∧(∀{α:Type} (f:α→α) (n:N8 α),N8.a2 (N8.u1 f n)=N8.a2 n)∧(∀{α:Type} (f:α→α) (n:N8 α),N8.a2 (N8.u2 f n)=f (N8.a2 n))∧(∀{α:Type} (f:α→α) (n:N8 α),N8.a2 (N8.u3 f n)=N8.a2 n)∧(∀{α:Type} (f:α→α) (n:N8 α),N8.a2 (N8.u4 f n)=N8.a2 n)∧(∀{α:Type} (f:α→α) (n:N8 α),N8.a2 (N8.u5 f n)=N8.a2 n)∧(∀{α:Type} (f:α→α) (n:N8 α),N8.a2 (N8.u6 f n)=N8.a2 n)∧(∀{α:Type} (f:α→α) (n:N8 α),N8.a2 (N8.u7 f n)=N8.a2 n)∧(∀{α:Type} (f:α→α) (n:N8 α),N8.a3 (N8.u0 f n)=N8.a3 n)∧(∀{α:Type} (f:α→α) (n:N8 α),N8.a3 (N8.u1 f n)=N8.a3 n)∧(∀{α:Type} (f:α→α) (n:N8 α),N8.a3 (N8.u2 f n)=N8.a3 n)∧(∀{α:Type} (f:α→α) (n:N8 α),N8.a3 (N8.u3 f n)=f (N8.a3 n))∧(∀{α:Type} (f:α→α) (n:N8 α),N8.a3 (N8.u4 f n)=N8.a3 n)∧(∀{α:Type} (f:α→α) (n:N8 α),N8.a3 (N8.u5 f n)=N8.a3 n)∧(∀{α:Type} (f:α→α) (n:N8 α),N8.a3 (N8.u6 f n)=N8.a3 n)∧(∀{α:Type} (f:α→α) (n:N8 α),N8.a3 (N8.u7 f n)=N8.a3 n)∧(∀{α:Type} (f:α→α) (n:N8 α),N8.a4 (N8.u0 f n)=N8.a4 n)∧(∀{α:Type} (f:α→α) (n:N8 α),N8.a4 (N8.u1 f n)=N8.a4 n)∧(∀{α:Type} (f:α→α) (n:N8 α),N8.a4 (N8.u2 f n)=N8.a4 n)∧(∀{α:Type} (f:α→α) (n:N8 α),N8.a4 (N8.u3 f n)=N8.a4 n)∧(∀{α:Type} (f:α→α) (n:N8 α),N8.a4 (N8.u4 f n)=f (N8.a4 n))∧(∀{α:Type} (f:α→α) (n:N8 α),N8.a4 (N8.u5 f n)=N8.a4 n)∧(∀{α:Type} (f:α→α) (n:N8 α),N8.a4 (N8.u6 f n)=N8.a4 n)∧(∀{α:Type} (f:α→α) (n:N8 α),N8.a4 (N8.u7 f n)=N8.a4 n)∧(∀{α:Type} (f:α→α) (n:N8 α),N8.a5 (N8.u0 f n)=N8.a5 n)∧(∀{α:Type} (f:α→α) (n:N8 α),N8.a5 (N8.u1 f n)=N8.a5 n)∧(∀{α:Type} (f:α→α) (n:N8 α),N8.a5 (N8.u2 f n)=N8.a5 n)∧(∀{α:Type} (f:α→α) (n:N8 α),N8.a5 (N8.u3 f n)=N8.a5 n)∧(∀{α:Type} (f:α→α) (n:N8 α),N8.a5 (N8.u4 f n)=N8.a5 n)∧(∀{α:Type} (f:α→α) (n:N8 α),N8.a5 (N8.u5 f n)=f (N8.a5 n))∧(∀{α:Type} (f:α→α) (n:N8 α),N8.a5 (N8.u6 f n)=N8.a5 n)∧(∀{α:Type} (f:α→α) (n:N8 α),N8.a5 (N8.u7 f n)=N8.a5 n)∧(∀{α:Type} (f:α→α) (n:N8 α),N8.a6 (N8.u0 f n)=N8.a6 n)∧(∀{α:Type} (f:α→α) (n:N8 α),N8.a6 (N8.u1 f n)=N8.a6 n)∧(∀{α:Type} (f:α→α) (n:N8 α),N8.a6 (N8.u2 f n)=N8.a6 n)∧(∀{α:Type} (f:α→α) (n:N8 α),N8.a6 (N8.u3 f n)=N8.a6 n)∧(∀{α:Type} (f:α→α) (n:N8 α),N8.a6 (N8.u4 f n)=N8.a6 n)∧(∀{α:Type} (f:α→α) (n:N8 α),N8.a6 (N8.u5 f n)=N8.a6 n)∧(∀{α:Type} (f:α→α) (n:N8 α),N8.a6 (N8.u6 f n)=f (N8.a6 n))∧(∀{α:Type} (f:α→α) (n:N8 α),N8.a6 (N8.u7 f n)=N8.a6 n)∧(∀{α:Type} (f:α→α) (n:N8 α),N8.a7 (N8.u0 f n)=N8.a7 n)∧(∀{α:Type} (f:α→α) (n:N8 α),N8.a7 (N8.u1 f n)=N8.a7 n)∧(∀{α:Type} (f:α→α) (n:N8 α),N8.a7 (N8.u2 f n)=N8.a7 n)∧(∀{α:Type} (f:α→α) (n:N8 α),N8.a7 (N8.u3 f n)=N8.a7 n)∧(∀{α:Type} (f:α→α) (n:N8 α),N8.a7 (N8.u4 f n)=N8.a7 n)∧(∀{α:Type} (f:α→α) (n:N8 α),N8.a7 (N8.u5 f n)=N8.a7 n)∧(∀{α:Type} (f:α→α) (n:N8 α),N8.a7 (N8.u6 f n)=N8.a7 n)∧(∀{α:Type} (f:α→α) (n:N8 α),N8.a7 (N8.u7 f n)=f (N8.a7 n)):=⟨@N8.g00, @N8.g01, @N8.g02, @N8.g03, @N8.g04, @N8.g05, @N8.g06, @N8.g07, @N8.g10, @N8.g11, @N8.g12, @N8.g13, @N8.g14, @N8.g15, @N8.g16, @N8.g17, @N8.g20, @N8.g21, @N8.g22, @N8.g23, @N8.g24, @N8.g25, @N8.g26, @N8.g27, @N8.g30, @N8.g31, @N8.g32, @N8.g33, @N8.g34, @N8.g35, @N8.g36, @N8.g37, @N8.g40, @N8.g41, @N8.g42, @N8.g43, @N8.g44, @N8.g45, @N8.g46, @N8.g47, @N8.g50, @N8.g51, @N8.g52, @N8.g53, @N8.g54, @N8.g55, @N8.g56, @N8.g57, @N8.g60, @N8.g61, @N8.g62, @N8.g63, @N8.g64, @N8.g65, @N8.g66, @N8.g67, @N8.g70, @N8.g71, @N8.g72, @N8.g73, @N8.g74, @N8.g75, @N8.g76, @N8.g77⟩
end
end Go.AI
set_option maxRecDepth 100000
namespace Go.AI
open Go
noncomputable section
theorem ZCt(x:UInt8):u8V x=nI .u8 x.toNat:=rfl
theorem ZaF{j:IntKind}{a:Nat}(h:a<9223372036854775808)(H:Heap):ZhZ .i64 (nI j a) H= .val (nI .i64 a) H:=by
 show VM .i64 (.ofNat a) H=_
 rw[YV,Zc8 h];rfl
theorem Zu1{j:IntKind}{a b:Nat}(h:b<64)(H:Heap):ZuB (nI .i64 a) (nI j b) H= .val (nI .i64 (a/2^b)) H:=by
 show Zar (.ofNat (Nat.div a (Nat.pow 2 (Zes b 64)))) (fun n=>OR.val (.int .i64 n) H)=_
 have:Zes b 64=b:=by unfold Zes;rw[Zl (by omega)];rfl
 rw[QJ,this];rfl
theorem Zqp{a b:Nat}(h:a+b<18446744073709551616)(H:Heap):Zl8 (nI .u64 a) (nI .u64 b) H= .val (nI .u64 (a+b)) H:=by
 show ZS (kEq .u64 .u64) (VM .u64 (Zkv (.ofNat a) (.ofNat b)) H)=_
 rw[YM,YV,Zfk,Zbs,Z0 h];rfl
theorem Qx{a b:Nat}(h:0<b)(h2:a<18446744073709551616)(H:Heap):Zw0 (nI .u64 a) (nI .u64 b) H= .val (nI .u64 (a/b)) H:=by
 show ZS (kEq .u64 .u64) (cond (ieq (.ofNat b) (.ofNat 0)) .fail (VM .u64 (.ofNat (Nat.div a b)) H))=_
 rw[YM,ZbQ,Zc (by omega),YV,show(Int.ofNat (Nat.div a b))=Int.ofNat (a/b) from rfl,Zbs,Z0 (UZ (Nat.div_le_self a b) h2)];rfl
theorem Qy{a b:Nat}(h:0<b)(H:Heap):ZuA (nI .u64 a) (nI .u64 b) H= .val (nI .u64 (a % b)) H:=by
 show ZS (kEq .u64 .u64) (cond (ieq (.ofNat b) (.ofNat 0)) .fail (Zar (.ofNat (Nat.mod a b)) fun n=> .val (.int .u64 n) H))=_
 rw[YM,ZbQ,Zc (by omega),QJ];rfl
theorem ZlH{j:IntKind}{a:Nat}(h:a<18446744073709551616)(H:Heap):ZhZ .u64 (nI j a) H= .val (nI .u64 a) H:=by
 show VM .u64 (.ofNat a) H=_
 rw[YV,Zbs,Z0 h];rfl
theorem Zak{j:IntKind}{a b:Nat}(h:b<64)(H:Heap):ZuB (nI .u64 a) (nI j b) H= .val (nI .u64 (a/2^b)) H:=by
 show Zar (.ofNat (Nat.div a (Nat.pow 2 (Zes b 64)))) (fun n=>OR.val (.int .u64 n) H)=_
 have:Zes b 64=b:=by unfold Zes;rw[Zl (by omega)];rfl
 rw[QJ,this];rfl
theorem Zu2{j:IntKind}{a b:Nat}(h:b≤64)(H:Heap):ZrA (nI .u64 a) (nI j b) H= .val (nI .u64 (a*2^b % 18446744073709551616)) H:=by
 show VM .u64 (Zip (.ofNat a) (.ofNat (Nat.pow 2 (cond (Nat.ble b 64) b 64)))) H=_
 rw[YV,Zlt,Zbs,Zl h];rfl
theorem Vg{a b:Nat}(h:a+b<4294967296)(H:Heap):Zl8 (nI .u32 a) (nI .u32 b) H= .val (nI .u32 (a+b)) H:=by
 show ZS (kEq .u32 .u32) (VM .u32 (Zkv (.ofNat a) (.ofNat b)) H)=_
 rw[YM,YV,Zfk,Zfj,Z0 h];rfl
theorem Q2{a b:Nat}(h:a*b<4294967296)(H:Heap):ZzO (nI .u32 a) (nI .u32 b) H= .val (nI .u32 (a*b)) H:=by
 show ZS (kEq .u32 .u32) (VM .u32 (Zip (.ofNat a) (.ofNat b)) H)=_
 rw[YM,YV,Zlt,Zfj,Z0 h];rfl
theorem Q3{a b:Nat}(h:0<b)(h2:a<4294967296)(H:Heap):Zw0 (nI .u32 a) (nI .u32 b) H= .val (nI .u32 (a/b)) H:=by
 show ZS (kEq .u32 .u32) (cond (ieq (.ofNat b) (.ofNat 0)) .fail (VM .u32 (.ofNat (Nat.div a b)) H))=_
 rw[YM,ZbQ,Zc (by omega),YV,show(Int.ofNat (Nat.div a b))=Int.ofNat (a/b) from rfl,Zfj,Z0 (UZ (Nat.div_le_self a b) h2)];rfl
theorem Q4{a b:Nat}(h:0<b)(H:Heap):ZuA (nI .u32 a) (nI .u32 b) H= .val (nI .u32 (a % b)) H:=by
 show ZS (kEq .u32 .u32) (cond (ieq (.ofNat b) (.ofNat 0)) .fail (Zar (.ofNat (Nat.mod a b)) fun n=> .val (.int .u32 n) H))=_
 rw[YM,ZbQ,Zc (by omega),QJ];rfl
theorem Q5{j:IntKind}{a:Nat}(h:a<4294967296)(H:Heap):ZhZ .u32 (nI j a) H= .val (nI .u32 a) H:=by
 show VM .u32 (.ofNat a) H=_
 rw[YV,Zfj,Z0 h];rfl
theorem Zz8{a b:Nat}(h:a+b<256)(H:Heap):Zl8 (nI .u8 a) (nI .u8 b) H= .val (nI .u8 (a+b)) H:=by
 show ZS (kEq .u8 .u8) (VM .u8 (Zkv (.ofNat a) (.ofNat b)) H)=_
 rw[YM,YV,Zfk,Zh0,Z0 h];rfl
theorem Zz9{a b:Nat}(h:0<b)(H:Heap):ZuA (nI .u8 a) (nI .u8 b) H= .val (nI .u8 (a % b)) H:=by
 show ZS (kEq .u8 .u8) (cond (ieq (.ofNat b) (.ofNat 0)) .fail (Zar (.ofNat (Nat.mod a b)) fun n=> .val (.int .u8 n) H))=_
 rw[YM,ZbQ,Zc (by omega),QJ];rfl
theorem ZaG{j:IntKind}{a:Nat}(h:a<256)(H:Heap):ZhZ .u8 (nI j a) H= .val (nI .u8 a) H:=by
 show VM .u8 (.ofNat a) H=_
 rw[YV,Zh0,Z0 h];rfl
theorem ZxA{j:IntKind}{a b:Nat}(h:b<8)(H:Heap):ZuB (nI .u8 a) (nI j b) H= .val (nI .u8 (a/2^b)) H:=by
 show Zar (.ofNat (Nat.div a (Nat.pow 2 (Zes b 8)))) (fun n=>OR.val (.int .u8 n) H)=_
 have:Zes b 8=b:=by unfold Zes;rw[Zl (by omega)];rfl
 rw[QJ,this];rfl
theorem ZcD(j:IntKind)(a:Nat)(H:Heap):ZhZ .u8 (nI j a) H= .val (nI .u8 (a % 256)) H:=by
 show VM .u8 (.ofNat a) H=_
 rw[YV,Zh0];rfl
theorem Zkm(k:IntKind)(m b:Nat)(H:Heap):Zeo YR Yg (.int k (.negSucc m)) (nI k b) H= .val (.bool true) H:=by
 show ZS (kEq k k) (U0 true H)=_
 rw[YM];rfl
theorem ZoB(k:IntKind)(m b:Nat)(H:Heap):Zeo ZcG QU (nI k b) (.int k (.negSucc m)) H= .val (.bool false) H:=by
 show ZS (kEq k k) (U0 (!ilt (.negSucc m) (.ofNat b)) H)=_
 rw[YM];rfl
theorem ZCu(k:IntKind)(a b:Int)(H:Heap):eqV eqI false (.int k a) (.int k b) H= .val (.bool (decide (a=b))) H:=by
 show Uy (cond (kEq k k) (some (ieq a b)) none) (fun b=>U0 (cond false (cond b false true) b) H)=_
 rw[YM,ZbB]
 exact UG _ _
theorem Znw(n:Int):IntKind.u64.wrap n=n % 18446744073709551616:=by
 unfold IntKind.wrap
 simp[IntKind.bits,IntKind.signed]
theorem Znx{z:Int}(h1: -9223372036854775808≤z)(h2:z<9223372036854775808):IntKind.i64.wrap z=z:=by
 unfold IntKind.wrap
 simp[IntKind.bits,IntKind.signed]
 omega
theorem Zh7(k j:IntKind)(n:Int)(H:Heap):ZhZ k (.int j n) H=VM k n H:=rfl
theorem ZgY{m:Nat}(h:m<9223372036854775808)(H:Heap):ZhZ .u64 (.int .i64 (.negSucc m)) H= .val (nI .u64 (18446744073709551615 - m)) H:=by
 have e1:IntKind.u64.wrap (.negSucc m)=Int.ofNat (18446744073709551615 - m):=by
  rw[Int.negSucc_eq,Znw,Yi]
  omega
 rw[Zh7,YV,e1];unfold nI;rfl
theorem ZlI{u:Nat}(h0:0<u)(h:u<18446744073709551616)(H:Heap):ZzM (nI .u64 u) H= .val (nI .u64 (18446744073709551616 - u)) H:=by
 show VM .u64 (Zio 0 (.ofNat u)) H=_
 rw[YV]
 congr 2
 have e:Zio 0 (.ofNat u)= -(u:Int):=by
  show cond (Nat.ble u 0) (Int.ofNat (Nat.sub 0 u)) (Int.ofNat 0 - Int.ofNat u)=_
  cases hb:Nat.ble u 0 with
  |true=>have:=ZO hb;omega
  |false=>show(0:Int) - u=_;omega
 rw[e,Znw,Yi]
 omega
theorem Zi7{s:List UInt8}{p q:Nat}(h1:p≤q)(h2:q≤s.length)(k j:IntKind)(H:Heap):Zoz (.str s) (some (nI k p)) (some (nI j q)) H= .val (.str ((s.take q).drop p)) H:=by
 show ZS (Nat.ble q (Yt s)) (ZS (Nat.ble p q) (OR.val (.str (Zg6 p (Zeu q s))) H))=_
 rw[Yr,Zl h2,Zl h1,Zc0,Zhw];rfl
theorem Ya{s:List UInt8}{p:Nat}(h1:p≤s.length)(k:IntKind)(H:Heap):Zoz (.str s) (some (nI k p)) none H= .val (.str (s.drop p)) H:=by
 show ZS (Nat.ble p (Yt s)) (OR.val (.str (Zg6 p (Zeu (Yt s) s))) H)=_
 rw[Yr,Zl h1,Zc0,Zhw,QC];rfl
theorem QM{s:List UInt8}{i:Nat}(h:i<s.length)(k:IntKind)(H:Heap):ZdB (.str s) (nI k i) H= .val (nI .u8 (s.getD i 0).toNat) H:=ZgX h k H
section
variable (f:OpF) (os:List (ZE×EvF)) (dst:ZE) (i bef:Nat) (nx:PK) (rs:List RD) (tm:TM) (H:Heap) (x:X) (g:Option (EvF×Bool)) (kd:Zgo) (v:AV)
theorem Zd{m:Nat}(h:H.nx=m):Zex ⟨f,g,os,dst,kd,i,bef⟩ nx rs tm H x (.val v ⟨m, .leaf,m⟩)=nx rs (dst tm v) H x:=by subst h;exact ZuO ..
theorem Ze{m:Nat}(h:H.nx=m)(t:T Obj)(k:Nat):Zha ⟨f,g,os,dst,kd,i,bef⟩ nx rs tm H x (.val v ⟨m,t,k⟩)=nx (⟨⟨f,g,os,dst,kd,i,bef⟩,v⟩::rs) (dst tm v) H x:=by
 subst h
 show cond (Nat.beq H.nx H.nx) _ _=_
 rw[Yc];rfl
theorem Zf{m:Nat}(h:H.nx=m)(o:Obj)(hw:wrO o=true):Zex ⟨f,g,os,dst,kd,i,bef⟩ nx rs tm H x (.val v ((⟨m, .leaf,m⟩:Heap).new o))=nx rs (dst tm v) (H.new o) x:=by subst h;exact ZuW _ _ _ _ _ _ _ _ _ _ _ _ _ _ hw
end
theorem ZxB(e sz:Nat)(l:List AV)(fz:Nat)(sm ex:Bool):wrO (rG e sz l fz sm true ex)=true:=rfl
def Row.st(r:Row)(o:Nat)(v:AV):Row:=r.setCells (r.cells.set o v)
theorem Row.st_size(r:Row)(o:Nat)(v:AV):(r.st o v).size=r.size:=rfl
theorem Row.st_own(r:Row)(o:Nat)(v:AV):(r.st o v).own=r.own:=rfl
theorem Row.st_fz(r:Row)(o:Nat)(v:AV):(r.st o v).fz=r.fz:=rfl
theorem Row.st_get(r:Row)(o:Nat)(v:AV)(i:Nat):(r.st o v).get i=if o=i then v else r.get i:=by
 rw[Row.get_eq,Row.get_eq]
 show((r.cells.set o v).get i).getD r.dflt=_
 rw[T.get_set]
 split<;>rfl
theorem Zkn{r:Row}{o:Nat}(h:o<r.size)(H:Heap):ld1 (some (.row r)) o H= .val (r.get o) H:=by
 show ZS (Nat.ble (Nat.succ o) r.size) (.val (r.get o) H)=_
 rw[Zl (show Nat.succ o≤r.size from h)];rfl
theorem QN{r:Row}{b o:Nat}{v:AV}{H:Heap}(hv:v.cells=[v])(ho:o<r.size)(how:r.own=true)(hro:H.ro≤b)(hfz:r.fz≤o):stN 1 (some (.row r)) b o v H= .val Yx (H.put b (.row (r.st o v))):=by
 show ZS (Nat.ble 1 1) (ZS (cond r.own (Nat.ble H.ro b) false) (ZS (Nat.ble (o+1) r.size) (ZS (Nat.ble r.fz o) (ZS (Nat.beq (Yt v.cells) 1) (.val Yx (H.put b (.row (r.setCells (Wn r.cells o v.cells)))))))))=_
 rw[how,cond_true,Zl hro,Zl (show o+1≤r.size from ho),Zl hfz,hv];rfl
def ZlJ(a:AV)(H:Heap):OR:=V7 a (.val (.str []) H) fun b o n _=>cond (Nat.beq n 0) (.val (.str []) H) (YH H b fun r=>ZS (Nat.ble (Nat.add o n) r.size) (Q6 (fun s=> .val (.str s) H) (loadN r o n)))
theorem Zko(x:EvF)(tm:TM)(H:Heap):Zky x tm H=ZlJ (x tm) H:=rfl
theorem ZlK{H:Heap}{b o n:Nat}{c:Option Nat}{r:Row}{l:List UInt8}(hr:H.t.get b=some (.row r))(hl:l.length=n)(hf:o+n≤r.size)(hg: ∀i,i<n→r.get (o+i)=u8V (l.getD i 0)):ZlJ (.slice b o n c) H= .val (.str l) H:=by
 subst hl
 by_cases h0:l.length=0
 ·have:l=[]:=List.length_eq_zero_iff.1 h0
  subst this;rfl
 ·show cond (Nat.beq l.length 0) _ (YH H b _)=_
  rw[Ye,Zc h0]
  show YH H b _=_
  unfold YH
  rw[hr]
  show ZS (Nat.ble (o+l.length) r.size) (Q6 _ (loadN r o l.length))=_
  have:loadN r o l.length=l.map u8V:=by
   refine List.ext_getElem? fun i=>?_
   by_cases hi:i<l.length
   ·rw[UD r l.length o i hi,hg i hi,YT,Zp hi,Zj,Zp hi];rfl
   ·rw[Yp (by rw[Um];omega),Yp (by rw[ZA];omega)]
  rw[Zl hf,this,ZdC];rfl
end
end Go.AI
set_option maxRecDepth 100000
namespace Go.AI
open Go
noncomputable section
def ZoC(e:Nat)(a:AV)(H:Heap):OR:=ZbF a fun s=> .val (.slice H.nx 0 (Yt s) none) (H.new (.row ⟨e,1,Yt s,T.ofList (Zg5 s), .unk,0,true,true,false⟩))
theorem Zu3(x:EvF)(e:Nat)(tm:TM)(H:Heap):Zet x e tm H=ZoC e (x tm) H:=rfl
theorem Zr2(e:Nat)(s:List UInt8)(H:Heap):ZoC e (.str s) H= .val (.slice H.nx 0 s.length none) (H.new (rG e 1 (s.map u8V) 0 true true false)):=by
 show OR.val (.slice H.nx 0 (Yt s) none) (H.new (.row ⟨e,1,Yt s,T.ofList (Zg5 s), .unk,0,true,true,false⟩))=_
 have:Zg5 s=s.map u8V:=by rw[Zki];rfl
 unfold rG
 rw[this,Yr,Yr,ZA]
theorem Zu4(x:EvF)(t:Nat)(tm:TM)(H:Heap):Wb x t tm H= .val (.iface t (x tm)) H:=rfl
theorem ZxC(f:Nat)(a b:List EvF)(tm:TM)(H:Heap):Zcm f a b tm H= .val (.func f (evs tm a) (evs tm b)) H:=rfl
def Zqq(P:Program)(a:AV)(args:List AV)(H:Heap):OR:=match a with
 | .func f x y=> .oth (.call f (x++(args++y)) H)
 | .meth n r=>Zat r .fail fun u v=>Zg7 P n u fun g=> .oth (.call g (v::args) H)
 | .yield b=> .oth (.yield b args H)
 |_=> .fail
theorem ZxD(x:EvF)(P:Program)(args:List EvF)(tm:TM)(H:Heap):Zav x P args tm H=Zqq P (x tm) (evs tm args) H:=rfl
theorem Zr3(P:Program)(f:Nat)(x y args:List AV)(H:Heap):Zqq P (.func f x y) args H= .oth (.call f (x++(args++y)) H):=rfl
theorem ZCv(lit:Bool)(g:Nat→AV→AV→Option Bool)(neg:Bool)(t:Nat)(v:AV)(H:Heap):eqV (eqF lit g) neg (.iface t v) .nili H= .val (.bool neg) H:=by cases neg<;>rfl
theorem ZCw(g:Nat→AV→AV→Option Bool)(neg:Bool)(H:Heap):eqV (eqF true g) neg .nili .nili H= .val (.bool (!neg)) H:=by cases neg<;>rfl
def ZAa(neg:Bool)(r:Option Bool)(H:Heap):OR:=match r with|some b=> .val (.bool (cond neg (!b) b)) H|none=> .fail
theorem Zu5(neg b:Bool)(H:Heap):ZAa neg (some b) H= .val (.bool (cond neg (!b) b)) H:=rfl
theorem ZCx(lit:Bool)(g:Nat→AV→AV→Option Bool)(neg:Bool)(t:Nat)(v w:AV)(H:Heap):eqV (eqF lit g) neg (.iface t v) (.iface t w) H=ZAa neg (g t v w) H:=by
 show Uy (cond (Nat.beq t t) (g t v w) (some false)) _=_
 rw[Yc,cond_true]
 cases g t v w with
 |none=>rfl
 |some b=>
  show U0 (cond neg (cond b false true) b) H=_
  rw[UG];cases neg<;>cases b<;>rfl
theorem ZxE(n:Nat):Zan n []=true:=rfl
theorem Zu6(n:Nat)(v:AV)(l:List AV):Zan n (v::l)=cond (YA n v) (Zan n l) false:=rfl
theorem Zr4(n t:Nat)(v:AV):YA n (.iface t v)=YA n v:=rfl
theorem ZxF(n:Nat)(l:List AV):YA n (.tup l)=Zan n l:=rfl
theorem Zr5(b o n:Nat)(t:T Obj):Vk (.val (.ptr b o) ⟨n,t,n⟩) (.ptr b o) n=true:=V6 _ _ _ (by unfold same;rw[Yc,Yc];rfl)
theorem Zu7(n:Nat):YA n .nili=true:=rfl
theorem Zu8(n:Nat):YA n .nils=true:=rfl
theorem ZxG(n:Nat)(k:IntKind)(z:Int):YA n (.int k z)=true:=rfl
def ZdF(t:Nat)(zv:AV)(ok:Bool)(a:AV)(H:Heap):OR:=Zat a (QV zv ok H none) fun u v=>QV zv ok H (cond (Nat.beq u t) (some v) none)
theorem Zr6(x:EvF)(t:Nat)(zv:AV)(ok:Bool)(tm:TM)(H:Heap):Zau x t zv ok tm H=ZdF t zv ok (x tm) H:=rfl
theorem Zr7(t:Nat)(zv:AV)(H:Heap):ZdF t zv true .nili H= .val (.tup [zv, .bool false]) H:=rfl
theorem Zr8(t:Nat)(zv v:AV)(H:Heap):ZdF t zv true (.iface t v) H= .val (.tup [v, .bool true]) H:=by
 show QV zv true H (cond (Nat.beq t t) (some v) none)=_
 rw[Yc];rfl
def ZAb(a:AV)(H:Heap):OR:=Zat a .fail fun _ _=> .oth (.pan a H)
theorem Zu9(x:EvF)(tm:TM)(H:Heap):Zbx x tm H=ZAb (x tm) H:=rfl
theorem ZAc(t:Nat)(v:AV)(H:Heap):ZAb (.iface t v) H= .oth (.pan (.iface t v) H):=rfl
theorem ZxH(next:TM→Heap→X→Res)(dst:ZE)(c:Ctx)(tm:TM)(H:Heap)(x:X)(v:AV)(H':Heap):ZaT next dst c tm H x (.oth (.pan v H'))= .ok (.pan v) tm H' x:=rfl
theorem ZxI(next:TM→Heap→X→Res)(dst:ZE)(tm:TM)(x:X)(v:AV)(H:Heap):ZjZ next dst tm x (.pan v H)= .ok (.pan v) tm H x:=rfl
theorem Zva(v:AV)(tm:TM)(H:Heap)(x:X)(k:TM→Heap→X→Res):ZaP (.ok (.pan v) tm H x) k= .ok (.pan v) tm H x:=rfl
theorem Zr9(i:Nat)(v:AV)(tm:TM)(H:Heap)(x:X):Zaw i (.ok (.pan v) tm H x)= .ok (.pan v) tm H x:=rfl
theorem ZxJ(dc:Option AV→Nat→List AV→Heap→DR)(rs:List (EvF×Option (Nat×Bool)))(v:AV)(tm:TM)(H:Heap)(rc:Option AV):Zdk dc rs (.ok (.pan v) tm H ⟨[],rc⟩)= .pan v H:=rfl
theorem ZxK(ds:List ZE)(p:PI)(nx:PK)(rs:List RD)(tm:TM)(x:X)(v:AV)(H:Heap):ZkB ds p nx rs tm x (.pan v H)= .ok (.pan v) (Zax tm ds) H x:=rfl
def Zqr(H:Heap)(vs:List AV):CR:=match vs with|[v]=> .ret v H|vs=> .ret (.tup vs) H
theorem Zqs(rs:List (EvF×Option (Nat×Bool)))(tm:TM)(H:Heap):results rs tm H=ZbH tm H (Zqr H) rs:=rfl
theorem ZCy(H:Heap)(v:AV):Zqr H [v]= .ret v H:=rfl
theorem ZCz(H:Heap):Zqr H []= .ret (.tup []) H:=rfl
theorem ZCA(H:Heap)(v w:AV)(l:List AV):Zqr H (v::w::l)= .ret (.tup (v::w::l)) H:=rfl
theorem Zvb(tm:TM)(H:Heap)(k:List AV→CR):ZbH tm H k []=k []:=rfl
def rV(n:Nat)(ag:Bool)(o:Option Obj)(off:Nat)(k:AV→CR):CR:=match o with
 |some (.row r)=>cond (Nat.ble (Nat.add off n) r.size) (cond ag (k (.agg (loadN r off n))) (k (r.get off))) .fail
 |_=> .fail
def ZAd(H:Heap)(a:AV)(n:Nat)(ag:Bool)(k:AV→CR):CR:=match a with
 | .ptr b o=>rV n ag (H.t.get b) o k
 |_=> .fail
theorem ZxL(H:Heap)(b o n:Nat)(ag:Bool)(k:AV→CR):ZAd H (.ptr b o) n ag k=rV n ag (H.t.get b) o k:=rfl
theorem Zsa(f:EvF)(tm:TM)(H:Heap)(k:List AV→CR)(l:List (EvF×Option (Nat×Bool))):ZbH tm H k ((f,none)::l)=ZbH tm H (fun vs=>k (f tm::vs)) l:=rfl
theorem Zsb(f:EvF)(n:Nat)(ag:Bool)(tm:TM)(H:Heap)(k:List AV→CR)(l:List (EvF×Option (Nat×Bool))):ZbH tm H k ((f,some (n,ag))::l)=ZAd H (f tm) n ag (fun v=>ZbH tm H (fun vs=>k (v::vs)) l):=rfl
theorem ZaH{n e sz:Nat}{l:List AV}{fz:Nat}{sm own ex:Bool}(hn:l.length=n)(k:AV→CR):rV n true (some (rG e sz l fz sm own ex)) 0 k=k (.agg l):=by
 subst hn
 show cond (Nat.ble (0+l.length) (Yt l)) (k (.agg (loadN ⟨e,sz,Yt l,T.ofList l, .unk,fz,sm,own,ex⟩ 0 l.length))) .fail=_
 rw[(Zql e sz l fz sm own ex).load (by omega),Yl,QC,Yr,Zi,Zl (Zk _)];rfl
theorem Zvc(x:EvF)(args:List EvF)(tm:TM)(H:Heap):Zix x args tm H= .oth (.defer (x tm) (evs tm args)):=rfl
theorem Zqt(tm:TM)(H:Heap):Zg8 tm H= .oth .recov:=rfl
theorem Zsc(next:TM→Heap→X→Res)(dst:ZE)(cl y rg fu)(tm:TM)(H:Heap)(x:X)(f:Nat)(a b args:List AV):ZaT next dst ⟨cl,y,rg,fu,false⟩ tm H x (.oth (.defer (.func f a b) args))=next (dst tm Yx) H ⟨(.func f a b,args)::x.df,x.rc⟩:=rfl
theorem Zqu(next:TM→Heap→X→Res)(dst:ZE)(cl y rg fu)(tm:TM)(H:Heap)(df:List (AV×List AV)):ZaT next dst ⟨cl,y,rg,fu,false⟩ tm H ⟨df,none⟩ (.oth .recov)=next (dst tm .nili) H ⟨df,none⟩:=rfl
theorem Zqv(next:TM→Heap→X→Res)(dst:ZE)(cl y rg fu)(tm:TM)(H:Heap)(df:List (AV×List AV))(v:AV):ZaT next dst ⟨cl,y,rg,fu,false⟩ tm H ⟨df,some v⟩ (.oth .recov)=next (dst tm v) H ⟨df,none⟩:=rfl
theorem Zvd(dc:Option AV→Nat→List AV→Heap→DR)(rs:List (EvF×Option (Nat×Bool)))(tm:TM)(H:Heap)(d:AV×List AV)(l:List (AV×List AV))(rc:Option AV):Zdk dc rs (.ok .ret tm H ⟨d::l,rc⟩)=deferred dc rs tm (d::l) none H:=rfl
theorem Zve(dc:Option AV→Nat→List AV→Heap→DR)(rs:List (EvF×Option (Nat×Bool)))(v:AV)(tm:TM)(H:Heap)(d:AV×List AV)(l:List (AV×List AV))(rc:Option AV):Zdk dc rs (.ok (.pan v) tm H ⟨d::l,rc⟩)=deferred dc rs tm (d::l) (some v) H:=rfl
def ZlL(dc:Option AV→Nat→List AV→Heap→DR)(rs:List (EvF×Option (Nat×Bool)))(tm:TM)(l:List (AV×List AV))(pn:Option AV)(r:DR):CR:=match r with
 | .ret _ H rec=>deferred dc rs tm l (cond rec none pn) H
 |_=> .fail
theorem Zma(dc:Option AV→Nat→List AV→Heap→DR)(rs:List (EvF×Option (Nat×Bool)))(tm:TM)(g:Nat)(a b args:List AV)(l:List (AV×List AV))(pn:Option AV)(H:Heap):deferred dc rs tm ((.func g a b,args)::l) pn H=ZlL dc rs tm l pn (dc pn g (a++(args++b)) H):=by
 show(match dc pn g (a++(args++b)) H with| .ret _ H rec=>deferred dc rs tm l (cond rec none pn) H|_=> .fail)=_
 unfold ZlL
 cases dc pn g (a++(args++b)) H<;>rfl
theorem Zsd(dc:Option AV→Nat→List AV→Heap→DR)(rs:List (EvF×Option (Nat×Bool)))(tm:TM)(l:List (AV×List AV))(pn:Option AV)(v:AV)(H:Heap)(rec:Bool):ZlL dc rs tm l pn (.ret v H rec)=deferred dc rs tm l (cond rec none pn) H:=rfl
theorem ZoD(dc:Option AV→Nat→List AV→Heap→DR)(rs:List (EvF×Option (Nat×Bool)))(tm:TM)(H:Heap):deferred dc rs tm [] none H=results rs tm H:=rfl
theorem ZoE(dc:Option AV→Nat→List AV→Heap→DR)(rs:List (EvF×Option (Nat×Bool)))(tm:TM)(v:AV)(H:Heap):deferred dc rs tm [] (some v) H= .pan v H:=rfl
def ZE5{α β:Type}(o:Option α)(d:β)(k:α→β):β:=match o with|some x=>k x|none=>d
theorem Zvf{α β:Type}(x:α)(d:β)(k:α→β):ZE5 (some x) d k=k x:=rfl
def Zse(rc:Option AV)(x:X)(r:CR):DR:=match r with| .ret v H=> .ret v H (ZcN rc x)|_=> .fail
theorem ZxM(rc:Option AV)(x:X)(v:AV)(H:Heap):Zse rc x (.ret v H)= .ret v H (ZcN rc x):=rfl
theorem ZjS(rc:Option AV)(rs:List (EvF×Option (Nat×Bool)))(tm:TM)(H:Heap)(q:Option AV):Ziz rc rs (.ok .normal tm H ⟨[],q⟩)=Zse rc ⟨[],q⟩ (results rs tm H):=by
 show(match([]:List (AV×List AV)),results rs tm H with|[], .ret v H=>DR.ret v H (ZcN rc ⟨[],q⟩)|_,_=> .fail)=_
 unfold Zse
 cases results rs tm H<;>rfl
theorem ZxN(rc:Option AV)(rs:List (EvF×Option (Nat×Bool)))(tm:TM)(H:Heap)(q:Option AV):Ziz rc rs (.ok .ret tm H ⟨[],q⟩)=Zse rc ⟨[],q⟩ (results rs tm H):=ZjS rc rs tm H q
theorem ZxO(rc:Option AV)(rs:List (EvF×Option (Nat×Bool)))(v:AV)(tm:TM)(H:Heap)(q:Option AV):Ziz rc rs (.ok (.pan v) tm H ⟨[],q⟩)= .pan v H (ZcN rc ⟨[],q⟩):=rfl
theorem ZCB(v:AV)(l:List (AV×List AV)):ZcN (some v) ⟨l,none⟩=true:=rfl
theorem ZCC(x:X):ZcN none x=false:=rfl
theorem Zkp(a b c d e:AV):UN [a,b,c,d,e]=st4 (st3 (st2 (st1 (st0 tm0 a) b) c) d) e:=rfl
theorem Zvg(k:List AV→OR)(cells:List AV):Zcd k [] cells=k cells:=rfl
theorem Zsf(k:List AV→OR)(o n:Nat)(v:AV)(ps:List (Nat×Nat×AV))(cells:List AV):Zcd k ((o,n,v)::ps) cells=ZS (Nat.ble 1 n) (ZS (Nat.beq (Yt v.cells) n) (ZS (Nat.ble (Nat.add o n) (Yt cells)) (Zcd k ps (ZbG o cells++(v.cells++Zbh (Nat.add o n) cells))))):=rfl
theorem ZxP{cells l:List AV}{o:Nat}(h:o+l.length≤cells.length):ZbG o cells++(l++Zbh (Nat.add o l.length) cells)=lay cells o l:=by
 rw[ZrY cells o l h]
 have h1:ZbG o cells=cells.take o:=ZcY ..
 have h2:Zbh (o+l.length) cells=cells.drop (o+l.length):=ZcZ ..
 rw[h1]
 show _++(_++Zbh (o+l.length) cells)=_
 rw[h2]
theorem Zsg{k:List AV→OR}{o n:Nat}{v:AV}{l:List AV}{ps:List (Nat×Nat×AV)}{cells:List AV}(hv:v.cells=l)(hl:l.length=n)(hn:1≤n)(h:o+n≤cells.length):Zcd k ((o,n,v)::ps) cells=Zcd k ps (lay cells o l):=by
 subst hv;subst hl
 rw[Zsf,Zl hn,Yr,Yc,Yr,Zl (show Nat.add o v.cells.length≤cells.length from h),ZxP h];rfl
theorem Zvh{k:List AV→OR}{o:Nat}{v:AV}{ps:List (Nat×Nat×AV)}{cells:List AV}(hv:v.cells=[v])(h:o<cells.length):Zcd k ((o,1,v)::ps) cells=Zcd k ps (cells.set o v):=Zsg hv rfl (Zk 1) h
theorem ZdG(l:List AV)(o:Nat):lay l o []=l:=rfl
theorem Zcf(l:List AV)(o:Nat)(v:AV)(vs:List AV):lay l o (v::vs)=lay (l.set o v) (o+1) vs:=rfl
theorem Zqw(z:AV)(zs:List AV)(ps:List (Nat×Nat×AV))(H:Heap):ZcL (z::zs) ps H=Zcd (fun cs=> .val (.agg cs) H) ps (z::zs):=by
 show ZS (Nat.ble 1 (Yt (z::zs))) _=_
 rw[Yr,Zl (by simp)];rfl
end
end Go.AI
namespace Go.AI
open Go
noncomputable section
theorem Zr:(∀(x:EvF) (args:List EvF) (tm:TM) (H:Heap),Zix x args tm H= .oth (.defer (x tm) (evs tm args)))∧
 (∀(tm:TM) (H:Heap),Zg8 tm H= .oth .recov)∧
 (∀(next:TM→Heap→X→Res) (dst:ZE) (cl y rg fu) (tm:TM) (H:Heap) (x:X) (f:Nat) (a b args:List AV),ZaT next dst ⟨cl,y,rg,fu,false⟩ tm H x (.oth (.defer (.func f a b) args))=next (dst tm Yx) H ⟨(.func f a b,args)::x.df,x.rc⟩)∧
 (∀(next:TM→Heap→X→Res) (dst:ZE) (cl y rg fu) (tm:TM) (H:Heap) (df:List (AV×List AV)),ZaT next dst ⟨cl,y,rg,fu,false⟩ tm H ⟨df,none⟩ (.oth .recov)=next (dst tm .nili) H ⟨df,none⟩)∧
 (∀(next:TM→Heap→X→Res) (dst:ZE) (cl y rg fu) (tm:TM) (H:Heap) (df:List (AV×List AV)) (v:AV),ZaT next dst ⟨cl,y,rg,fu,false⟩ tm H ⟨df,some v⟩ (.oth .recov)=next (dst tm v) H ⟨df,none⟩)∧
 (∀(dc:Option AV→Nat→List AV→Heap→DR) (rs:List (EvF×Option (Nat×Bool))) (tm:TM) (H:Heap) (d:AV×List AV) (l:List (AV×List AV)) (rc:Option AV),Zdk dc rs (.ok .ret tm H ⟨d::l,rc⟩)=deferred dc rs tm (d::l) none H)∧
 (∀(dc:Option AV→Nat→List AV→Heap→DR) (rs:List (EvF×Option (Nat×Bool))) (v:AV) (tm:TM) (H:Heap) (d:AV×List AV) (l:List (AV×List AV)) (rc:Option AV),Zdk dc rs (.ok (.pan v) tm H ⟨d::l,rc⟩)=deferred dc rs tm (d::l) (some v) H)∧
 (∀(dc:Option AV→Nat→List AV→Heap→DR) (rs:List (EvF×Option (Nat×Bool))) (tm:TM) (g:Nat) (a b args:List AV) (l:List (AV×List AV)) (pn:Option AV) (H:Heap),deferred dc rs tm ((.func g a b,args)::l) pn H=ZlL dc rs tm l pn (dc pn g (a++(args++b)) H))∧
 (∀(dc:Option AV→Nat→List AV→Heap→DR) (rs:List (EvF×Option (Nat×Bool))) (tm:TM) (l:List (AV×List AV)) (pn:Option AV) (v:AV) (H:Heap) (rec:Bool),ZlL dc rs tm l pn (.ret v H rec)=deferred dc rs tm l (cond rec none pn) H)∧
 (∀(dc:Option AV→Nat→List AV→Heap→DR) (rs:List (EvF×Option (Nat×Bool))) (tm:TM) (H:Heap),deferred dc rs tm [] none H=results rs tm H)∧
 (∀(dc:Option AV→Nat→List AV→Heap→DR) (rs:List (EvF×Option (Nat×Bool))) (tm:TM) (v:AV) (H:Heap),deferred dc rs tm [] (some v) H= .pan v H)∧
 (∀{α β:Type} (x:α) (d:β) (k:α→β),ZE5 (some x) d k=k x)∧
 (∀(rc:Option AV) (x:X) (v:AV) (H:Heap),Zse rc x (.ret v H)= .ret v H (ZcN rc x))∧
 (∀(rc:Option AV) (rs:List (EvF×Option (Nat×Bool))) (tm:TM) (H:Heap) (q:Option AV),Ziz rc rs (.ok .normal tm H ⟨[],q⟩)=Zse rc ⟨[],q⟩ (results rs tm H))∧
 (∀(rc:Option AV) (rs:List (EvF×Option (Nat×Bool))) (tm:TM) (H:Heap) (q:Option AV),Ziz rc rs (.ok .ret tm H ⟨[],q⟩)=Zse rc ⟨[],q⟩ (results rs tm H))∧
 (∀(rc:Option AV) (rs:List (EvF×Option (Nat×Bool))) (v:AV) (tm:TM) (H:Heap) (q:Option AV),Ziz rc rs (.ok (.pan v) tm H ⟨[],q⟩)= .pan v H (ZcN rc ⟨[],q⟩))∧
 (∀(v:AV) (l:List (AV×List AV)),ZcN (some v) ⟨l,none⟩=true)∧
 (∀(x:X),ZcN none x=false)∧
 (∀{a:AV} (h:a.cells=[a]) (e:Nat) (H:Heap),Zr0 e a H= .val (.ptr H.nx 0) (H.new (rG e 1 [a] 0 false true true)))∧
 (∀{l:List AV} (h1:1≤l.length) (e:Nat) (H:Heap),Zr0 e (.agg l) H= .val (.ptr H.nx 0) (H.new (rG e 1 l 0 false true true)))∧
 (∀{b c:Nat} (h: ¬b=c) (H:Heap) (o:Obj),(H.put b o).t.get c=H.t.get c)∧
 (∀{H:Heap} {c:Nat} (h: ¬H.nx=c) (o:Obj),(H.new o).t.get c=H.t.get c)∧
 (∀{H:Heap} {c:Nat} (h:H.nx=c) (o:Obj),(H.new o).t.get c=some o)∧
 (∀{H:Heap} {b:Nat} (h:H.nx=b) (o o':Obj),(H.new o).put b o'=H.new o')∧
 (∀(neg b:Bool) (H:Heap),ZAa neg (some b) H= .val (.bool (cond neg (!b) b)) H)∧
 (∀(lit:Bool) (g:Nat→AV→AV→Option Bool) (neg:Bool) (t:Nat) (v w:AV) (H:Heap),eqV (eqF lit g) neg (.iface t v) (.iface t w) H=ZAa neg (g t v w) H)∧
 (∀(n:Nat),Zan n []=true)∧
 (∀(n:Nat) (v:AV) (l:List AV),Zan n (v::l)=cond (YA n v) (Zan n l) false)∧
 (∀(n t:Nat) (v:AV),YA n (.iface t v)=YA n v)∧
 (∀(n:Nat) (l:List AV),YA n (.tup l)=Zan n l)∧
 (∀(b o n:Nat) (t:T Obj),Vk (.val (.ptr b o) ⟨n,t,n⟩) (.ptr b o) n=true)∧
 (∀(n:Nat),YA n .nili=true)∧
 (∀(n:Nat),YA n .nils=true)∧
 (∀(n:Nat) (k:IntKind) (z:Int),YA n (.int k z)=true)∧
 (∀(k:List AV→OR) (cells:List AV),Zcd k [] cells=k cells)∧
 (∀{k:List AV→OR} {o:Nat} {v:AV} {ps:List (Nat×Nat×AV)} {cells:List AV} (hv:v.cells=[v]) (h:o<cells.length),Zcd k ((o,1,v)::ps) cells=Zcd k ps (cells.set o v))∧
 (∀(z:AV) (zs:List AV) (ps:List (Nat×Nat×AV)) (H:Heap),ZcL (z::zs) ps H=Zcd (fun cs=> .val (.agg cs) H) ps (z::zs))∧
 (∀(e sz:Nat) (l:List AV) (fz:Nat) (sm ex:Bool),wrO (rG e sz l fz sm true ex)=true)∧
 (∀(x:EvF) (e:Nat) (tm:TM) (H:Heap),Zet x e tm H=ZoC e (x tm) H)∧
 (∀(e:Nat) (s:List UInt8) (H:Heap),ZoC e (.str s) H= .val (.slice H.nx 0 s.length none) (H.new (rG e 1 (s.map u8V) 0 true true false)))∧
 (∀(x:EvF) (t:Nat) (tm:TM) (H:Heap),Wb x t tm H= .val (.iface t (x tm)) H)∧
 (∀(f:Nat) (a b:List EvF) (tm:TM) (H:Heap),Zcm f a b tm H= .val (.func f (evs tm a) (evs tm b)) H)∧
 (∀(x:EvF) (P:Program) (args:List EvF) (tm:TM) (H:Heap),Zav x P args tm H=Zqq P (x tm) (evs tm args) H)∧
 (∀(P:Program) (f:Nat) (x y args:List AV) (H:Heap),Zqq P (.func f x y) args H= .oth (.call f (x++(args++y)) H))∧
 (∀(lit:Bool) (g:Nat→AV→AV→Option Bool) (neg:Bool) (t:Nat) (v:AV) (H:Heap),eqV (eqF lit g) neg (.iface t v) .nili H= .val (.bool neg) H)∧
 (∀(g:Nat→AV→AV→Option Bool) (neg:Bool) (H:Heap),eqV (eqF true g) neg .nili .nili H= .val (.bool (!neg)) H)∧
 (∀(x:EvF) (t:Nat) (zv:AV) (ok:Bool) (tm:TM) (H:Heap),Zau x t zv ok tm H=ZdF t zv ok (x tm) H)∧
 (∀(t:Nat) (zv:AV) (H:Heap),ZdF t zv true .nili H= .val (.tup [zv, .bool false]) H)∧
 (∀(t:Nat) (zv v:AV) (H:Heap),ZdF t zv true (.iface t v) H= .val (.tup [v, .bool true]) H)∧
 (∀(x:EvF) (tm:TM) (H:Heap),Zbx x tm H=ZAb (x tm) H)∧
 (∀(t:Nat) (v:AV) (H:Heap),ZAb (.iface t v) H= .oth (.pan (.iface t v) H))∧
 (∀(next:TM→Heap→X→Res) (dst:ZE) (c:Ctx) (tm:TM) (H:Heap) (x:X) (v:AV) (H':Heap),ZaT next dst c tm H x (.oth (.pan v H'))= .ok (.pan v) tm H' x)∧
 (∀(next:TM→Heap→X→Res) (dst:ZE) (tm:TM) (x:X) (v:AV) (H:Heap),ZjZ next dst tm x (.pan v H)= .ok (.pan v) tm H x)∧
 (∀(v:AV) (tm:TM) (H:Heap) (x:X) (k:TM→Heap→X→Res),ZaP (.ok (.pan v) tm H x) k= .ok (.pan v) tm H x)∧
 (∀(i:Nat) (v:AV) (tm:TM) (H:Heap) (x:X),Zaw i (.ok (.pan v) tm H x)= .ok (.pan v) tm H x)∧
 (∀(dc:Option AV→Nat→List AV→Heap→DR) (rs:List (EvF×Option (Nat×Bool))) (v:AV) (tm:TM) (H:Heap) (rc:Option AV),Zdk dc rs (.ok (.pan v) tm H ⟨[],rc⟩)= .pan v H)∧
 (∀(ds:List ZE) (p:PI) (nx:PK) (rs:List RD) (tm:TM) (x:X) (v:AV) (H:Heap),ZkB ds p nx rs tm x (.pan v H)= .ok (.pan v) (Zax tm ds) H x)∧
 (∀(rs:List (EvF×Option (Nat×Bool))) (tm:TM) (H:Heap),results rs tm H=ZbH tm H (Zqr H) rs)∧
 (∀(H:Heap) (v:AV),Zqr H [v]= .ret v H)∧
 (∀(H:Heap),Zqr H []= .ret (.tup []) H)∧
 (∀(H:Heap) (v w:AV) (l:List AV),Zqr H (v::w::l)= .ret (.tup (v::w::l)) H)∧
 (∀(tm:TM) (H:Heap) (k:List AV→CR),ZbH tm H k []=k [])∧
 (∀(f:EvF) (tm:TM) (H:Heap) (k:List AV→CR) (l:List (EvF×Option (Nat×Bool))),ZbH tm H k ((f,none)::l)=ZbH tm H (fun vs=>k (f tm::vs)) l)∧
 (∀(f:EvF) (n:Nat) (ag:Bool) (tm:TM) (H:Heap) (k:List AV→CR) (l:List (EvF×Option (Nat×Bool))),ZbH tm H k ((f,some (n,ag))::l)=ZAd H (f tm) n ag (fun v=>ZbH tm H (fun vs=>k (v::vs)) l))∧
 (∀(H:Heap) (b o n:Nat) (ag:Bool) (k:AV→CR),ZAd H (.ptr b o) n ag k=rV n ag (H.t.get b) o k)∧
 (∀(x:EvF) (tm:TM) (H:Heap),Zky x tm H=ZlJ (x tm) H):=⟨@Zvc, @Zqt, @Zsc, @Zqu, @Zqv, @Zvd, @Zve, @Zma, @Zsd, @ZoD, @ZoE, @Zvf, @ZxM, @ZjS, @ZxN, @ZxO, @ZCB, @ZCC, @Zqn, @Vf, @Z3, @Yy, @ZP, @VX, @Zu5, @ZCx, @ZxE, @Zu6, @Zr4, @ZxF, @Zr5, @Zu7, @Zu8, @ZxG, @Zvg, @Zvh, @Zqw, @ZxB, @Zu3, @Zr2, @Zu4, @ZxC, @ZxD, @Zr3, @ZCv, @ZCw, @Zr6, @Zr7, @Zr8, @Zu9, @ZAc, @ZxH, @ZxI, @Zva, @Zr9, @ZxJ, @ZxK, @Zqs, @ZCy, @ZCz, @ZCA, @Zvb, @Zsa, @Zsb, @ZxL, @Zko⟩
theorem Zu:(∀(e sz:Nat) (l:List AV) (fz:Nat) (sm ex:Bool),wrO (rG e sz l fz sm true ex)=true)∧
 (∀(H:Heap) (b:Nat) (o:Obj),(H.put b o).nx=H.nx)∧
 (∀(H:Heap) (o:Obj),(H.new o).nx=H.nx+1)∧
 (∀(H:Heap) (b:Nat) (o:Obj),(H.put b o).ro=H.ro)∧
 (∀(H:Heap) (o:Obj),(H.new o).ro=H.ro)∧
 (∀(b:Bool),(AV.bool b).cells=[.bool b])∧
 (∀(k:IntKind) (n:Int),(AV.int k n).cells=[.int k n])∧
 (∀(k:IntKind) (n:Nat),(nI k n).cells=[nI k n])∧
 (∀(x:UInt8),(u8V x).cells=[u8V x])∧
 (∀(s:List UInt8),(AV.str s).cells=[.str s])∧
 (AV.nilp.cells=[.nilp])∧
 (∀(b o:Nat),(AV.ptr b o).cells=[.ptr b o])∧
 (AV.nils.cells=[.nils])∧
 (∀(b o n:Nat) (c:Option Nat),(AV.slice b o n c).cells=[.slice b o n c])∧
 (∀(b:Nat),(AV.map b).cells=[.map b])∧
 (∀(f:Nat) (a b:List AV),(AV.func f a b).cells=[.func f a b])∧
 (∀(t:Nat) (v:AV),(AV.iface t v).cells=[.iface t v])∧
 (AV.nili.cells=[.nili])∧
 (∀(l:List AV),(AV.agg l).cells=l)∧
 (∀(r:Row) (o:Nat) (v:AV),(r.st o v).size=r.size)∧
 (∀(r:Row) (o:Nat) (v:AV),(r.st o v).own=r.own)∧
 (∀(r:Row) (o:Nat) (v:AV),(r.st o v).fz=r.fz)∧
 (∀(l:List AV) (o:Nat) (vs:List AV),(lay l o vs).length=l.length):=⟨@ZxB, @ZrG, @ZdA, @Zxg, @Zxh, @ZlC, @Znq, @Zqo, @Znr, @Zns, @ZlD, @Znt, @ZlE, @ZjQ, @Znu, @ZlF, @ZjR, @ZlG, @Znv, @Row.st_size, @Row.st_own, @Row.st_fz, @ZoA⟩
theorem Zs:((!true)=false)∧((!false)=true)∧(∀{α:Type} (l:List α),[]++l=l)∧(∀{α:Type} (l:List α),l++[]=l)∧(∀{α β:Type} (f:α→β),Option.map f none=none)∧(∀{α β:Type} (f:α→β) (a:α),Option.map f (some a)=some (f a))∧(∀{α β:Type} (f:α→β) (a:α) (l:List α),List.map f (a::l)=f a::List.map f l)∧(∀{α β:Type} (f:α→β),List.map f []=[])∧(∀{α:Type} (a b:α),cond true a b=a)∧(∀{α:Type} (a b:α),cond false a b=b)∧(∀(x i:Nat),x.testBit i=decide (x/2^i % 2=1))∧(∀h:Decidable True, @decide True h=true)∧(∀h:Decidable False, @decide False h=false)∧(∀n:Nat,0+n=n)∧
 (∀{α:Type} (a d:α) (l:List α),(a::l).getD 0 d=a)∧(∀{α:Type} (a d:α) (l:List α) (n:Nat),(a::l).getD (n+1) d=l.getD n d)∧(∀{α:Type} (a b:α) (l:List α),(a::l).set 0 b=b::l)∧(∀{α:Type} (a b:α) (l:List α) (n:Nat),(a::l).set (n+1) b=a::l.set n b):=
 ⟨Bool.not_true,Bool.not_false,fun _=>rfl,List.append_nil,fun _=>rfl,fun _ _=>rfl,fun _ _ _=>rfl,fun _=>rfl,fun _ _=>rfl,fun _ _=>rfl,fun _ _=>Nat.testBit_eq_decide_div_mod_eq,fun _=>Zh trivial,fun _=>Zc id,Zi,fun _ _ _=>rfl,fun _ _ _ _=>rfl,fun _ _ _=>rfl,fun _ _ _ _=>rfl⟩
theorem Zv:(∀{α:Type} (a:α) (l:List α),(a::l).length=l.length+1)∧(∀{α:Type},([]:List α).length=0)∧(∀{α:Type} (l:List α) (n:Nat) (a:α),(l.set n a).length=l.length)∧(∀{α β:Type} (f:α→β) (l:List α),(l.map f).length=l.length):=
 ⟨fun _ _=>rfl,rfl,fun _ _ _=>List.length_set,fun _ _=>ZA ..⟩
end
end Go.AI
namespace Go.AI
open Go
noncomputable section
variable {P:Program}
def ZCD(n:Nat):Obj→Prop
 | .row r=> ∀i,i<r.size→YA n (r.get i)=true
 | .map es _=> ∀x∈es,YA n x.key=true∧YA n x.val=true
 | .siter _ _=>True
 | .loop=>True
 |_=>False
theorem ObjRel.cutX{σ:Mp}{n:Nat}{o:Obj}{l:Loc}{c:Go.Obj}(h:ZCD n o)(r:ObjRel σ o l c):ObjRel (σ.cut n) o l c:=by
 cases o with
 |row q=>
  obtain⟨cs,fr,rfl,r⟩:=r
  refine⟨cs,fr,rfl,r.sz,r.sz1,r.fits,r.room,r.exact,fun i hi=>?_,r.one,r.frz,r.frs⟩
  obtain⟨v,h1,h2⟩:=r.cell i hi
  exact⟨v,h1,Rel.cut (h i hi) h2⟩
 |map es clock=>
  obtain⟨ents,e,h1,h2⟩:=r
  exact⟨ents,e,EntsRel.cutE h h1,h2⟩
 |siter s pos=>exact r
 |loop=>exact r
 |miter _ _ _=>exact h.elim
 |cmap _=>exact h.elim
structure Less(H H' G:Heap):Prop where
 nx:H.nx≤G.nx
 ro:G.ro=H.ro
 old: ∀b,b<H.nx→G.t.get b=H'.t.get b
 new: ∀b o,H.nx≤b→G.t.get b=some o→H.t.get b=some o∨(b<G.nx∧H'.t.get b=some o)
 low: ∀b o,G.t.get b=some o→H.t.get b=some o∨ZCD G.nx o
theorem Tr.less{σ σ':Mp}{H H' G:Heap}{w w':World}(hs:Sim P σ H w)(t:Tr P σ H w σ' H' w')(g:Less H H' G):Tr P σ H w (σ'.cut G.nx) G w':=by
 have hex:Ext σ (σ'.cut G.nx):=fun b l hb=>by
  have:=hs.dom b l hb
  rw[Mp.cut_lt (ZF this g.nx)]
  exact t.ext b l hb
 have hcut: ∀{b l},σ'.cut G.nx b=some l→σ' b=some l:=fun h=>(Mp.cut_some h).2
 have hin: ∀b o,G.t.get b=some o→H'.t.get b=some o:=fun b o h=>by
  by_cases hb:b<H.nx
  ·rw[←g.old b hb];exact h
  ·rcases g.new b o (by omega) h with h1|h1
   ·exact absurd (hs.low b o h1) hb
   ·exact h1.2
 have hs':Sim P (σ'.cut G.nx) G w':=by
  refine⟨fun b l h=>(Mp.cut_some h).1,fun b o h=>?_,fun b o l hb hl=>?_,fun b b' o o' l l' h1 h2 h3 h4 e=>t.sim.inj b b' o o' l l' (hin _ _ h1) (hin _ _ h2) (hcut h3) (hcut h4) e,fun q hq=>?_,by rw[g.ro];exact Z6 hs.ro g.nx⟩
  ·by_cases hb:b<H.nx
   ·exact ZF hb g.nx
   ·rcases g.new b o (by omega) h with h1|h1
    ·exact absurd (hs.low b o h1) hb
    ·exact h1.1
  ·obtain⟨c,h2,h3⟩:=t.sim.alive b o l (hin b o hb) (hcut hl)
   refine⟨c,h2,?_⟩
   rcases g.low b o hb with h5|h4
   ·cases hσ:σ b with
    |none=>
     have:=(t.pend b (hs.low b o h5) hσ).2
     rw[hcut hl] at this;cases this
    |some l0=>
     have e:=t.ext b l0 hσ
     rw[hcut hl] at e;cases e
     obtain⟨c0,_,h1⟩:=hs.alive b o l h5 hσ
     exact(h1.back t.ext h3).mono hex
   ·exact h3.cutX h4
  ·obtain⟨l,h1,h2,h3⟩:=hs.glob q hq
   exact⟨l,hex _ _ h1,h2,h3⟩
 refine⟨hex,hs',t.size,t.frame,fun b l hw hl hlt=>?_,g.nx,g.ro,fun b hb=>?_,t.tape,t.os,t.out,fun b hb hn=>?_⟩
 ·obtain⟨h1,o,h2,h3⟩:=hw
  exact t.wr b l ⟨by rw[t.ro,←g.ro];exact h1,o,hin b o h2,h3⟩ (hcut hl) hlt
 ·rw[g.old b (ZF hb hs.ro)]
  exact t.low b hb
 ·obtain⟨h1,h2⟩:=t.pend b hb hn
  refine⟨by rw[g.old b hb,h1],?_⟩
  rw[Mp.cut_lt (ZF hb g.nx)];exact h2
def ZBF(H:Heap):CR→CR→Prop
 | .ret v H', .ret u G=>u=v∧Less H H' G∧YA G.nx v=true
 | .pan v H', .pan u G=>u=v∧Less H H' G∧YA G.nx v=true
 |_,_=>False
theorem ZAe{call:Nat→List AV→Heap→CR}(hcall:Qd P call){f:FuncId}{args:List AV}{H:Heap}{r:CR}(g:ZBF H (call f args H) r)
  {σ:Mp}{w:World}{vs:List Value}(hs:Sim P σ H w)(hv:RelL σ args vs):Zdw P σ H w r ((callFunc f ⟨vs⟩).run P w):=by
 have hcr:=hcall f _ H σ w vs hs hv
 generalize call f args H=q at g hcr
 cases q with
 |fail=>cases r<;>exact g.elim
 |ret v H'=>
  cases r with
  |ret u G=>
   obtain⟨rfl,g,hlow⟩:=g
   refine Ends.mono (fun u' w' hx=>?_) (fun _ _ hx=>hx) hcr
   obtain⟨σ2,h1,t⟩:=hx
   exact⟨σ2.cut G.nx,Rel.cut hlow h1,t.less hs g⟩
  |_=>exact g.elim
 |pan v H'=>
  cases r with
  |pan u G=>
   obtain⟨rfl,g,hlow⟩:=g
   refine Ends.mono (fun _ _ hx=>hx) (fun u' w' hx=>?_) hcr
   obtain⟨σ2,h1,t⟩:=hx
   exact⟨σ2.cut G.nx,Rel.cut hlow h1,t.less hs g⟩
  |_=>exact g.elim
theorem Less.put{H:Heap}{b:Nat}{o:Obj}(hb:b<H.nx)(ho:ZCD H.nx o){H':Heap}(h: ∀c,c<H.nx→H'.t.get c=(H.put b o).t.get c):Less H H' (H.put b o):=by
 refine⟨Zk _,rfl,fun c hc=>(h c hc).symm,fun c q hc hq=> .inl ?_,fun c q hq=>?_⟩
 ·rw[Zdz,if_neg (by omega)] at hq;exact hq
 ·rw[Zdz] at hq
  split at hq
  ·cases hq;exact .inr ho
  ·exact .inl hq
theorem Less.same{H H':Heap}(h: ∀c,c<H.nx→H'.t.get c=H.t.get c):Less H H' H:=
 ⟨Zk _,rfl,fun c hc=>(h c hc).symm,fun _ _ _ hq=> .inl hq,fun _ _ hq=> .inl hq⟩
end
end Go.AI
namespace Go.AI
open Go
noncomputable section
variable {P:Program}
abbrev Lib:=Nat→List AV→Heap→Option CR
def Zh8(UJ:Nat→Nat)(QR:Lib)(call:Nat→List AV→Heap→CR)(lib:Lib)(k:Nat):Lib:=fun f args H=>
 open Classical in if UJ f=k then
  (match QR f args H with
  |some r=>if ZBF H (call f args H) r then some r else lib f args H
  |none=>if ∃v H',call f args H= .ret v H'∧Keep H H' []∧YA 0 v=true then(match call f args H with| .ret v _=>some (.ret v H)|_=>none) else lib f args H)
 else lib f args H
theorem ZxQ{UJ:Nat→Nat}{QR:Lib}{call:Nat→List AV→Heap→CR}{lib:Lib}{k:Nat}(hcall:Qd P call)(hl:Zc7 P lib):Zc7 P (Zh8 UJ QR call lib k):=by
 intro f args H r h σ w vs hs hv
 unfold Zh8 at h
 split at h
 ·split at h
  ·split at h
   ·rename_i hc
    cases h
    exact ZAe hcall hc hs hv
   ·exact hl f args H r h σ w vs hs hv
  ·split at h
   ·rename_i hc
    obtain⟨v,H',h1,h2,h3⟩:=hc
    rw[h1] at h
    cases h
    exact ZzZ hcall h1 h2 h3 hs hv
   ·exact hl f args H r h σ w vs hs hv
 ·exact hl f args H r h σ w vs hs hv
theorem ZgZ{UJ:Nat→Nat}{QR:Lib}{call:Nat→List AV→Heap→CR}{lib:Lib}{k f:Nat}(h:UJ f≠k)(args:List AV)(H:Heap):Zh8 UJ QR call lib k f args H=lib f args H:=by
 unfold Zh8;rw[if_neg h]
theorem Zsh{UJ:Nat→Nat}{QR:Lib}{call:Nat→List AV→Heap→CR}{lib:Lib}{k f:Nat}{args:List AV}{H H':Heap}{v:AV}(h:UJ f=k)(hs:QR f args H=none)(hr:call f args H= .ret v H')(g:Keep H H' [])(hv:YA 0 v=true):Zh8 UJ QR call lib k f args H=some (.ret v H):=by
 unfold Zh8;rw[if_pos h,hs]
 simp only
 rw[if_pos ⟨v,H',hr,g,hv⟩,hr]
def Zh9(Zm:Lib)(fs:T CF)(fuel:Nat)(UJ:Nat→Nat)(QR:Lib):Nat→Lib
 |0=>Zm
 |k+1=>Zh8 UJ QR (ZR (Zh9 Zm fs fuel UJ QR k) fs fuel 900) (Zh9 Zm fs fuel UJ QR k) (k+1)
variable {Zm:Lib} {fs:T CF} {fuel:Nat} {UJ:Nat→Nat} {QR:Lib}
theorem ZoF(hc: ∀lib,Zc7 P lib→Qd P (ZR lib fs fuel 900))(h0:Zc7 P Zm): ∀k,Zc7 P (Zh9 Zm fs fuel UJ QR k)
 |0=>h0
 |k+1=>ZxQ (hc _ (ZoF hc h0 k)) (ZoF hc h0 k)
theorem Zqx{f:Nat}(args:List AV)(H:Heap): ∀k,k<UJ f→Zh9 Zm fs fuel UJ QR k f args H=Zm f args H
 |0,_=>rfl
 |k+1,h=>(ZgZ (by omega) args H).trans (Zqx args H k (by omega))
theorem Zi8{f:Nat}(h:UJ f=0)(args:List AV)(H:Heap): ∀k,Zh9 Zm fs fuel UJ QR k f args H=Zm f args H
 |0=>rfl
 |k+1=>(ZgZ (by omega) args H).trans (Zi8 h args H k)
theorem Zth{f r:Nat}(h:UJ f=r)(args:List AV)(H:Heap): ∀k,r≤k→Zh9 Zm fs fuel UJ QR k f args H=Zh9 Zm fs fuel UJ QR r f args H:=by
 intro k hk
 induction k with
 |zero=>rw[Nat.le_zero.1 hk]
 |succ k ih=>
  by_cases e:r=k+1
  ·rw[e]
  ·exact(ZgZ (by omega) args H).trans (ih (by omega))
theorem ZN{f k:Nat}(h0: ∀l H,Zm f l H=none)(h:k<UJ f∨UJ f=0)(args:List AV)(H:Heap):Zh9 Zm fs fuel UJ QR k f args H=none:=by
 rcases h with h|h
 ·rw[Zqx args H k h,h0]
 ·rw[Zi8 h args H k,h0]
theorem Zcg{f k n:Nat}{args:List AV}{H:Heap}{r:CR}(h:UJ f=0)(hr:Zm f args H=some r):ZR (Zh9 Zm fs fuel UJ QR k) fs fuel (n+1) f args H=r:=
 Znl (by rw[Zi8 h];exact hr)
theorem Y6{f r k n:Nat}{args:List AV}{H H':Heap}{v:AV}(h:UJ f=r+1)(hs:QR f args H=none)(hr:ZR (Zh9 Zm fs fuel UJ QR r) fs fuel 900 f args H= .ret v H')(g:Keep H H' [])(hv:YA 0 v=true)(hk:r+1≤k):
  ZR (Zh9 Zm fs fuel UJ QR k) fs fuel (n+1) f args H= .ret v H:=
 Znl (by rw[Zth h args H k hk];exact Zsh h hs hr g hv)
end
end Go.AI
