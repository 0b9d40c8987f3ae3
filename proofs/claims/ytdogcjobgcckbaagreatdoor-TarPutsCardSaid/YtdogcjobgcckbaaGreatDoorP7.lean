/- Running the interpreter's code on values that are not known: equations, proved without conditions but those that each names; what is looked up rank by rank. -/
import Derived.Test.YtdogcjobgcckbaaGreatDoorP6
import Derived.Test.YtdogcjobgcckbaaGreatDoorP5
set_option maxRecDepth 1000000
set_option maxHeartbeats 0
set_option linter.unusedVariables false
set_option linter.unusedSimpArgs false
namespace Go.AI
open Go
noncomputable section
section
variable {α:Type}
namespace N8
theorem g00(f:α->α)(n:N8 α):a0 (u0 f n)=f (a0 n):=rfl
theorem g01(f:α->α)(n:N8 α):a0 (u1 f n)=a0 n:=rfl
theorem g02(f:α->α)(n:N8 α):a0 (u2 f n)=a0 n:=rfl
theorem g03(f:α->α)(n:N8 α):a0 (u3 f n)=a0 n:=rfl
theorem g04(f:α->α)(n:N8 α):a0 (u4 f n)=a0 n:=rfl
theorem g05(f:α->α)(n:N8 α):a0 (u5 f n)=a0 n:=rfl
theorem g06(f:α->α)(n:N8 α):a0 (u6 f n)=a0 n:=rfl
theorem g07(f:α->α)(n:N8 α):a0 (u7 f n)=a0 n:=rfl
theorem g10(f:α->α)(n:N8 α):a1 (u0 f n)=a1 n:=rfl
theorem g11(f:α->α)(n:N8 α):a1 (u1 f n)=f (a1 n):=rfl
theorem g12(f:α->α)(n:N8 α):a1 (u2 f n)=a1 n:=rfl
theorem g13(f:α->α)(n:N8 α):a1 (u3 f n)=a1 n:=rfl
theorem g14(f:α->α)(n:N8 α):a1 (u4 f n)=a1 n:=rfl
theorem g15(f:α->α)(n:N8 α):a1 (u5 f n)=a1 n:=rfl
theorem g16(f:α->α)(n:N8 α):a1 (u6 f n)=a1 n:=rfl
theorem g17(f:α->α)(n:N8 α):a1 (u7 f n)=a1 n:=rfl
theorem g20(f:α->α)(n:N8 α):a2 (u0 f n)=a2 n:=rfl
theorem g21(f:α->α)(n:N8 α):a2 (u1 f n)=a2 n:=rfl
theorem g22(f:α->α)(n:N8 α):a2 (u2 f n)=f (a2 n):=rfl
theorem g23(f:α->α)(n:N8 α):a2 (u3 f n)=a2 n:=rfl
theorem g24(f:α->α)(n:N8 α):a2 (u4 f n)=a2 n:=rfl
theorem g25(f:α->α)(n:N8 α):a2 (u5 f n)=a2 n:=rfl
theorem g26(f:α->α)(n:N8 α):a2 (u6 f n)=a2 n:=rfl
theorem g27(f:α->α)(n:N8 α):a2 (u7 f n)=a2 n:=rfl
theorem g30(f:α->α)(n:N8 α):a3 (u0 f n)=a3 n:=rfl
theorem g31(f:α->α)(n:N8 α):a3 (u1 f n)=a3 n:=rfl
theorem g32(f:α->α)(n:N8 α):a3 (u2 f n)=a3 n:=rfl
theorem g33(f:α->α)(n:N8 α):a3 (u3 f n)=f (a3 n):=rfl
theorem g34(f:α->α)(n:N8 α):a3 (u4 f n)=a3 n:=rfl
theorem g35(f:α->α)(n:N8 α):a3 (u5 f n)=a3 n:=rfl
theorem g36(f:α->α)(n:N8 α):a3 (u6 f n)=a3 n:=rfl
theorem g37(f:α->α)(n:N8 α):a3 (u7 f n)=a3 n:=rfl
theorem g40(f:α->α)(n:N8 α):a4 (u0 f n)=a4 n:=rfl
theorem g41(f:α->α)(n:N8 α):a4 (u1 f n)=a4 n:=rfl
theorem g42(f:α->α)(n:N8 α):a4 (u2 f n)=a4 n:=rfl
theorem g43(f:α->α)(n:N8 α):a4 (u3 f n)=a4 n:=rfl
theorem g44(f:α->α)(n:N8 α):a4 (u4 f n)=f (a4 n):=rfl
theorem g45(f:α->α)(n:N8 α):a4 (u5 f n)=a4 n:=rfl
theorem g46(f:α->α)(n:N8 α):a4 (u6 f n)=a4 n:=rfl
theorem g47(f:α->α)(n:N8 α):a4 (u7 f n)=a4 n:=rfl
theorem g50(f:α->α)(n:N8 α):a5 (u0 f n)=a5 n:=rfl
theorem g51(f:α->α)(n:N8 α):a5 (u1 f n)=a5 n:=rfl
theorem g52(f:α->α)(n:N8 α):a5 (u2 f n)=a5 n:=rfl
theorem g53(f:α->α)(n:N8 α):a5 (u3 f n)=a5 n:=rfl
theorem g54(f:α->α)(n:N8 α):a5 (u4 f n)=a5 n:=rfl
theorem g55(f:α->α)(n:N8 α):a5 (u5 f n)=f (a5 n):=rfl
theorem g56(f:α->α)(n:N8 α):a5 (u6 f n)=a5 n:=rfl
theorem g57(f:α->α)(n:N8 α):a5 (u7 f n)=a5 n:=rfl
theorem g60(f:α->α)(n:N8 α):a6 (u0 f n)=a6 n:=rfl
theorem g61(f:α->α)(n:N8 α):a6 (u1 f n)=a6 n:=rfl
theorem g62(f:α->α)(n:N8 α):a6 (u2 f n)=a6 n:=rfl
theorem g63(f:α->α)(n:N8 α):a6 (u3 f n)=a6 n:=rfl
theorem g64(f:α->α)(n:N8 α):a6 (u4 f n)=a6 n:=rfl
theorem g65(f:α->α)(n:N8 α):a6 (u5 f n)=a6 n:=rfl
theorem g66(f:α->α)(n:N8 α):a6 (u6 f n)=f (a6 n):=rfl
theorem g67(f:α->α)(n:N8 α):a6 (u7 f n)=a6 n:=rfl
theorem g70(f:α->α)(n:N8 α):a7 (u0 f n)=a7 n:=rfl
theorem g71(f:α->α)(n:N8 α):a7 (u1 f n)=a7 n:=rfl
theorem g72(f:α->α)(n:N8 α):a7 (u2 f n)=a7 n:=rfl
theorem g73(f:α->α)(n:N8 α):a7 (u3 f n)=a7 n:=rfl
theorem g74(f:α->α)(n:N8 α):a7 (u4 f n)=a7 n:=rfl
theorem g75(f:α->α)(n:N8 α):a7 (u5 f n)=a7 n:=rfl
theorem g76(f:α->α)(n:N8 α):a7 (u6 f n)=a7 n:=rfl
theorem g77(f:α->α)(n:N8 α):a7 (u7 f n)=f (a7 n):=rfl
end N8
end
section
theorem ba(f:Vv)(dst:ZL)(next:D)(c:Ctx)(tm:TM)(H:Heap)(x:X):Za f dst next c tm H x=Oc (next c) dst c tm H x (f tm H):=rfl
theorem cZ(g:Z1)(b:Bool)(f:Vv)(dst:ZL)(next:D)(c:Ctx)(tm:TM)(H:Heap)(x:X):ZB g b f dst next c tm H x=UX (g tm) b (Oc (next c) dst c tm H x (f tm H)) (next c (dst tm Xz) H x):=rfl
theorem mD(yes no:WM):UX (.bool true) true yes no=yes:=rfl
theorem my(yes no:WM):UX (.bool false) false yes no=yes:=rfl
theorem mB(yes no:WM):UX (.bool true) false yes no=no:=rfl
theorem mA(yes no:WM):UX (.bool false) true yes no=no:=rfl
theorem gG(next:TM->Heap->X->WM)(dst:ZL)(c:Ctx)(tm:TM)(H:Heap)(x:X)(v:AV)(H':Heap):Oc next dst c tm H x (.val v H')=next (dst tm v) H' x:=rfl
theorem mq(next:TM->Heap->X->WM)(dst:ZL)(c:Ctx)(tm:TM)(H:Heap)(x:X)(f:Nat)(args:List AV)(H':Heap):Oc next dst c tm H x (.oth (.call f args H'))=Bi next dst tm x (c.call f args H'):=rfl
theorem KB(next:TM->Heap->X->WM)(dst:ZL)(tm:TM)(x:X)(v:AV)(H:Heap):Bi next dst tm x (.ret v H)=next (dst tm v) H x:=rfl
theorem cY(a b:D)(c:Ctx)(tm:TM)(H:Heap)(x:X):Zh a b c tm H x=PF (a c tm H x) (b c):=rfl
theorem U4(tm:TM)(H:Heap)(x:X)(k:TM->Heap->X->WM):PF (.ok .normal tm H x) k=k tm H x:=rfl
theorem jm(tm:TM)(H:Heap)(x:X)(k:TM->Heap->X->WM):PF (.ok .ret tm H x) k=.ok .ret tm H x:=rfl
theorem qM(i:Nat)(tm:TM)(H:Heap)(x:X)(k:TM->Heap->X->WM):PF (.ok (.exit i) tm H x) k=.ok (.exit i) tm H x:=rfl
theorem lJ(c:Ctx)(tm:TM)(H:Heap)(x:X):Zc c tm H x=.ok .normal tm H x:=rfl
theorem cJ(c:Ctx)(tm:TM)(H:Heap)(x:X):Z2 c tm H x=.ok .ret tm H x:=rfl
theorem nW(i:Nat)(c:Ctx)(tm:TM)(H:Heap)(x:X):X6 i c tm H x=.ok (.exit i) tm H x:=rfl
theorem nF(q:Z1)(a b:D)(c:Ctx)(tm:TM)(H:Heap)(x:X):ZK q a b c tm H x=y9 (q tm) λv=>HB (a c) (b c) v tm H x:=rfl
theorem mP(b:Bool)(k:Bool->WM):y9 (.bool b) k=k b:=rfl
theorem sD(a b:TM->Heap->X->WM)(tm:TM)(H:Heap)(x:X):HB a b true tm H x=a tm H x:=rfl
theorem wM(a b:TM->Heap->X->WM)(tm:TM)(H:Heap)(x:X):HB a b false tm H x=b tm H x:=rfl
theorem tV(i:Nat)(a:D)(c:Ctx)(tm:TM)(H:Heap)(x:X):Z0 i a c tm H x=Pa i (a c tm H x):=rfl
theorem lr(a:D)(c:Ctx)(tm:TM)(H:Heap)(x:X):X8 a c tm H x=Wv (a c) c.fuel tm H x:=rfl
theorem Am(i:Nat)(tm:TM)(H:Heap)(x:X):Pa i (.ok .normal tm H x)=.ok .normal tm H x:=rfl
theorem TF(i:Nat)(tm:TM)(H:Heap)(x:X):Pa i (.ok (.exit i) tm H x)=.ok .normal tm H x:=by
 show @Bool.rec (λ_=>WM) (.ok (.exit i) tm H x) (.ok .normal tm H x) (Nat.beq i i)=_
 rw[Y0]
theorem rq(i:Nat)(tm:TM)(H:Heap)(x:X):Pa i (.ok .ret tm H x)=.ok .ret tm H x:=rfl
theorem ZeK(tm:TM)(v:AV):d0 tm v=tm:=rfl
theorem Zik(v:AV)(tm:TM):k v tm=v:=rfl
theorem aG:SE []=M9:=rfl
theorem aH(a:AV):SE [a]=st0 M9 a:=rfl
theorem aI(a b:AV):SE [a,b]=st1 (st0 M9 a) b:=rfl
theorem aJ(a b c:AV):SE [a,b,c]=st2 (st1 (st0 M9 a) b) c:=rfl
theorem aK(a b c d:AV):SE [a,b,c,d]=Vl (st2 (st1 (st0 M9 a) b) c) d:=rfl
theorem Zao(tm:TM):evs tm []=[]:=rfl
theorem iV(tm:TM)(f:Z1)(l:List Z1):evs tm (f::l)=f tm::evs tm l:=rfl
theorem ZI{lib:Nat->List AV->Heap->Option CR}{fs:T CF}{fuel n f:Nat}{args:List AV}{H:Heap}{cf:CF}(hl:lib f args H=none)(hf:fs.get f=some cf):ZE lib fs fuel (n+1) f args H=
  LY (λpn g as H=>Bh .fail fs g λcg=>FU pn cg.rs (cg.body ⟨ZE lib fs fuel n,UJ,UY,fuel,false⟩ (SE as) H ⟨[],pn⟩))
   cf.rs (cf.body ⟨ZE lib fs fuel n,UJ,FV fs fuel (ZE lib fs fuel n),fuel,false⟩ (SE args) H ⟨[],none⟩):=by
 show od (lib f args H) _=_
 rw[hl]
 unfold Bh
 rw[hf]
 rfl
theorem ck(dc:Option AV->Nat->List AV->Heap->DR)(rs:List (Z1×Option (Nat×Bool)))(tm:TM)(H:Heap)(rc:Option AV):LY dc rs (.ok .ret tm H ⟨[],rc⟩)=results rs tm H:=rfl
theorem uj(dc:Option AV->Nat->List AV->Heap->DR)(rs:List (Z1×Option (Nat×Bool)))(tm:TM)(H:Heap)(rc:Option AV):LY dc rs (.ok .normal tm H ⟨[],rc⟩)=results rs tm H:=rfl
theorem uz(f:Z1)(tm:TM)(H:Heap):results [(f,none)] tm H=.ret (f tm) H:=rfl
theorem xT(tm:TM)(H:Heap):results [] tm H=.ret (.tup []) H:=rfl
theorem ZbI(x:Z1)(tm:TM)(H:Heap):ZF x tm H=.val (x tm) H:=rfl
noncomputable def rP(a:AV)(H:Heap):OR:=QH a λk a=>TK k (EV 0 a) H
noncomputable def Ol(k:IntKind)(a:AV)(H:Heap):OR:=QH a λ_ a=>TK k a H
noncomputable def Ty(a b:AV)(H:Heap):OR:=match a with
 |.int j a=>QH b λl b=>ZP (P3 j l) (TK j (y8 a b) H)
 |.str a=>Oo b λb=>ZP (Nat.ble (Nat.add (YK a) (YK b)) 4611686018427387904) (.val (.str (a++b)) H)
 |_=>.fail
noncomputable def M6(a b:AV)(H:Heap):OR:=Fz a b λk a b=>TK k (EV a b) H
noncomputable def di(a b:AV)(H:Heap):OR:=Fz a b λk a b=>TK k (vC a b) H
noncomputable def cE(a b:AV)(H:Heap):OR:=Fz a b λk a b=>cond (Ge b 0) .fail (TK k (Zft a b) H)
noncomputable def kP(a b:AV)(H:Heap):OR:=Fz a b λk a b=>cond (Ge b 0) .fail (PP (ZaV a b) λn=>.val (.int k n) H)
noncomputable def DI(f:Nat->Nat->Nat->Nat)(a b:AV)(H:Heap):OR:=Fz a b λk a b=>TK k (.ofNat (f (TG k) (SP (TG k) a) (SP (TG k) b))) H
noncomputable def Zi1(a b:AV)(H:Heap):OR:=QH a λk a=>Sf b λb=>TK k (vC a (.ofNat (Nat.pow 2 (cond (Nat.ble b 64) b 64)))) H
noncomputable def bi(a b:AV)(H:Heap):OR:=QH a λk a=>Sf b λb=>PP (Zfx a (Lq b (pb k))) λn=>.val (.int k n) H
noncomputable def Zee(a:AV)(H:Heap):OR:=QH a λk a=>TK k (.ofNat (Nat.sub (Nat.sub (TG k) 1) (SP (TG k) a))) H
noncomputable def Tf(f:Int->Int->Bool)(g:List UInt8->List UInt8->Bool)(a b:AV)(H:Heap):OR:=match a with
 |.int j a=>QH b λl b=>ZP (P3 j l) (SU (f a b) H)
 |.str a=>Oo b λb=>SU (g a b) H
 |_=>.fail
noncomputable def N6(f:AV->AV->Option Bool)(neg:Bool)(a b:AV)(H:Heap):OR:=U3 (f a b) λb=>SU (cond neg (cond b false true) b) H
noncomputable def ZbD(a:AV)(H:Heap):OR:=FT a λb=>.val (.bool (cond b false true)) H
noncomputable def zM(a b c:AV)(H:Heap):OR:=FT a λt=>.val (cond t b c) H
theorem Gq(x:Z1)(tm:TM)(H:Heap):Ao x tm H=rP (x tm) H:=rfl
theorem du(x:Z1)(k:IntKind)(tm:TM)(H:Heap):U0 x k tm H=Ol k (x tm) H:=rfl
theorem lL(x y:Z1)(tm:TM)(H:Heap):Yg x y tm H=Ty (x tm) (y tm) H:=rfl
theorem dG(x y:Z1)(tm:TM)(H:Heap):Vs x y tm H=M6 (x tm) (y tm) H:=rfl
theorem dw(x y:Z1)(tm:TM)(H:Heap):O3 x y tm H=di (x tm) (y tm) H:=rfl
theorem dC(x y:Z1)(tm:TM)(H:Heap):Jy x y tm H=cE (x tm) (y tm) H:=rfl
theorem dD(x y:Z1)(tm:TM)(H:Heap):I0 x y tm H=kP (x tm) (y tm) H:=rfl
theorem FP(x y:Z1)(f:Nat->Nat->Nat->Nat)(tm:TM)(H:Heap):Nz x y f tm H=DI f (x tm) (y tm) H:=rfl
theorem dE(x y:Z1)(tm:TM)(H:Heap):ZfV x y tm H=Zi1 (x tm) (y tm) H:=rfl
theorem dF(x y:Z1)(tm:TM)(H:Heap):Kz x y tm H=bi (x tm) (y tm) H:=rfl
theorem kg(x:Z1)(tm:TM)(H:Heap):dH x tm H=Zee (x tm) H:=rfl
theorem dt(x y:Z1)(f:Int->Int->Bool)(g:List UInt8->List UInt8->Bool)(tm:TM)(H:Heap):Yu x y f g tm H=Tf f g (x tm) (y tm) H:=rfl
theorem ZbF(x y:Z1)(f:AV->AV->Option Bool)(neg:Bool)(tm:TM)(H:Heap):WN x y f neg tm H=N6 f neg (x tm) (y tm) H:=rfl
theorem dA(x:Z1)(tm:TM)(H:Heap):Pf x tm H=ZbD (x tm) H:=rfl
theorem lX(x y z:Z1)(tm:TM)(H:Heap):Yx x y z tm H=zM (x tm) (y tm) (z tm) H:=rfl
theorem rS(f:Nat)(args:List Z1)(tm:TM)(H:Heap):Zv f args tm H=.oth (.call f (evs tm args) H):=rfl
theorem Tb(b:Bool)(H:Heap):SU b H=.val (.bool b) H:=by cases b<;>rfl
theorem Vn(k:IntKind)(n:Int)(H:Heap):TK k n H=.val (.int k (k.wrap n)) H:=by simp only[TK,QB,NQ]
theorem Ea(k:IntKind)(m n:Nat):yu k m (.ofNat n)=.ofNat (n % m):=by
 show cond (Nat.ble m n) (Int.ofNat (Nat.mod n m)) (.ofNat n)=_
 cases h:Nat.ble m n with
 |true=>rfl
 |false=>
  have:n<m:=by
   have h2: ¬m<=n:=λhh=>by rw[Zk hh] at h;cases h
   omega
  rw[YB this];rfl
theorem nf(n:Nat):IntKind.u8.wrap (.ofNat n)=.ofNat (n % 256):=by rw[<-NQ];exact Ea .u8 256 n
theorem K0(n:Nat):IntKind.u32.wrap (.ofNat n)=.ofNat (n % 4294967296):=by rw[<-NQ];exact Ea .u32 4294967296 n
theorem G6(n:Nat):IntKind.u64.wrap (.ofNat n)=.ofNat (n % 18446744073709551616):=by rw[<-NQ];exact Ea .u64 18446744073709551616 n
theorem KZ{n:Nat}(h:n<9223372036854775808):IntKind.i64.wrap (.ofNat n)=.ofNat n:=by
 rw[<-NQ]
 show cond (Nat.ble 9223372036854775808 n) _ (Int.ofNat n)=_
 cases h2:Nat.ble 9223372036854775808 n with
 |true=>have:=ZR h2;omega
 |false=>rfl
theorem Gc(a b:Nat):y8 (.ofNat a) (.ofNat b)=.ofNat (a+b):=rfl
theorem vD(a b:Nat):vC (.ofNat a) (.ofNat b)=.ofNat (a*b):=rfl
theorem fS{a b:Nat}(h:b<=a):EV (.ofNat a) (.ofNat b)=.ofNat (a - b):=by
 show cond (Nat.ble b a) (Int.ofNat (Nat.sub a b)) (Int.ofNat a - Int.ofNat b)=_
 rw[Zk h];rfl
theorem K8(a b:Nat):vB (.ofNat a) (.ofNat b)=decide (a<b):=by
 show Nat.ble (Nat.succ a) b=_
 cases h:Nat.ble (Nat.succ a) b with
 |true=>have:=ZR h;exact(Ze this).symm
 |false=>
  have h2: ¬Nat.succ a<=b:=λhh=>by rw[Zk hh] at h;cases h
  exact(Zb h2).symm
theorem Mb(a b:Nat):Ge (.ofNat a) (.ofNat b)=decide (a=b):=Yy a b
theorem XG(k:IntKind):P3 k k=true:=by cases k<;>rfl
def i64(n:Nat):AV:=nI .i64 n
def Vd(x:UInt8):AV:=.int .u8 (.ofNat x.toNat)
def Hi(x:UInt32):AV:=.int .u32 (.ofNat x.toNat)
def ZcI(x:UInt64):AV:=.int .u64 (.ofNat x.toNat)
theorem YI{a b:Nat}(h:a+b<9223372036854775808)(H:Heap):Ty (nI .i64 a) (nI .i64 b) H=.val (nI .i64 (a+b)) H:=by
 show ZP (P3 .i64 .i64) (TK .i64 (y8 (.ofNat a) (.ofNat b)) H)=_
 rw[XG,Vn,Gc,KZ h];rfl
theorem XL{a b:Nat}(h:b<=a)(h2:a<9223372036854775808)(H:Heap):M6 (nI .i64 a) (nI .i64 b) H=.val (nI .i64 (a - b)) H:=by
 show ZP (P3 .i64 .i64) (TK .i64 (EV (.ofNat a) (.ofNat b)) H)=_
 rw[XG,Vn,fS h,KZ (by omega)];rfl
theorem rN{a b:Nat}(h:a*b<9223372036854775808)(H:Heap):di (nI .i64 a) (nI .i64 b) H=.val (nI .i64 (a*b)) H:=by
 show ZP (P3 .i64 .i64) (TK .i64 (vC (.ofNat a) (.ofNat b)) H)=_
 rw[XG,Vn,vD,KZ h];rfl
theorem qo{a b:Nat}(h:0<b)(H:Heap):kP (nI .i64 a) (nI .i64 b) H=.val (nI .i64 (a % b)) H:=by
 show ZP (P3 .i64 .i64) (cond (Ge (.ofNat b) (.ofNat 0)) .fail (PP (.ofNat (Nat.mod a b)) λn=>.val (.int .i64 n) H))=_
 rw[XG,Mb,Zb (by omega),QB];rfl
theorem Zgf{a b:Nat}(h:0<b)(h2:a<9223372036854775808)(H:Heap):cE (nI .i64 a) (nI .i64 b) H=.val (nI .i64 (a/b)) H:=by
 show ZP (P3 .i64 .i64) (cond (Ge (.ofNat b) (.ofNat 0)) .fail (TK .i64 (.ofNat (Nat.div a b)) H))=_
 rw[XG,Mb,Zb (by omega),Vn,show(Int.ofNat (Nat.div a b))=Int.ofNat (a/b) from rfl,KZ (Ub (QW a b) h2)];rfl
theorem Zy(k:IntKind)(a b:Nat)(H:Heap):Tf XE YH (nI k a) (nI k b) H=.val (.bool (decide (a<b))) H:=by
 show ZP (P3 k k) (SU (vB (.ofNat a) (.ofNat b)) H)=_
 rw[XG,Tb,K8];rfl
theorem Xu(k:IntKind)(a b:Nat)(H:Heap):Tf Sc W5 (nI k a) (nI k b) H=.val (.bool (decide (b<=a))) H:=by
 show ZP (P3 k k) (SU (!vB (.ofNat a) (.ofNat b)) H)=_
 rw[XG,Tb,K8]
 show OR.val (.bool (!decide (a<b))) H=_
 congr 2
 by_cases h:a<b
 ·rw[Ze h,Zb (by omega)];rfl
 ·rw[Zb h,Ze (by omega)];rfl
theorem Vi(k:IntKind)(a b:Nat)(H:Heap):N6 Vp true (nI k a) (nI k b) H=.val (.bool (decide (a≠b))) H:=by
 show U3 (cond (P3 k k) (some (Ge (.ofNat a) (.ofNat b))) none) _=_
 rw[XG,Mb]
 show SU (cond true (cond (decide (a=b)) false true) (decide (a=b))) H=_
 rw[Tb]
 congr 2
 by_cases h:a=b
 ·rw[Ze h,Zb (by omega)];rfl
 ·rw[Zb h,Ze h];rfl
theorem YL(k:IntKind)(a b:Nat)(H:Heap):N6 Vp false (nI k a) (nI k b) H=.val (.bool (decide (a=b))) H:=by
 show U3 (cond (P3 k k) (some (Ge (.ofNat a) (.ofNat b))) none) _=_
 rw[XG,Mb]
 exact Tb _ _
theorem aA(a b:UInt32)(H:Heap):Ty (Hi a) (Hi b) H=.val (Hi (a+b)) H:=by
 show ZP (P3 .u32 .u32) (TK .u32 (y8 (.ofNat a.toNat) (.ofNat b.toNat)) H)=_
 rw[XG,Vn,Gc,K0];unfold Hi;rw[UInt32.toNat_add];rfl
end
structure Cells(r:Row)(l:List AV):Prop where
 size:r.size=l.length
 get: ∀i,i<l.length->r.get i=l.getD i .unk
theorem Cells.load{r:Row}{l:List AV}(h:Cells r l){o n:Nat}(hn:o+n<=l.length):Vf r o n=(l.drop o).take n:=by
 refine WQ λj=>?_
 by_cases hj:j<n
 ·rw[SO r n o j hj,Xe hj,Xa,h.get (o+j) (by omega),Zf]
  rw[Zl (show o+j<l.length by omega)];rfl
 ·rw[Y1 (by rw[Ss];omega),Y1 (by rw[ZC,Ym];omega)]
theorem Cells.store{r:Row}{l:List AV}(h:Cells r l){o:Nat}{vs:List AV}(ho:o+vs.length<=l.length):Cells (r.setCells (WY r.cells o vs)) (l.take o++(vs++l.drop (o+vs.length))):=by
 have hlen:(l.take o++(vs++l.drop (o+vs.length))).length=l.length:=by
  rw[Zj,Zj,ZC,Ym];omega
 refine⟨by rw[hlen];exact h.size,λi hi=>?_⟩
 rw[hlen] at hi
 rw[Row.get_eq]
 show((WY r.cells o vs).get i).getD r.dflt=_
 rw[Qy,Zf]
 by_cases h1:o<=i∧i<o+vs.length
 ·rw[if_pos h1,Yi (by rw[ZC];omega),ZC,Wl (by omega),Yh (by omega),
   Zl (show i - o<vs.length by omega)];rfl
 ·rw[if_neg h1]
  have h2:=h.get i hi
  rw[Row.get_eq,Zf] at h2
  rw[h2]
  by_cases h3:i<o
  ·rw[Yh (by rw[ZC];omega),Xe h3]
  ·rw[Yi (by rw[ZC];omega),ZC,Wl (by omega),Yi (by omega),Xa,
    show o+vs.length+(i - o - vs.length)=i by omega]
theorem Cells.new(e sz:Nat)(l:List AV)(fz:Nat)(sm own ex:Bool):Cells ⟨e,sz,YK l,T.ofList l,.unk,fz,sm,own,ex⟩ l:=by
 refine⟨YF l,λi hi=>?_⟩
 rw[Row.get_eq]
 show((T.ofList l).get i).getD .unk=_
 rw[T.get_ofList,Zf]
theorem Cells.zero(e n:Nat)(v:AV)(fz:Nat)(sm own ex:Bool):Cells ⟨e,1,n,.leaf,v,fz,sm,own,ex⟩ (List.replicate n v):=by
 refine⟨by simp,λi hi=>?_⟩
 rw[ZH] at hi
 rw[Row.get_eq]
 show((T.leaf:T AV).get i).getD v=_
 rw[T.get_leaf,Zf,XO,if_pos hi];rfl
structure Own(H:Heap)(b e:Nat)(l:List AV)(r:Row):Prop where
 at_:H.t.get b=some (.row r)
 elem:r.elem=e
 sz:r.sz=1
 own:r.own=true
 fz:r.fz=0
 sm:r.sm=false
 cells:Cells r l
 ro:H.ro<=b
noncomputable def FF(a:AV)(H:Heap):OR:=RK a λb o=>Xg H b λr=>ZP (Nat.ble (Nat.succ o) r.size) (.val (r.get o) H)
noncomputable def zx(n:Nat)(a:AV)(H:Heap):OR:=RK a λb o=>Xg H b λr=>ZP (Nat.ble (Nat.add o n) r.size) (.val (.agg (Vf r o n)) H)
noncomputable def xZ(n:Nat)(a v:AV)(H:Heap):OR:=RK a λb o=>Xg H b λr=>
 ZP (Nat.ble 1 n)<|ZP (H.may r b) (ZP (Nat.ble (Nat.add o n) r.size) (ZP (Nat.ble r.fz o) (ZP (Nat.beq (YK v.cells) n)
  (.val Xz (H.put b (.row (r.setCells (WY r.cells o v.cells))))))))
def ZbL(n:Nat)(a:AV)(H:Heap):OR:=RK a λb o=>.val (.ptr b (Nat.add o n)) H
def zr(n sz:Nat)(a i:AV)(H:Heap):OR:=Sf i λi=>RK a λb o=>ZP (Nat.ble (Nat.succ i) n) (.val (.ptr b (Nat.add o (Nat.mul i sz))) H)
def Gd(sz:Nat)(a i:AV)(H:Heap):OR:=Sf i λi=>TI a .fail λb o len _=>ZP (Nat.ble (Nat.succ i) len) (.val (.ptr b (Nat.add o (Nat.mul i sz))) H)
def Zbz(a:AV)(H:Heap):OR:=xw a (.val a H)
noncomputable def NV(a:AV)(H:Heap):OR:=onZ a (.val (.int .i64 0) H)<|TI a (.val (.int .i64 0) H) λ_ _ n _=>Sp n λn=>.val (.int .i64 (.ofNat n)) H
theorem rW(x:Z1)(tm:TM)(H:Heap):ZJ x tm H=FF (x tm) H:=rfl
theorem lV(x:Z1)(n:Nat)(tm:TM)(H:Heap):WS x n tm H=zx n (x tm) H:=rfl
theorem rZ(x y:Z1)(n:Nat)(tm:TM)(H:Heap):Xn x y n tm H=xZ n (x tm) (y tm) H:=rfl
theorem dB(x:Z1)(n:Nat)(tm:TM)(H:Heap):Yr x n tm H=ZbL n (x tm) H:=rfl
theorem lO(x y:Z1)(n sz:Nat)(tm:TM)(H:Heap):On x y n sz tm H=zr n sz (x tm) (y tm) H:=rfl
theorem lQ(x y:Z1)(sz:Nat)(tm:TM)(H:Heap):XN x y sz tm H=Gd sz (x tm) (y tm) H:=rfl
theorem dy(x:Z1)(tm:TM)(H:Heap):Qs x tm H=Zbz (x tm) H:=rfl
theorem lS(x:Z1)(tm:TM)(H:Heap):Xs x tm H=NV (x tm) H:=rfl
theorem v5(e n:Nat)(v:AV)(tm:TM)(H:Heap):Lr e n v tm H=.val (.ptr H.nx 0) (H.new (.row ⟨e,1,n,.leaf,v,0,false,true,true⟩)):=rfl
theorem C7(e:Nat)(cs:List AV)(h:1<=YK cs)(tm:TM)(H:Heap):Ue e cs tm H=.val (.ptr H.nx 0) (H.newRow e 1 cs true):=by
 show ZP (Nat.ble 1 (YK cs)) _=_
 rw[Zk h];rfl
theorem NB(n b o:Nat)(H:Heap):ZbL n (.ptr b o) H=.val (.ptr b (o+n)) H:=rfl
theorem Om(b o:Nat)(H:Heap):Zbz (.ptr b o) H=.val (.ptr b o) H:=rfl
theorem Sr(b o n:Nat)(c:Option Nat)(H:Heap):NV (.slice b o n c) H=.val (nI .i64 n) H:=by
 show Sp n (λn=>OR.val (.int .i64 (.ofNat n)) H)=_
 rw[QC];rfl
theorem vK(H:Heap):NV .slice0 H=.val (nI .i64 0) H:=rfl
theorem CO(H:Heap):NV .nils H=.val (nI .i64 0) H:=rfl
theorem Rz{n i:Nat}(h:i<n)(b o:Nat)(k:IntKind)(H:Heap):zr n 1 (.ptr b o) (nI k i) H=.val (.ptr b (o+i)) H:=by
 show ZP (Nat.ble (Nat.succ i) n) (.val (.ptr b (o+i*1)) H)=_
 rw[Zk h,Xl];rfl
theorem Xb{n i:Nat}(h:i<n)(b o:Nat)(c:Option Nat)(k:IntKind)(H:Heap):Gd 1 (.slice b o n c) (nI k i) H=.val (.ptr b (o+i)) H:=by
 show ZP (Nat.ble (Nat.succ i) n) (.val (.ptr b (o+i*1)) H)=_
 rw[Zk h,Xl];rfl
theorem rx{H:Heap}{b o:Nat}{r:Row}{l:List AV}(hr:H.t.get b=some (.row r))(hc:Cells r l)(ho:o<l.length):FF (.ptr b o) H=.val (l.getD o .unk) H:=by
 show Xg H b _=_
 unfold Xg
 rw[hr]
 show ZP (Nat.ble (Nat.succ o) r.size) _=_
 rw[hc.size,Zk ho,hc.get o ho];rfl
theorem lj{H:Heap}{b o n:Nat}{r:Row}{l:List AV}(hr:H.t.get b=some (.row r))(hc:Cells r l)(ho:o+n<=l.length):zx n (.ptr b o) H=.val (.agg ((l.drop o).take n)) H:=by
 show Xg H b _=_
 unfold Xg
 rw[hr]
 show ZP (Nat.ble (o+n) r.size) _=_
 rw[hc.size,Zk ho,hc.load ho];rfl
theorem Lz(H:Heap)(b c:Nat)(o:Obj):(H.put b o).t.get c=if b=c then some o else H.t.get c:=T.get_set _ _ _ _
theorem Md(H:Heap)(c:Nat)(o:Obj):(H.new o).t.get c=if H.nx=c then some o else H.t.get c:=T.get_set _ _ _ _
theorem LA(H:Heap)(b:Nat)(o:Obj):(H.put b o).nx=H.nx:=rfl
theorem cD(H:Heap)(b:Nat)(o:Obj):(H.put b o).ro=H.ro:=rfl
theorem dm(H:Heap)(o:Obj):(H.new o).nx=H.nx+1:=rfl
theorem dp(H:Heap)(o:Obj):(H.new o).ro=H.ro:=rfl
theorem FN(H:Heap)(e sz:Nat)(l:List AV)(ex:Bool):H.newRow e sz l ex=H.new (.row ⟨e,sz,YK l,T.ofList l,.unk,0,false,true,ex⟩):=rfl
theorem sI(l:List PI)(c:Ctx)(tm:TM)(H:Heap)(x:X):W2 l c tm H x=Ul (l.map (·.dst)) Kw l c [] tm H x:=rfl
theorem kJ(ds:List ZL)(fin:PK)(c:Ctx)(rs:List RD)(tm:TM)(H:Heap)(x:X):Ul ds fin [] c rs tm H x=cond (still tm H rs) (fin rs tm H x) .fail:=rfl
theorem qk(ds:List ZL)(fin:PK)(p:PI)(l:List PI)(c:Ctx)(rs:List RD)(tm:TM)(H:Heap)(x:X):Ul ds fin (p::l) c rs tm H x=SK ds p (Ul ds fin l c) c rs tm H x:=rfl
theorem lK(rs:List RD)(tm:TM)(H:Heap)(x:X):Kw rs tm H x=.ok .normal tm H x:=rfl
section
variable (ds:List ZL) (f:Vv) (os:List (ZL×Z1)) (dst:ZL) (i bef:Nat) (nx:PK) (c:Ctx) (rs:List RD) (tm:TM) (H:Heap) (x:X)
theorem qF:SK ds ⟨f,none,os,dst,.free,i,bef⟩ nx c rs tm H x=cond (RJ H.nx tm os) (Kc ⟨f,none,os,dst,.free,i,bef⟩ nx rs tm H x (f (Qu tm os) ⟨H.nx,.leaf,H.nx⟩)) .fail:=rfl
theorem qG:SK ds ⟨f,none,os,dst,.read,i,bef⟩ nx c rs tm H x=GF ⟨f,none,os,dst,.read,i,bef⟩ nx rs tm H x (f (Qu tm os) ⟨H.nx,H.t,H.nx⟩):=rfl
theorem je:SK ds ⟨f,none,os,dst,.eff,i,bef⟩ nx c rs tm H x=cond (still tm H rs) (HF ds ⟨f,none,os,dst,.eff,i,bef⟩ nx rs c tm x (f (Qu tm os) H)) .fail:=rfl
variable (g:Option (Z1×Bool)) (kd:Hl) (v:AV) (H':Heap)
theorem md:Kc ⟨f,g,os,dst,kd,i,bef⟩ nx rs tm H x (.val v ⟨H.nx,.leaf,H.nx⟩)=nx rs (dst tm v) H x:=by
 show cond (Nat.beq H.nx H.nx) (nx rs (dst tm v) H x) _=_
 rw[Y0];rfl
theorem iN:HF ds ⟨f,g,os,dst,kd,i,bef⟩ nx rs c tm x (.val v H')=nx (US bef rs) (dst tm v) H' x:=rfl
theorem nT(q:Nat)(args:List AV):HF ds ⟨f,g,os,dst,kd,i,bef⟩ nx rs c tm x (.oth (.call q args H'))=Bt ds ⟨f,g,os,dst,kd,i,bef⟩ nx rs tm x (c.call q args H'):=rfl
theorem cL:Bt ds ⟨f,g,os,dst,kd,i,bef⟩ nx rs tm x (.ret v H')=nx (US bef rs) (dst tm v) H' x:=rfl
theorem mT(b:Nat):US b []=[]:=rfl
theorem ri(b:Nat):US b (⟨⟨f,g,os,dst,kd,i,bef⟩,v⟩::rs)=cond (Nat.testBit b i) (US b rs) (⟨⟨f,g,os,dst,kd,i,bef⟩,v⟩::US b rs):=rfl
theorem jf:still tm H []=true:=rfl
theorem qH:still tm H (⟨⟨f,g,os,dst,kd,i,bef⟩,v⟩::rs)=cond (uu ⟨⟨f,g,os,dst,kd,i,bef⟩,v⟩ tm H) (still tm H rs) false:=rfl
noncomputable def Ud(r:OR)(w:AV)(n:Nat):Bool:=OR.rec (λv H1=>cond (Nat.beq H1.nx n) (same v w) false) (λ_=>false) r
theorem cH:uu ⟨⟨f,g,os,dst,kd,i,bef⟩,v⟩ tm H=Ud (f (Qu tm os) ⟨H.nx,H.t,H.nx⟩) v H.nx:=rfl
end
theorem TN(v:AV)(n:Nat)(t:T Obj)(h:same v v=true):Ud (.val v ⟨n,t,n⟩) v n=true:=by
 show cond (Nat.beq n n) (same v v) false=true
 rw[Y0,h];rfl
theorem Ou(k:IntKind)(n:Int):same (.int k n) (.int k n)=true:=by
 show cond (P3 k k) (Ge n n) false=true
 rw[XG,Qr];simp
theorem cX(x:UInt32):same (Hi x) (Hi x)=true:=Ou ..
theorem Zcv(x:UInt8):same (Vd x) (Vd x)=true:=Ou ..
theorem LD(k:IntKind)(n:Nat):same (nI k n) (nI k n)=true:=Ou ..
theorem re(v:UInt32)(n:Nat)(t:T Obj):Ud (.val (Hi v) ⟨n,t,n⟩) (Hi v) n=true:=TN _ _ _ (cX v)
theorem mR(v:UInt8)(n:Nat)(t:T Obj):Ud (.val (Vd v) ⟨n,t,n⟩) (Vd v) n=true:=TN _ _ _ (Zcv v)
theorem mQ(k:IntKind)(v:Nat)(n:Nat)(t:T Obj):Ud (.val (nI k v) ⟨n,t,n⟩) (nI k v) n=true:=TN _ _ _ (LD k v)
theorem lu(n:Nat)(tm:TM):RJ n tm []=true:=rfl
theorem rC(n:Nat)(tm:TM)(s:ZL)(g:Z1)(os:List (ZL×Z1)):RJ n tm ((s,g)::os)=cond (Wx n (g tm)) (RJ n tm os) false:=rfl
theorem Zbm(n:Nat)(k:IntKind)(m:Nat):Wx n (nI k m)=true:=rfl
theorem eU(n:Nat)(x:UInt32):Wx n (Hi x)=true:=rfl
theorem Zbn(n:Nat)(x:UInt8):Wx n (Vd x)=true:=rfl
theorem lx(n:Nat)(x:Bool):Wx n (.bool x)=true:=rfl
theorem YD{n b:Nat}(h:b<n)(o:Nat):Wx n (.ptr b o)=true:=Zk h
theorem WV{n b:Nat}(h:b<n)(o l:Nat)(c:Option Nat):Wx n (.slice b o l c)=true:=Zk h
theorem Zcn(tm:TM):Qu tm []=M9:=rfl
theorem cO(tm:TM)(s:ZL)(g:Z1)(os:List (ZL×Z1)):Qu tm ((s,g)::os)=s (Qu tm os) (g tm):=rfl
theorem Sb(tm:TM):Yb tm=N8.a0 (N8.a0 (N8.a0 tm)):=rfl
theorem Kn(tm:TM):Wc tm=N8.a1 (N8.a0 (N8.a0 tm)):=rfl
theorem IN(tm:TM):VX tm=N8.a2 (N8.a0 (N8.a0 tm)):=rfl
theorem Px(tm:TM):W8 tm=N8.a3 (N8.a0 (N8.a0 tm)):=rfl
theorem Tp(tm:TM):Y4 tm=N8.a4 (N8.a0 (N8.a0 tm)):=rfl
theorem QP(tm:TM):YW tm=N8.a5 (N8.a0 (N8.a0 tm)):=rfl
theorem EU(tm:TM):XI tm=N8.a6 (N8.a0 (N8.a0 tm)):=rfl
theorem LX(tm:TM):XQ tm=N8.a7 (N8.a0 (N8.a0 tm)):=rfl
theorem sW(tm:TM):Wi tm=N8.a0 (N8.a1 (N8.a0 tm)):=rfl
theorem fj(tm:TM):WG tm=N8.a1 (N8.a1 (N8.a0 tm)):=rfl
theorem pN(tm:TM):YY tm=N8.a2 (N8.a1 (N8.a0 tm)):=rfl
theorem fc(tm:TM):Xt tm=N8.a3 (N8.a1 (N8.a0 tm)):=rfl
theorem vx(tm:TM):Xr tm=N8.a4 (N8.a1 (N8.a0 tm)):=rfl
theorem fe(tm:TM):Xf tm=N8.a5 (N8.a1 (N8.a0 tm)):=rfl
theorem fh(tm:TM):Xo tm=N8.a6 (N8.a1 (N8.a0 tm)):=rfl
theorem ZhE(tm:TM):Wb tm=N8.a7 (N8.a1 (N8.a0 tm)):=rfl
theorem fi(tm:TM):XF tm=N8.a0 (N8.a2 (N8.a0 tm)):=rfl
theorem Zdo(tm:TM):Wh tm=N8.a1 (N8.a2 (N8.a0 tm)):=rfl
theorem ZhF(tm:TM):Wo tm=N8.a2 (N8.a2 (N8.a0 tm)):=rfl
theorem ZhG(tm:TM):Rx tm=N8.a5 (N8.a5 (N8.a0 tm)):=rfl
theorem ZhH(tm:TM):Q6 tm=N8.a1 (N8.a0 (N8.a1 tm)):=rfl
theorem Zdp(tm:TM):RZ tm=N8.a2 (N8.a0 (N8.a1 tm)):=rfl
theorem Ze8(tm:TM):Of tm=N8.a1 (N8.a5 (N8.a1 tm)):=rfl
theorem Ze9(tm:TM):Kh tm=N8.a2 (N8.a5 (N8.a1 tm)):=rfl
theorem Zfa(tm:TM):OV tm=N8.a3 (N8.a5 (N8.a1 tm)):=rfl
theorem Zfb(tm:TM):vu tm=N8.a7 (N8.a5 (N8.a2 tm)):=rfl
structure Zs(H H':Heap)(S:List Nat):Prop where
 nx:H.nx<=H'.nx
 ro:H'.ro=H.ro
 get: ∀c,c<H.nx->c∉S->H'.t.get c=H.t.get c
theorem Zs.refl(H:Heap)(S:List Nat):Zs H H S:=⟨Zp _,rfl,λ_ _ _=>rfl⟩
theorem Zs.trans{H H' H'':Heap}{S S':List Nat}(a:Zs H H' S)(b:Zs H' H'' S')(h: ∀c,c∈S'->c<H.nx->c∈S):Zs H H'' S:=
 ⟨Z5 a.nx b.nx,b.ro.trans a.ro,λc hc hn=>(b.get c (ZT hc a.nx) (λhh=>hn (h c hh hc))).trans (a.get c hc hn)⟩
theorem Zs.put{H:Heap}{b:Nat}{o:Obj}{S:List Nat}(h:b<H.nx->b∈S):Zs H (H.put b o) S:=
 ⟨Zp _,rfl,λc hc hn=>by rw[Lz,if_neg (λ(e:b=c)=>hn (by rw[<-e];exact h (by omega)))]⟩
theorem Zs.new(H:Heap)(o:Obj)(S:List Nat):Zs H (H.new o) S:=
 ⟨VL _,rfl,λc hc _=>by rw[Md,if_neg (by omega)]⟩
theorem Zs.then_put{H H':Heap}{b:Nat}{o:Obj}{S:List Nat}(k:Zs H H' S)(h:b<H.nx->b∈S):Zs H (H'.put b o) S:=
 ⟨k.nx,k.ro,λc hc hn=>by rw[Lz,if_neg (λ(e:b=c)=>hn (by rw[<-e];exact h (by omega)))];exact k.get c hc hn⟩
theorem Zs.then_new{H H':Heap}{S:List Nat}(k:Zs H H' S)(o:Obj):Zs H (H'.new o) S:=
 ⟨Nat.le_succ_of_le k.nx,k.ro,λc hc hn=>by rw[Md,if_neg (by have:=k.nx;omega)];exact k.get c hc hn⟩
theorem Zs.trans'{H H' H'':Heap}{S':List Nat}(a:Zs H H' [])(b:Zs H' H'' S'):Zs H H'' S':=
 ⟨Z5 a.nx b.nx,b.ro.trans a.ro,λc hc hn=>(b.get c (ZT hc a.nx) hn).trans (a.get c hc (by simp))⟩
structure Bytes(H:Heap)(b o:Nat)(cap:Option Nat)(l:List UInt8)(r:Row):Prop where
 at_:H.t.get b=some (.row r)
 sz:r.sz=1
 fits:o+l.length<=r.size
 get: ∀i,i<l.length->r.get (o+i)=Vd (l.getD i 0)
 cap: ∀c,cap=some c->l.length<=c∧o+c<=r.size
def OA(x:Option AV)(d top:Nat)(k:Nat->OR):OR:=match x with|none=>k d|some v=>Sf v λn=>ZP (Nat.ble n top) (k n)
noncomputable def Pq(sz:Nat)(a:AV)(lo hi:Option AV)(H:Heap):OR:=
 onZ a (OA hi 0 0 λh=>OA lo 0 h λ_=>.val .slice0 H)<|TI a (OA hi 0 0 λh=>OA lo 0 h λ_=>.val .nils H) λb o len cap=>Xg H b λr=>ZP (GX r sz cap) (OA hi len (Te r o cap) λh=>OA lo 0 h λl=>ZP (Nat.ble l (Te r o cap))<|
  cond (Nat.beq l (Te r o cap)) (Option.rec (.val (.slice H.nx 0 (Nat.sub h l) none) ⟨Nat.succ H.nx,H.t,H.ro⟩) (λ_=>.val (.slice b o (Nat.sub h l) (some 0)) H) cap)
   (.val (.slice b (Nat.add o (Nat.mul l sz)) (Nat.sub h l) (Option.rec none (λc=>some (Nat.sub c l)) cap)) H))
theorem Lv(sz:Nat)(x:Z1)(lo hi:Option Z1)(tm:TM)(H:Heap):Ph sz x lo hi none tm H=Pq sz (x tm) (lo.map λf=>f tm) (hi.map λf=>f tm) H:=by
 cases lo<;>cases hi<;>rfl
def ic(cap:Option Nat)(l:Nat):Option Nat:=cap.map λc=>c - l
noncomputable def LG(n sz:Nat)(a:AV)(lo hi:Option AV)(H:Heap):OR:=RK a λb o=>OA hi n n λh=>OA lo 0 h λl=>
 cond (Nat.beq l n) (.val (.slice b o (Nat.sub h l) (some (Nat.sub n l))) H) (.val (.slice b (Nat.add o (Nat.mul l sz)) (Nat.sub h l) (some (Nat.sub n l))) H)
theorem Lu(n sz:Nat)(x:Z1)(lo hi:Option Z1)(tm:TM)(H:Heap):Pg n sz x lo hi none tm H=LG n sz (x tm) (lo.map λf=>f tm) (hi.map λf=>f tm) H:=by
 cases lo<;>cases hi<;>rfl
theorem Jn{n l:Nat}(h:l<n)(b o:Nat)(k:IntKind)(H:Heap):LG n 1 (.ptr b o) (some (nI k l)) none H=.val (.slice b (o+l) (n - l) (some (n - l))) H:=by
 show ZP (Nat.ble l n) (cond (Nat.beq l n) _ _)=_
 rw[Zk (N1 h),Yy,Zb (by omega)]
 show OR.val (.slice b (o+l*1) (n - l) (some (n - l))) H=_
 rw[Xl]
theorem Jm{n m:Nat}(h:m<=n)(h0:0<n)(b o:Nat)(k:IntKind)(H:Heap):LG n 1 (.ptr b o) none (some (nI k m)) H=.val (.slice b o m (some n)) H:=by
 show ZP (Nat.ble m n) (ZP (Nat.ble 0 m) (cond (Nat.beq 0 n) _ _))=_
 rw[Zk h,Zk (ZZ _),Yy,Zb (by omega)]
 show OR.val (.slice b (o+0*1) (m - 0) (some (n - 0))) H=_
 rw[Vh];rfl
noncomputable def po(sz:Nat)(a v:AV)(H:Heap):OR:=xh v λsn=>TI a (.val (.int .i64 0) H) λb o dn _=>Sp (Lq dn sn) λn=>Vm H sz v n λnew=>
 cond (Nat.beq n 0) (.val (.int .i64 0) H) (Xg H b λr=>ZP (H.may r b) (ZP (Nat.ble r.fz o) (ZP (Nat.ble (Nat.add o (Nat.mul n sz)) r.size) (.val (.int .i64 (.ofNat n)) (H.put b (.row (r.setCells (WY r.cells o new))))))))
theorem FR(x y:Z1)(sz:Nat)(tm:TM)(H:Heap):C9 x y sz tm H=po sz (x tm) (y tm) H:=rfl
noncomputable def PC(k:List AV->OR)(ps:List (Nat×Nat×AV)):List AV->OR:=List.rec (λcells=>k cells) (λp _ ih cells=>
 ZP (Nat.ble 1 p.2.1)<|ZP (Nat.beq (YK p.2.2.cells) p.2.1) (ZP (Nat.ble (Nat.add p.1 p.2.1) (YK cells)) (ih (Ow p.1 cells++(p.2.2.cells++PB (Nat.add p.1 p.2.1) cells))))) ps
theorem Fq(tm:TM)(k:List AV->OR): ∀(ps:List yx) (cells:List AV),AU tm k ps cells=PC k (ps.map λp=>(p.off,p.sz,p.x tm)) cells
 |[],_=>rfl
 |p::ps,cells=>by
  show ZP (Nat.ble 1 p.sz) (ZP (Nat.beq (YK (p.x tm).cells) p.sz) (ZP (Nat.ble (Nat.add p.off p.sz) (YK cells)) (AU tm k ps (Ow p.off cells++((p.x tm).cells++PB (Nat.add p.off p.sz) cells)))))=_
  rw[Fq tm k ps]
  rfl
noncomputable def Q1(zs:List AV)(ps:List (Nat×Nat×AV))(H:Heap):OR:=ZP (Nat.ble 1 (YK zs))<|PC (λcs=>.val (.agg cs) H) ps zs
theorem Up(zs:List AV)(ps:List yx)(tm:TM)(H:Heap):UZ zs ps tm H=Q1 zs (ps.map λp=>(p.off,p.sz,p.x tm)) H:=by
 unfold UZ Q1
 rw[Fq]
noncomputable def UU(e sz n:Nat)(zs:List AV)(ps:List (Nat×Nat×AV))(H:Heap):OR:=ZP (Nat.ble 1 sz)<|ZP (Nat.beq (YK zs) (Nat.mul n sz))<|PC (λcs=>.val (.slice H.nx 0 n none) (H.newRow e sz cs true)) ps zs
theorem Ys(e sz n:Nat)(zs:List AV)(ps:List yx)(tm:TM)(H:Heap):Wt e sz n zs ps tm H=UU e sz n zs (ps.map λp=>(p.off,p.sz,p.x tm)) H:=by
 unfold Wt UU
 rw[Fq]
theorem N3(e:Nat)(z v:AV)(h:v.cells=[v])(H:Heap):UU e 1 1 [z] [(0,1,v)] H=.val (.slice H.nx 0 1 none) (H.newRow e 1 [v] true):=by
 show ZP (Nat.beq (YK v.cells) 1) (ZP (Nat.ble 1 1) (.val _ (H.newRow e 1 (v.cells++[]) true)))=_
 rw[h];rfl
noncomputable def UT(e sz bytes:Nat)(a v:AV)(H:Heap):OR:=ZP (Nat.ble 1 sz)<|ZP (Nat.ble 1 bytes)<|xh v λn=>Vm H sz v n λnew=>Oz a e sz bytes H n new
theorem Ya(x y:Z1)(e sz bytes:Nat)(tm:TM)(H:Heap):X1 x y e sz bytes tm H=UT e sz bytes (x tm) (y tm) H:=rfl
def Src(H:Heap)(v:AV)(l:List AV):Prop:= ∀k:Nat->List AV->OR,(xh v λn=>Vm H 1 v n λnew=>k n new)=k l.length l
theorem Src.nils(H:Heap):Src H .nils []:=λ_=>rfl
theorem Src.none(H:Heap)(b o:Nat)(c:Option Nat):Src H (.slice b o 0 c) []:=λ_=>rfl
theorem Src.row{H:Heap}{b o:Nat}{c:Option Nat}{r:Row}{l:List AV}(hr:H.t.get b=some (.row r))(hf:o+l.length<=r.size)(hg: ∀i,i<l.length->r.get (o+i)=l.getD i .unk):Src H (.slice b o l.length c) l:=by
 intro k
 show(Vm H 1 (.slice b o l.length c) l.length λnew=>k l.length new)=_
 unfold Vm
 rw[Yy]
 by_cases h0:l.length=0
 ·rw[Ze h0]
  have:l=[]:=YO.1 h0
  subst this;rfl
 ·rw[Zb h0]
  unfold Xg
  simp only[hr,cond_false,Xl]
  show ZP (Nat.ble (o+l.length*1) r.size) (k l.length (Vf r o (l.length*1)))=_
  rw[Xl,Zk hf]
  have:Vf r o l.length=l:=by
   refine WQ λj=>?_
   by_cases hj:j<l.length
   ·rw[SO r _ o j hj,hg j hj,Zf,Zl hj];rfl
   ·rw[Y1 (by rw[Ss];omega),Y1 (by omega)]
  rw[this];rfl
theorem P9{H:Heap}{e bytes:Nat}{a v:AV}{l:List AV}(hb:1<=bytes)(h:Src H v l):UT e 1 bytes a v H=Oz a e 1 bytes H l.length l:=by
 show ZP (Nat.ble 1 1) (ZP (Nat.ble 1 bytes) _)=_
 rw[Zk hb]
 exact h λn new=>Oz a e 1 bytes H n new
theorem wu{e:Nat}{H:Heap}{l:List AV}(h0:0<l.length)(hl:l.length<=140737488355328):Oz .nils e 1 1 H l.length l=.val (.slice H.nx 0 l.length none) (H.newRow e 1 l false):=by
 show cond (Nat.beq l.length 0) _ (ZP (Nat.ble (l.length*1) 140737488355328) _)=_
 rw[Yy,Zb (by omega),Xl,Zk hl];rfl
structure ZkM(H:Heap)(b e:Nat)(l:List AV)(r:Row):Prop extends Own H b e l r where
 exact_:r.exact=false
 low:b<H.nx
section
variable {P:Program}
theorem IS{l:List AV}(h:sameL l l=true)(n:Nat)(t:T Obj):Ud (.val (.agg l) ⟨n,t,n⟩) (.agg l) n=true:=TN _ _ _ (by unfold same;exact h)
theorem MY(s:List UInt8):same (.str s) (.str s)=true:=by
 unfold same;rw[SL];simp
theorem rd(s:List UInt8)(n:Nat)(t:T Obj):Ud (.val (.str s) ⟨n,t,n⟩) (.str s) n=true:=TN _ _ _ (MY s)
theorem TD(b o n:Nat)(c:Option Nat)(k:Nat)(t:T Obj):Ud (.val (.slice b o n c) ⟨k,t,k⟩) (.slice b o n c) k=true:=TN _ _ _ (by
 unfold same
 rw[Y0,Y0,Y0]
 cases c with
 |none=>rfl
 |some x=>show Nat.beq x x=true;exact Y0 x)
theorem QE(n:Nat)(t:T Obj):Ud (.val .nils ⟨n,t,n⟩) .nils n=true:=TN _ _ _ (by unfold same;rfl)
variable (ds:List ZL) (f:Vv) (e:Z1) (b:Bool) (os:List (ZL×Z1)) (dst:ZL) (i bef:Nat) (nx:PK) (c:Ctx) (rs:List RD) (tm:TM) (H:Heap) (x:X)
theorem tq:SK ds ⟨f,some (e,b),os,dst,.free,i,bef⟩ nx c rs tm H x=UX (e tm) b (cond (RJ H.nx tm os) (Kc ⟨f,some (e,b),os,dst,.free,i,bef⟩ nx rs tm H x (f (Qu tm os) ⟨H.nx,.leaf,H.nx⟩)) .fail) (nx rs (dst tm Xz) H x):=rfl
theorem tu:SK ds ⟨f,some (e,b),os,dst,.read,i,bef⟩ nx c rs tm H x=UX (e tm) b (GF ⟨f,some (e,b),os,dst,.read,i,bef⟩ nx rs tm H x (f (Qu tm os) ⟨H.nx,H.t,H.nx⟩)) (nx rs (dst tm Xz) H x):=rfl
theorem qE:SK ds ⟨f,some (e,b),os,dst,.eff,i,bef⟩ nx c rs tm H x=cond (still tm H rs) (UX (e tm) b (HF ds ⟨f,some (e,b),os,dst,.eff,i,bef⟩ nx rs c tm x (f (Qu tm os) H)) (nx (US bef rs) (dst tm Xz) H x)) .fail:=rfl
theorem mc(g:Option (Z1×Bool))(kd:Hl)(v:AV)(o:Obj)(hw:wrO o=true):Kc ⟨f,g,os,dst,kd,i,bef⟩ nx rs tm H x (.val v ((⟨H.nx,.leaf,H.nx⟩:Heap).new o))=nx rs (dst tm v) (H.new o) x:=by
 show cond (Nat.beq (H.nx+1) H.nx) _ (cond (Nat.beq (H.nx+1) (Nat.succ H.nx)) (dY (((T.leaf:T Obj).set H.nx o).get H.nx) λo=>nx rs (dst tm v) (H.new o) x) .fail)=_
 rw[Yy,Zb (by omega),Yy,Ze rfl,T.get_set,if_pos rfl]
 show cond (wrO o) _ _=_
 rw[hw];rfl
end
theorem AG{lib:Nat->List AV->Heap->Option CR}{fs:T CF}{fuel n f:Nat}{args:List AV}{H:Heap}{r:CR}(h:lib f args H=some r):ZE lib fs fuel (n+1) f args H=r:=by
 show od (lib f args H) _=_
 rw[h];rfl
section
variable {P:Program}
theorem Za3{call:Nat->List AV->Heap->CR}(hcall:Si P call){f:FuncId}{args:List AV}{H H':Heap}{v:AV}(hrun:call f args H=.ret v H')(k:Zs H H' [])(hlow:Wx 0 v=true)
  {σ:Mp}{w:World}{vs:List Value}(hs:WE P σ H w)(hv:YR σ args vs):La P σ H w (.ret v H) ((callFunc f ⟨vs⟩).run P w):=by
 have hcr:=hcall f _ H σ w vs hs hv
 rw[hrun] at hcr
 refine Ends.mono (λu' w' hx=>?_) (λ_ _ hx=>hx) hcr
 obtain⟨σ2,h1,t⟩:=hx
 refine⟨σ,?_,t.drop hs λb hb=>k.get b hb (by simp)⟩
 exact(Yn.cut hlow h1).mono λy _ hy=>by have:=(Mp.cut_some hy).1;omega
end
noncomputable def oa(a:AV)(H:Heap):OR:=Oo a λs=>Sp (YK s) λn=>.val (.int .i64 (.ofNat n)) H
theorem lU(x:Z1)(tm:TM)(H:Heap):Xm x tm H=oa (x tm) H:=rfl
theorem ZG(s:List UInt8)(H:Heap):oa (.str s) H=.val (nI .i64 s.length) H:=by
 show Sp (YK s) (λn=>OR.val (.int .i64 (.ofNat n)) H)=_
 rw[QC,YF];rfl
noncomputable def Ma(a i:AV)(H:Heap):OR:=Sf i λi=>Oo a λs=>U3 (vZ s i) λb=>Sp b.toNat λn=>.val (.int .u8 (.ofNat n)) H
theorem ua(x y:Z1)(tm:TM)(H:Heap):Y7 x y tm H=Ma (x tm) (y tm) H:=rfl
theorem Ll{s:List UInt8}{i:Nat}(h:i<s.length)(k:IntKind)(H:Heap):Ma (.str s) (nI k i) H=.val (Vd (s.getD i 0)) H:=by
 show U3 (vZ s i) _=_
 rw[xz,Zl h]
 show Sp s[i].toNat (λn=>OR.val (.int .u8 (.ofNat n)) H)=_
 rw[QC,Zf,Zl h];rfl
noncomputable def F5(a:AV)(lo hi:Option AV)(H:Heap):OR:=Oo a λs=>OA hi (YK s) (YK s) λh=>OA lo 0 h λl=>.val (.str (JN l (LQ h s))) H
theorem rX(x:Z1)(lo hi:Option Z1)(tm:TM)(H:Heap):WI x lo hi none tm H=F5 (x tm) (lo.map λf=>f tm) (hi.map λf=>f tm) H:=by
 cases lo<;>cases hi<;>rfl
theorem Us{s:List UInt8}{n:Nat}(h:n<=s.length)(k:IntKind)(H:Heap):F5 (.str s) none (some (nI k n)) H=.val (.str (s.take n)) H:=by
 show ZP (Nat.ble n (YK s)) (OR.val (.str (JN 0 (LQ n s))) H)=_
 rw[YF,Zk h,NN];rfl
theorem VU{a b:List UInt8}(h:a.length+b.length<=4611686018427387904)(H:Heap):Ty (.str a) (.str b) H=.val (.str (a++b)) H:=by
 show ZP (Nat.ble (Nat.add (YK a) (YK b)) 4611686018427387904) _=_
 rw[YF,YF,Zk (show Nat.add a.length b.length<=_ from h)];rfl
theorem YT(a b:List UInt8)(H:Heap):N6 PM false (.str a) (.str b) H=.val (.bool (decide (a=b))) H:=by
 show SU (NK a b) H=_
 rw[Tb,SL]
 congr 2
 by_cases h:a=b<;>simp[h]
theorem Wu(a b:List UInt8)(H:Heap):N6 PM true (.str a) (.str b) H=.val (.bool (!decide (a=b))) H:=by
 show SU (cond (NK a b) false true) H=_
 rw[Tb,SL]
 congr 2
 by_cases h:a=b<;>simp[h]
structure Below(n:Nat)(H H':Heap):Prop where
 nx:H.nx<=H'.nx
 ro:H'.ro=H.ro
 get: ∀c,c<n->c<H.nx->H'.t.get c=H.t.get c
theorem Below.refl(n:Nat)(H:Heap):Below n H H:=⟨Zp _,rfl,λ_ _ _=>rfl⟩
theorem Below.trans{n:Nat}{H H' H'':Heap}(a:Below n H H')(b:Below n H' H''):Below n H H'':=
 ⟨Z5 a.nx b.nx,b.ro.trans a.ro,λc h1 h2=>(b.get c h1 (ZT h2 a.nx)).trans (a.get c h1 h2)⟩
theorem Below.put{n b:Nat}{H:Heap}{o:Obj}(h:n<=b):Below n H (H.put b o):=⟨Zp _,rfl,λc h1 _=>by rw[Lz,if_neg (by omega)]⟩
theorem Below.new(n:Nat)(H:Heap)(o:Obj):Below n H (H.new o):=⟨VL _,rfl,λc _ h2=>by rw[Md,if_neg (by omega)]⟩
theorem Below.mono{n m:Nat}{H H':Heap}(a:Below n H H')(h:m<=n):Below m H H':=⟨a.nx,a.ro,λc h1 h2=>a.get c (by omega) h2⟩
theorem Zs.below{H0 H H':Heap}{n:Nat}(k:Zs H0 H [])(b:Below n H H')(h:H0.nx<=n):Zs H0 H' []:=
 ⟨Z5 k.nx b.nx,b.ro.trans k.ro,λc h1 h2=>(b.get c (by omega) (ZT h1 k.nx)).trans (k.get c h1 h2)⟩
def Zlk(H:Heap)(v:AV)(l:List UInt8)(lo:Nat):Prop:= ∃b r,v=.slice b 0 l.length none∧ZkM H b 5 (l.map Vd) r∧lo<=b
def Buf(H:Heap)(v:AV)(l:List UInt8)(lo:Nat):Prop:=(l=[]∧v=.nils)∨(l≠[]∧Zlk H v l lo)
theorem Buf.below{H H':Heap}{v:AV}{l:List UInt8}{lo:Nat}(h:Buf H v l lo)(hp: ∀c,lo<=c->c<H.nx->H'.t.get c=H.t.get c)(hro:H'.ro=H.ro)(hnx:H.nx<=H'.nx):Buf H' v l lo:=by
 rcases h with h|⟨hne,b,r,rfl,g,hb⟩
 ·exact .inl h
 ·exact .inr ⟨hne,b,r,rfl,⟨⟨by rw[hp b hb g.low];exact g.at_,g.elem,g.sz,g.own,g.fz,g.sm,g.cells,by rw[hro];exact g.ro⟩,g.exact_,ZT g.low hnx⟩,hb⟩
theorem Z3(k:IntKind)(a b:Nat)(H:Heap):Tf UG WJ (nI k a) (nI k b) H=.val (.bool (decide (b<a))) H:=by
 show ZP (P3 k k) (SU (vB (.ofNat b) (.ofNat a)) H)=_
 rw[XG,Tb,K8];rfl
theorem Yt(k:IntKind)(a b:Nat)(H:Heap):Tf S2 UE (nI k a) (nI k b) H=.val (.bool (decide (a<=b))) H:=by
 show ZP (P3 k k) (SU (!vB (.ofNat b) (.ofNat a)) H)=_
 rw[XG,Tb,K8]
 show OR.val (.bool (!decide (b<a))) H=_
 congr 2
 by_cases h:b<a
 ·rw[Ze h,Zb (by omega)];rfl
 ·rw[Zb h,Ze (by omega)];rfl
theorem Zb6(b c:AV)(H:Heap):zM (.bool true) b c H=.val b H:=rfl
theorem Zb5(b c:AV)(H:Heap):zM (.bool false) b c H=.val c H:=rfl
theorem ZfS(b:Bool)(H:Heap):ZbD (.bool b) H=.val (.bool (cond b false true)) H:=rfl
theorem eP(n:Nat)(l:List AV):Wx n (.agg l)=RS n l:=rfl
theorem rE(n:Nat):Wx n Xz=true:=rfl
theorem eR(n:Nat)(s:List UInt8):Wx n (.str s)=true:=rfl
noncomputable def lF(mx:Bool)(l:List AV)(H:Heap):OR:=match l with
 |.int k a::l=>min2 mx k a H l
 |_=>.fail
theorem S7(mx:Bool)(args:List Z1)(tm:TM)(H:Heap):Su mx args tm H=lF mx (evs tm args) H:=rfl
theorem MM(a b:Nat)(H:Heap):lF false [nI .i64 a,nI .i64 b] H=.val (nI .i64 (min a b)) H:=by
 show ZP (P3 .i64 .i64) (min2 false .i64 (cond (cond false (vB (.ofNat a) (.ofNat b)) (vB (.ofNat b) (.ofNat a))) (.ofNat b) (.ofNat a)) H [])=_
 rw[XG,K8,K8]
 show OR.val (.int .i64 (cond (decide (b<a)) (.ofNat b) (.ofNat a))) H=_
 by_cases h:b<a
 ·rw[Ze h,Tv (by omega)];rfl
 ·rw[Zb h,Wl (by omega)];rfl
noncomputable def Eo(i:Nat)(a:AV)(H:Heap):OR:=oD a λvs=>U3 (Gn vs i) λv=>.val v H
theorem lN(x:Z1)(i:Nat)(tm:TM)(H:Heap):XJ x i tm H=Eo i (x tm) H:=rfl
theorem Zaq(a:AV)(l:List AV)(H:Heap):Eo 0 (.tup (a::l)) H=.val a H:=rfl
theorem Zar(a b:AV)(l:List AV)(H:Heap):Eo 1 (.tup (a::b::l)) H=.val b H:=rfl
theorem Zas(a b c:AV)(l:List AV)(H:Heap):Eo 2 (.tup (a::b::c::l)) H=.val c H:=rfl
theorem Zal(a b:Bool)(H:Heap):N6 sK false (.bool a) (.bool b) H=.val (.bool (decide (a=b))) H:=by cases a<;>cases b<;>rfl
theorem Nw(a:TM->Heap->X->WM)(n:Nat)(tm:TM)(H:Heap)(x:X):Wv a (n+1) tm H x=PF (a tm H x) (Wv a n):=rfl
noncomputable def ZdO(a:AV)(H:Heap):OR:=match a with
 |.nilp=>.val .nilp H
 |.ptr b o=>Xg H b λr=>ZP (Nat.ble (Nat.succ o) r.size) (.val (.ptr b o) H)
 |_=>.fail
theorem lZ(x:Z1)(tm:TM)(H:Heap):zD x tm H=ZdO (x tm) H:=rfl
noncomputable def ZdN(u n:Nat)(a:AV)(H:Heap):OR:=match a with
 |.nilp=>.val .nilp H
 |.ptr b o=>Xg H b λr=>ZP r.exact (ZP (Nat.beq r.elem u) (ZP (Nat.beq o 0) (ZP (Nat.ble n r.size) (.val (.ptr b o) H))))
 |_=>.fail
theorem lY(x:Z1)(u n:Nat)(tm:TM)(H:Heap):zC x u n tm H=ZdN u n (x tm) H:=rfl
noncomputable def na(a:AV)(H:Heap):OR:=TI a (.val .nilp H) λb o _ cap=>Option.rec (Xg H b λr=>ZP (Nat.ble (Nat.succ o) r.size) (.val (.ptr b o) H)) (λc=>ZP (Nat.ble 1 c) (.val (.ptr b o) H)) cap
theorem ue(x:Z1)(tm:TM)(H:Heap):Di x tm H=na (x tm) H:=rfl
noncomputable def Zec(e:Nat)(a n:AV)(H:Heap):OR:=Sf n λn=>cond (Nat.beq n 0) (match a with|.nilp=>.val (.str []) H|.ptr .. =>.val (.str []) H|_=>.fail)
 (ZP (Nat.ble n 140737488355328)<|RK a λb o=>Xg H b λr=>ZP (Nat.beq r.elem e)<|ZP (cond r.sm false (H.may r b)) (ZP (Nat.ble (Nat.add o n) r.size) (P6 (λs=>.val (.str s)
  (H.put b (.row ⟨r.elem,r.sz,r.size,r.cells,r.dflt,cond (Nat.ble r.fz (Nat.add o n)) (Nat.add o n) r.fz,r.sm,r.own,r.exact⟩))) (Vf r o n))))
theorem kf(x y:Z1)(e:Nat)(tm:TM)(H:Heap):oz x y e tm H=Zec e (x tm) (y tm) H:=rfl
theorem BY: ∀(l:List UInt8) (k:List UInt8->OR),P6 k (l.map Vd)=k l
 |[],k=>rfl
 |x::l,k=>by
  show P6 (λs=>k (UInt8.ofNat x.toNat::s)) (l.map Vd)=_
  rw[BY l]
  simp
namespace T
variable {α:Type}
theorem I7(x:α)(l:T α)(v:Option α)(r:T α)(bs:List Bool):setB x (node l v r) (true::bs)=node (setB x l bs) v r:=rfl
theorem I6(x:α)(l:T α)(v:Option α)(r:T α)(bs:List Bool):setB x (node l v r) (false::bs)=node l v (setB x r bs):=rfl
theorem z3(x:α)(bs:List Bool):setB x leaf bs=single x bs:=rfl
theorem uN(x:α)(bs:List Bool):single x (true::bs)=node (single x bs) none leaf:=rfl
theorem uM(x:α)(bs:List Bool):single x (false::bs)=node leaf none (single x bs):=rfl
theorem KI(x y:α): ∀bs:List Bool,setB y (single x bs) bs=single y bs
 |[]=>rfl
 |true::bs=>by rw[uN,I7,KI x y bs,uN]
 |false::bs=>by rw[uM,I6,KI x y bs,uM]
theorem F2(x y:α): ∀(t:T α) (bs:List Bool),setB y (setB x t bs) bs=setB y t bs
 |leaf,bs=>by rw[z3,KI,z3]
 |node l v r,[]=>rfl
 |node l v r,true::bs=>by rw[I7,I7,I7,F2 x y l bs]
 |node l v r,false::bs=>by rw[I6,I6,I6,F2 x y r bs]
theorem set_set(t:T α)(n:Nat)(x y:α):(t.set n x).set n y=t.set n y:=F2 x y t (bits n)
theorem Qt(a b:α)(l:List α):U9 (a::b::l)=a::U9 l:=by simp[U9]
theorem Bf: ∀(l:List α) (i:Nat) (v:α),U9 (l.set (2*i) v)=(U9 l).set i v
 |[],_,_=>by simp[U9]
 |[a],0,_=>by simp[U9]
 |[a],i+1,v=>by
  rw[show 2*(i+1)=2*i+1+1 by omega];simp[U9]
 |a::b::l,0,v=>by simp[U9]
 |a::b::l,i+1,v=>by
  rw[show 2*(i+1)=2*i+1+1 by omega,UI,UI,Qt,Qt,Bf l i v,UI]
theorem Lx: ∀(l:List α) (i:Nat) (v:α),U9 (l.set (2*i+1) v)=U9 l
 |[],_,_=>by simp[U9]
 |[a],i,_=>by simp[U9]
 |a::b::l,0,v=>by simp[U9]
 |a::b::l,i+1,v=>by
  rw[show 2*(i+1)+1=(2*i+1)+1+1 by omega,UI,UI,Qt,Qt,Lx l i v]
theorem tC(l:List α)(i:Nat)(v:α):(l.set (i+1) v).tail=l.tail.set i v:=by cases l<;>rfl
theorem jj(l:List α)(v:α):(l.set 0 v).tail=l.tail:=by cases l<;>rfl
theorem SG(l:List α):(U9 l).length=(l.length+1)/2:=by
 have: ∀(n:Nat) (l:List α),l.length<=n->(U9 l).length=(l.length+1)/2:=by
  intro n
  induction n with
  |zero=>intro l h;cases l with|nil=>simp[U9]|cons=>simp at h
  |succ n ih=>
   intro l h
   match l,h with
   |[],_=>simp[U9]
   |[a],_=>simp[U9]
   |a::b::l,h=>
    rw[Qt,ZS,ih l (by simp at h;omega)]
    simp only[ZS];omega
 exact this _ l (Zp _)
theorem RB(f:Nat)(x:α)(l:List α):TH (f+1) (x::l)=node (TH f (U9 l)) (some x) (TH f (U9 l.tail)):=rfl
theorem uK: ∀(f:Nat) (l:List α) (i:Nat) (v:α),l.length<=f->i<l.length->(TH f l).set i v=TH f (l.set i v):=by
 intro f
 induction f with
 |zero=>intro l i v h hi;omega
 |succ f ih=>
  intro l i v h hi
  cases l with
  |nil=>cases hi
  |cons x l=>
   rw[RB]
   by_cases h0:i=0
   ·subst h0;rfl
   ·obtain⟨j,rfl⟩: ∃j,i=j+1:=⟨i - 1,by omega⟩
    rw[UI,RB]
    simp only[ZS] at h hi
    unfold set
    by_cases h1:(j+1) % 2=1
    ·obtain⟨m,rfl⟩: ∃m,j=2*m:=⟨j/2,by omega⟩
     rw[DJ h1,I7,show(2*m+1)/2=m by omega]
     have:=ih (U9 l) m v (by rw[SG];omega) (by rw[SG];omega)
     unfold set at this
     rw[this,Bf]
     cases m with
     |zero=>rw[jj]
     |succ m=>rw[show 2*(m+1)=2*m+1+1 by omega,tC,Lx]
    ·obtain⟨m,rfl⟩: ∃m,j=2*m+1:=⟨j/2,by omega⟩
     rw[Fc (by omega) (by omega),I6,show(2*m+1+1)/2 - 1=m by omega]
     have:=ih (U9 l.tail) m v (by rw[SG,U8];omega) (by rw[SG,U8];omega)
     unfold set at this
     rw[this,Lx,tC,Bf]
theorem xE: ∀(f g:Nat) (l:List α),l.length<=f->l.length<=g->TH f l=TH g l:=by
 intro f
 induction f with
 |zero=>
  intro g l h _
  have:l=[]:=YO.1 (by omega)
  subst this
  cases g<;>rfl
 |succ f ih=>
  intro g l h hg
  cases l with
  |nil=>cases g<;>rfl
  |cons x l=>
   cases g with
   |zero=>simp at hg
   |succ g=>
    simp only[ZS] at h hg
    rw[RB,RB,ih g (U9 l) (by rw[SG];omega) (by rw[SG];omega),ih g (U9 l.tail) (by rw[SG,U8];omega) (by rw[SG,U8];omega)]
theorem MQ: ∀(l:List α) (v:α),U9 (l++[v])=if l.length % 2=0 then U9 l++[v] else U9 l
 |[],v=>by simp[U9]
 |[a],v=>by simp[U9]
 |a::b::l,v=>by
  rw[Vg,Vg,Qt,Qt,MQ l v]
  simp only[ZS,show(l.length+1+1) % 2=l.length % 2 by omega]
  split<;>rfl
theorem xM: ∀(f:Nat) (l:List α) (v:α),l.length<f->(TH f l).set l.length v=TH f (l++[v]):=by
 intro f
 induction f with
 |zero=>intro l v h;cases h
 |succ f ih=>
  intro l v h
  cases l with
  |nil=>
   cases f<;>rfl
  |cons x l=>
   rw[Vg,RB,RB]
   simp only[ZS] at h ⊢
   unfold set
   by_cases h1:(l.length+1) % 2=1
   ·rw[DJ h1,I7,show(l.length+1)/2=(U9 l).length by rw[SG]]
    have:=ih (U9 l) v (by rw[SG];omega)
    unfold set at this
    rw[this,MQ,if_pos (by omega)]
    cases l with
    |nil=>rfl
    |cons y l=>
     simp only[ZS] at h1
     rw[Vg,List.tail_cons,List.tail_cons,MQ,if_neg (by omega)]
   ·have h2:l≠[]:=by intro e;subst e;simp at h1
    rw[Fc (by omega) (by omega),I6,show(l.length+1)/2 - 1=(U9 l.tail).length by rw[SG,U8];have:=Tc.2 h2;omega]
    have:=ih (U9 l.tail) v (by rw[SG,U8];have:=Tc.2 h2;omega)
    unfold set at this
    rw[this,MQ l v,if_neg (by omega)]
    cases l with
    |nil=>exact absurd rfl h2
    |cons y l=>
     simp only[ZS] at h1
     rw[Vg,List.tail_cons,List.tail_cons,MQ,if_pos (by omega)]
theorem set_ofList{l:List α}{i:Nat}(v:α)(h:i<l.length):(ofList l).set i v=ofList (l.set i v):=by
 unfold ofList
 rw[Gf,Gf,Wg]
 exact uK _ l i v (Zp _) h
theorem push_ofList(l:List α)(v:α):(ofList l).set l.length v=ofList (l++[v]):=by
 unfold ofList
 rw[Gf,Gf,xE l.length (l.length+1) l (Zp _) (VL _),xM _ l v (YM _)]
 simp
end T
def lay(l:List AV):Nat->List AV->List AV
 |_,[]=>l
 |o,v::vs=>lay (l.set o v) (o+1) vs
theorem xd: ∀(l:List AV) (o:Nat) (vs:List AV),(lay l o vs).length=l.length
 |_,_,[]=>rfl
 |l,o,v::vs=>by
  show(lay (l.set o v) (o+1) vs).length=_
  rw[xd,Wg]
theorem BQ: ∀(l:List AV) (o:Nat) (vs:List AV),o+vs.length<=l.length->WY (T.ofList l) o vs=T.ofList (lay l o vs)
 |_,_,[],_=>rfl
 |l,o,v::vs,h=>by
  simp only[ZS] at h
  show WY ((T.ofList l).set o v) (o+1) vs=T.ofList (lay (l.set o v) (o+1) vs)
  rw[T.set_ofList v (by omega),BQ (l.set o v) (o+1) vs (by rw[Wg];omega)]
theorem EP: ∀(l:List AV) (vs:List AV),WY (T.ofList l) l.length vs=T.ofList (l++vs)
 |l,[]=>by rw[Yd];rfl
 |l,v::vs=>by
  show WY ((T.ofList l).set l.length v) (l.length+1) vs=_
  rw[T.push_ofList]
  have:=EP (l++[v]) vs
  rw[Zj] at this
  rw[show l.length+1=l.length+[v].length from rfl,this,Xj];rfl
theorem xc: ∀(l:List AV) (o:Nat) (vs:List AV),o+vs.length<=l.length->lay l o vs=l.take o++(vs++l.drop (o+vs.length))
 |l,o,[],h=>by show l=_;simp
 |l,o,v::vs,h=>by
  simp only[ZS] at h
  show lay (l.set o v) (o+1) vs=_
  rw[xc (l.set o v) (o+1) vs (by rw[Wg];omega),List.set_eq_take_append_cons_drop,if_pos (by omega)]
  have e1:(l.take o++v::l.drop (o+1)).take (o+1)=l.take o++[v]:=by
   rw[List.take_append,Z9 (by rw[ZC];omega),ZC,Wl (by omega),show o+1 - o=1 by omega];rfl
  have e2:(l.take o++v::l.drop (o+1)).drop (o+1+vs.length)=l.drop (o+(v::vs).length):=by
   rw[List.drop_append,TV (by rw[ZC];omega),ZY,ZC,Wl (by omega),show o+1+vs.length - o=vs.length+1 by omega,Y8,SW,ZS]
   congr 1;omega
  rw[e1,e2];simp
section
def rG(e sz:Nat)(l:List AV)(fz:Nat)(sm own ex:Bool):Obj:=.row ⟨e,sz,YK l,T.ofList l,.unk,fz,sm,own,ex⟩
theorem xQ(e sz:Nat)(l:List AV)(fz:Nat)(sm own ex:Bool)(i:Nat):Row.get ⟨e,sz,YK l,T.ofList l,.unk,fz,sm,own,ex⟩ i=l.getD i .unk:=by
 rw[Row.get_eq]
 show((T.ofList l).get i).getD .unk=_
 rw[T.get_ofList,Zf]
theorem GC(e sz:Nat)(l:List AV)(fz:Nat)(sm own ex:Bool):Cells ⟨e,sz,YK l,T.ofList l,.unk,fz,sm,own,ex⟩ l:=Cells.new ..
def ld1(x:Option Obj)(o:Nat)(H:Heap):OR:=match x with|some (.row r)=>ZP (Nat.ble (Nat.succ o) r.size) (.val (r.get o) H)|_=>.fail
theorem zw(b o:Nat)(H:Heap):FF (.ptr b o) H=ld1 (H.t.get b) o H:=rfl
theorem WH{o:Nat}{l:List AV}(h:o<l.length)(e sz fz:Nat)(sm own ex:Bool)(H:Heap):ld1 (some (rG e sz l fz sm own ex)) o H=.val (l.getD o .unk) H:=by
 show ZP (Nat.ble (Nat.succ o) (YK l)) (.val (Row.get ⟨e,sz,YK l,T.ofList l,.unk,fz,sm,own,ex⟩ o) H)=_
 rw[YF,Zk (show Nat.succ o<=l.length from h)]
 show OR.val (Row.get ⟨e,sz,l.length,T.ofList l,.unk,fz,sm,own,ex⟩ o) H=_
 rw[<-YF,xQ]
def EW(n:Nat)(x:Option Obj)(o:Nat)(H:Heap):OR:=match x with|some (.row r)=>ZP (Nat.ble (Nat.add o n) r.size) (.val (.agg (Vf r o n)) H)|_=>.fail
theorem eM(n b o:Nat)(H:Heap):zx n (.ptr b o) H=EW n (H.t.get b) o H:=rfl
theorem Vr{n o:Nat}{l:List AV}(h:o+n<=l.length)(e sz fz:Nat)(sm own ex:Bool)(H:Heap):EW n (some (rG e sz l fz sm own ex)) o H=.val (.agg ((l.drop o).take n)) H:=by
 show ZP (Nat.ble (o+n) (YK l)) (.val (.agg (Vf ⟨e,sz,YK l,T.ofList l,.unk,fz,sm,own,ex⟩ o n)) H)=_
 rw[(GC e sz l fz sm own ex).load h,YF,Zk h];rfl
def tp(n:Nat)(x:Option Obj)(b o:Nat)(v:AV)(H:Heap):OR:=match x with
 |some (.row r)=>ZP (Nat.ble 1 n)<|ZP (H.may r b) (ZP (Nat.ble (Nat.add o n) r.size) (ZP (Nat.ble r.fz o) (ZP (Nat.beq (YK v.cells) n) (.val Xz (H.put b (.row (r.setCells (WY r.cells o v.cells))))))))
 |_=>.fail
theorem jg(n b o:Nat)(v:AV)(H:Heap):xZ n (.ptr b o) v H=tp n (H.t.get b) b o v H:=rfl
theorem bR{n b o:Nat}{l:List AV}{v:AV}{H:Heap}{fz:Nat}(hn:1<=n)(hv:v.cells.length=n)(ho:o+n<=l.length)(hro:H.ro<=b)(hfz:fz<=o)(e sz:Nat)(sm ex:Bool):
  tp n (some (rG e sz l fz sm true ex)) b o v H=.val Xz (H.put b (rG e sz (lay l o v.cells) fz sm true ex)):=by
 show ZP (Nat.ble 1 n) (ZP (cond true (Nat.ble H.ro b) false) (ZP (Nat.ble (o+n) (YK l)) (ZP (Nat.ble fz o) (ZP (Nat.beq (YK v.cells) n) (.val Xz (H.put b (.row ⟨e,sz,YK l,WY (T.ofList l) o v.cells,.unk,fz,sm,true,ex⟩)))))))=_
 rw[Zk hn,Zk hro,YF,Zk ho,Zk hfz,YF,hv,Y0,BQ l o v.cells (by omega)]
 unfold rG
 rw[YF,xd];rfl
theorem LH{b o:Nat}{l:List AV}{v:AV}{H:Heap}{fz:Nat}(hv:v.cells=[v])(ho:o<l.length)(hro:H.ro<=b)(hfz:fz<=o)(e sz:Nat)(sm ex:Bool):
  tp 1 (some (rG e sz l fz sm true ex)) b o v H=.val Xz (H.put b (rG e sz (l.set o v) fz sm true ex)):=by
 rw[bR (Zp 1) (by rw[hv];rfl) ho hro hfz,hv];rfl
theorem Xw(H:Heap)(b:Nat)(o:Obj):(H.put b o).t.get b=some o:=by rw[Lz,if_pos rfl]
theorem Nm{b c:Nat}(h: ¬b=c)(H:Heap)(o:Obj):(H.put b o).t.get c=H.t.get c:=by rw[Lz,if_neg h]
theorem ZW{H:Heap}{c:Nat}(h:H.nx=c)(o:Obj):(H.new o).t.get c=some o:=by rw[Md,if_pos h]
theorem Nl{H:Heap}{c:Nat}(h: ¬H.nx=c)(o:Obj):(H.new o).t.get c=H.t.get c:=by rw[Md,if_neg h]
theorem Zcd(H:Heap)(b:Nat)(o o':Obj):(H.put b o).put b o'=H.put b o':=by
 unfold Heap.put;simp only[T.set_set]
theorem Tm{H:Heap}{b:Nat}(h:H.nx=b)(o o':Obj):(H.new o).put b o'=H.new o':=by
 subst h;unfold Heap.put Heap.new;simp only[T.set_set]
theorem QF(H:Heap)(e sz:Nat)(l:List AV)(ex:Bool):H.newRow e sz l ex=H.new (rG e sz l 0 false true ex):=rfl
theorem v6(e:Nat)(c:AV)(cs:List AV)(tm:TM)(H:Heap):Ue e (c::cs) tm H=.val (.ptr H.nx 0) (H.new (rG e 1 (c::cs) 0 false true true)):=by
 rw[C7 _ _ (by rw[YF];simp)];rfl
def Ni(e:Nat)(a:AV)(H:Heap):OR:=ZP (Nat.ble 1 (YK a.cells))<|.val (.ptr H.nx 0) (H.newRow e 1 a.cells true)
theorem Wd(x:Z1)(e:Nat)(tm:TM)(H:Heap):Lt x e tm H=Ni e (x tm) H:=rfl
theorem pe{a:AV}{l:List AV}(h:a.cells=l)(h1:1<=l.length)(e:Nat)(H:Heap):Ni e a H=.val (.ptr H.nx 0) (H.new (rG e 1 l 0 false true true)):=by
 subst h
 show ZP (Nat.ble 1 (YK a.cells)) _=_
 rw[YF,Zk h1];rfl
theorem sk(l:List AV):(AV.agg l).cells=l:=rfl
theorem XS{l:List AV}(h1:1<=l.length)(e:Nat)(H:Heap):Ni e (.agg l) H=.val (.ptr H.nx 0) (H.new (rG e 1 l 0 false true true)):=pe (sk l) h1 e H
theorem jQ{a:AV}(h:a.cells=[a])(e:Nat)(H:Heap):Ni e a H=.val (.ptr H.nx 0) (H.new (rG e 1 [a] 0 false true true)):=pe h (Zp 1) e H
theorem D5(b:Bool):(AV.bool b).cells=[.bool b]:=rfl
theorem AJ(k:IntKind)(n:Int):(AV.int k n).cells=[.int k n]:=rfl
theorem wK(k:IntKind)(n:Nat):(nI k n).cells=[nI k n]:=rfl
theorem AN(x:UInt8):(Vd x).cells=[Vd x]:=rfl
theorem AM(s:List UInt8):(AV.str s).cells=[.str s]:=rfl
theorem D8:AV.nilp.cells=[.nilp]:=rfl
theorem AL(b o:Nat):(AV.ptr b o).cells=[.ptr b o]:=rfl
theorem D9:AV.nils.cells=[.nils]:=rfl
theorem Eh(b o n:Nat)(c:Option Nat):(AV.slice b o n c).cells=[.slice b o n c]:=rfl
theorem AK(b:Nat):(AV.map b).cells=[.map b]:=rfl
theorem D6(f:Nat)(a b:List AV):(AV.func f a b).cells=[.func f a b]:=rfl
theorem Eg(t:Nat)(v:AV):(AV.iface t v).cells=[.iface t v]:=rfl
theorem D7:AV.nili.cells=[.nili]:=rfl
theorem AH(l:List AV):(AV.agg l).cells=l:=rfl
theorem YP{a:TM->Heap->X->WM}{x:X}(I:Nat->TM->Heap->Prop)(Q:Out->TM->Heap->Prop)
  (step: ∀m tm H,I m tm H-> ∃o tm' H',a tm H x=.ok o tm' H' x∧((o=.normal∧ ∃k,k<m∧I k tm' H')∨(o≠.normal∧Q o tm' H'))):
  ∀(F m:Nat) (tm:TM) (H:Heap),m<F->I m tm H-> ∃o tm' H',Wv a F tm H x=.ok o tm' H' x∧o≠.normal∧Q o tm' H'
 |0,m,_,_,h,_=>by omega
 |F+1,m,tm,H,h,hi=>by
  obtain⟨o,tm',H',h1,h2⟩:=step m tm H hi
  rcases h2 with⟨rfl,k,hk,h3⟩|⟨h2,h3⟩
  ·obtain⟨o2,tm2,H2,e,h4,h5⟩:=YP I Q step F k tm' H' (by omega) h3
   refine⟨o2,tm2,H2,?_,h4,h5⟩
   show PF (a tm H x) (Wv a F)=_
   rw[h1];exact e
  ·refine⟨o,tm',H',?_,h2,h3⟩
   show PF (a tm H x) (Wv a F)=_
   rw[h1]
   cases o with
   |normal=>exact absurd rfl h2
   |_=>rfl
theorem YA{a:TM->Heap->X->WM}{F:Nat}{H:Heap}{x:X}{L:WM}{P:TM->Prop}{Q:Out->TM->Heap->Prop}(lp: ∀T,P T-> ∃o tm' H',Wv a F T H x=.ok o tm' H' x∧o≠.normal∧Q o tm' H'){T:TM}(hL:Wv a F T H x=L)(hi:P T):
  ∃o tm' H',L=.ok o tm' H' x∧o≠.normal∧Q o tm' H':=by
 obtain⟨o,b,c,e,j⟩:=lp T hi
 exact⟨o,b,c,hL.symm.trans e,j⟩
end
theorem Zu:(∀(f:Vv) (dst:ZL) (next:D) (c:Ctx) (tm:TM) (H:Heap) (x:X),Za f dst next c tm H x=Oc (next c) dst c tm H x (f tm H))∧(∀(next:TM->Heap->X->WM) (dst:ZL) (c:Ctx) (tm:TM) (H:Heap) (x:X) (v:AV) (H':Heap),Oc next dst c tm H x (.val v H')=next (dst tm v) H' x)∧(∀(next:TM->Heap->X->WM) (dst:ZL) (c:Ctx) (tm:TM) (H:Heap) (x:X) (f:Nat) (args:List AV) (H':Heap),Oc next dst c tm H x (.oth (.call f args H'))=Bi next dst tm x (c.call f args H'))∧(∀(next:TM->Heap->X->WM) (dst:ZL) (tm:TM) (x:X) (v:AV) (H:Heap),Bi next dst tm x (.ret v H)=next (dst tm v) H x)∧(∀(a b:D) (c:Ctx) (tm:TM) (H:Heap) (x:X),Zh a b c tm H x=PF (a c tm H x) (b c))∧(∀(tm:TM) (H:Heap) (x:X) (k:TM->Heap->X->WM),PF (.ok .normal tm H x) k=k tm H x)∧(∀(tm:TM) (H:Heap) (x:X) (k:TM->Heap->X->WM),PF (.ok .ret tm H x) k=.ok .ret tm H x)∧(∀(i:Nat) (tm:TM) (H:Heap) (x:X) (k:TM->Heap->X->WM),PF (.ok (.exit i) tm H x) k=.ok (.exit i) tm H x)∧(∀(c:Ctx) (tm:TM) (H:Heap) (x:X),Zc c tm H x=.ok .normal tm H x)∧(∀(c:Ctx) (tm:TM) (H:Heap) (x:X),Z2 c tm H x=.ok .ret tm H x)∧(∀(i:Nat) (c:Ctx) (tm:TM) (H:Heap) (x:X),X6 i c tm H x=.ok (.exit i) tm H x)∧(∀(q:Z1) (a b:D) (c:Ctx) (tm:TM) (H:Heap) (x:X),ZK q a b c tm H x=y9 (q tm) λv=>HB (a c) (b c) v tm H x)∧(∀(b:Bool) (k:Bool->WM),y9 (.bool b) k=k b)∧(∀(a b:TM->Heap->X->WM) (tm:TM) (H:Heap) (x:X),HB a b true tm H x=a tm H x)∧(∀(a b:TM->Heap->X->WM) (tm:TM) (H:Heap) (x:X),HB a b false tm H x=b tm H x)∧(∀(i:Nat) (a:D) (c:Ctx) (tm:TM) (H:Heap) (x:X),Z0 i a c tm H x=Pa i (a c tm H x))∧(∀(a:D) (c:Ctx) (tm:TM) (H:Heap) (x:X),X8 a c tm H x=Wv (a c) c.fuel tm H x)∧(∀(i:Nat) (tm:TM) (H:Heap) (x:X),Pa i (.ok .normal tm H x)=.ok .normal tm H x)∧(∀(i:Nat) (tm:TM) (H:Heap) (x:X),Pa i (.ok (.exit i) tm H x)=.ok .normal tm H x)∧(∀(i:Nat) (tm:TM) (H:Heap) (x:X),Pa i (.ok .ret tm H x)=.ok .ret tm H x)∧(∀(tm:TM) (v:AV),d0 tm v=tm)∧(∀(v:AV) (tm:TM),k v tm=v)∧(∀(tm:TM),evs tm []=[])∧(∀(tm:TM) (f:Z1) (l:List Z1),evs tm (f::l)=f tm::evs tm l)∧(∀(x:Z1) (tm:TM) (H:Heap),ZF x tm H=.val (x tm) H)∧(∀(x:Z1) (tm:TM) (H:Heap),Ao x tm H=rP (x tm) H)∧(∀(x:Z1) (k:IntKind) (tm:TM) (H:Heap),U0 x k tm H=Ol k (x tm) H)∧(∀(x y:Z1) (tm:TM) (H:Heap),Yg x y tm H=Ty (x tm) (y tm) H)∧(∀(x y:Z1) (tm:TM) (H:Heap),Vs x y tm H=M6 (x tm) (y tm) H)∧(∀(x y:Z1) (tm:TM) (H:Heap),O3 x y tm H=di (x tm) (y tm) H)∧(∀(x y:Z1) (tm:TM) (H:Heap),Jy x y tm H=cE (x tm) (y tm) H)∧(∀(x y:Z1) (tm:TM) (H:Heap),I0 x y tm H=kP (x tm) (y tm) H)∧(∀(x y:Z1) (f:Nat->Nat->Nat->Nat) (tm:TM) (H:Heap),Nz x y f tm H=DI f (x tm) (y tm) H)∧(∀(x y:Z1) (tm:TM) (H:Heap),ZfV x y tm H=Zi1 (x tm) (y tm) H)∧(∀(x y:Z1) (tm:TM) (H:Heap),Kz x y tm H=bi (x tm) (y tm) H)∧(∀(x:Z1) (tm:TM) (H:Heap),dH x tm H=Zee (x tm) H)∧(∀(x y:Z1) (f:Int->Int->Bool) (g:List UInt8->List UInt8->Bool) (tm:TM) (H:Heap),Yu x y f g tm H=Tf f g (x tm) (y tm) H)∧(∀(x y:Z1) (f:AV->AV->Option Bool) (neg:Bool) (tm:TM) (H:Heap),WN x y f neg tm H=N6 f neg (x tm) (y tm) H)∧(∀(x:Z1) (tm:TM) (H:Heap),Pf x tm H=ZbD (x tm) H)∧(∀(x y z:Z1) (tm:TM) (H:Heap),Yx x y z tm H=zM (x tm) (y tm) (z tm) H)∧(∀(f:Nat) (args:List Z1) (tm:TM) (H:Heap),Zv f args tm H=.oth (.call f (evs tm args) H))∧(∀(yes no:WM),UX (.bool true) true yes no=yes)∧(∀(yes no:WM),UX (.bool false) true yes no=no)∧(∀(yes no:WM),UX (.bool false) false yes no=yes)∧(∀(yes no:WM),UX (.bool true) false yes no=no)∧(∀(g:Z1) (b:Bool) (f:Vv) (dst:ZL) (next:D) (c:Ctx) (tm:TM) (H:Heap) (x:X),ZB g b f dst next c tm H x=UX (g tm) b (Oc (next c) dst c tm H x (f tm H)) (next c (dst tm Xz) H x))∧(∀(n:Nat) (l:List AV),Wx n (.agg l)=RS n l)∧(∀(n:Nat),Wx n Xz=true)∧(∀(n:Nat) (s:List UInt8),Wx n (.str s)=true)∧(∀(n:Nat) (k:IntKind) (m:Nat),Wx n (nI k m)=true)∧(∀(n:Nat) (x:UInt32),Wx n (Hi x)=true)∧(∀(n:Nat) (x:UInt8),Wx n (Vd x)=true)∧(∀(n:Nat) (x:Bool),Wx n (.bool x)=true)∧(∀(sz:Nat) (x:Z1) (lo hi:Option Z1) (tm:TM) (H:Heap),Ph sz x lo hi none tm H=Pq sz (x tm) (lo.map λf=>f tm) (hi.map λf=>f tm) H)∧(∀(mx:Bool) (args:List Z1) (tm:TM) (H:Heap),Su mx args tm H=lF mx (evs tm args) H)∧(∀(zs:List AV) (ps:List yx) (tm:TM) (H:Heap),UZ zs ps tm H=Q1 zs (ps.map λp=>(p.off,p.sz,p.x tm)) H)∧(∀(e sz n:Nat) (zs:List AV) (ps:List yx) (tm:TM) (H:Heap),Wt e sz n zs ps tm H=UU e sz n zs (ps.map λp=>(p.off,p.sz,p.x tm)) H)∧(∀(x y:Z1) (e sz bytes:Nat) (tm:TM) (H:Heap),X1 x y e sz bytes tm H=UT e sz bytes (x tm) (y tm) H)∧(∀(x y:Z1) (sz:Nat) (tm:TM) (H:Heap),C9 x y sz tm H=po sz (x tm) (y tm) H)∧(∀(n sz:Nat) (x:Z1) (lo hi:Option Z1) (tm:TM) (H:Heap),Pg n sz x lo hi none tm H=LG n sz (x tm) (lo.map λf=>f tm) (hi.map λf=>f tm) H)∧(∀(x:Z1) (tm:TM) (H:Heap),Xm x tm H=oa (x tm) H)∧(∀(x y:Z1) (tm:TM) (H:Heap),Y7 x y tm H=Ma (x tm) (y tm) H)∧(∀(x:Z1) (lo hi:Option Z1) (tm:TM) (H:Heap),WI x lo hi none tm H=F5 (x tm) (lo.map λf=>f tm) (hi.map λf=>f tm) H)∧(∀(x:Z1) (i:Nat) (tm:TM) (H:Heap),XJ x i tm H=Eo i (x tm) H)∧(∀(b c:AV) (H:Heap),zM (.bool true) b c H=.val b H)∧(∀(b c:AV) (H:Heap),zM (.bool false) b c H=.val c H)∧(∀(b:Bool) (H:Heap),ZbD (.bool b) H=.val (.bool (cond b false true)) H)∧(∀(x:Z1) (tm:TM) (H:Heap),ZJ x tm H=FF (x tm) H)∧(∀(x:Z1) (n:Nat) (tm:TM) (H:Heap),WS x n tm H=zx n (x tm) H)∧(∀(x y:Z1) (n:Nat) (tm:TM) (H:Heap),Xn x y n tm H=xZ n (x tm) (y tm) H)∧(∀(x:Z1) (n:Nat) (tm:TM) (H:Heap),Yr x n tm H=ZbL n (x tm) H)∧(∀(x y:Z1) (n sz:Nat) (tm:TM) (H:Heap),On x y n sz tm H=zr n sz (x tm) (y tm) H)∧(∀(x y:Z1) (sz:Nat) (tm:TM) (H:Heap),XN x y sz tm H=Gd sz (x tm) (y tm) H)∧(∀(x:Z1) (tm:TM) (H:Heap),Qs x tm H=Zbz (x tm) H)∧(∀(x:Z1) (tm:TM) (H:Heap),Xs x tm H=NV (x tm) H)∧(∀(e n:Nat) (v:AV) (tm:TM) (H:Heap),Lr e n v tm H=.val (.ptr H.nx 0) (H.new (.row ⟨e,1,n,.leaf,v,0,false,true,true⟩)))∧(∀(x:Z1) (e:Nat) (tm:TM) (H:Heap),Lt x e tm H=Ni e (x tm) H)∧(∀(e:Nat) (c:AV) (cs:List AV) (tm:TM) (H:Heap),Ue e (c::cs) tm H=.val (.ptr H.nx 0) (H.new (rG e 1 (c::cs) 0 false true true)))∧(∀(n b o:Nat) (H:Heap),ZbL n (.ptr b o) H=.val (.ptr b (o+n)) H)∧(∀(b o:Nat) (H:Heap),Zbz (.ptr b o) H=.val (.ptr b o) H)∧(∀(b o n:Nat) (c:Option Nat) (H:Heap),NV (.slice b o n c) H=.val (nI .i64 n) H)∧(∀(H:Heap),NV .slice0 H=.val (nI .i64 0) H)∧(∀(H:Heap),NV .nils H=.val (nI .i64 0) H)∧(∀(H:Heap) (b:Nat) (o:Obj),(H.put b o).nx=H.nx)∧(∀(H:Heap) (b:Nat) (o:Obj),(H.put b o).ro=H.ro)∧(∀(H:Heap) (o:Obj),(H.new o).nx=H.nx+1)∧(∀(H:Heap) (o:Obj),(H.new o).ro=H.ro)∧(∀(H:Heap) (b:Nat) (o:Obj),(H.put b o).t.get b=some o)∧(∀(H:Heap) (b:Nat) (o o':Obj),(H.put b o).put b o'=H.put b o')∧(∀(H:Heap) (e sz:Nat) (l:List AV) (ex:Bool),H.newRow e sz l ex=H.new (rG e sz l 0 false true ex))∧(∀(b o:Nat) (H:Heap),FF (.ptr b o) H=ld1 (H.t.get b) o H)∧(∀(n b o:Nat) (H:Heap),zx n (.ptr b o) H=EW n (H.t.get b) o H)∧(∀(n b o:Nat) (v:AV) (H:Heap),xZ n (.ptr b o) v H=tp n (H.t.get b) b o v H)∧(∀(b:Bool),(AV.bool b).cells=[.bool b])∧(∀(k:IntKind) (n:Int),(AV.int k n).cells=[.int k n])∧(∀(k:IntKind) (n:Nat),(nI k n).cells=[nI k n])∧(∀(x:UInt8),(Vd x).cells=[Vd x])∧(∀(s:List UInt8),(AV.str s).cells=[.str s])∧(AV.nilp.cells=[.nilp])∧(∀(b o:Nat),(AV.ptr b o).cells=[.ptr b o])∧(AV.nils.cells=[.nils])∧(∀(b o n:Nat) (c:Option Nat),(AV.slice b o n c).cells=[.slice b o n c])∧(∀(b:Nat),(AV.map b).cells=[.map b])∧(∀(f:Nat) (a b:List AV),(AV.func f a b).cells=[.func f a b])∧(∀(t:Nat) (v:AV),(AV.iface t v).cells=[.iface t v])∧(AV.nili.cells=[.nili])∧(∀(l:List AV),(AV.agg l).cells=l)∧(∀(l:List PI) (c:Ctx) (tm:TM) (H:Heap) (x:X),W2 l c tm H x=Ul (l.map (·.dst)) Kw l c [] tm H x)∧(∀(ds:List ZL) (fin:PK) (c:Ctx) (rs:List RD) (tm:TM) (H:Heap) (x:X),Ul ds fin [] c rs tm H x=cond (still tm H rs) (fin rs tm H x) .fail)∧(∀(ds:List ZL) (fin:PK) (p:PI) (l:List PI) (c:Ctx) (rs:List RD) (tm:TM) (H:Heap) (x:X),Ul ds fin (p::l) c rs tm H x=SK ds p (Ul ds fin l c) c rs tm H x)∧(∀(rs:List RD) (tm:TM) (H:Heap) (x:X),Kw rs tm H x=.ok .normal tm H x)∧(∀(ds:List ZL) (f:Vv) (os:List (ZL×Z1)) (dst:ZL) (i bef:Nat) (nx:PK) (c:Ctx) (rs:List RD) (tm:TM) (H:Heap) (x:X),SK ds ⟨f,none,os,dst,.free,i,bef⟩ nx c rs tm H x=cond (RJ H.nx tm os) (Kc ⟨f,none,os,dst,.free,i,bef⟩ nx rs tm H x (f (Qu tm os) ⟨H.nx,.leaf,H.nx⟩)) .fail)∧(∀(ds:List ZL) (f:Vv) (os:List (ZL×Z1)) (dst:ZL) (i bef:Nat) (nx:PK) (c:Ctx) (rs:List RD) (tm:TM) (H:Heap) (x:X),SK ds ⟨f,none,os,dst,.read,i,bef⟩ nx c rs tm H x=GF ⟨f,none,os,dst,.read,i,bef⟩ nx rs tm H x (f (Qu tm os) ⟨H.nx,H.t,H.nx⟩))∧(∀(ds:List ZL) (f:Vv) (os:List (ZL×Z1)) (dst:ZL) (i bef:Nat) (nx:PK) (c:Ctx) (rs:List RD) (tm:TM) (H:Heap) (x:X),SK ds ⟨f,none,os,dst,.eff,i,bef⟩ nx c rs tm H x=cond (still tm H rs) (HF ds ⟨f,none,os,dst,.eff,i,bef⟩ nx rs c tm x (f (Qu tm os) H)) .fail)∧(∀(ds:List ZL) (f:Vv) (e:Z1) (b:Bool) (os:List (ZL×Z1)) (dst:ZL) (i bef:Nat) (nx:PK) (c:Ctx) (rs:List RD) (tm:TM) (H:Heap) (x:X),SK ds ⟨f,some (e,b),os,dst,.free,i,bef⟩ nx c rs tm H x=UX (e tm) b (cond (RJ H.nx tm os) (Kc ⟨f,some (e,b),os,dst,.free,i,bef⟩ nx rs tm H x (f (Qu tm os) ⟨H.nx,.leaf,H.nx⟩)) .fail) (nx rs (dst tm Xz) H x))∧(∀(ds:List ZL) (f:Vv) (e:Z1) (b:Bool) (os:List (ZL×Z1)) (dst:ZL) (i bef:Nat) (nx:PK) (c:Ctx) (rs:List RD) (tm:TM) (H:Heap) (x:X),SK ds ⟨f,some (e,b),os,dst,.read,i,bef⟩ nx c rs tm H x=UX (e tm) b (GF ⟨f,some (e,b),os,dst,.read,i,bef⟩ nx rs tm H x (f (Qu tm os) ⟨H.nx,H.t,H.nx⟩)) (nx rs (dst tm Xz) H x))∧(∀(ds:List ZL) (f:Vv) (e:Z1) (b:Bool) (os:List (ZL×Z1)) (dst:ZL) (i bef:Nat) (nx:PK) (c:Ctx) (rs:List RD) (tm:TM) (H:Heap) (x:X),SK ds ⟨f,some (e,b),os,dst,.eff,i,bef⟩ nx c rs tm H x=cond (still tm H rs) (UX (e tm) b (HF ds ⟨f,some (e,b),os,dst,.eff,i,bef⟩ nx rs c tm x (f (Qu tm os) H)) (nx (US bef rs) (dst tm Xz) H x)) .fail)∧(∀(ds:List ZL) (f:Vv) (os:List (ZL×Z1)) (dst:ZL) (i bef:Nat) (nx:PK) (c:Ctx) (rs:List RD) (tm:TM) (x:X) (g:Option (Z1×Bool)) (kd:Hl) (v:AV) (H':Heap),HF ds ⟨f,g,os,dst,kd,i,bef⟩ nx rs c tm x (.val v H')=nx (US bef rs) (dst tm v) H' x)∧(∀(ds:List ZL) (f:Vv) (os:List (ZL×Z1)) (dst:ZL) (i bef:Nat) (nx:PK) (c:Ctx) (rs:List RD) (tm:TM) (x:X) (g:Option (Z1×Bool)) (kd:Hl) (H':Heap) (q:Nat) (args:List AV),HF ds ⟨f,g,os,dst,kd,i,bef⟩ nx rs c tm x (.oth (.call q args H'))=Bt ds ⟨f,g,os,dst,kd,i,bef⟩ nx rs tm x (c.call q args H'))∧(∀(ds:List ZL) (f:Vv) (os:List (ZL×Z1)) (dst:ZL) (i bef:Nat) (nx:PK) (rs:List RD) (tm:TM) (x:X) (g:Option (Z1×Bool)) (kd:Hl) (v:AV) (H':Heap),Bt ds ⟨f,g,os,dst,kd,i,bef⟩ nx rs tm x (.ret v H')=nx (US bef rs) (dst tm v) H' x)∧(∀(b:Nat),US b []=[])∧(∀(f:Vv) (os:List (ZL×Z1)) (dst:ZL) (i bef:Nat) (rs:List RD) (g:Option (Z1×Bool)) (kd:Hl) (v:AV) (b:Nat),US b (⟨⟨f,g,os,dst,kd,i,bef⟩,v⟩::rs)=cond (Nat.testBit b i) (US b rs) (⟨⟨f,g,os,dst,kd,i,bef⟩,v⟩::US b rs))∧(∀(tm:TM) (H:Heap),still tm H []=true)∧(∀(f:Vv) (os:List (ZL×Z1)) (dst:ZL) (i bef:Nat) (rs:List RD) (tm:TM) (H:Heap) (g:Option (Z1×Bool)) (kd:Hl) (v:AV),still tm H (⟨⟨f,g,os,dst,kd,i,bef⟩,v⟩::rs)=cond (uu ⟨⟨f,g,os,dst,kd,i,bef⟩,v⟩ tm H) (still tm H rs) false)∧(∀(f:Vv) (os:List (ZL×Z1)) (dst:ZL) (i bef:Nat) (tm:TM) (H:Heap) (g:Option (Z1×Bool)) (kd:Hl) (v:AV),uu ⟨⟨f,g,os,dst,kd,i,bef⟩,v⟩ tm H=Ud (f (Qu tm os) ⟨H.nx,H.t,H.nx⟩) v H.nx)∧(∀(v:UInt32) (n:Nat) (t:T Obj),Ud (.val (Hi v) ⟨n,t,n⟩) (Hi v) n=true)∧(∀(v:UInt8) (n:Nat) (t:T Obj),Ud (.val (Vd v) ⟨n,t,n⟩) (Vd v) n=true)∧(∀(k:IntKind) (v:Nat) (n:Nat) (t:T Obj),Ud (.val (nI k v) ⟨n,t,n⟩) (nI k v) n=true)∧(∀(s:List UInt8) (n:Nat) (t:T Obj),Ud (.val (.str s) ⟨n,t,n⟩) (.str s) n=true)∧(∀(n:Nat) (t:T Obj),Ud (.val .nils ⟨n,t,n⟩) .nils n=true)∧(∀(b o n:Nat) (c:Option Nat) (k:Nat) (t:T Obj),Ud (.val (.slice b o n c) ⟨k,t,k⟩) (.slice b o n c) k=true)∧(∀(n:Nat) (tm:TM),RJ n tm []=true)∧(∀(n:Nat) (tm:TM) (s:ZL) (g:Z1) (os:List (ZL×Z1)),RJ n tm ((s,g)::os)=cond (Wx n (g tm)) (RJ n tm os) false)∧(∀(tm:TM),Qu tm []=M9)∧(∀(tm:TM) (s:ZL) (g:Z1) (os:List (ZL×Z1)),Qu tm ((s,g)::os)=s (Qu tm os) (g tm))∧(∀(a:AV) (l:List AV) (H:Heap),Eo 0 (.tup (a::l)) H=.val a H)∧(∀(a b:AV) (l:List AV) (H:Heap),Eo 1 (.tup (a::b::l)) H=.val b H)∧(∀(a b c:AV) (l:List AV) (H:Heap),Eo 2 (.tup (a::b::c::l)) H=.val c H)∧(∀(dc:Option AV->Nat->List AV->Heap->DR) (rs:List (Z1×Option (Nat×Bool))) (tm:TM) (H:Heap) (rc:Option AV),LY dc rs (.ok .ret tm H ⟨[],rc⟩)=results rs tm H)∧(∀(dc:Option AV->Nat->List AV->Heap->DR) (rs:List (Z1×Option (Nat×Bool))) (tm:TM) (H:Heap) (rc:Option AV),LY dc rs (.ok .normal tm H ⟨[],rc⟩)=results rs tm H)∧(∀(f:Z1) (tm:TM) (H:Heap),results [(f,none)] tm H=.ret (f tm) H)∧(∀(tm:TM) (H:Heap),results [] tm H=.ret (.tup []) H)∧(∀(a b:UInt32) (H:Heap),Ty (Hi a) (Hi b) H=.val (Hi (a+b)) H)∧(SE []=M9)∧(∀(a:AV),SE [a]=st0 M9 a)∧(∀(a b:AV),SE [a,b]=st1 (st0 M9 a) b)∧(∀(a b c:AV),SE [a,b,c]=st2 (st1 (st0 M9 a) b) c)∧(∀(a b c d:AV),SE [a,b,c,d]=Vl (st2 (st1 (st0 M9 a) b) c) d)∧(∀(a b:List UInt8) (H:Heap),N6 PM false (.str a) (.str b) H=.val (.bool (decide (a=b))) H)∧(∀(a b:List UInt8) (H:Heap),N6 PM true (.str a) (.str b) H=.val (.bool (!decide (a=b))) H)∧(∀(a b:Bool) (H:Heap),N6 sK false (.bool a) (.bool b) H=.val (.bool (decide (a=b))) H)∧(∀(k:IntKind) (a b:Nat) (H:Heap),Tf XE YH (nI k a) (nI k b) H=.val (.bool (decide (a<b))) H)∧(∀(k:IntKind) (a b:Nat) (H:Heap),Tf Sc W5 (nI k a) (nI k b) H=.val (.bool (decide (b<=a))) H)∧(∀(k:IntKind) (a b:Nat) (H:Heap),Tf UG WJ (nI k a) (nI k b) H=.val (.bool (decide (b<a))) H)∧(∀(k:IntKind) (a b:Nat) (H:Heap),Tf S2 UE (nI k a) (nI k b) H=.val (.bool (decide (a<=b))) H)∧(∀(k:IntKind) (a b:Nat) (H:Heap),N6 Vp false (nI k a) (nI k b) H=.val (.bool (decide (a=b))) H)∧(∀(k:IntKind) (a b:Nat) (H:Heap),N6 Vp true (nI k a) (nI k b) H=.val (.bool (decide (a≠b))) H)∧(∀(s:List UInt8) (H:Heap),oa (.str s) H=.val (nI .i64 s.length) H)∧(∀(x:Z1) (tm:TM) (H:Heap),zD x tm H=ZdO (x tm) H)∧(∀(x:Z1) (u n:Nat) (tm:TM) (H:Heap),zC x u n tm H=ZdN u n (x tm) H)∧(∀(x:Z1) (tm:TM) (H:Heap),Di x tm H=na (x tm) H)∧(∀(x y:Z1) (e:Nat) (tm:TM) (H:Heap),oz x y e tm H=Zec e (x tm) (y tm) H):=⟨@ba, @gG, @mq, @KB, @cY, @U4, @jm, @qM, @lJ, @cJ, @nW, @nF, @mP, @sD, @wM, @tV, @lr, @Am, @TF, @rq, @ZeK, @Zik, @Zao, @iV, @ZbI, @Gq, @du, @lL, @dG, @dw, @dC, @dD, @FP, @dE, @dF, @kg, @dt, @ZbF, @dA, @lX, @rS, @mD, @mA, @my, @mB, @cZ, @eP, @rE, @eR, @Zbm, @eU, @Zbn, @lx, @Lv, @S7, @Up, @Ys, @Ya, @FR, @Lu, @lU, @ua, @rX, @lN, @Zb6, @Zb5, @ZfS, @rW, @lV, @rZ, @dB, @lO, @lQ, @dy, @lS, @v5, @Wd, @v6, @NB, @Om, @Sr, @vK, @CO, @LA, @cD, @dm, @dp, @Xw, @Zcd, @QF, @zw, @eM, @jg, @D5, @AJ, @wK, @AN, @AM, @D8, @AL, @D9, @Eh, @AK, @D6, @Eg, @D7, @AH, @sI, @kJ, @qk, @lK, @qF, @qG, @je, @tq, @tu, @qE, @iN, @nT, @cL, @mT, @ri, @jf, @qH, @cH, @re, @mR, @mQ, @rd, @QE, @TD, @lu, @rC, @Zcn, @cO, @Zaq, @Zar, @Zas, @ck, @uj, @uz, @xT, @aA, @aG, @aH, @aI, @aJ, @aK, @YT, @Wu, @Zal, @Zy, @Xu, @Z3, @Yt, @YL, @Vi, @ZG, @lZ, @lY, @ue, @kf⟩
theorem Ye:(∀{α:Type} (f:α->α) (n:N8 α),N8.a0 (N8.u0 f n)=f (N8.a0 n))∧(∀{α:Type} (f:α->α) (n:N8 α),N8.a0 (N8.u1 f n)=N8.a0 n)∧(∀{α:Type} (f:α->α) (n:N8 α),N8.a0 (N8.u2 f n)=N8.a0 n)∧(∀{α:Type} (f:α->α) (n:N8 α),N8.a0 (N8.u3 f n)=N8.a0 n)∧(∀{α:Type} (f:α->α) (n:N8 α),N8.a0 (N8.u4 f n)=N8.a0 n)∧(∀{α:Type} (f:α->α) (n:N8 α),N8.a0 (N8.u5 f n)=N8.a0 n)∧(∀{α:Type} (f:α->α) (n:N8 α),N8.a0 (N8.u6 f n)=N8.a0 n)∧(∀{α:Type} (f:α->α) (n:N8 α),N8.a0 (N8.u7 f n)=N8.a0 n)∧(∀{α:Type} (f:α->α) (n:N8 α),N8.a1 (N8.u0 f n)=N8.a1 n)∧(∀{α:Type} (f:α->α) (n:N8 α),N8.a1 (N8.u1 f n)=f (N8.a1 n))∧(∀{α:Type} (f:α->α) (n:N8 α),N8.a1 (N8.u2 f n)=N8.a1 n)∧(∀{α:Type} (f:α->α) (n:N8 α),N8.a1 (N8.u3 f n)=N8.a1 n)∧(∀{α:Type} (f:α->α) (n:N8 α),N8.a1 (N8.u4 f n)=N8.a1 n)∧(∀{α:Type} (f:α->α) (n:N8 α),N8.a1 (N8.u5 f n)=N8.a1 n)∧(∀{α:Type} (f:α->α) (n:N8 α),N8.a1 (N8.u6 f n)=N8.a1 n)∧(∀{α:Type} (f:α->α) (n:N8 α),N8.a1 (N8.u7 f n)=N8.a1 n)∧(∀{α:Type} (f:α->α) (n:N8 α),N8.a2 (N8.u0 f n)=N8.a2 n)∧(∀{α:Type} (f:α->α) (n:N8 α),N8.a2 (N8.u1 f n)=N8.a2 n)∧(∀{α:Type} (f:α->α) (n:N8 α),N8.a2 (N8.u2 f n)=f (N8.a2 n))∧(∀{α:Type} (f:α->α) (n:N8 α),N8.a2 (N8.u3 f n)=N8.a2 n)∧(∀{α:Type} (f:α->α) (n:N8 α),N8.a2 (N8.u4 f n)=N8.a2 n)∧(∀{α:Type} (f:α->α) (n:N8 α),N8.a2 (N8.u5 f n)=N8.a2 n)∧(∀{α:Type} (f:α->α) (n:N8 α),N8.a2 (N8.u6 f n)=N8.a2 n)∧(∀{α:Type} (f:α->α) (n:N8 α),N8.a2 (N8.u7 f n)=N8.a2 n)∧(∀{α:Type} (f:α->α) (n:N8 α),N8.a3 (N8.u0 f n)=N8.a3 n)∧(∀{α:Type} (f:α->α) (n:N8 α),N8.a3 (N8.u1 f n)=N8.a3 n)∧(∀{α:Type} (f:α->α) (n:N8 α),N8.a3 (N8.u2 f n)=N8.a3 n)∧(∀{α:Type} (f:α->α) (n:N8 α),N8.a3 (N8.u3 f n)=f (N8.a3 n))∧(∀{α:Type} (f:α->α) (n:N8 α),N8.a3 (N8.u4 f n)=N8.a3 n)∧(∀{α:Type} (f:α->α) (n:N8 α),N8.a3 (N8.u5 f n)=N8.a3 n)∧(∀{α:Type} (f:α->α) (n:N8 α),N8.a3 (N8.u6 f n)=N8.a3 n)∧(∀{α:Type} (f:α->α) (n:N8 α),N8.a3 (N8.u7 f n)=N8.a3 n)∧(∀{α:Type} (f:α->α) (n:N8 α),N8.a4 (N8.u0 f n)=N8.a4 n)∧(∀{α:Type} (f:α->α) (n:N8 α),N8.a4 (N8.u1 f n)=N8.a4 n)∧(∀{α:Type} (f:α->α) (n:N8 α),N8.a4 (N8.u2 f n)=N8.a4 n)∧(∀{α:Type} (f:α->α) (n:N8 α),N8.a4 (N8.u3 f n)=N8.a4 n)∧(∀{α:Type} (f:α->α) (n:N8 α),N8.a4 (N8.u4 f n)=f (N8.a4 n))∧(∀{α:Type} (f:α->α) (n:N8 α),N8.a4 (N8.u5 f n)=N8.a4 n)∧(∀{α:Type} (f:α->α) (n:N8 α),N8.a4 (N8.u6 f n)=N8.a4 n)∧(∀{α:Type} (f:α->α) (n:N8 α),N8.a4 (N8.u7 f n)=N8.a4 n)∧(∀{α:Type} (f:α->α) (n:N8 α),N8.a5 (N8.u0 f n)=N8.a5 n)∧(∀{α:Type} (f:α->α) (n:N8 α),N8.a5 (N8.u1 f n)=N8.a5 n)∧(∀{α:Type} (f:α->α) (n:N8 α),N8.a5 (N8.u2 f n)=N8.a5 n)∧(∀{α:Type} (f:α->α) (n:N8 α),N8.a5 (N8.u3 f n)=N8.a5 n)∧(∀{α:Type} (f:α->α) (n:N8 α),N8.a5 (N8.u4 f n)=N8.a5 n)∧(∀{α:Type} (f:α->α) (n:N8 α),N8.a5 (N8.u5 f n)=f (N8.a5 n))∧(∀{α:Type} (f:α->α) (n:N8 α),N8.a5 (N8.u6 f n)=N8.a5 n)∧(∀{α:Type} (f:α->α) (n:N8 α),N8.a5 (N8.u7 f n)=N8.a5 n)∧(∀{α:Type} (f:α->α) (n:N8 α),N8.a6 (N8.u0 f n)=N8.a6 n)∧(∀{α:Type} (f:α->α) (n:N8 α),N8.a6 (N8.u1 f n)=N8.a6 n)∧(∀{α:Type} (f:α->α) (n:N8 α),N8.a6 (N8.u2 f n)=N8.a6 n)∧(∀{α:Type} (f:α->α) (n:N8 α),N8.a6 (N8.u3 f n)=N8.a6 n)∧(∀{α:Type} (f:α->α) (n:N8 α),N8.a6 (N8.u4 f n)=N8.a6 n)∧(∀{α:Type} (f:α->α) (n:N8 α),N8.a6 (N8.u5 f n)=N8.a6 n)∧(∀{α:Type} (f:α->α) (n:N8 α),N8.a6 (N8.u6 f n)=f (N8.a6 n))∧(∀{α:Type} (f:α->α) (n:N8 α),N8.a6 (N8.u7 f n)=N8.a6 n)∧(∀{α:Type} (f:α->α) (n:N8 α),N8.a7 (N8.u0 f n)=N8.a7 n)∧(∀{α:Type} (f:α->α) (n:N8 α),N8.a7 (N8.u1 f n)=N8.a7 n)∧(∀{α:Type} (f:α->α) (n:N8 α),N8.a7 (N8.u2 f n)=N8.a7 n)∧(∀{α:Type} (f:α->α) (n:N8 α),N8.a7 (N8.u3 f n)=N8.a7 n)∧(∀{α:Type} (f:α->α) (n:N8 α),N8.a7 (N8.u4 f n)=N8.a7 n)∧(∀{α:Type} (f:α->α) (n:N8 α),N8.a7 (N8.u5 f n)=N8.a7 n)∧(∀{α:Type} (f:α->α) (n:N8 α),N8.a7 (N8.u6 f n)=N8.a7 n)∧(∀{α:Type} (f:α->α) (n:N8 α),N8.a7 (N8.u7 f n)=f (N8.a7 n)):=⟨@N8.g00, @N8.g01, @N8.g02, @N8.g03, @N8.g04, @N8.g05, @N8.g06, @N8.g07, @N8.g10, @N8.g11, @N8.g12, @N8.g13, @N8.g14, @N8.g15, @N8.g16, @N8.g17, @N8.g20, @N8.g21, @N8.g22, @N8.g23, @N8.g24, @N8.g25, @N8.g26, @N8.g27, @N8.g30, @N8.g31, @N8.g32, @N8.g33, @N8.g34, @N8.g35, @N8.g36, @N8.g37, @N8.g40, @N8.g41, @N8.g42, @N8.g43, @N8.g44, @N8.g45, @N8.g46, @N8.g47, @N8.g50, @N8.g51, @N8.g52, @N8.g53, @N8.g54, @N8.g55, @N8.g56, @N8.g57, @N8.g60, @N8.g61, @N8.g62, @N8.g63, @N8.g64, @N8.g65, @N8.g66, @N8.g67, @N8.g70, @N8.g71, @N8.g72, @N8.g73, @N8.g74, @N8.g75, @N8.g76, @N8.g77⟩
theorem UB{j:IntKind}{a:Nat}(h:a<9223372036854775808)(H:Heap):Ol .i64 (nI j a) H=.val (nI .i64 a) H:=by
 show TK .i64 (.ofNat a) H=_
 rw[Vn,KZ h];rfl
theorem kY{j:IntKind}{a b:Nat}(h:b<64)(H:Heap):bi (nI .i64 a) (nI j b) H=.val (nI .i64 (a/2^b)) H:=by
 show PP (.ofNat (Nat.div a (Nat.pow 2 (Lq b 64)))) (λn=>OR.val (.int .i64 n) H)=_
 have:Lq b 64=b:=by unfold Lq;rw[Zk (by omega)];rfl
 rw[QB,this];rfl
theorem Dx{a b:Nat}(h:a+b<18446744073709551616)(H:Heap):Ty (nI .u64 a) (nI .u64 b) H=.val (nI .u64 (a+b)) H:=by
 show ZP (P3 .u64 .u64) (TK .u64 (y8 (.ofNat a) (.ofNat b)) H)=_
 rw[XG,Vn,Gc,G6,YB h];rfl
theorem S9{a b:Nat}(h:0<b)(h2:a<18446744073709551616)(H:Heap):cE (nI .u64 a) (nI .u64 b) H=.val (nI .u64 (a/b)) H:=by
 show ZP (P3 .u64 .u64) (cond (Ge (.ofNat b) (.ofNat 0)) .fail (TK .u64 (.ofNat (Nat.div a b)) H))=_
 rw[XG,Mb,Zb (by omega),Vn,show(Int.ofNat (Nat.div a b))=Int.ofNat (a/b) from rfl,G6,YB (Ub (QW a b) h2)];rfl
theorem Re{a b:Nat}(h:0<b)(H:Heap):kP (nI .u64 a) (nI .u64 b) H=.val (nI .u64 (a % b)) H:=by
 show ZP (P3 .u64 .u64) (cond (Ge (.ofNat b) (.ofNat 0)) .fail (PP (.ofNat (Nat.mod a b)) λn=>.val (.int .u64 n) H))=_
 rw[XG,Mb,Zb (by omega),QB];rfl
theorem Q9{j:IntKind}{a:Nat}(h:a<18446744073709551616)(H:Heap):Ol .u64 (nI j a) H=.val (nI .u64 a) H:=by
 show TK .u64 (.ofNat a) H=_
 rw[Vn,G6,YB h];rfl
theorem RF{j:IntKind}{a b:Nat}(h:b<64)(H:Heap):bi (nI .u64 a) (nI j b) H=.val (nI .u64 (a/2^b)) H:=by
 show PP (.ofNat (Nat.div a (Nat.pow 2 (Lq b 64)))) (λn=>OR.val (.int .u64 n) H)=_
 have:Lq b 64=b:=by unfold Lq;rw[Zk (by omega)];rfl
 rw[QB,this];rfl
theorem Uh{a b:Nat}(h:a+b<4294967296)(H:Heap):Ty (nI .u32 a) (nI .u32 b) H=.val (nI .u32 (a+b)) H:=by
 show ZP (P3 .u32 .u32) (TK .u32 (y8 (.ofNat a) (.ofNat b)) H)=_
 rw[XG,Vn,Gc,K0,YB h];rfl
theorem Qb{a b:Nat}(h:a*b<4294967296)(H:Heap):di (nI .u32 a) (nI .u32 b) H=.val (nI .u32 (a*b)) H:=by
 show ZP (P3 .u32 .u32) (TK .u32 (vC (.ofNat a) (.ofNat b)) H)=_
 rw[XG,Vn,vD,K0,YB h];rfl
theorem Qc{a b:Nat}(h:0<b)(h2:a<4294967296)(H:Heap):cE (nI .u32 a) (nI .u32 b) H=.val (nI .u32 (a/b)) H:=by
 show ZP (P3 .u32 .u32) (cond (Ge (.ofNat b) (.ofNat 0)) .fail (TK .u32 (.ofNat (Nat.div a b)) H))=_
 rw[XG,Mb,Zb (by omega),Vn,show(Int.ofNat (Nat.div a b))=Int.ofNat (a/b) from rfl,K0,YB (Ub (QW a b) h2)];rfl
theorem Qd{a b:Nat}(h:0<b)(H:Heap):kP (nI .u32 a) (nI .u32 b) H=.val (nI .u32 (a % b)) H:=by
 show ZP (P3 .u32 .u32) (cond (Ge (.ofNat b) (.ofNat 0)) .fail (PP (.ofNat (Nat.mod a b)) λn=>.val (.int .u32 n) H))=_
 rw[XG,Mb,Zb (by omega),QB];rfl
theorem Qa{j:IntKind}{a:Nat}(h:a<4294967296)(H:Heap):Ol .u32 (nI j a) H=.val (nI .u32 a) H:=by
 show TK .u32 (.ofNat a) H=_
 rw[Vn,K0,YB h];rfl
theorem RA{j:IntKind}{a:Nat}(h:a<256)(H:Heap):Ol .u8 (nI j a) H=.val (nI .u8 a) H:=by
 show TK .u8 (.ofNat a) H=_
 rw[Vn,nf,YB h];rfl
theorem Mc(j:IntKind)(a:Nat)(H:Heap):Ol .u8 (nI j a) H=.val (nI .u8 (a % 256)) H:=by
 show TK .u8 (.ofNat a) H=_
 rw[Vn,nf];rfl
theorem xl(k:IntKind)(m b:Nat)(H:Heap):Tf XE YH (.int k (.negSucc m)) (nI k b) H=.val (.bool true) H:=by
 show ZP (P3 k k) (SU true H)=_
 rw[XG];rfl
theorem xg(k:IntKind)(m b:Nat)(H:Heap):Tf S2 UE (nI k b) (.int k (.negSucc m)) H=.val (.bool false) H:=by
 show ZP (P3 k k) (SU (!vB (.negSucc m) (.ofNat b)) H)=_
 rw[XG];rfl
theorem yv(n:Int):IntKind.u64.wrap n=n % 18446744073709551616:=by
 unfold IntKind.wrap
 simp[IntKind.bits,IntKind.signed]
theorem Jr{z:Int}(h1: -9223372036854775808<=z)(h2:z<9223372036854775808):IntKind.i64.wrap z=z:=by
 unfold IntKind.wrap
 simp[IntKind.bits,IntKind.signed]
 omega
theorem fP(k j:IntKind)(n:Int)(H:Heap):Ol k (.int j n) H=TK k n H:=rfl
theorem IR{m:Nat}(h:m<9223372036854775808)(H:Heap):Ol .u64 (.int .i64 (.negSucc m)) H=.val (nI .u64 (18446744073709551615 - m)) H:=by
 have e1:IntKind.u64.wrap (.negSucc m)=Int.ofNat (18446744073709551615 - m):=by
  rw[Int.negSucc_eq,yv,YC]
  omega
 rw[fP,Vn,e1];unfold nI;rfl
theorem CX{u:Nat}(h0:0<u)(h:u<18446744073709551616)(H:Heap):rP (nI .u64 u) H=.val (nI .u64 (18446744073709551616 - u)) H:=by
 show TK .u64 (EV 0 (.ofNat u)) H=_
 rw[Vn]
 congr 2
 have e:EV 0 (.ofNat u)= -(u:Int):=by
  show cond (Nat.ble u 0) (Int.ofNat (Nat.sub 0 u)) (Int.ofNat 0 - Int.ofNat u)=_
  cases hb:Nat.ble u 0 with
  |true=>have:=ZR hb;omega
  |false=>show(0:Int) - u=_;omega
 rw[e,yv,YC]
 omega
theorem dj{u:Nat}(h0:0<u)(h:u<=9223372036854775808)(H:Heap):rP (nI .i64 u) H=.val (.int .i64 (.negSucc (u - 1))) H:=by
 show TK .i64 (EV 0 (.ofNat u)) H=_
 rw[Vn]
 congr 2
 have e:EV 0 (.ofNat u)= -(u:Int):=by
  show cond (Nat.ble u 0) (Int.ofNat (Nat.sub 0 u)) (Int.ofNat 0 - Int.ofNat u)=_
  cases hb:Nat.ble u 0 with
  |true=>have:=ZR hb;omega
  |false=>show(0:Int) - u=_;omega
 rw[e]
 rw[Jr (by omega) (by omega)];omega
theorem xu(H:Heap):rP (nI .i64 0) H=.val (nI .i64 0) H:=rfl
theorem Jo{s:List UInt8}{p q:Nat}(h1:p<=q)(h2:q<=s.length)(k j:IntKind)(H:Heap):F5 (.str s) (some (nI k p)) (some (nI j q)) H=.val (.str ((s.take q).drop p)) H:=by
 show ZP (Nat.ble q (YK s)) (ZP (Nat.ble p q) (OR.val (.str (JN p (LQ q s))) H))=_
 rw[YF,Zk h2,Zk h1,NN,HD];rfl
theorem Ur{s:List UInt8}{p:Nat}(h1:p<=s.length)(k:IntKind)(H:Heap):F5 (.str s) (some (nI k p)) none H=.val (.str (s.drop p)) H:=by
 show ZP (Nat.ble p (YK s)) (OR.val (.str (JN p (LQ (YK s) s))) H)=_
 rw[YF,Zk h1,NN,HD,XV];rfl
theorem XD{s:List UInt8}{i:Nat}(h:i<s.length)(k:IntKind)(H:Heap):Ma (.str s) (nI k i) H=.val (nI .u8 (s.getD i 0).toNat) H:=Ll h k H
section
variable (f:Vv) (os:List (ZL×Z1)) (dst:ZL) (i bef:Nat) (nx:PK) (rs:List RD) (tm:TM) (H:Heap) (x:X) (g:Option (Z1×Bool)) (kd:Hl) (v:AV)
theorem Yp{m:Nat}(h:H.nx=m):Kc ⟨f,g,os,dst,kd,i,bef⟩ nx rs tm H x (.val v ⟨m,.leaf,m⟩)=nx rs (dst tm v) H x:=by subst h;exact md ..
theorem Yv{m:Nat}(h:H.nx=m)(t:T Obj)(k:Nat):GF ⟨f,g,os,dst,kd,i,bef⟩ nx rs tm H x (.val v ⟨m,t,k⟩)=nx (⟨⟨f,g,os,dst,kd,i,bef⟩,v⟩::rs) (dst tm v) H x:=by
 subst h
 show cond (Nat.beq H.nx H.nx) _ _=_
 rw[Y0];rfl
theorem Y6{m:Nat}(h:H.nx=m)(o:Obj)(hw:wrO o=true):Kc ⟨f,g,os,dst,kd,i,bef⟩ nx rs tm H x (.val v ((⟨m,.leaf,m⟩:Heap).new o))=nx rs (dst tm v) (H.new o) x:=by subst h;exact mc _ _ _ _ _ _ _ _ _ _ _ _ _ _ hw
end
theorem af(e sz:Nat)(l:List AV)(fz:Nat)(sm ex:Bool):wrO (rG e sz l fz sm true ex)=true:=rfl
def Row.st(r:Row)(o:Nat)(v:AV):Row:=r.setCells (r.cells.set o v)
theorem Row.st_size(r:Row)(o:Nat)(v:AV):(r.st o v).size=r.size:=rfl
theorem Row.st_own(r:Row)(o:Nat)(v:AV):(r.st o v).own=r.own:=rfl
theorem Row.st_fz(r:Row)(o:Nat)(v:AV):(r.st o v).fz=r.fz:=rfl
theorem Row.st_get(r:Row)(o:Nat)(v:AV)(i:Nat):(r.st o v).get i=if o=i then v else r.get i:=by
 rw[Row.get_eq,Row.get_eq]
 show((r.cells.set o v).get i).getD r.dflt=_
 rw[T.get_set]
 split<;>rfl
theorem O1{r:Row}{o:Nat}(h:o<r.size)(H:Heap):ld1 (some (.row r)) o H=.val (r.get o) H:=by
 show ZP (Nat.ble (Nat.succ o) r.size) (.val (r.get o) H)=_
 rw[Zk (show Nat.succ o<=r.size from h)];rfl
theorem To{r:Row}{b o:Nat}{v:AV}{H:Heap}(hv:v.cells=[v])(ho:o<r.size)(how:r.own=true)(hro:H.ro<=b)(hfz:r.fz<=o):tp 1 (some (.row r)) b o v H=.val Xz (H.put b (.row (r.st o v))):=by
 show ZP (Nat.ble 1 1) (ZP (cond r.own (Nat.ble H.ro b) false) (ZP (Nat.ble (o+1) r.size) (ZP (Nat.ble r.fz o) (ZP (Nat.beq (YK v.cells) 1) (.val Xz (H.put b (.row (r.setCells (WY r.cells o v.cells)))))))))=_
 rw[how,cond_true,Zk hro,Zk (show o+1<=r.size from ho),Zk hfz,hv];rfl
def BR(a:AV)(H:Heap):OR:=onZ a (.val (.str []) H)<|TI a (.val (.str []) H) λb o n _=>cond (Nat.beq n 0) (.val (.str []) H) (Xg H b λr=>ZP (Nat.ble (Nat.add o n) r.size) (P6 (λs=>.val (.str s) H) (Vf r o n)))
theorem P5(x:Z1)(tm:TM)(H:Heap):Jz x tm H=BR (x tm) H:=rfl
theorem M5{H:Heap}{b o n:Nat}{c:Option Nat}{r:Row}{l:List UInt8}(hr:H.t.get b=some (.row r))(hl:l.length=n)(hf:o+n<=r.size)(hg: ∀i,i<n->r.get (o+i)=Vd (l.getD i 0)):BR (.slice b o n c) H=.val (.str l) H:=by
 subst hl
 by_cases h0:l.length=0
 ·have:l=[]:=YO.1 h0
  subst this;rfl
 ·show cond (Nat.beq l.length 0) _ (Xg H b _)=_
  rw[Yy,Zb h0]
  show Xg H b _=_
  unfold Xg
  rw[hr]
  show ZP (Nat.ble (o+l.length) r.size) (P6 _ (Vf r o l.length))=_
  have:Vf r o l.length=l.map Vd:=by
   refine WQ λi=>?_
   by_cases hi:i<l.length
   ·rw[SO r l.length o i hi,hg i hi,YE,Zl hi,Zf,Zl hi];rfl
   ·rw[Y1 (by rw[Ss];omega),Y1 (by rw[Zx];omega)]
  rw[Zk hf,this,BY];rfl
def yJ(e:Nat)(a:AV)(H:Heap):OR:=Oo a λs=>.val (.slice H.nx 0 (YK s) none) (H.new (.row ⟨e,1,YK s,T.ofList (FH s),.unk,0,true,true,false⟩))
theorem FQ(x:Z1)(e:Nat)(tm:TM)(H:Heap):C8 x e tm H=yJ e (x tm) H:=rfl
theorem Iv(e:Nat)(s:List UInt8)(H:Heap):yJ e (.str s) H=.val (.slice H.nx 0 s.length none) (H.new (rG e 1 (s.map Vd) 0 true true false)):=by
 show OR.val (.slice H.nx 0 (YK s) none) (H.new (.row ⟨e,1,YK s,T.ofList (FH s),.unk,0,true,true,false⟩))=_
 have:FH s=s.map Vd:=by rw[De];rfl
 unfold rG
 rw[this,YF,YF,Zx]
theorem lR(x:Z1)(t:Nat)(tm:TM)(H:Heap):OK x t tm H=.val (.iface t (x tm)) H:=rfl
theorem Bb(f:Nat)(a b:List Z1)(tm:TM)(H:Heap):v9 f a b tm H=.val (.func f (evs tm a) (evs tm b)) H:=rfl
def pk(P:Program)(a:AV)(args:List AV)(H:Heap):OR:=match a with
 |.func f x y=>.oth (.call f (x++(args++y)) H)
 |.meth n r=>Pj r .fail λu v=>Gj P n u λg=>.oth (.call g (v::args) H)
 |.yield b=>.oth (.yield b args H)
 |_=>.fail
theorem Ky(x:Z1)(P:Program)(args:List Z1)(tm:TM)(H:Heap):MO x P args tm H=pk P (x tm) (evs tm args) H:=rfl
theorem XB(P:Program)(f:Nat)(x y args:List AV)(H:Heap):pk P (.func f x y) args H=.oth (.call f (x++(args++y)) H):=rfl
theorem ZeW(lit:Bool)(g:Nat->AV->AV->Option Bool)(neg:Bool)(t:Nat)(v:AV)(H:Heap):N6 (jA lit g) neg (.iface t v) .nili H=.val (.bool neg) H:=by cases neg<;>rfl
theorem ZeX(g:Nat->AV->AV->Option Bool)(neg:Bool)(H:Heap):N6 (jA true g) neg .nili .nili H=.val (.bool (!neg)) H:=by cases neg<;>rfl
def ZbW(neg:Bool)(r:Option Bool)(H:Heap):OR:=match r with|some b=>.val (.bool (cond neg (!b) b)) H|none=>.fail
theorem ky(neg b:Bool)(H:Heap):ZbW neg (some b) H=.val (.bool (cond neg (!b) b)) H:=rfl
theorem ZeV(lit:Bool)(g:Nat->AV->AV->Option Bool)(neg:Bool)(t:Nat)(v w:AV)(H:Heap):N6 (jA lit g) neg (.iface t v) (.iface t w) H=ZbW neg (g t v w) H:=by
 show U3 (cond (Nat.beq t t) (g t v w) (some false)) _=_
 rw[Y0,cond_true]
 cases g t v w with
 |none=>rfl
 |some b=>
  show SU (cond neg (cond b false true) b) H=_
  rw[Tb];cases neg<;>cases b<;>rfl
theorem CT(n:Nat):RS n []=true:=rfl
theorem zy(n:Nat)(v:AV)(l:List AV):RS n (v::l)=cond (Wx n v) (RS n l) false:=rfl
theorem rD(n t:Nat)(v:AV):Wx n (.iface t v)=Wx n v:=rfl
theorem eS(n:Nat)(l:List AV):Wx n (.tup l)=RS n l:=rfl
theorem s9(b o n:Nat)(t:T Obj):Ud (.val (.ptr b o) ⟨n,t,n⟩) (.ptr b o) n=true:=TN _ _ _ (by unfold same;rw[Y0,Y0];rfl)
theorem lB(n:Nat):Wx n .nili=true:=rfl
theorem lC(n:Nat):Wx n .nils=true:=rfl
theorem eQ(n:Nat)(k:IntKind)(z:Int):Wx n (.int k z)=true:=rfl
def K2(t:Nat)(zv:AV)(ok:Bool)(a:AV)(H:Heap):OR:=Pj a (QZ zv ok H none) λu v=>QZ zv ok H (cond (Nat.beq u t) (some v) none)
theorem rR(x:Z1)(t:Nat)(zv:AV)(ok:Bool)(tm:TM)(H:Heap):Df x t zv ok tm H=K2 t zv ok (x tm) H:=rfl
theorem tO(t:Nat)(zv:AV)(H:Heap):K2 t zv true .nili H=.val (.tup [zv,.bool false]) H:=rfl
theorem tP(t:Nat)(zv v:AV)(H:Heap):K2 t zv true (.iface t v) H=.val (.tup [v,.bool true]) H:=by
 show QZ zv true H (cond (Nat.beq t t) (some v) none)=_
 rw[Y0];rfl
def ZbZ(a:AV)(H:Heap):OR:=Pj a .fail λ_ _=>.oth (.pan a H)
theorem lW(x:Z1)(tm:TM)(H:Heap):OM x tm H=ZbZ (x tm) H:=rfl
theorem Zb0(t:Nat)(v:AV)(H:Heap):ZbZ (.iface t v) H=.oth (.pan (.iface t v) H):=rfl
theorem gF(next:TM->Heap->X->WM)(dst:ZL)(c:Ctx)(tm:TM)(H:Heap)(x:X)(v:AV)(H':Heap):Oc next dst c tm H x (.oth (.pan v H'))=.ok (.pan v) tm H' x:=rfl
theorem dX(next:TM->Heap->X->WM)(dst:ZL)(tm:TM)(x:X)(v:AV)(H:Heap):Bi next dst tm x (.pan v H)=.ok (.pan v) tm H x:=rfl
theorem jl(v:AV)(tm:TM)(H:Heap)(x:X)(k:TM->Heap->X->WM):PF (.ok (.pan v) tm H x) k=.ok (.pan v) tm H x:=rfl
theorem rp(i:Nat)(v:AV)(tm:TM)(H:Heap)(x:X):Pa i (.ok (.pan v) tm H x)=.ok (.pan v) tm H x:=rfl
theorem cj(dc:Option AV->Nat->List AV->Heap->DR)(rs:List (Z1×Option (Nat×Bool)))(v:AV)(tm:TM)(H:Heap)(rc:Option AV):LY dc rs (.ok (.pan v) tm H ⟨[],rc⟩)=.pan v H:=rfl
theorem cK(ds:List ZL)(p:PI)(nx:PK)(rs:List RD)(tm:TM)(x:X)(v:AV)(H:Heap):Bt ds p nx rs tm x (.pan v H)=.ok (.pan v) (Q2 tm ds) H x:=rfl
def wX(H:Heap)(vs:List AV):CR:=match vs with|[v]=>.ret v H|vs=>.ret (.tup vs) H
theorem uy(rs:List (Z1×Option (Nat×Bool)))(tm:TM)(H:Heap):results rs tm H=OW tm H (wX H) rs:=rfl
theorem Ze2(H:Heap)(v:AV):wX H [v]=.ret v H:=rfl
theorem Ze1(H:Heap):wX H []=.ret (.tup []) H:=rfl
theorem Ze3(H:Heap)(v w:AV)(l:List AV):wX H (v::w::l)=.ret (.tup (v::w::l)) H:=rfl
theorem kR(tm:TM)(H:Heap)(k:List AV->CR):OW tm H k []=k []:=rfl
def rV(n:Nat)(ag:Bool)(o:Option Obj)(off:Nat)(k:AV->CR):CR:=match o with
 |some (.row r)=>cond (Nat.ble (Nat.add off n) r.size) (cond ag (k (.agg (Vf r off n))) (k (r.get off))) .fail
 |_=>.fail
def Zcl(H:Heap)(a:AV)(n:Nat)(ag:Bool)(k:AV->CR):CR:=match a with
 |.ptr b o=>rV n ag (H.t.get b) o k
 |_=>.fail
theorem cI(H:Heap)(b o n:Nat)(ag:Bool)(k:AV->CR):Zcl H (.ptr b o) n ag k=rV n ag (H.t.get b) o k:=rfl
theorem qs(f:Z1)(tm:TM)(H:Heap)(k:List AV->CR)(l:List (Z1×Option (Nat×Bool))):OW tm H k ((f,none)::l)=OW tm H (λvs=>k (f tm::vs)) l:=rfl
theorem qt(f:Z1)(n:Nat)(ag:Bool)(tm:TM)(H:Heap)(k:List AV->CR)(l:List (Z1×Option (Nat×Bool))):OW tm H k ((f,some (n,ag))::l)=Zcl H (f tm) n ag (λv=>OW tm H (λvs=>k (v::vs)) l):=rfl
theorem Zgg{n e sz:Nat}{l:List AV}{fz:Nat}{sm own ex:Bool}(hn:l.length=n)(k:AV->CR):rV n true (some (rG e sz l fz sm own ex)) 0 k=k (.agg l):=by
 subst hn
 show cond (Nat.ble (0+l.length) (YK l)) (k (.agg (Vf ⟨e,sz,YK l,T.ofList l,.unk,fz,sm,own,ex⟩ 0 l.length))) .fail=_
 rw[(GC e sz l fz sm own ex).load (by omega),Yk,XV,YF,Zd,Zk (Zp _)];rfl
theorem lM(x:Z1)(args:List Z1)(tm:TM)(H:Heap):Ba x args tm H=.oth (.defer (x tm) (evs tm args)):=rfl
theorem uc(tm:TM)(H:Heap):Bd tm H=.oth .recov:=rfl
theorem sV(next:TM->Heap->X->WM)(dst:ZL)(cl y rg fu)(tm:TM)(H:Heap)(x:X)(f:Nat)(a b args:List AV):Oc next dst ⟨cl,y,rg,fu,false⟩ tm H x (.oth (.defer (.func f a b) args))=next (dst tm Xz) H ⟨(.func f a b,args)::x.df,x.rc⟩:=rfl
theorem vc(next:TM->Heap->X->WM)(dst:ZL)(cl y rg fu)(tm:TM)(H:Heap)(df:List (AV×List AV)):Oc next dst ⟨cl,y,rg,fu,false⟩ tm H ⟨df,none⟩ (.oth .recov)=next (dst tm .nili) H ⟨df,none⟩:=rfl
theorem vd(next:TM->Heap->X->WM)(dst:ZL)(cl y rg fu)(tm:TM)(H:Heap)(df:List (AV×List AV))(v:AV):Oc next dst ⟨cl,y,rg,fu,false⟩ tm H ⟨df,some v⟩ (.oth .recov)=next (dst tm v) H ⟨df,none⟩:=rfl
theorem kD(dc:Option AV->Nat->List AV->Heap->DR)(rs:List (Z1×Option (Nat×Bool)))(tm:TM)(H:Heap)(d:AV×List AV)(l:List (AV×List AV))(rc:Option AV):LY dc rs (.ok .ret tm H ⟨d::l,rc⟩)=deferred dc rs tm (d::l) none H:=rfl
theorem kC(dc:Option AV->Nat->List AV->Heap->DR)(rs:List (Z1×Option (Nat×Bool)))(v:AV)(tm:TM)(H:Heap)(d:AV×List AV)(l:List (AV×List AV))(rc:Option AV):LY dc rs (.ok (.pan v) tm H ⟨d::l,rc⟩)=deferred dc rs tm (d::l) (some v) H:=rfl
def Cd(dc:Option AV->Nat->List AV->Heap->DR)(rs:List (Z1×Option (Nat×Bool)))(tm:TM)(l:List (AV×List AV))(pn:Option AV)(r:DR):CR:=match r with
 |.ret _ H rec=>deferred dc rs tm l (cond rec none pn) H
 |_=>.fail
theorem Ag(dc:Option AV->Nat->List AV->Heap->DR)(rs:List (Z1×Option (Nat×Bool)))(tm:TM)(g:Nat)(a b args:List AV)(l:List (AV×List AV))(pn:Option AV)(H:Heap):deferred dc rs tm ((.func g a b,args)::l) pn H=Cd dc rs tm l pn (dc pn g (a++(args++b)) H):=by
 show(match dc pn g (a++(args++b)) H with|.ret _ H rec=>deferred dc rs tm l (cond rec none pn) H|_=>.fail)=_
 unfold Cd
 cases dc pn g (a++(args++b)) H<;>rfl
theorem sG(dc:Option AV->Nat->List AV->Heap->DR)(rs:List (Z1×Option (Nat×Bool)))(tm:TM)(l:List (AV×List AV))(pn:Option AV)(v:AV)(H:Heap)(rec:Bool):Cd dc rs tm l pn (.ret v H rec)=deferred dc rs tm l (cond rec none pn) H:=rfl
theorem yO(dc:Option AV->Nat->List AV->Heap->DR)(rs:List (Z1×Option (Nat×Bool)))(tm:TM)(H:Heap):deferred dc rs tm [] none H=results rs tm H:=rfl
theorem yP(dc:Option AV->Nat->List AV->Heap->DR)(rs:List (Z1×Option (Nat×Bool)))(tm:TM)(v:AV)(H:Heap):deferred dc rs tm [] (some v) H=.pan v H:=rfl
def ZiK{α β:Type}(o:Option α)(d:β)(k:α->β):β:=match o with|some x=>k x|none=>d
theorem kz{α β:Type}(x:α)(d:β)(k:α->β):ZiK (some x) d k=k x:=rfl
def qe(rc:Option AV)(x:X)(r:CR):DR:=match r with|.ret v H=>.ret v H (MT rc x)|_=>.fail
theorem ci(rc:Option AV)(x:X)(v:AV)(H:Heap):qe rc x (.ret v H)=.ret v H (MT rc x):=rfl
theorem EJ(rc:Option AV)(rs:List (Z1×Option (Nat×Bool)))(tm:TM)(H:Heap)(q:Option AV):FU rc rs (.ok .normal tm H ⟨[],q⟩)=qe rc ⟨[],q⟩ (results rs tm H):=by
 show(match([]:List (AV×List AV)),results rs tm H with|[],.ret v H=>DR.ret v H (MT rc ⟨[],q⟩)|_,_=>.fail)=_
 unfold qe
 cases results rs tm H<;>rfl
theorem ce(rc:Option AV)(rs:List (Z1×Option (Nat×Bool)))(tm:TM)(H:Heap)(q:Option AV):FU rc rs (.ok .ret tm H ⟨[],q⟩)=qe rc ⟨[],q⟩ (results rs tm H):=EJ rc rs tm H q
theorem cd(rc:Option AV)(rs:List (Z1×Option (Nat×Bool)))(v:AV)(tm:TM)(H:Heap)(q:Option AV):FU rc rs (.ok (.pan v) tm H ⟨[],q⟩)=.pan v H (MT rc ⟨[],q⟩):=rfl
theorem Zgi(v:AV)(l:List (AV×List AV)):MT (some v) ⟨l,none⟩=true:=rfl
theorem Zgh(x:X):MT none x=false:=rfl
theorem aL(a b c d e:AV):SE [a,b,c,d,e]=Y9 (Vl (st2 (st1 (st0 M9 a) b) c) d) e:=rfl
theorem Fr(k:List AV->OR)(cells:List AV):PC k [] cells=k cells:=rfl
theorem sO(k:List AV->OR)(o n:Nat)(v:AV)(ps:List (Nat×Nat×AV))(cells:List AV):PC k ((o,n,v)::ps) cells=ZP (Nat.ble 1 n) (ZP (Nat.beq (YK v.cells) n) (ZP (Nat.ble (Nat.add o n) (YK cells)) (PC k ps (Ow o cells++(v.cells++PB (Nat.add o n) cells))))):=rfl
theorem eu{cells l:List AV}{o:Nat}(h:o+l.length<=cells.length):Ow o cells++(l++PB (Nat.add o l.length) cells)=lay cells o l:=by
 rw[xc cells o l h]
 have h1:Ow o cells=cells.take o:=M7 ..
 have h2:PB (o+l.length) cells=cells.drop (o+l.length):=MC ..
 rw[h1]
 show _++(_++PB (o+l.length) cells)=_
 rw[h2]
theorem Cf{k:List AV->OR}{o n:Nat}{v:AV}{l:List AV}{ps:List (Nat×Nat×AV)}{cells:List AV}(hv:v.cells=l)(hl:l.length=n)(hn:1<=n)(h:o+n<=cells.length):PC k ((o,n,v)::ps) cells=PC k ps (lay cells o l):=by
 subst hv;subst hl
 rw[sO,Zk hn,YF,Y0,YF,Zk (show Nat.add o v.cells.length<=cells.length from h),eu h];rfl
theorem ME{k:List AV->OR}{o:Nat}{v:AV}{ps:List (Nat×Nat×AV)}{cells:List AV}(hv:v.cells=[v])(h:o<cells.length):PC k ((o,1,v)::ps) cells=PC k ps (cells.set o v):=Cf hv rfl (Zp 1) h
theorem nY{k:List AV->OR}{o n:Nat}{l:List AV}{ps:List (Nat×Nat×AV)}{cells:List AV}(hl:l.length=n)(hn:1<=n)(h:o+n<=cells.length):PC k ((o,n,.agg l)::ps) cells=PC k ps (lay cells o l):=Cf rfl hl hn h
theorem Ed(z:AV)(zs:List AV)(ps:List (Nat×Nat×AV))(H:Heap):Q1 (z::zs) ps H=PC (λcs=>.val (.agg cs) H) ps (z::zs):=by
 show ZP (Nat.ble 1 (YK (z::zs))) _=_
 rw[YF,Zk (by simp)];rfl
theorem DL{e sz n:Nat}{zs:List AV}{ps:List (Nat×Nat×AV)}{H:Heap}(h1:1<=sz)(h2:zs.length=n*sz):UU e sz n zs ps H=PC (λcs=>.val (.slice H.nx 0 n none) (H.newRow e sz cs true)) ps zs:=by
 show ZP (Nat.ble 1 sz) (ZP (Nat.beq (YK zs) (Nat.mul n sz)) _)=_
 rw[Zk h1,YF,h2,show Nat.mul n sz=n*sz from rfl,Y0];rfl
theorem Zw:(∀(x:Z1) (args:List Z1) (tm:TM) (H:Heap),Ba x args tm H=.oth (.defer (x tm) (evs tm args)))∧
 (∀(tm:TM) (H:Heap),Bd tm H=.oth .recov)∧
 (∀(next:TM->Heap->X->WM) (dst:ZL) (cl y rg fu) (tm:TM) (H:Heap) (x:X) (f:Nat) (a b args:List AV),Oc next dst ⟨cl,y,rg,fu,false⟩ tm H x (.oth (.defer (.func f a b) args))=next (dst tm Xz) H ⟨(.func f a b,args)::x.df,x.rc⟩)∧
 (∀(next:TM->Heap->X->WM) (dst:ZL) (cl y rg fu) (tm:TM) (H:Heap) (df:List (AV×List AV)),Oc next dst ⟨cl,y,rg,fu,false⟩ tm H ⟨df,none⟩ (.oth .recov)=next (dst tm .nili) H ⟨df,none⟩)∧
 (∀(next:TM->Heap->X->WM) (dst:ZL) (cl y rg fu) (tm:TM) (H:Heap) (df:List (AV×List AV)) (v:AV),Oc next dst ⟨cl,y,rg,fu,false⟩ tm H ⟨df,some v⟩ (.oth .recov)=next (dst tm v) H ⟨df,none⟩)∧
 (∀(dc:Option AV->Nat->List AV->Heap->DR) (rs:List (Z1×Option (Nat×Bool))) (tm:TM) (H:Heap) (d:AV×List AV) (l:List (AV×List AV)) (rc:Option AV),LY dc rs (.ok .ret tm H ⟨d::l,rc⟩)=deferred dc rs tm (d::l) none H)∧
 (∀(dc:Option AV->Nat->List AV->Heap->DR) (rs:List (Z1×Option (Nat×Bool))) (v:AV) (tm:TM) (H:Heap) (d:AV×List AV) (l:List (AV×List AV)) (rc:Option AV),LY dc rs (.ok (.pan v) tm H ⟨d::l,rc⟩)=deferred dc rs tm (d::l) (some v) H)∧
 (∀(dc:Option AV->Nat->List AV->Heap->DR) (rs:List (Z1×Option (Nat×Bool))) (tm:TM) (g:Nat) (a b args:List AV) (l:List (AV×List AV)) (pn:Option AV) (H:Heap),deferred dc rs tm ((.func g a b,args)::l) pn H=Cd dc rs tm l pn (dc pn g (a++(args++b)) H))∧
 (∀(dc:Option AV->Nat->List AV->Heap->DR) (rs:List (Z1×Option (Nat×Bool))) (tm:TM) (l:List (AV×List AV)) (pn:Option AV) (v:AV) (H:Heap) (rec:Bool),Cd dc rs tm l pn (.ret v H rec)=deferred dc rs tm l (cond rec none pn) H)∧
 (∀(dc:Option AV->Nat->List AV->Heap->DR) (rs:List (Z1×Option (Nat×Bool))) (tm:TM) (H:Heap),deferred dc rs tm [] none H=results rs tm H)∧
 (∀(dc:Option AV->Nat->List AV->Heap->DR) (rs:List (Z1×Option (Nat×Bool))) (tm:TM) (v:AV) (H:Heap),deferred dc rs tm [] (some v) H=.pan v H)∧
 (∀{α β:Type} (x:α) (d:β) (k:α->β),ZiK (some x) d k=k x)∧
 (∀(rc:Option AV) (x:X) (v:AV) (H:Heap),qe rc x (.ret v H)=.ret v H (MT rc x))∧
 (∀(rc:Option AV) (rs:List (Z1×Option (Nat×Bool))) (tm:TM) (H:Heap) (q:Option AV),FU rc rs (.ok .normal tm H ⟨[],q⟩)=qe rc ⟨[],q⟩ (results rs tm H))∧
 (∀(rc:Option AV) (rs:List (Z1×Option (Nat×Bool))) (tm:TM) (H:Heap) (q:Option AV),FU rc rs (.ok .ret tm H ⟨[],q⟩)=qe rc ⟨[],q⟩ (results rs tm H))∧
 (∀(rc:Option AV) (rs:List (Z1×Option (Nat×Bool))) (v:AV) (tm:TM) (H:Heap) (q:Option AV),FU rc rs (.ok (.pan v) tm H ⟨[],q⟩)=.pan v H (MT rc ⟨[],q⟩))∧
 (∀(v:AV) (l:List (AV×List AV)),MT (some v) ⟨l,none⟩=true)∧
 (∀(x:X),MT none x=false)∧
 (∀{a:AV} (h:a.cells=[a]) (e:Nat) (H:Heap),Ni e a H=.val (.ptr H.nx 0) (H.new (rG e 1 [a] 0 false true true)))∧
 (∀{l:List AV} (h1:1<=l.length) (e:Nat) (H:Heap),Ni e (.agg l) H=.val (.ptr H.nx 0) (H.new (rG e 1 l 0 false true true)))∧
 (∀{b c:Nat} (h: ¬b=c) (H:Heap) (o:Obj),(H.put b o).t.get c=H.t.get c)∧
 (∀{H:Heap} {c:Nat} (h: ¬H.nx=c) (o:Obj),(H.new o).t.get c=H.t.get c)∧
 (∀{H:Heap} {c:Nat} (h:H.nx=c) (o:Obj),(H.new o).t.get c=some o)∧
 (∀{H:Heap} {b:Nat} (h:H.nx=b) (o o':Obj),(H.new o).put b o'=H.new o')∧
 (∀(neg b:Bool) (H:Heap),ZbW neg (some b) H=.val (.bool (cond neg (!b) b)) H)∧
 (∀(lit:Bool) (g:Nat->AV->AV->Option Bool) (neg:Bool) (t:Nat) (v w:AV) (H:Heap),N6 (jA lit g) neg (.iface t v) (.iface t w) H=ZbW neg (g t v w) H)∧
 (∀(n:Nat),RS n []=true)∧
 (∀(n:Nat) (v:AV) (l:List AV),RS n (v::l)=cond (Wx n v) (RS n l) false)∧
 (∀(n t:Nat) (v:AV),Wx n (.iface t v)=Wx n v)∧
 (∀(n:Nat) (l:List AV),Wx n (.tup l)=RS n l)∧
 (∀(b o n:Nat) (t:T Obj),Ud (.val (.ptr b o) ⟨n,t,n⟩) (.ptr b o) n=true)∧
 (∀(n:Nat),Wx n .nili=true)∧
 (∀(n:Nat),Wx n .nils=true)∧
 (∀(n:Nat) (k:IntKind) (z:Int),Wx n (.int k z)=true)∧
 (∀(k:List AV->OR) (cells:List AV),PC k [] cells=k cells)∧
 (∀{k:List AV->OR} {o:Nat} {v:AV} {ps:List (Nat×Nat×AV)} {cells:List AV} (hv:v.cells=[v]) (h:o<cells.length),PC k ((o,1,v)::ps) cells=PC k ps (cells.set o v))∧
 (∀(z:AV) (zs:List AV) (ps:List (Nat×Nat×AV)) (H:Heap),Q1 (z::zs) ps H=PC (λcs=>.val (.agg cs) H) ps (z::zs))∧
 (∀(e sz:Nat) (l:List AV) (fz:Nat) (sm ex:Bool),wrO (rG e sz l fz sm true ex)=true)∧
 (∀(x:Z1) (e:Nat) (tm:TM) (H:Heap),C8 x e tm H=yJ e (x tm) H)∧
 (∀(e:Nat) (s:List UInt8) (H:Heap),yJ e (.str s) H=.val (.slice H.nx 0 s.length none) (H.new (rG e 1 (s.map Vd) 0 true true false)))∧
 (∀(x:Z1) (t:Nat) (tm:TM) (H:Heap),OK x t tm H=.val (.iface t (x tm)) H)∧
 (∀(f:Nat) (a b:List Z1) (tm:TM) (H:Heap),v9 f a b tm H=.val (.func f (evs tm a) (evs tm b)) H)∧
 (∀(x:Z1) (P:Program) (args:List Z1) (tm:TM) (H:Heap),MO x P args tm H=pk P (x tm) (evs tm args) H)∧
 (∀(P:Program) (f:Nat) (x y args:List AV) (H:Heap),pk P (.func f x y) args H=.oth (.call f (x++(args++y)) H))∧
 (∀(lit:Bool) (g:Nat->AV->AV->Option Bool) (neg:Bool) (t:Nat) (v:AV) (H:Heap),N6 (jA lit g) neg (.iface t v) .nili H=.val (.bool neg) H)∧
 (∀(g:Nat->AV->AV->Option Bool) (neg:Bool) (H:Heap),N6 (jA true g) neg .nili .nili H=.val (.bool (!neg)) H)∧
 (∀(x:Z1) (t:Nat) (zv:AV) (ok:Bool) (tm:TM) (H:Heap),Df x t zv ok tm H=K2 t zv ok (x tm) H)∧
 (∀(t:Nat) (zv:AV) (H:Heap),K2 t zv true .nili H=.val (.tup [zv,.bool false]) H)∧
 (∀(t:Nat) (zv v:AV) (H:Heap),K2 t zv true (.iface t v) H=.val (.tup [v,.bool true]) H)∧
 (∀(x:Z1) (tm:TM) (H:Heap),OM x tm H=ZbZ (x tm) H)∧
 (∀(t:Nat) (v:AV) (H:Heap),ZbZ (.iface t v) H=.oth (.pan (.iface t v) H))∧
 (∀(next:TM->Heap->X->WM) (dst:ZL) (c:Ctx) (tm:TM) (H:Heap) (x:X) (v:AV) (H':Heap),Oc next dst c tm H x (.oth (.pan v H'))=.ok (.pan v) tm H' x)∧
 (∀(next:TM->Heap->X->WM) (dst:ZL) (tm:TM) (x:X) (v:AV) (H:Heap),Bi next dst tm x (.pan v H)=.ok (.pan v) tm H x)∧
 (∀(v:AV) (tm:TM) (H:Heap) (x:X) (k:TM->Heap->X->WM),PF (.ok (.pan v) tm H x) k=.ok (.pan v) tm H x)∧
 (∀(i:Nat) (v:AV) (tm:TM) (H:Heap) (x:X),Pa i (.ok (.pan v) tm H x)=.ok (.pan v) tm H x)∧
 (∀(dc:Option AV->Nat->List AV->Heap->DR) (rs:List (Z1×Option (Nat×Bool))) (v:AV) (tm:TM) (H:Heap) (rc:Option AV),LY dc rs (.ok (.pan v) tm H ⟨[],rc⟩)=.pan v H)∧
 (∀(ds:List ZL) (p:PI) (nx:PK) (rs:List RD) (tm:TM) (x:X) (v:AV) (H:Heap),Bt ds p nx rs tm x (.pan v H)=.ok (.pan v) (Q2 tm ds) H x)∧
 (∀(rs:List (Z1×Option (Nat×Bool))) (tm:TM) (H:Heap),results rs tm H=OW tm H (wX H) rs)∧
 (∀(H:Heap) (v:AV),wX H [v]=.ret v H)∧
 (∀(H:Heap),wX H []=.ret (.tup []) H)∧
 (∀(H:Heap) (v w:AV) (l:List AV),wX H (v::w::l)=.ret (.tup (v::w::l)) H)∧
 (∀(tm:TM) (H:Heap) (k:List AV->CR),OW tm H k []=k [])∧
 (∀(f:Z1) (tm:TM) (H:Heap) (k:List AV->CR) (l:List (Z1×Option (Nat×Bool))),OW tm H k ((f,none)::l)=OW tm H (λvs=>k (f tm::vs)) l)∧
 (∀(f:Z1) (n:Nat) (ag:Bool) (tm:TM) (H:Heap) (k:List AV->CR) (l:List (Z1×Option (Nat×Bool))),OW tm H k ((f,some (n,ag))::l)=Zcl H (f tm) n ag (λv=>OW tm H (λvs=>k (v::vs)) l))∧
 (∀(H:Heap) (b o n:Nat) (ag:Bool) (k:AV->CR),Zcl H (.ptr b o) n ag k=rV n ag (H.t.get b) o k)∧
 (∀(x:Z1) (tm:TM) (H:Heap),Jz x tm H=BR (x tm) H):=⟨@lM, @uc, @sV, @vc, @vd, @kD, @kC, @Ag, @sG, @yO, @yP, @kz, @ci, @EJ, @ce, @cd, @Zgi, @Zgh, @jQ, @XS, @Nm, @Nl, @ZW, @Tm, @ky, @ZeV, @CT, @zy, @rD, @eS, @s9, @lB, @lC, @eQ, @Fr, @ME, @Ed, @af, @FQ, @Iv, @lR, @Bb, @Ky, @XB, @ZeW, @ZeX, @rR, @tO, @tP, @lW, @Zb0, @gF, @dX, @jl, @rp, @cj, @cK, @uy, @Ze2, @Ze1, @Ze3, @kR, @qs, @qt, @cI, @P5⟩
theorem X3:(∀(e sz:Nat) (l:List AV) (fz:Nat) (sm ex:Bool),wrO (rG e sz l fz sm true ex)=true)∧
 (∀(H:Heap) (b:Nat) (o:Obj),(H.put b o).nx=H.nx)∧
 (∀(H:Heap) (o:Obj),(H.new o).nx=H.nx+1)∧
 (∀(H:Heap) (b:Nat) (o:Obj),(H.put b o).ro=H.ro)∧
 (∀(H:Heap) (o:Obj),(H.new o).ro=H.ro)∧
 (∀(b:Bool),(AV.bool b).cells=[.bool b])∧
 (∀(k:IntKind) (n:Int),(AV.int k n).cells=[.int k n])∧
 (∀(k:IntKind) (n:Nat),(nI k n).cells=[nI k n])∧
 (∀(x:UInt8),(Vd x).cells=[Vd x])∧
 (∀(s:List UInt8),(AV.str s).cells=[.str s])∧
 (AV.nilp.cells=[.nilp])∧
 (∀(b o:Nat),(AV.ptr b o).cells=[.ptr b o])∧
 (AV.nils.cells=[.nils])∧
 (∀(b o n:Nat) (c:Option Nat),(AV.slice b o n c).cells=[.slice b o n c])∧
 (∀(b:Nat),(AV.map b).cells=[.map b])∧
 (∀(f:Nat) (a b:List AV),(AV.func f a b).cells=[.func f a b])∧
 (∀(t:Nat) (v:AV),(AV.iface t v).cells=[.iface t v])∧
 (AV.nili.cells=[.nili])∧
 (∀(l:List AV),(AV.agg l).cells=l)∧
 (∀(r:Row) (o:Nat) (v:AV),(r.st o v).size=r.size)∧
 (∀(r:Row) (o:Nat) (v:AV),(r.st o v).own=r.own)∧
 (∀(r:Row) (o:Nat) (v:AV),(r.st o v).fz=r.fz)∧
 (∀(l:List AV) (o:Nat) (vs:List AV),(lay l o vs).length=l.length):=⟨@af, @LA, @dm, @cD, @dp, @D5, @AJ, @wK, @AN, @AM, @D8, @AL, @D9, @Eh, @AK, @D6, @Eg, @D7, @AH, @Row.st_size, @Row.st_own, @Row.st_fz, @xd⟩
theorem Z8:((!true)=false)∧((!false)=true)∧(∀{α:Type} (l:List α),[]++l=l)∧(∀{α:Type} (l:List α),l++[]=l)∧(∀{α β:Type} (f:α->β),Option.map f none=none)∧(∀{α β:Type} (f:α->β) (a:α),Option.map f (some a)=some (f a))∧(∀{α β:Type} (f:α->β) (a:α) (l:List α),List.map f (a::l)=f a::List.map f l)∧(∀{α β:Type} (f:α->β),List.map f []=[])∧(∀{α:Type} (a b:α),cond true a b=a)∧(∀{α:Type} (a b:α),cond false a b=b)∧(∀(x i:Nat),x.testBit i=decide (x/2^i % 2=1))∧(∀h:Decidable True, @decide True h=true)∧(∀h:Decidable False, @decide False h=false)∧(∀n:Nat,0+n=n)∧
 (∀{α:Type} (a d:α) (l:List α),(a::l).getD 0 d=a)∧(∀{α:Type} (a d:α) (l:List α) (n:Nat),(a::l).getD (n+1) d=l.getD n d)∧(∀{α:Type} (a b:α) (l:List α),(a::l).set 0 b=b::l)∧(∀{α:Type} (a b:α) (l:List α) (n:Nat),(a::l).set (n+1) b=a::l.set n b):=
 ⟨Yq,Y2,λ_=>rfl,Yd,λ_=>rfl,λ_ _=>rfl,λ_ _ _=>rfl,λ_=>rfl,λ_ _=>rfl,λ_ _=>rfl,λ_ _=>Nat.testBit_eq_decide_div_mod_eq,λ_=>Ze trivial,λ_=>Zb id,Zd,λ_ _ _=>rfl,λ_ _ _ _=>rfl,λ_ _ _=>rfl,λ_ _ _ _=>rfl⟩
theorem X4:(∀{α:Type} (a:α) (l:List α),(a::l).length=l.length+1)∧(∀{α:Type},([]:List α).length=0)∧(∀{α:Type} (l:List α) (n:Nat) (a:α),(l.set n a).length=l.length)∧(∀{α β:Type} (f:α->β) (l:List α),(l.map f).length=l.length):=
 ⟨λ_ _=>rfl,rfl,λ_ _ _=>Wg,λ_ _=>Zx ..⟩
section
variable {P:Program}
def ZfK(n:Nat):Obj->Prop
 |.row r=> ∀i,i<r.size->Wx n (r.get i)=true
 |.map es _=> ∀x∈es,Wx n x.key=true∧Wx n x.val=true
 |.siter _ _=>True
 |.loop=>True
 |_=>False
theorem UL.cutX{σ:Mp}{n:Nat}{o:Obj}{l:Loc}{c:Go.Obj}(h:ZfK n o)(r:UL σ o l c):UL (σ.cut n) o l c:=by
 cases o with
 |row q=>
  obtain⟨cs,fr,rfl,r⟩:=r
  refine⟨cs,fr,rfl,r.sz,r.sz1,r.fits,r.room,r.exact,λi hi=>?_,r.one,r.frz,r.frs⟩
  obtain⟨v,h1,h2⟩:=r.cell i hi
  exact⟨v,h1,Yn.cut (h i hi) h2⟩
 |map es clock=>
  obtain⟨ents,e,h1,h2⟩:=r
  exact⟨ents,e,Yz.cutE h h1,h2⟩
 |siter s pos=>exact r
 |loop=>exact r
 |miter _ _ _=>exact h.elim
 |cmap _=>exact h.elim
structure Less(H H' G:Heap):Prop where
 nx:H.nx<=G.nx
 ro:G.ro=H.ro
 old: ∀b,b<H.nx->G.t.get b=H'.t.get b
 new: ∀b o,H.nx<=b->G.t.get b=some o->H.t.get b=some o∨(b<G.nx∧H'.t.get b=some o)
 low: ∀b o,G.t.get b=some o->H.t.get b=some o∨ZfK G.nx o
theorem Tr.less{σ σ':Mp}{H H' G:Heap}{w w':World}(hs:WE P σ H w)(t:Tr P σ H w σ' H' w')(g:Less H H' G):Tr P σ H w (σ'.cut G.nx) G w':=by
 have hex:Ext σ (σ'.cut G.nx):=λb l hb=>by
  have:=hs.dom b l hb
  rw[Mp.cut_lt (ZT this g.nx)]
  exact t.ext b l hb
 have hcut: ∀{b l},σ'.cut G.nx b=some l->σ' b=some l:=λh=>(Mp.cut_some h).2
 have hin: ∀b o,G.t.get b=some o->H'.t.get b=some o:=λb o h=>by
  by_cases hb:b<H.nx
  ·rw[<-g.old b hb];exact h
  ·rcases g.new b o (by omega) h with h1|h1
   ·exact absurd (hs.low b o h1) hb
   ·exact h1.2
 have hs':WE P (σ'.cut G.nx) G w':=by
  refine⟨λb l h=>(Mp.cut_some h).1,λb o h=>?_,λb o l hb hl=>?_,λb b' o o' l l' h1 h2 h3 h4 e=>t.sim.inj b b' o o' l l' (hin _ _ h1) (hin _ _ h2) (hcut h3) (hcut h4) e,λq hq=>?_,by rw[g.ro];exact Z5 hs.ro g.nx⟩
  ·by_cases hb:b<H.nx
   ·exact ZT hb g.nx
   ·rcases g.new b o (by omega) h with h1|h1
    ·exact absurd (hs.low b o h1) hb
    ·exact h1.1
  ·obtain⟨c,h2,h3⟩:=t.sim.alive b o l (hin b o hb) (hcut hl)
   refine⟨c,h2,?_⟩
   rcases g.low b o hb with h5|h4
   ·cases hσ:σ b with
    |none=>
     have:=(t.pend b (hs.low b o h5) hσ).2
     rw[hcut hl] at this;cases this
    |some l0=>
     have e:=t.ext b l0 hσ
     rw[hcut hl] at e;cases e
     obtain⟨c0,_,h1⟩:=hs.alive b o l h5 hσ
     exact(h1.back t.ext h3).mono hex
   ·exact h3.cutX h4
  ·obtain⟨l,h1,h2,h3⟩:=hs.glob q hq
   exact⟨l,hex _ _ h1,h2,h3⟩
 refine⟨hex,hs',t.size,t.frame,λb l hw hl hlt=>?_,g.nx,g.ro,λb hb=>?_,t.tape,t.os,t.out,λb hb hn=>?_⟩
 ·obtain⟨h1,o,h2,h3⟩:=hw
  exact t.wr b l ⟨by rw[t.ro,<-g.ro];exact h1,o,hin b o h2,h3⟩ (hcut hl) hlt
 ·rw[g.old b (ZT hb hs.ro)]
  exact t.low b hb
 ·obtain⟨h1,h2⟩:=t.pend b hb hn
  refine⟨by rw[g.old b hb,h1],?_⟩
  rw[Mp.cut_lt (ZT hb g.nx)];exact h2
def ZcQ(H:Heap):CR->CR->Prop
 |.ret v H',.ret u G=>u=v∧Less H H' G∧Wx G.nx v=true
 |.pan v H',.pan u G=>u=v∧Less H H' G∧Wx G.nx v=true
 |_,_=>False
theorem Za9{call:Nat->List AV->Heap->CR}(hcall:Si P call){f:FuncId}{args:List AV}{H:Heap}{r:CR}(g:ZcQ H (call f args H) r)
  {σ:Mp}{w:World}{vs:List Value}(hs:WE P σ H w)(hv:YR σ args vs):La P σ H w r ((callFunc f ⟨vs⟩).run P w):=by
 have hcr:=hcall f _ H σ w vs hs hv
 generalize call f args H=q at g hcr
 cases q with
 |fail=>cases r<;>exact g.elim
 |ret v H'=>
  cases r with
  |ret u G=>
   obtain⟨rfl,g,hlow⟩:=g
   refine Ends.mono (λu' w' hx=>?_) (λ_ _ hx=>hx) hcr
   obtain⟨σ2,h1,t⟩:=hx
   exact⟨σ2.cut G.nx,Yn.cut hlow h1,t.less hs g⟩
  |_=>exact g.elim
 |pan v H'=>
  cases r with
  |pan u G=>
   obtain⟨rfl,g,hlow⟩:=g
   refine Ends.mono (λ_ _ hx=>hx) (λu' w' hx=>?_) hcr
   obtain⟨σ2,h1,t⟩:=hx
   exact⟨σ2.cut G.nx,Yn.cut hlow h1,t.less hs g⟩
  |_=>exact g.elim
theorem Less.put{H:Heap}{b:Nat}{o:Obj}(hb:b<H.nx)(ho:ZfK H.nx o){H':Heap}(h: ∀c,c<H.nx->H'.t.get c=(H.put b o).t.get c):Less H H' (H.put b o):=by
 refine⟨Zp _,rfl,λc hc=>(h c hc).symm,λc q hc hq=>.inl ?_,λc q hq=>?_⟩
 ·rw[Lz,if_neg (by omega)] at hq;exact hq
 ·rw[Lz] at hq
  split at hq
  ·cases hq;exact .inr ho
  ·exact .inl hq
theorem Less.same{H H':Heap}(h: ∀c,c<H.nx->H'.t.get c=H.t.get c):Less H H' H:=
 ⟨Zp _,rfl,λc hc=>(h c hc).symm,λ_ _ _ hq=>.inl hq,λ_ _ hq=>.inl hq⟩
end
section
variable {P:Program}
abbrev Lib:=Nat->List AV->Heap->Option CR
def CN(Sw:Nat->Nat)(Qe:Lib)(call:Nat->List AV->Heap->CR)(lib:Lib)(k:Nat):Lib:=λf args H=>
 open Classical in if Sw f=k then
  (match Qe f args H with
  |some r=>if ZcQ H (call f args H) r then some r else lib f args H
  |none=>if ∃v H',call f args H=.ret v H'∧Zs H H' []∧Wx 0 v=true then(match call f args H with|.ret v _=>some (.ret v H)|_=>none) else lib f args H)
 else lib f args H
theorem eA{Sw:Nat->Nat}{Qe:Lib}{call:Nat->List AV->Heap->CR}{lib:Lib}{k:Nat}(hcall:Si P call)(hl:Nf P lib):Nf P (CN Sw Qe call lib k):=by
 intro f args H r h σ w vs hs hv
 unfold CN at h
 split at h
 ·split at h
  ·split at h
   ·rename_i hc
    cases h
    exact Za9 hcall hc hs hv
   ·exact hl f args H r h σ w vs hs hv
  ·split at h
   ·rename_i hc
    obtain⟨v,H',h1,h2,h3⟩:=hc
    rw[h1] at h
    cases h
    exact Za3 hcall h1 h2 h3 hs hv
   ·exact hl f args H r h σ w vs hs hv
 ·exact hl f args H r h σ w vs hs hv
theorem IT{Sw:Nat->Nat}{Qe:Lib}{call:Nat->List AV->Heap->CR}{lib:Lib}{k f:Nat}(h:Sw f≠k)(args:List AV)(H:Heap):CN Sw Qe call lib k f args H=lib f args H:=by
 unfold CN;rw[if_neg h]
theorem rm{Sw:Nat->Nat}{Qe:Lib}{call:Nat->List AV->Heap->CR}{lib:Lib}{k f:Nat}{args:List AV}{H H':Heap}{v:AV}(h:Sw f=k)(hs:Qe f args H=none)(hr:call f args H=.ret v H')(g:Zs H H' [])(hv:Wx 0 v=true):CN Sw Qe call lib k f args H=some (.ret v H):=by
 unfold CN;rw[if_pos h,hs]
 simp only
 rw[if_pos ⟨v,H',hr,g,hv⟩,hr]
def FC(Zn:Lib)(fs:T CF)(fuel:Nat)(Sw:Nat->Nat)(Qe:Lib):Nat->Lib
 |0=>Zn
 |k+1=>CN Sw Qe (ZE (FC Zn fs fuel Sw Qe k) fs fuel 900) (FC Zn fs fuel Sw Qe k) (k+1)
variable {Zn:Lib} {fs:T CF} {fuel:Nat} {Sw:Nat->Nat} {Qe:Lib}
theorem xj(hc: ∀lib,Nf P lib->Si P (ZE lib fs fuel 900))(h0:Nf P Zn): ∀k,Nf P (FC Zn fs fuel Sw Qe k)
 |0=>h0
 |k+1=>eA (hc _ (xj hc h0 k)) (xj hc h0 k)
theorem vM{f:Nat}(args:List AV)(H:Heap): ∀k,k<Sw f->FC Zn fs fuel Sw Qe k f args H=Zn f args H
 |0,_=>rfl
 |k+1,h=>(IT (by omega) args H).trans (vM args H k (by omega))
theorem FD{f:Nat}(h:Sw f=0)(args:List AV)(H:Heap): ∀k,FC Zn fs fuel Sw Qe k f args H=Zn f args H
 |0=>rfl
 |k+1=>(IT (by omega) args H).trans (FD h args H k)
theorem Zbb{f r:Nat}(h:Sw f=r)(args:List AV)(H:Heap): ∀k,r<=k->FC Zn fs fuel Sw Qe k f args H=FC Zn fs fuel Sw Qe r f args H:=by
 intro k hk
 induction k with
 |zero=>rw[Nat.le_zero.1 hk]
 |succ k ih=>
  by_cases e:r=k+1
  ·rw[e]
  ·exact(IT (by omega) args H).trans (ih (by omega))
theorem ZA{f k:Nat}(h0: ∀l H,Zn f l H=none)(h:k<Sw f∨Sw f=0)(args:List AV)(H:Heap):FC Zn fs fuel Sw Qe k f args H=none:=by
 rcases h with h|h
 ·rw[vM args H k h,h0]
 ·rw[FD h args H k,h0]
theorem MA{f k n:Nat}{args:List AV}{H:Heap}{r:CR}(h:Sw f=0)(hr:Zn f args H=some r):ZE (FC Zn fs fuel Sw Qe k) fs fuel (n+1) f args H=r:=
 AG (by rw[FD h];exact hr)
theorem Yl{f r k n:Nat}{args:List AV}{H H':Heap}{v:AV}(h:Sw f=r+1)(hs:Qe f args H=none)(hr:ZE (FC Zn fs fuel Sw Qe r) fs fuel 900 f args H=.ret v H')(g:Zs H H' [])(hv:Wx 0 v=true)(hk:r+1<=k):
  ZE (FC Zn fs fuel Sw Qe k) fs fuel (n+1) f args H=.ret v H:=
 AG (by rw[Zbb h args H k hk];exact rm h hs hr g hv)
end
end
end Go.AI
