/- Running the interpreter's code on values that are not known: equations, proved, as each says. -/
import Derived.Test.YtmnmknjlgpjcbaaGreatDoorP6
import Derived.Test.YtmnmknjlgpjcbaaGreatDoorP5
set_option maxRecDepth 1000000
set_option maxHeartbeats 0
set_option linter.unusedVariables false
set_option linter.unusedSimpArgs false
namespace Go.AI
open Go
noncomputable section
section
variable {α:Type}
namespace N8
theorem g00(f:α->α)(n:N8 α):a0 (u0 f n)=f (a0 n):=rfl
theorem g01(f:α->α)(n:N8 α):a0 (u1 f n)=a0 n:=rfl
theorem g02(f:α->α)(n:N8 α):a0 (u2 f n)=a0 n:=rfl
theorem g03(f:α->α)(n:N8 α):a0 (u3 f n)=a0 n:=rfl
theorem g04(f:α->α)(n:N8 α):a0 (u4 f n)=a0 n:=rfl
theorem g05(f:α->α)(n:N8 α):a0 (u5 f n)=a0 n:=rfl
theorem g06(f:α->α)(n:N8 α):a0 (u6 f n)=a0 n:=rfl
theorem g07(f:α->α)(n:N8 α):a0 (u7 f n)=a0 n:=rfl
theorem g10(f:α->α)(n:N8 α):a1 (u0 f n)=a1 n:=rfl
theorem g11(f:α->α)(n:N8 α):a1 (u1 f n)=f (a1 n):=rfl
theorem g12(f:α->α)(n:N8 α):a1 (u2 f n)=a1 n:=rfl
theorem g13(f:α->α)(n:N8 α):a1 (u3 f n)=a1 n:=rfl
theorem g14(f:α->α)(n:N8 α):a1 (u4 f n)=a1 n:=rfl
theorem g15(f:α->α)(n:N8 α):a1 (u5 f n)=a1 n:=rfl
theorem g16(f:α->α)(n:N8 α):a1 (u6 f n)=a1 n:=rfl
theorem g17(f:α->α)(n:N8 α):a1 (u7 f n)=a1 n:=rfl
theorem g20(f:α->α)(n:N8 α):a2 (u0 f n)=a2 n:=rfl
theorem g21(f:α->α)(n:N8 α):a2 (u1 f n)=a2 n:=rfl
theorem g22(f:α->α)(n:N8 α):a2 (u2 f n)=f (a2 n):=rfl
theorem g23(f:α->α)(n:N8 α):a2 (u3 f n)=a2 n:=rfl
theorem g24(f:α->α)(n:N8 α):a2 (u4 f n)=a2 n:=rfl
theorem g25(f:α->α)(n:N8 α):a2 (u5 f n)=a2 n:=rfl
theorem g26(f:α->α)(n:N8 α):a2 (u6 f n)=a2 n:=rfl
theorem g27(f:α->α)(n:N8 α):a2 (u7 f n)=a2 n:=rfl
theorem g30(f:α->α)(n:N8 α):a3 (u0 f n)=a3 n:=rfl
theorem g31(f:α->α)(n:N8 α):a3 (u1 f n)=a3 n:=rfl
theorem g32(f:α->α)(n:N8 α):a3 (u2 f n)=a3 n:=rfl
theorem g33(f:α->α)(n:N8 α):a3 (u3 f n)=f (a3 n):=rfl
theorem g34(f:α->α)(n:N8 α):a3 (u4 f n)=a3 n:=rfl
theorem g35(f:α->α)(n:N8 α):a3 (u5 f n)=a3 n:=rfl
theorem g36(f:α->α)(n:N8 α):a3 (u6 f n)=a3 n:=rfl
theorem g37(f:α->α)(n:N8 α):a3 (u7 f n)=a3 n:=rfl
theorem g40(f:α->α)(n:N8 α):a4 (u0 f n)=a4 n:=rfl
theorem g41(f:α->α)(n:N8 α):a4 (u1 f n)=a4 n:=rfl
theorem g42(f:α->α)(n:N8 α):a4 (u2 f n)=a4 n:=rfl
theorem g43(f:α->α)(n:N8 α):a4 (u3 f n)=a4 n:=rfl
theorem g44(f:α->α)(n:N8 α):a4 (u4 f n)=f (a4 n):=rfl
theorem g45(f:α->α)(n:N8 α):a4 (u5 f n)=a4 n:=rfl
theorem g46(f:α->α)(n:N8 α):a4 (u6 f n)=a4 n:=rfl
theorem g47(f:α->α)(n:N8 α):a4 (u7 f n)=a4 n:=rfl
theorem g50(f:α->α)(n:N8 α):a5 (u0 f n)=a5 n:=rfl
theorem g51(f:α->α)(n:N8 α):a5 (u1 f n)=a5 n:=rfl
theorem g52(f:α->α)(n:N8 α):a5 (u2 f n)=a5 n:=rfl
theorem g53(f:α->α)(n:N8 α):a5 (u3 f n)=a5 n:=rfl
theorem g54(f:α->α)(n:N8 α):a5 (u4 f n)=a5 n:=rfl
theorem g55(f:α->α)(n:N8 α):a5 (u5 f n)=f (a5 n):=rfl
theorem g56(f:α->α)(n:N8 α):a5 (u6 f n)=a5 n:=rfl
theorem g57(f:α->α)(n:N8 α):a5 (u7 f n)=a5 n:=rfl
theorem g60(f:α->α)(n:N8 α):a6 (u0 f n)=a6 n:=rfl
theorem g61(f:α->α)(n:N8 α):a6 (u1 f n)=a6 n:=rfl
theorem g62(f:α->α)(n:N8 α):a6 (u2 f n)=a6 n:=rfl
theorem g63(f:α->α)(n:N8 α):a6 (u3 f n)=a6 n:=rfl
theorem g64(f:α->α)(n:N8 α):a6 (u4 f n)=a6 n:=rfl
theorem g65(f:α->α)(n:N8 α):a6 (u5 f n)=a6 n:=rfl
theorem g66(f:α->α)(n:N8 α):a6 (u6 f n)=f (a6 n):=rfl
theorem g67(f:α->α)(n:N8 α):a6 (u7 f n)=a6 n:=rfl
theorem g70(f:α->α)(n:N8 α):a7 (u0 f n)=a7 n:=rfl
theorem g71(f:α->α)(n:N8 α):a7 (u1 f n)=a7 n:=rfl
theorem g72(f:α->α)(n:N8 α):a7 (u2 f n)=a7 n:=rfl
theorem g73(f:α->α)(n:N8 α):a7 (u3 f n)=a7 n:=rfl
theorem g74(f:α->α)(n:N8 α):a7 (u4 f n)=a7 n:=rfl
theorem g75(f:α->α)(n:N8 α):a7 (u5 f n)=a7 n:=rfl
theorem g76(f:α->α)(n:N8 α):a7 (u6 f n)=a7 n:=rfl
theorem g77(f:α->α)(n:N8 α):a7 (u7 f n)=f (a7 n):=rfl
end N8
end
section
theorem am(f:W2)(dst:ZP)(next:D)(c:Ctx)(tm:TM)(H:Zc)(x:X):Zb f dst next c tm H x=Pf (next c) dst c tm H x (f tm H):=rfl
theorem al(g:Yc)(b:Bool)(f:W2)(dst:ZP)(next:D)(c:Ctx)(tm:TM)(H:Zc)(x:X):Z8 g b f dst next c tm H x=UT (g tm) b (Pf (next c) dst c tm H x (f tm H)) (next c (dst tm YS) H x):=rfl
theorem lK(yes no:X6):UT (.bool true) true yes no=yes:=rfl
theorem lH(yes no:X6):UT (.bool false) false yes no=yes:=rfl
theorem lJ(yes no:X6):UT (.bool true) false yes no=no:=rfl
theorem lI(yes no:X6):UT (.bool false) true yes no=no:=rfl
theorem fY(next:TM->Zc->X->X6)(dst:ZP)(c:Ctx)(tm:TM)(H:Zc)(x:X)(v:AV)(H':Zc):Pf next dst c tm H x (.val v H')=next (dst tm v) H' x:=rfl
theorem lC(next:TM->Zc->X->X6)(dst:ZP)(c:Ctx)(tm:TM)(H:Zc)(x:X)(f:Nat)(args:List AV)(H':Zc):Pf next dst c tm H x (.oth (.call f args H'))=E3 next dst tm x (c.call f args H'):=rfl
theorem CZ(next:TM->Zc->X->X6)(dst:ZP)(tm:TM)(x:X)(v:AV)(H:Zc):E3 next dst tm x (.ret v H)=next (dst tm v) H x:=rfl
theorem ak(a b:D)(c:Ctx)(tm:TM)(H:Zc)(x:X):Zh a b c tm H x=QV (a c tm H x) (b c):=rfl
theorem UY(tm:TM)(H:Zc)(x:X)(k:TM->Zc->X->X6):QV (.ok .normal tm H x) k=k tm H x:=rfl
theorem iA(tm:TM)(H:Zc)(x:X)(k:TM->Zc->X->X6):QV (.ok .ret tm H x) k=.ok .ret tm H x:=rfl
theorem p8(i:Nat)(tm:TM)(H:Zc)(x:X)(k:TM->Zc->X->X6):QV (.ok (.exit i) tm H x) k=.ok (.exit i) tm H x:=rfl
theorem kN(c:Ctx)(tm:TM)(H:Zc)(x:X):Zd c tm H x=.ok .normal tm H x:=rfl
theorem bQ(c:Ctx)(tm:TM)(H:Zc)(x:X):Yw c tm H x=.ok .ret tm H x:=rfl
theorem mY(i:Nat)(c:Ctx)(tm:TM)(H:Zc)(x:X):VK i c tm H x=.ok (.exit i) tm H x:=rfl
theorem mU(q:Yc)(a b:D)(c:Ctx)(tm:TM)(H:Zc)(x:X):ZR q a b c tm H x=xE (q tm) λv=>IH (a c) (b c) v tm H x:=rfl
theorem lZ(b:Bool)(k:Bool->X6):xE (.bool b) k=k b:=rfl
theorem sY(a b:TM->Zc->X->X6)(tm:TM)(H:Zc)(x:X):IH a b true tm H x=a tm H x:=rfl
theorem vD(a b:TM->Zc->X->X6)(tm:TM)(H:Zc)(x:X):IH a b false tm H x=b tm H x:=rfl
theorem sP(i:Nat)(a:D)(c:Ctx)(tm:TM)(H:Zc)(x:X):Yy i a c tm H x=QJ i (a c tm H x):=rfl
theorem ky(a:D)(c:Ctx)(tm:TM)(H:Zc)(x:X):Ua a c tm H x=WR (a c) c.fuel tm H x:=rfl
theorem Ao(i:Nat)(tm:TM)(H:Zc)(x:X):QJ i (.ok .normal tm H x)=.ok .normal tm H x:=rfl
theorem TF(i:Nat)(tm:TM)(H:Zc)(x:X):QJ i (.ok (.exit i) tm H x)=.ok .normal tm H x:=by
 show @Bool.rec (λ_=>X6) (.ok (.exit i) tm H x) (.ok .normal tm H x) (Nat.beq i i)=_
 rw[Yb]
theorem ql(i:Nat)(tm:TM)(H:Zc)(x:X):QJ i (.ok .ret tm H x)=.ok .ret tm H x:=rfl
theorem Zfw(tm:TM)(v:AV):d0 tm v=tm:=rfl
theorem Zku(v:AV)(tm:TM):k v tm=v:=rfl
theorem ZaK:TX []=Lb:=rfl
theorem ZaL(a:AV):TX [a]=WZ Lb a:=rfl
theorem ZaM(a b:AV):TX [a,b]=st1 (WZ Lb a) b:=rfl
theorem ZaN(a b c:AV):TX [a,b,c]=st2 (st1 (WZ Lb a) b) c:=rfl
theorem ZaO(a b c d:AV):TX [a,b,c,d]=Tl (st2 (st1 (WZ Lb a) b) c) d:=rfl
theorem Zbr(tm:TM):evs tm []=[]:=rfl
theorem fK(tm:TM)(f:Yc)(l:List Yc):evs tm (f::l)=f tm::evs tm l:=rfl
theorem ZF{lib:Nat->List AV->Zc->Option CR}{fs:T CF}{fuel n f:Nat}{args:List AV}{H:Zc}{cf:CF}(hl:lib f args H=none)(hf:fs.get f=some cf):ZG lib fs fuel (n+1) f args H=
  Mh (λpn g as H=>Js .fail fs g λcg=>Hu pn cg.rs (cg.body ⟨ZG lib fs fuel n,Vt,VB,fuel,false⟩ (TX as) H ⟨[],pn⟩))
   cf.rs (cf.body ⟨ZG lib fs fuel n,Vt,NV fs fuel (ZG lib fs fuel n),fuel,false⟩ (TX args) H ⟨[],none⟩):=by
 show ny (lib f args H) _=_
 rw[hl]
 unfold Js
 rw[hf]
 rfl
theorem bp(dc:Option AV->Nat->List AV->Zc->DR)(rs:List (Yc×Option (Nat×Bool)))(tm:TM)(H:Zc)(rc:Option AV):Mh dc rs (.ok .ret tm H ⟨[],rc⟩)=results rs tm H:=rfl
theorem uR(dc:Option AV->Nat->List AV->Zc->DR)(rs:List (Yc×Option (Nat×Bool)))(tm:TM)(H:Zc)(rc:Option AV):Mh dc rs (.ok .normal tm H ⟨[],rc⟩)=results rs tm H:=rfl
theorem tg(f:Yc)(tm:TM)(H:Zc):results [(f,none)] tm H=.ret (f tm) H:=rfl
theorem wt(tm:TM)(H:Zc):results [] tm H=.ret (.tup []) H:=rfl
theorem ZcK(x:Yc)(tm:TM)(H:Zc):Z6 x tm H=.val (x tm) H:=rfl
noncomputable def uy(a:AV)(H:Zc):OR:=RC a λk a=>Vm k (Km 0 a) H
noncomputable def MW(k:IntKind)(a:AV)(H:Zc):OR:=RC a λ_ a=>Vm k a H
noncomputable def yT(a b:AV)(H:Zc):OR:=match a with
 |.int j a=>RC b λl b=>ZL (Qd j l) (Vm j (xB a b) H)
 |.str a=>Ol b λb=>ZL (Nat.ble (Nat.add (YH a) (YH b)) 4611686018427387904) (.val (.str (a++b)) H)
 |_=>.fail
noncomputable def Az(a b:AV)(H:Zc):OR:=G6 a b λk a b=>Vm k (Km a b) H
noncomputable def dY(a b:AV)(H:Zc):OR:=G6 a b λk a b=>Vm k (Kk a b) H
noncomputable def jP(a b:AV)(H:Zc):OR:=G6 a b λk a b=>cond (G5 b 0) .fail (Vm k (Zgq a b) H)
noncomputable def jW(a b:AV)(H:Zc):OR:=G6 a b λk a b=>cond (G5 b 0) .fail (QB (Zgr a b) λn=>.val (.int k n) H)
noncomputable def Nq(f:Nat->Nat->Nat->Nat)(a b:AV)(H:Zc):OR:=G6 a b λk a b=>Vm k (.ofNat (f (Rf k) (Qy (Rf k) a) (Qy (Rf k) b))) H
noncomputable def E5(a b:AV)(H:Zc):OR:=RC a λk a=>SW b λb=>Vm k (Kk a (.ofNat (Nat.pow 2 (cond (Nat.ble b 64) b 64)))) H
noncomputable def pH(a b:AV)(H:Zc):OR:=RC a λk a=>SW b λb=>QB (Zgt a (Me b (oq k))) λn=>.val (.int k n) H
noncomputable def ZeF(a:AV)(H:Zc):OR:=RC a λk a=>Vm k (.ofNat (Nat.sub (Nat.sub (Rf k) 1) (Qy (Rf k) a))) H
noncomputable def P6(f:Int->Int->Bool)(g:List UInt8->List UInt8->Bool)(a b:AV)(H:Zc):OR:=match a with
 |.int j a=>RC b λl b=>ZL (Qd j l) (SE (f a b) H)
 |.str a=>Ol b λb=>SE (g a b) H
 |_=>.fail
noncomputable def LV(f:AV->AV->Option Bool)(neg:Bool)(a b:AV)(H:Zc):OR:=TN (f a b) λb=>SE (cond neg (cond b false true) b) H
noncomputable def ZcB(a:AV)(H:Zc):OR:=Fk a λb=>.val (.bool (cond b false true)) H
noncomputable def z9(a b c:AV)(H:Zc):OR:=Fk a λt=>.val (cond t b c) H
theorem cu(x:Yc)(tm:TM)(H:Zc):jh x tm H=uy (x tm) H:=rfl
theorem cr(x:Yc)(k:IntKind)(tm:TM)(H:Zc):UD x k tm H=MW k (x tm) H:=rfl
theorem kS(x y:Yc)(tm:TM)(H:Zc):YT x y tm H=yT (x tm) (y tm) H:=rfl
theorem cG(x y:Yc)(tm:TM)(H:Zc):V5 x y tm H=Az (x tm) (y tm) H:=rfl
theorem ct(x y:Yc)(tm:TM)(H:Zc):M1 x y tm H=dY (x tm) (y tm) H:=rfl
theorem cC(x y:Yc)(tm:TM)(H:Zc):If x y tm H=jP (x tm) (y tm) H:=rfl
theorem cD(x y:Yc)(tm:TM)(H:Zc):Jr x y tm H=jW (x tm) (y tm) H:=rfl
theorem kU(x y:Yc)(f:Nat->Nat->Nat->Nat)(tm:TM)(H:Zc):Wv x y f tm H=Nq f (x tm) (y tm) H:=rfl
theorem cE(x y:Yc)(tm:TM)(H:Zc):Oe x y tm H=E5 (x tm) (y tm) H:=rfl
theorem cF(x y:Yc)(tm:TM)(H:Zc):CT x y tm H=pH (x tm) (y tm) H:=rfl
theorem jm(x:Yc)(tm:TM)(H:Zc):cH x tm H=ZeF (x tm) H:=rfl
theorem cn(x y:Yc)(f:Int->Int->Bool)(g:List UInt8->List UInt8->Bool)(tm:TM)(H:Zc):YP x y f g tm H=P6 f g (x tm) (y tm) H:=rfl
theorem ZcG(x y:Yc)(f:AV->AV->Option Bool)(neg:Bool)(tm:TM)(H:Zc):Vd x y f neg tm H=LV f neg (x tm) (y tm) H:=rfl
theorem cA(x:Yc)(tm:TM)(H:Zc):OB x tm H=ZcB (x tm) H:=rfl
theorem jl(x y z:Yc)(tm:TM)(H:Zc):YU x y z tm H=z9 (x tm) (y tm) (z tm) H:=rfl
theorem qF(f:Nat)(args:List Yc)(tm:TM)(H:Zc):Zy f args tm H=.oth (.call f (evs tm args) H):=rfl
theorem Sa(b:Bool)(H:Zc):SE b H=.val (.bool b) H:=by cases b<;>rfl
theorem YY(k:IntKind)(n:Int)(H:Zc):Vm k n H=.val (.int k (k.wrap n)) H:=by simp only[Vm,Rt,P1]
theorem FK(k:IntKind)(m n:Nat):yL k m (.ofNat n)=.ofNat (n % m):=by
 show cond (Nat.ble m n) (Int.ofNat (Nat.mod n m)) (.ofNat n)=_
 cases h:Nat.ble m n with
 |true=>rfl
 |false=>
  have:n<m:=by
   have h2: ¬m<=n:=λhh=>by rw[Zg hh] at h;cases h
   omega
  rw[ZV this];rfl
theorem OI(n:Nat):IntKind.u8.wrap (.ofNat n)=.ofNat (n % 256):=by rw[<-P1];exact FK .u8 256 n
theorem KT(n:Nat):IntKind.u32.wrap (.ofNat n)=.ofNat (n % 4294967296):=by rw[<-P1];exact FK .u32 4294967296 n
theorem R5(n:Nat):IntKind.u64.wrap (.ofNat n)=.ofNat (n % 18446744073709551616):=by rw[<-P1];exact FK .u64 18446744073709551616 n
theorem Mu{n:Nat}(h:n<9223372036854775808):IntKind.i64.wrap (.ofNat n)=.ofNat n:=by
 rw[<-P1]
 show cond (Nat.ble 9223372036854775808 n) _ (Int.ofNat n)=_
 cases h2:Nat.ble 9223372036854775808 n with
 |true=>have:=ZN h2;omega
 |false=>rfl
theorem Ki(a b:Nat):xB (.ofNat a) (.ofNat b)=.ofNat (a+b):=rfl
theorem Kl(a b:Nat):Kk (.ofNat a) (.ofNat b)=.ofNat (a*b):=rfl
theorem Hb{a b:Nat}(h:b<=a):Km (.ofNat a) (.ofNat b)=.ofNat (a - b):=by
 show cond (Nat.ble b a) (Int.ofNat (Nat.sub a b)) (Int.ofNat a - Int.ofNat b)=_
 rw[Zg h];rfl
theorem K0(a b:Nat):rT (.ofNat a) (.ofNat b)=decide (a<b):=by
 show Nat.ble (Nat.succ a) b=_
 cases h:Nat.ble (Nat.succ a) b with
 |true=>have:=ZN h;exact(Ze this).symm
 |false=>
  have h2: ¬Nat.succ a<=b:=λhh=>by rw[Zg hh] at h;cases h
  exact(Za h2).symm
theorem PC(a b:Nat):G5 (.ofNat a) (.ofNat b)=decide (a=b):=Ym a b
theorem Y4(k:IntKind):Qd k k=true:=by cases k<;>rfl
def i64(n:Nat):AV:=nI .i64 n
def UZ(x:UInt8):AV:=.int .u8 (.ofNat x.toNat)
def Io(x:UInt32):AV:=.int .u32 (.ofNat x.toNat)
def Zdw(x:UInt64):AV:=.int .u64 (.ofNat x.toNat)
theorem YQ{a b:Nat}(h:a+b<9223372036854775808)(H:Zc):yT (nI .i64 a) (nI .i64 b) H=.val (nI .i64 (a+b)) H:=by
 show ZL (Qd .i64 .i64) (Vm .i64 (xB (.ofNat a) (.ofNat b)) H)=_
 rw[Y4,YY,Ki,Mu h];rfl
theorem Wy{a b:Nat}(h:b<=a)(h2:a<9223372036854775808)(H:Zc):Az (nI .i64 a) (nI .i64 b) H=.val (nI .i64 (a - b)) H:=by
 show ZL (Qd .i64 .i64) (Vm .i64 (Km (.ofNat a) (.ofNat b)) H)=_
 rw[Y4,YY,Hb h,Mu (by omega)];rfl
theorem xS{a b:Nat}(h:a*b<9223372036854775808)(H:Zc):dY (nI .i64 a) (nI .i64 b) H=.val (nI .i64 (a*b)) H:=by
 show ZL (Qd .i64 .i64) (Vm .i64 (Kk (.ofNat a) (.ofNat b)) H)=_
 rw[Y4,YY,Kl,Mu h];rfl
theorem bN{a b:Nat}(h:0<b)(H:Zc):jW (nI .i64 a) (nI .i64 b) H=.val (nI .i64 (a % b)) H:=by
 show ZL (Qd .i64 .i64) (cond (G5 (.ofNat b) (.ofNat 0)) .fail (QB (.ofNat (Nat.mod a b)) λn=>.val (.int .i64 n) H))=_
 rw[Y4,PC,Za (by omega),Rt];rfl
theorem Zg0{a b:Nat}(h:0<b)(h2:a<9223372036854775808)(H:Zc):jP (nI .i64 a) (nI .i64 b) H=.val (nI .i64 (a/b)) H:=by
 show ZL (Qd .i64 .i64) (cond (G5 (.ofNat b) (.ofNat 0)) .fail (Vm .i64 (.ofNat (Nat.div a b)) H))=_
 rw[Y4,PC,Za (by omega),YY,show(Int.ofNat (Nat.div a b))=Int.ofNat (a/b) from rfl,Mu (VJ (S4 a b) h2)];rfl
theorem ZO(k:IntKind)(a b:Nat)(H:Zc):P6 XY YD (nI k a) (nI k b) H=.val (.bool (decide (a<b))) H:=by
 show ZL (Qd k k) (SE (rT (.ofNat a) (.ofNat b)) H)=_
 rw[Y4,Sa,K0];rfl
theorem Yu(k:IntKind)(a b:Nat)(H:Zc):P6 T3 Vs (nI k a) (nI k b) H=.val (.bool (decide (b<=a))) H:=by
 show ZL (Qd k k) (SE (!rT (.ofNat a) (.ofNat b)) H)=_
 rw[Y4,Sa,K0]
 show OR.val (.bool (!decide (a<b))) H=_
 congr 2
 by_cases h:a<b
 ·rw[Ze h,Za (by omega)];rfl
 ·rw[Za h,Ze (by omega)];rfl
theorem Vi(k:IntKind)(a b:Nat)(H:Zc):LV VN true (nI k a) (nI k b) H=.val (.bool (decide (a≠b))) H:=by
 show TN (cond (Qd k k) (some (G5 (.ofNat a) (.ofNat b))) none) _=_
 rw[Y4,PC]
 show SE (cond true (cond (decide (a=b)) false true) (decide (a=b))) H=_
 rw[Sa]
 congr 2
 by_cases h:a=b
 ·rw[Ze h,Za (by omega)];rfl
 ·rw[Za h,Ze h];rfl
theorem Z2(k:IntKind)(a b:Nat)(H:Zc):LV VN false (nI k a) (nI k b) H=.val (.bool (decide (a=b))) H:=by
 show TN (cond (Qd k k) (some (G5 (.ofNat a) (.ofNat b))) none) _=_
 rw[Y4,PC]
 exact Sa _ _
theorem ZaE(a b:UInt32)(H:Zc):yT (Io a) (Io b) H=.val (Io (a+b)) H:=by
 show ZL (Qd .u32 .u32) (Vm .u32 (xB (.ofNat a.toNat) (.ofNat b.toNat)) H)=_
 rw[Y4,YY,Ki,KT];unfold Io;rw[UInt32.toNat_add];rfl
end
structure V7(r:Row)(l:List AV):Prop where
 size:r.size=l.length
 get: ∀i,i<l.length->r.get i=l.getD i .unk
theorem V7.load{r:Row}{l:List AV}(h:V7 r l){o n:Nat}(hn:o+n<=l.length):loadN r o n=(l.drop o).take n:=by
 refine Wl λj=>?_
 by_cases hj:j<n
 ·rw[SJ r n o j hj,XJ hj,X9,h.get (o+j) (by omega),Zf]
  rw[Zi (show o+j<l.length by omega)];rfl
 ·rw[YF (by rw[So];omega),YF (by rw[Z9,Z7];omega)]
theorem V7.store{r:Row}{l:List AV}(h:V7 r l){o:Nat}{vs:List AV}(ho:o+vs.length<=l.length):V7 (r.setCells (XM r.cells o vs)) (l.take o++(vs++l.drop (o+vs.length))):=by
 have hlen:(l.take o++(vs++l.drop (o+vs.length))).length=l.length:=by
  rw[Zm,Zm,Z9,Z7];omega
 refine⟨by rw[hlen];exact h.size,λi hi=>?_⟩
 rw[hlen] at hi
 rw[Row.get_eq]
 show((XM r.cells o vs).get i).getD r.dflt=_
 rw[Ss,Zf]
 by_cases h1:o<=i∧i<o+vs.length
 ·rw[if_pos h1,YI (by rw[Z9];omega),Z9,VA (by omega),Yr (by omega),
   Zi (show i - o<vs.length by omega)];rfl
 ·rw[if_neg h1]
  have h2:=h.get i hi
  rw[Row.get_eq,Zf] at h2
  rw[h2]
  by_cases h3:i<o
  ·rw[Yr (by rw[Z9];omega),XJ h3]
  ·rw[YI (by rw[Z9];omega),Z9,VA (by omega),YI (by omega),X9,
    show o+vs.length+(i - o - vs.length)=i by omega]
theorem V7.new(e sz:Nat)(l:List AV)(fz:Nat)(sm own ex:Bool):V7 ⟨e,sz,YH l,T.ofList l,.unk,fz,sm,own,ex⟩ l:=by
 refine⟨YC l,λi hi=>?_⟩
 rw[Row.get_eq]
 show((T.ofList l).get i).getD .unk=_
 rw[T.get_ofList,Zf]
theorem V7.zero(e n:Nat)(v:AV)(fz:Nat)(sm own ex:Bool):V7 ⟨e,1,n,.leaf,v,fz,sm,own,ex⟩ (List.replicate n v):=by
 refine⟨by simp,λi hi=>?_⟩
 rw[List.length_replicate] at hi
 rw[Row.get_eq]
 show((T.leaf:T AV).get i).getD v=_
 rw[T.get_leaf,Zf,Sj,if_pos hi];rfl
structure Own(H:Zc)(b e:Nat)(l:List AV)(r:Row):Prop where
 at_:H.t.get b=some (.row r)
 elem:r.elem=e
 sz:r.sz=1
 own:r.own=true
 fz:r.fz=0
 sm:r.sm=false
 cells:V7 r l
 ro:H.ro<=b
noncomputable def Fa(a:AV)(H:Zc):OR:=QO a λb o=>Y3 H b λr=>ZL (Nat.ble (Nat.succ o) r.size) (.val (r.get o) H)
noncomputable def zN(n:Nat)(a:AV)(H:Zc):OR:=QO a λb o=>Y3 H b λr=>ZL (Nat.ble (Nat.add o n) r.size) (.val (.agg (loadN r o n)) H)
noncomputable def BG(n:Nat)(a v:AV)(H:Zc):OR:=QO a λb o=>Y3 H b λr=>
 ZL (Nat.ble 1 n)<|ZL (H.may r b) (ZL (Nat.ble (Nat.add o n) r.size) (ZL (Nat.ble r.fz o) (ZL (Nat.beq (YH v.cells) n)
  (.val YS (H.put b (.row (r.setCells (XM r.cells o v.cells))))))))
def ZcQ(n:Nat)(a:AV)(H:Zc):OR:=QO a λb o=>.val (.ptr b (Nat.add o n)) H
def zy(n sz:Nat)(a i:AV)(H:Zc):OR:=SW i λi=>QO a λb o=>ZL (Nat.ble (Nat.succ i) n) (.val (.ptr b (Nat.add o (Nat.mul i sz))) H)
def Ha(sz:Nat)(a i:AV)(H:Zc):OR:=SW i λi=>Tk a .fail λb o len _=>ZL (Nat.ble (Nat.succ i) len) (.val (.ptr b (Nat.add o (Nat.mul i sz))) H)
def Zcy(a:AV)(H:Zc):OR:=xX a (.val a H)
noncomputable def QK(a:AV)(H:Zc):OR:=Tk a (.val (.int .i64 0) H) λ_ _ n _=>SO n λn=>.val (.int .i64 (.ofNat n)) H
theorem qG(x:Yc)(tm:TM)(H:Zc):ZE x tm H=Fa (x tm) H:=rfl
theorem jg(x:Yc)(n:Nat)(tm:TM)(H:Zc):Ww x n tm H=zN n (x tm) H:=rfl
theorem qK(x y:Yc)(n:Nat)(tm:TM)(H:Zc):Yi x y n tm H=BG n (x tm) (y tm) H:=rfl
theorem cB(x:Yc)(n:Nat)(tm:TM)(H:Zc):YB x n tm H=ZcQ n (x tm) H:=rfl
theorem ja(x y:Yc)(n sz:Nat)(tm:TM)(H:Zc):JJ x y n sz tm H=zy n sz (x tm) (y tm) H:=rfl
theorem jc(x y:Yc)(sz:Nat)(tm:TM)(H:Zc):Wg x y sz tm H=Ha sz (x tm) (y tm) H:=rfl
theorem cw(x:Yc)(tm:TM)(H:Zc):XA x tm H=Zcy (x tm) H:=rfl
theorem je(x:Yc)(tm:TM)(H:Zc):WY x tm H=QK (x tm) H:=rfl
theorem uB(e n:Nat)(v:AV)(tm:TM)(H:Zc):Du e n v tm H=.val (.ptr H.nx 0) (H.new (.row ⟨e,1,n,.leaf,v,0,false,true,true⟩)):=rfl
theorem qC(e:Nat)(cs:List AV)(h:1<=YH cs)(tm:TM)(H:Zc):XV e cs tm H=.val (.ptr H.nx 0) (H.newRow e 1 cs true):=by
 show ZL (Nat.ble 1 (YH cs)) _=_
 rw[Zg h];rfl
theorem cM(n b o:Nat)(H:Zc):ZcQ n (.ptr b o) H=.val (.ptr b (o+n)) H:=rfl
theorem cd(b o:Nat)(H:Zc):Zcy (.ptr b o) H=.val (.ptr b o) H:=rfl
theorem Vl(b o n:Nat)(c:Option Nat)(H:Zc):QK (.slice b o n c) H=.val (nI .i64 n) H:=by
 show SO n (λn=>OR.val (.int .i64 (.ofNat n)) H)=_
 rw[Pe];rfl
theorem O3(H:Zc):QK .nils H=.val (nI .i64 0) H:=rfl
theorem G4{n i:Nat}(h:i<n)(b o:Nat)(k:IntKind)(H:Zc):zy n 1 (.ptr b o) (nI k i) H=.val (.ptr b (o+i)) H:=by
 show ZL (Nat.ble (Nat.succ i) n) (.val (.ptr b (o+i*1)) H)=_
 rw[Zg h,Xr];rfl
theorem Xw{n i:Nat}(h:i<n)(b o:Nat)(c:Option Nat)(k:IntKind)(H:Zc):Ha 1 (.slice b o n c) (nI k i) H=.val (.ptr b (o+i)) H:=by
 show ZL (Nat.ble (Nat.succ i) n) (.val (.ptr b (o+i*1)) H)=_
 rw[Zg h,Xr];rfl
theorem qn{H:Zc}{b o:Nat}{r:Row}{l:List AV}(hr:H.t.get b=some (.row r))(hc:V7 r l)(ho:o<l.length):Fa (.ptr b o) H=.val (l.getD o .unk) H:=by
 show Y3 H b _=_
 unfold Y3
 rw[hr]
 show ZL (Nat.ble (Nat.succ o) r.size) _=_
 rw[hc.size,Zg ho,hc.get o ho];rfl
theorem kx{H:Zc}{b o n:Nat}{r:Row}{l:List AV}(hr:H.t.get b=some (.row r))(hc:V7 r l)(ho:o+n<=l.length):zN n (.ptr b o) H=.val (.agg ((l.drop o).take n)) H:=by
 show Y3 H b _=_
 unfold Y3
 rw[hr]
 show ZL (Nat.ble (o+n) r.size) _=_
 rw[hc.size,Zg ho,hc.load ho];rfl
theorem pU{H:Zc}{b o n:Nat}{r:Row}{l:List AV}{v:AV}(hr:H.t.get b=some (.row r))(hc:V7 r l)(how:r.own=true)(YL:H.ro<=b)(Ly:r.fz=0)(hn:1<=n)(hv:v.cells.length=n)(ho:o+n<=l.length):
  BG n (.ptr b o) v H=.val YS (H.put b (.row (r.setCells (XM r.cells o v.cells)))):=by
 show Y3 H b _=_
 unfold Y3
 rw[hr]
 show ZL (Nat.ble 1 n) (ZL (H.may r b) (ZL (Nat.ble (o+n) r.size) (ZL (Nat.ble r.fz o) (ZL (Nat.beq (YH v.cells) n) _))))=_
 have h1:H.may r b=true:=by unfold Zc.may;rw[how,Zg YL];rfl
 rw[Zg hn,h1,hc.size,Zg ho,Ly,Zg (Z1 _),YC,hv,Yb];rfl
theorem OD(H:Zc)(b c:Nat)(o:Obj):(H.put b o).t.get c=if b=c then some o else H.t.get c:=T.get_set _ _ _ _
theorem QL(H:Zc)(c:Nat)(o:Obj):(H.new o).t.get c=if H.nx=c then some o else H.t.get c:=T.get_set _ _ _ _
theorem Of(H:Zc)(b:Nat)(o:Obj):(H.put b o).nx=H.nx:=rfl
theorem NU(H:Zc)(b:Nat)(o:Obj):(H.put b o).ro=H.ro:=rfl
theorem WJ(H:Zc)(o:Obj):(H.new o).nx=H.nx+1:=rfl
theorem qy(H:Zc)(o:Obj):(H.new o).ro=H.ro:=rfl
theorem OM(H:Zc)(e sz:Nat)(l:List AV)(ex:Bool):H.newRow e sz l ex=H.new (.row ⟨e,sz,YH l,T.ofList l,.unk,0,false,true,ex⟩):=rfl
theorem s8(l:List PI)(c:Ctx)(tm:TM)(H:Zc)(x:X):XL l c tm H x=VL (l.map (·.dst)) Kv l c [] tm H x:=rfl
theorem jN(ds:List ZP)(fin:PK)(c:Ctx)(rs:List RD)(tm:TM)(H:Zc)(x:X):VL ds fin [] c rs tm H x=cond (still tm H rs) (fin rs tm H x) .fail:=rfl
theorem pd(ds:List ZP)(fin:PK)(p:PI)(l:List PI)(c:Ctx)(rs:List RD)(tm:TM)(H:Zc)(x:X):VL ds fin (p::l) c rs tm H x=SC ds p (VL ds fin l c) c rs tm H x:=rfl
theorem kO(rs:List RD)(tm:TM)(H:Zc)(x:X):Kv rs tm H x=.ok .normal tm H x:=rfl
section
variable (ds:List ZP) (f:W2) (os:List (ZP×Yc)) (dst:ZP) (i bef:Nat) (nx:PK) (c:Ctx) (rs:List RD) (tm:TM) (H:Zc) (x:X)
theorem pR:SC ds ⟨f,none,os,dst,.free,i,bef⟩ nx c rs tm H x=cond (RB H.nx tm os) (LW ⟨f,none,os,dst,.free,i,bef⟩ nx rs tm H x (f (RP tm os) ⟨H.nx,.leaf,H.nx⟩)) .fail:=rfl
theorem pS:SC ds ⟨f,none,os,dst,.read,i,bef⟩ nx c rs tm H x=HJ ⟨f,none,os,dst,.read,i,bef⟩ nx rs tm H x (f (RP tm os) ⟨H.nx,H.t,H.nx⟩):=rfl
theorem il:SC ds ⟨f,none,os,dst,.eff,i,bef⟩ nx c rs tm H x=cond (still tm H rs) (IN ds ⟨f,none,os,dst,.eff,i,bef⟩ nx rs c tm x (f (RP tm os) H)) .fail:=rfl
variable (g:Option (Yc×Bool)) (kd:JR) (v:AV) (H':Zc)
theorem lj:LW ⟨f,g,os,dst,kd,i,bef⟩ nx rs tm H x (.val v ⟨H.nx,.leaf,H.nx⟩)=nx rs (dst tm v) H x:=by
 show cond (Nat.beq H.nx H.nx) (nx rs (dst tm v) H x) _=_
 rw[Yb];rfl
theorem fw:IN ds ⟨f,g,os,dst,kd,i,bef⟩ nx rs c tm x (.val v H')=nx (Uq bef rs) (dst tm v) H' x:=rfl
theorem mW(q:Nat)(args:List AV):IN ds ⟨f,g,os,dst,kd,i,bef⟩ nx rs c tm x (.oth (.call q args H'))=C8 ds ⟨f,g,os,dst,kd,i,bef⟩ nx rs tm x (c.call q args H'):=rfl
theorem bS:C8 ds ⟨f,g,os,dst,kd,i,bef⟩ nx rs tm x (.ret v H')=nx (Uq bef rs) (dst tm v) H' x:=rfl
theorem kg(b:Nat):Uq b []=[]:=rfl
theorem qf(b:Nat):Uq b (⟨⟨f,g,os,dst,kd,i,bef⟩,v⟩::rs)=cond (Nat.testBit b i) (Uq b rs) (⟨⟨f,g,os,dst,kd,i,bef⟩,v⟩::Uq b rs):=rfl
theorem ip:still tm H []=true:=rfl
theorem pT:still tm H (⟨⟨f,g,os,dst,kd,i,bef⟩,v⟩::rs)=cond (uZ ⟨⟨f,g,os,dst,kd,i,bef⟩,v⟩ tm H) (still tm H rs) false:=rfl
noncomputable def VP(r:OR)(w:AV)(n:Nat):Bool:=OR.rec (λv H1=>cond (Nat.beq H1.nx n) (same v w) false) (λ_=>false) r
theorem bM:uZ ⟨⟨f,g,os,dst,kd,i,bef⟩,v⟩ tm H=VP (f (RP tm os) ⟨H.nx,H.t,H.nx⟩) v H.nx:=rfl
end
theorem UC(v:AV)(n:Nat)(t:T Obj)(h:same v v=true):VP (.val v ⟨n,t,n⟩) v n=true:=by
 show cond (Nat.beq n n) (same v v) false=true
 rw[Yb,h];rfl
theorem HS(k:IntKind)(n:Int):same (.int k n) (.int k n)=true:=by
 show cond (Qd k k) (G5 n n) false=true
 rw[Y4,Oa];simp
theorem ai(x:UInt32):same (Io x) (Io x)=true:=HS ..
theorem Zdn(x:UInt8):same (UZ x) (UZ x)=true:=HS ..
theorem mc(k:IntKind)(n:Nat):same (nI k n) (nI k n)=true:=HS ..
theorem qa(v:UInt32)(n:Nat)(t:T Obj):VP (.val (Io v) ⟨n,t,n⟩) (Io v) n=true:=UC _ _ _ (ai v)
theorem kc(v:UInt8)(n:Nat)(t:T Obj):VP (.val (UZ v) ⟨n,t,n⟩) (UZ v) n=true:=UC _ _ _ (Zdn v)
theorem zF(k:IntKind)(v:Nat)(n:Nat)(t:T Obj):VP (.val (nI k v) ⟨n,t,n⟩) (nI k v) n=true:=UC _ _ _ (mc k v)
theorem kD(n:Nat)(tm:TM):RB n tm []=true:=rfl
theorem qq(n:Nat)(tm:TM)(s:ZP)(g:Yc)(os:List (ZP×Yc)):RB n tm ((s,g)::os)=cond (Xt n (g tm)) (RB n tm os) false:=rfl
theorem Zcr(n:Nat)(k:IntKind)(m:Nat):Xt n (nI k m)=true:=rfl
theorem dS(n:Nat)(x:UInt32):Xt n (Io x)=true:=rfl
theorem Zcs(n:Nat)(x:UInt8):Xt n (UZ x)=true:=rfl
theorem kE(n:Nat)(x:Bool):Xt n (.bool x)=true:=rfl
theorem Yq{n b:Nat}(h:b<n)(o:Nat):Xt n (.ptr b o)=true:=Zg h
theorem We{n b:Nat}(h:b<n)(o l:Nat)(c:Option Nat):Xt n (.slice b o l c)=true:=Zg h
theorem Zdj(tm:TM):RP tm []=Lb:=rfl
theorem bZ(tm:TM)(s:ZP)(g:Yc)(os:List (ZP×Yc)):RP tm ((s,g)::os)=s (RP tm os) (g tm):=rfl
theorem Pi(tm:TM):Z4 tm=N8.a0 (N8.a0 (N8.a0 tm)):=rfl
theorem PO(tm:TM):Xz tm=N8.a1 (N8.a0 (N8.a0 tm)):=rfl
theorem N6(tm:TM):Wc tm=N8.a2 (N8.a0 (N8.a0 tm)):=rfl
theorem J7(tm:TM):W6 tm=N8.a3 (N8.a0 (N8.a0 tm)):=rfl
theorem Ah(tm:TM):XG tm=N8.a4 (N8.a0 (N8.a0 tm)):=rfl
theorem GU(tm:TM):Wp tm=N8.a5 (N8.a0 (N8.a0 tm)):=rfl
theorem GV(tm:TM):Wi tm=N8.a6 (N8.a0 (N8.a0 tm)):=rfl
theorem ek(tm:TM):Vk tm=N8.a7 (N8.a0 (N8.a0 tm)):=rfl
theorem Ct(tm:TM):Wk tm=N8.a0 (N8.a1 (N8.a0 tm)):=rfl
theorem ZbA(tm:TM):Vn tm=N8.a1 (N8.a1 (N8.a0 tm)):=rfl
theorem f7(tm:TM):YW tm=N8.a2 (N8.a1 (N8.a0 tm)):=rfl
theorem f8(tm:TM):Xf tm=N8.a3 (N8.a1 (N8.a0 tm)):=rfl
theorem f9(tm:TM):Xq tm=N8.a4 (N8.a1 (N8.a0 tm)):=rfl
theorem ZdO(tm:TM):Xx tm=N8.a5 (N8.a1 (N8.a0 tm)):=rfl
theorem ZdP(tm:TM):XS tm=N8.a7 (N8.a1 (N8.a0 tm)):=rfl
theorem ZdQ(tm:TM):XT tm=N8.a0 (N8.a2 (N8.a0 tm)):=rfl
theorem ZdR(tm:TM):X1 tm=N8.a1 (N8.a2 (N8.a0 tm)):=rfl
theorem ZiW(tm:TM):Wu tm=N8.a5 (N8.a2 (N8.a0 tm)):=rfl
theorem ZiX(tm:TM):VX tm=N8.a1 (N8.a3 (N8.a0 tm)):=rfl
theorem ZiY(tm:TM):UH tm=N8.a2 (N8.a3 (N8.a0 tm)):=rfl
theorem ZdS(tm:TM):Va tm=N8.a3 (N8.a3 (N8.a0 tm)):=rfl
theorem ZiZ(tm:TM):Us tm=N8.a4 (N8.a3 (N8.a0 tm)):=rfl
theorem eg(tm:TM):Ue tm=N8.a5 (N8.a3 (N8.a0 tm)):=rfl
theorem eh(tm:TM):VO tm=N8.a7 (N8.a3 (N8.a0 tm)):=rfl
theorem ZdT(tm:TM):Sb tm=N8.a0 (N8.a4 (N8.a0 tm)):=rfl
theorem ZdU(tm:TM):UI tm=N8.a1 (N8.a4 (N8.a0 tm)):=rfl
theorem Zi0(tm:TM):Ra tm=N8.a7 (N8.a4 (N8.a0 tm)):=rfl
theorem Zi1(tm:TM):Sz tm=N8.a0 (N8.a5 (N8.a0 tm)):=rfl
theorem Zi2(tm:TM):Sc tm=N8.a1 (N8.a5 (N8.a0 tm)):=rfl
theorem Zi3(tm:TM):UJ tm=N8.a2 (N8.a5 (N8.a0 tm)):=rfl
theorem Zi4(tm:TM):SZ tm=N8.a3 (N8.a6 (N8.a0 tm)):=rfl
theorem Zi5(tm:TM):US tm=N8.a4 (N8.a6 (N8.a0 tm)):=rfl
theorem Zi6(tm:TM):Qu tm=N8.a5 (N8.a6 (N8.a0 tm)):=rfl
theorem Zi7(tm:TM):PM tm=N8.a3 (N8.a7 (N8.a0 tm)):=rfl
theorem Zi8(tm:TM):Ph tm=N8.a4 (N8.a7 (N8.a0 tm)):=rfl
theorem Zi9(tm:TM):P8 tm=N8.a7 (N8.a7 (N8.a0 tm)):=rfl
theorem Zja(tm:TM):O2 tm=N8.a0 (N8.a0 (N8.a1 tm)):=rfl
theorem Zjb(tm:TM):NM tm=N8.a1 (N8.a0 (N8.a1 tm)):=rfl
theorem Zjc(tm:TM):J6 tm=N8.a4 (N8.a2 (N8.a1 tm)):=rfl
theorem Zjd(tm:TM):L7 tm=N8.a5 (N8.a2 (N8.a1 tm)):=rfl
theorem Zje(tm:TM):L8 tm=N8.a3 (N8.a4 (N8.a1 tm)):=rfl
theorem ZfQ(tm:TM):N4 tm=N8.a4 (N8.a4 (N8.a1 tm)):=rfl
theorem ZfR(tm:TM):OZ tm=N8.a5 (N8.a4 (N8.a1 tm)):=rfl
structure Zp(H H':Zc)(S:List Nat):Prop where
 nx:H.nx<=H'.nx
 ro:H'.ro=H.ro
 get: ∀c,c<H.nx->c∉S->H'.t.get c=H.t.get c
theorem Zp.refl(H:Zc)(S:List Nat):Zp H H S:=⟨Zj _,rfl,λ_ _ _=>rfl⟩
theorem Zp.trans{H H' H'':Zc}{S S':List Nat}(a:Zp H H' S)(b:Zp H' H'' S')(h: ∀c,c∈S'->c<H.nx->c∈S):Zp H H'' S:=
 ⟨Yt a.nx b.nx,b.ro.trans a.ro,λc hc hn=>(b.get c (ZH hc a.nx) (λhh=>hn (h c hh hc))).trans (a.get c hc hn)⟩
theorem Zp.put{H:Zc}{b:Nat}{o:Obj}{S:List Nat}(h:b<H.nx->b∈S):Zp H (H.put b o) S:=
 ⟨Zj _,rfl,λc hc hn=>by rw[OD,if_neg (λ(e:b=c)=>hn (by rw[<-e];exact h (by omega)))]⟩
theorem Zp.new(H:Zc)(o:Obj)(S:List Nat):Zp H (H.new o) S:=
 ⟨XZ _,rfl,λc hc _=>by rw[QL,if_neg (by omega)]⟩
theorem Zp.then_put{H H':Zc}{b:Nat}{o:Obj}{S:List Nat}(k:Zp H H' S)(h:b<H.nx->b∈S):Zp H (H'.put b o) S:=
 ⟨k.nx,k.ro,λc hc hn=>by rw[OD,if_neg (λ(e:b=c)=>hn (by rw[<-e];exact h (by omega)))];exact k.get c hc hn⟩
theorem Zp.then_new{H H':Zc}{S:List Nat}(k:Zp H H' S)(o:Obj):Zp H (H'.new o) S:=
 ⟨Nat.le_succ_of_le k.nx,k.ro,λc hc hn=>by rw[QL,if_neg (by have:=k.nx;omega)];exact k.get c hc hn⟩
theorem Zp.trans'{H H' H'':Zc}{S':List Nat}(a:Zp H H' [])(b:Zp H' H'' S'):Zp H H'' S':=
 ⟨Yt a.nx b.nx,b.ro.trans a.ro,λc hc hn=>(b.get c (ZH hc a.nx) hn).trans (a.get c hc (by simp))⟩
structure Zpt(H:Zc)(b o:Nat)(cap:Option Nat)(l:List UInt8)(r:Row):Prop where
 at_:H.t.get b=some (.row r)
 sz:r.sz=1
 fits:o+l.length<=r.size
 get: ∀i,i<l.length->r.get (o+i)=UZ (l.getD i 0)
 cap: ∀c,cap=some c->l.length<=c∧o+c<=r.size
def LM(x:Option AV)(d top:Nat)(k:Nat->OR):OR:=match x with|none=>k d|some v=>SW v λn=>ZL (Nat.ble n top) (k n)
noncomputable def Fw(sz:Nat)(a:AV)(lo hi:Option AV)(H:Zc):OR:=
 Tk a (LM hi 0 0 λh=>LM lo 0 h λ_=>.val .nils H) λb o len cap=>Y3 H b λr=>ZL (Jx r sz cap) (LM hi len (Uo r o cap) λh=>LM lo 0 h λl=>ZL (Nat.ble l (Uo r o cap))<|
  cond (Nat.beq l (Uo r o cap)) (Option.rec (.val (.slice H.nx 0 (Nat.sub h l) none) ⟨Nat.succ H.nx,H.t,H.ro⟩) (λ_=>.val (.slice b o (Nat.sub h l) (some 0)) H) cap)
   (.val (.slice b (Nat.add o (Nat.mul l sz)) (Nat.sub h l) (Option.rec none (λc=>some (Nat.sub c l)) cap)) H))
theorem qJ(sz:Nat)(x:Yc)(lo hi:Option Yc)(tm:TM)(H:Zc):Kz sz x lo hi none tm H=Fw sz (x tm) (lo.map λf=>f tm) (hi.map λf=>f tm) H:=by
 cases lo<;>cases hi<;>rfl
noncomputable def wC(n sz:Nat)(a:AV)(lo hi:Option AV)(H:Zc):OR:=QO a λb o=>LM hi n n λh=>LM lo 0 h λl=>
 cond (Nat.beq l n) (.val (.slice b o (Nat.sub h l) (some (Nat.sub n l))) H) (.val (.slice b (Nat.add o (Nat.mul l sz)) (Nat.sub h l) (some (Nat.sub n l))) H)
theorem qH(n sz:Nat)(x:Yc)(lo hi:Option Yc)(tm:TM)(H:Zc):Fh n sz x lo hi none tm H=wC n sz (x tm) (lo.map λf=>f tm) (hi.map λf=>f tm) H:=by
 cases lo<;>cases hi<;>rfl
theorem ie{n m:Nat}(h:m<=n)(h0:0<n)(b o:Nat)(k:IntKind)(H:Zc):wC n 1 (.ptr b o) none (some (nI k m)) H=.val (.slice b o m (some n)) H:=by
 show ZL (Nat.ble m n) (ZL (Nat.ble 0 m) (cond (Nat.beq 0 n) _ _))=_
 rw[Zg h,Zg (Z1 _),Ym,Za (by omega)]
 show OR.val (.slice b (o+0*1) (m - 0) (some (n - 0))) H=_
 rw[TB];rfl
noncomputable def oD(sz:Nat)(a v:AV)(H:Zc):OR:=ul v λsn=>Tk a (.val (.int .i64 0) H) λb o dn _=>SO (Me dn sn) λn=>Wt H sz v n λnew=>
 cond (Nat.beq n 0) (.val (.int .i64 0) H) (Y3 H b λr=>ZL (H.may r b) (ZL (Nat.ble r.fz o) (ZL (Nat.ble (Nat.add o (Nat.mul n sz)) r.size) (.val (.int .i64 (.ofNat n)) (H.put b (.row (r.setCells (XM r.cells o new))))))))
theorem kX(x y:Yc)(sz:Nat)(tm:TM)(H:Zc):uF x y sz tm H=oD sz (x tm) (y tm) H:=rfl
noncomputable def OW(k:List AV->OR)(ps:List (Nat×Nat×AV)):List AV->OR:=List.rec (λcells=>k cells) (λp _ ih cells=>
 ZL (Nat.ble 1 p.2.1)<|ZL (Nat.beq (YH p.2.2.cells) p.2.1) (ZL (Nat.ble (Nat.add p.1 p.2.1) (YH cells)) (ih (Oo p.1 cells++(p.2.2.cells++PH (Nat.add p.1 p.2.1) cells))))) ps
theorem GJ(tm:TM)(k:List AV->OR): ∀(ps:List yO) (cells:List AV),AT tm k ps cells=OW k (ps.map λp=>(p.off,p.sz,p.x tm)) cells
 |[],_=>rfl
 |p::ps,cells=>by
  show ZL (Nat.ble 1 p.sz) (ZL (Nat.beq (YH (p.x tm).cells) p.sz) (ZL (Nat.ble (Nat.add p.off p.sz) (YH cells)) (AT tm k ps (Oo p.off cells++((p.x tm).cells++PH (Nat.add p.off p.sz) cells)))))=_
  rw[GJ tm k ps]
  rfl
noncomputable def LP(zs:List AV)(ps:List (Nat×Nat×AV))(H:Zc):OR:=ZL (Nat.ble 1 (YH zs))<|OW (λcs=>.val (.agg cs) H) ps zs
theorem qE(zs:List AV)(ps:List yO)(tm:TM)(H:Zc):W9 zs ps tm H=LP zs (ps.map λp=>(p.off,p.sz,p.x tm)) H:=by
 unfold W9 LP
 rw[GJ]
noncomputable def Py(e sz n:Nat)(zs:List AV)(ps:List (Nat×Nat×AV))(H:Zc):OR:=ZL (Nat.ble 1 sz)<|ZL (Nat.beq (YH zs) (Nat.mul n sz))<|OW (λcs=>.val (.slice H.nx 0 n none) (H.newRow e sz cs true)) ps zs
theorem Er(e sz n:Nat)(zs:List AV)(ps:List yO)(tm:TM)(H:Zc):Sp e sz n zs ps tm H=Py e sz n zs (ps.map λp=>(p.off,p.sz,p.x tm)) H:=by
 unfold Sp Py
 rw[GJ]
theorem LN(e:Nat)(z v:AV)(h:v.cells=[v])(H:Zc):Py e 1 1 [z] [(0,1,v)] H=.val (.slice H.nx 0 1 none) (H.newRow e 1 [v] true):=by
 show ZL (Nat.beq (YH v.cells) 1) (ZL (Nat.ble 1 1) (.val _ (H.newRow e 1 (v.cells++[]) true)))=_
 rw[h];rfl
noncomputable def Uw(e sz bytes:Nat)(a v:AV)(H:Zc):OR:=ZL (Nat.ble 1 sz)<|ZL (Nat.ble 1 bytes)<|ul v λn=>Wt H sz v n λnew=>Q8 a e sz bytes H n new
theorem Ny(x y:Yc)(e sz bytes:Nat)(tm:TM)(H:Zc):TT x y e sz bytes tm H=Uw e sz bytes (x tm) (y tm) H:=rfl
def Src(H:Zc)(v:AV)(l:List AV):Prop:= ∀k:Nat->List AV->OR,(ul v λn=>Wt H 1 v n λnew=>k n new)=k l.length l
theorem Src.nils(H:Zc):Src H .nils []:=λ_=>rfl
theorem Src.none(H:Zc)(b o:Nat)(c:Option Nat):Src H (.slice b o 0 c) []:=λ_=>rfl
theorem Src.row{H:Zc}{b o:Nat}{c:Option Nat}{r:Row}{l:List AV}(hr:H.t.get b=some (.row r))(hf:o+l.length<=r.size)(hg: ∀i,i<l.length->r.get (o+i)=l.getD i .unk):Src H (.slice b o l.length c) l:=by
 intro k
 show(Wt H 1 (.slice b o l.length c) l.length λnew=>k l.length new)=_
 unfold Wt
 rw[Ym]
 by_cases h0:l.length=0
 ·rw[Ze h0]
  have:l=[]:=Yj.1 h0
  subst this;rfl
 ·rw[Za h0]
  unfold Y3
  simp only[hr,cond_false]
  show ZL (Nat.ble (o+l.length*1) r.size) (k l.length (loadN r o (l.length*1)))=_
  rw[Xr,Zg hf]
  have:loadN r o l.length=l:=by
   refine Wl λj=>?_
   by_cases hj:j<l.length
   ·rw[SJ r _ o j hj,hg j hj,Zf,Zi hj];rfl
   ·rw[YF (by rw[So];omega),YF (by omega)]
  rw[this];rfl
theorem LJ{H:Zc}{e bytes:Nat}{a v:AV}{l:List AV}(hb:1<=bytes)(h:Src H v l):Uw e 1 bytes a v H=Q8 a e 1 bytes H l.length l:=by
 show ZL (Nat.ble 1 1) (ZL (Nat.ble 1 bytes) _)=_
 rw[Zg hb]
 exact h λn new=>Q8 a e 1 bytes H n new
theorem ve{e:Nat}{H:Zc}{l:List AV}(h0:0<l.length)(hl:l.length<=140737488355328):Q8 .nils e 1 1 H l.length l=.val (.slice H.nx 0 l.length none) (H.newRow e 1 l false):=by
 show cond (Nat.beq l.length 0) _ (ZL (Nat.ble (l.length*1) 140737488355328) _)=_
 rw[Ym,Za (by omega),Xr,Zg hl];rfl
structure hO(H:Zc)(b e:Nat)(l:List AV)(r:Row):Prop extends Own H b e l r where
 exact_:r.exact=false
 low:b<H.nx
theorem vR{H:Zc}{e:Nat}{l:List AV}(YL:H.ro<=H.nx):hO (H.newRow e 1 l false) H.nx e l ⟨e,1,YH l,T.ofList l,.unk,0,false,true,false⟩:=
 ⟨⟨by rw[OM,QL,if_pos rfl],rfl,rfl,rfl,rfl,rfl,V7.new ..,YL⟩,rfl,YZ _⟩
theorem AC{H:Zc}{b e:Nat}{l m:List AV}{r:Row}(g:hO H b e l r)(hm:0<m.length)(hl:l.length+m.length<=140737488355328):
  ∃H' r',Q8 (.slice b 0 l.length none) e 1 1 H m.length m=.val (.slice H.nx 0 (l.length+m.length) none) H'∧hO H' H.nx e (l++m) r'∧Zp H H' [b]∧H'.nx=H.nx+1:=by
 have hsz:r.size=l.length:=g.cells.size
 have GX:Uo r 0 none=l.length:=by
  show cond (Nat.beq r.sz 1) (r.size - 0) _=_
  rw[g.sz,hsz];rfl
 have Rb:H.may r b=true:=by unfold Zc.may;rw[g.own,Zg g.ro];rfl
 refine⟨⟨Nat.succ H.nx,(H.t.del b).set H.nx (.row ⟨r.elem,1,(l.length+m.length)*1,XM r.cells (l.length*1) m,r.dflt,r.fz,r.sm,true,false⟩),H.ro⟩,⟨r.elem,1,(l.length+m.length)*1,XM r.cells (l.length*1) m,r.dflt,r.fz,r.sm,true,false⟩,?_,⟨⟨by rw[T.get_set,if_pos rfl],g.elem,rfl,rfl,g.fz,g.sm,?_,Yt g.ro (PG g.low)⟩,rfl,YZ _⟩,⟨XZ _,rfl,λc hc hn=>?_⟩,rfl⟩
 ·show Y3 H b (λr=>ZL (Jx r 1 none) (cond (Nat.ble (Nat.add l.length m.length) (Uo r 0 none)) (DO H _ b 0 l.length m.length 1 none r m) (Mw H e b 0 l.length m.length 1 1 none r m)))=_
  unfold Y3
  simp only[g.at_]
  have h1:Jx r 1 none=true:=by show Nat.beq r.sz 1=true;rw[g.sz];rfl
  have h2:Nat.ble (Nat.add l.length m.length) (Uo r 0 none)=false:=by
   rw[GX]
   cases h:Nat.ble (Nat.add l.length m.length) l.length with
   |false=>rfl
   |true=>have:=ZN h;have:l.length+m.length<=l.length:=this;omega
  rw[h1,h2]
  show ZL (Nat.ble ((l.length+m.length)*1) 140737488355328) (ZL (Nat.ble (0+l.length*1) r.size) (cond r.exact _ (LI H e b 0 l.length m.length 1 r m)))=_
  rw[Xr,Zg hl,hsz,Xr,Zt,Zg (Zj _),g.exact_]
  show ZL (Nat.beq r.elem e) (ZL (H.may r b) (ZL (Nat.ble r.fz (l.length*1)) (ZL (Nat.beq (l.length*1) r.size) (ZL (Nat.beq 0 0) _))))=_
  rw[g.elem,Yb,Rb,g.fz,Zg (Z1 _),hsz,Xr,Yb]
  show OR.val (.slice H.nx 0 (l.length+m.length) none) ⟨Nat.succ H.nx,(H.t.del b).set H.nx (.row ⟨e,1,(l.length+m.length)*1,XM r.cells (l.length*1) m,r.dflt,0,r.sm,true,false⟩),H.ro⟩=_
  rw[Xr,Xr]
 ·refine⟨by show(l.length+m.length)*1=_;rw[Zm];omega,λi hi=>?_⟩
  rw[Zm] at hi
  rw[Row.get_eq]
  show((XM r.cells (l.length*1) m).get i).getD r.dflt=_
  rw[Xr,Ss,Zf]
  by_cases h1:l.length<=i
  ·rw[if_pos ⟨h1,by omega⟩,YI h1,Zi (show i - l.length<m.length by omega)];rfl
  ·rw[if_neg (by omega),Yr (by omega)]
   have:=g.cells.get i (by omega)
   rw[Row.get_eq,Zf] at this
   exact this
 ·show((H.t.del b).set H.nx _).get c=_
  rw[T.get_set,if_neg (by omega),T.get_del,if_neg (λe=>hn (by simp[e]))]
section
variable {P:Program}
theorem Ic{l:List AV}(h:Sg l l=true)(n:Nat)(t:T Obj):VP (.val (.agg l) ⟨n,t,n⟩) (.agg l) n=true:=UC _ _ _ (by unfold same;exact h)
theorem HU(s:List UInt8):same (.str s) (.str s)=true:=by
 unfold same;rw[SD];simp
theorem r9(s:List UInt8)(n:Nat)(t:T Obj):VP (.val (.str s) ⟨n,t,n⟩) (.str s) n=true:=UC _ _ _ (HU s)
theorem UU(b o n:Nat)(c:Option Nat)(k:Nat)(t:T Obj):VP (.val (.slice b o n c) ⟨k,t,k⟩) (.slice b o n c) k=true:=UC _ _ _ (by
 unfold same
 rw[Yb,Yb,Yb]
 cases c with
 |none=>rfl
 |some x=>show Nat.beq x x=true;exact Yb x)
theorem Qn(n:Nat)(t:T Obj):VP (.val .nils ⟨n,t,n⟩) .nils n=true:=UC _ _ _ (by unfold same;rfl)
variable (ds:List ZP) (f:W2) (e:Yc) (b:Bool) (os:List (ZP×Yc)) (dst:ZP) (i bef:Nat) (nx:PK) (c:Ctx) (rs:List RD) (tm:TM) (H:Zc) (x:X)
theorem tV:SC ds ⟨f,some (e,b),os,dst,.free,i,bef⟩ nx c rs tm H x=UT (e tm) b (cond (RB H.nx tm os) (LW ⟨f,some (e,b),os,dst,.free,i,bef⟩ nx rs tm H x (f (RP tm os) ⟨H.nx,.leaf,H.nx⟩)) .fail) (nx rs (dst tm YS) H x):=rfl
theorem tW:SC ds ⟨f,some (e,b),os,dst,.read,i,bef⟩ nx c rs tm H x=UT (e tm) b (HJ ⟨f,some (e,b),os,dst,.read,i,bef⟩ nx rs tm H x (f (RP tm os) ⟨H.nx,H.t,H.nx⟩)) (nx rs (dst tm YS) H x):=rfl
theorem pQ:SC ds ⟨f,some (e,b),os,dst,.eff,i,bef⟩ nx c rs tm H x=cond (still tm H rs) (UT (e tm) b (IN ds ⟨f,some (e,b),os,dst,.eff,i,bef⟩ nx rs c tm x (f (RP tm os) H)) (nx (Uq bef rs) (dst tm YS) H x)) .fail:=rfl
theorem li(g:Option (Yc×Bool))(kd:JR)(v:AV)(o:Obj)(hw:wrO o=true):LW ⟨f,g,os,dst,kd,i,bef⟩ nx rs tm H x (.val v ((⟨H.nx,.leaf,H.nx⟩:Zc).new o))=nx rs (dst tm v) (H.new o) x:=by
 show cond (Nat.beq (H.nx+1) H.nx) _ (cond (Nat.beq (H.nx+1) (Nat.succ H.nx)) (bc (((T.leaf:T Obj).set H.nx o).get H.nx) λo=>nx rs (dst tm v) (H.new o) x) .fail)=_
 rw[Ym,Za (by omega),Ym,Ze rfl,T.get_set,if_pos rfl]
 show cond (wrO o) _ _=_
 rw[hw];rfl
end
theorem GF{lib:Nat->List AV->Zc->Option CR}{fs:T CF}{fuel n f:Nat}{args:List AV}{H:Zc}{r:CR}(h:lib f args H=some r):ZG lib fs fuel (n+1) f args H=r:=by
 show ny (lib f args H) _=_
 rw[h];rfl
section
variable {P:Program}
theorem Zck{call:Nat->List AV->Zc->CR}(SV:SL P call){f:FuncId}{args:List AV}{H H':Zc}{v:AV}(YX:call f args H=.ret v H')(k:Zp H H' [])(Oz:Xt 0 v=true)
  {σ:Mp}{w:World}{vs:List Value}(hs:Wh P σ H w)(hv:YM σ args vs):Lq P σ H w (.ret v H) ((callFunc f ⟨vs⟩).run P w):=by
 have v4:=SV f _ H σ w vs hs hv
 rw[YX] at v4
 refine Ends.mono (λu' w' hx=>?_) (λ_ _ hx=>hx) v4
 obtain⟨σ2,h1,t⟩:=hx
 refine⟨σ,?_,t.drop hs λb hb=>k.get b hb (by simp)⟩
 exact(Ys.cut Oz h1).mono λy _ hy=>by have:=(Mp.cut_some hy).1;omega
end
noncomputable def zL(a:AV)(H:Zc):OR:=Ol a λs=>SO (YH s) λn=>.val (.int .i64 (.ofNat n)) H
theorem jf(x:Yc)(tm:TM)(H:Zc):Ub x tm H=zL (x tm) H:=rfl
theorem Yv(s:List UInt8)(H:Zc):zL (.str s) H=.val (nI .i64 s.length) H:=by
 show SO (YH s) (λn=>OR.val (.int .i64 (.ofNat n)) H)=_
 rw[Pe,YC];rfl
noncomputable def MV(a i:AV)(H:Zc):OR:=SW i λi=>Ol a λs=>TN (uz s i) λb=>SO b.toNat λn=>.val (.int .u8 (.ofNat n)) H
theorem uH(x y:Yc)(tm:TM)(H:Zc):YA x y tm H=MV (x tm) (y tm) H:=rfl
theorem Ib{s:List UInt8}{i:Nat}(h:i<s.length)(k:IntKind)(H:Zc):MV (.str s) (nI k i) H=.val (UZ (s.getD i 0)) H:=by
 show TN (uz s i) _=_
 rw[xZ,Zi h]
 show SO s[i].toNat (λn=>OR.val (.int .u8 (.ofNat n)) H)=_
 rw[Pe,Zf,Zi h];rfl
noncomputable def M8(a:AV)(lo hi:Option AV)(H:Zc):OR:=Ol a λs=>LM hi (YH s) (YH s) λh=>LM lo 0 h λl=>.val (.str (JB l (Ng h s))) H
theorem qI(x:Yc)(lo hi:Option Yc)(tm:TM)(H:Zc):Vu x lo hi none tm H=M8 (x tm) (lo.map λf=>f tm) (hi.map λf=>f tm) H:=by
 cases lo<;>cases hi<;>rfl
theorem pI{s:List UInt8}{n:Nat}(h:n<=s.length)(k:IntKind)(H:Zc):M8 (.str s) none (some (nI k n)) H=.val (.str (s.take n)) H:=by
 show ZL (Nat.ble n (YH s)) (OR.val (.str (JB 0 (Ng n s))) H)=_
 rw[YC,Zg h,PZ];rfl
theorem Qw{a b:List UInt8}(h:a.length+b.length<=4611686018427387904)(H:Zc):yT (.str a) (.str b) H=.val (.str (a++b)) H:=by
 show ZL (Nat.ble (Nat.add (YH a) (YH b)) 4611686018427387904) _=_
 rw[YC,YC,Zg (show Nat.add a.length b.length<=_ from h)];rfl
theorem GH(a b:List UInt8)(H:Zc):LV Lt false (.str a) (.str b) H=.val (.bool (decide (a=b))) H:=by
 show SE (Lo a b) H=_
 rw[Sa,SD]
 congr 2
 by_cases h:a=b<;>simp[h]
theorem GI(a b:List UInt8)(H:Zc):LV Lt true (.str a) (.str b) H=.val (.bool (!decide (a=b))) H:=by
 show SE (cond (Lo a b) false true) H=_
 rw[Sa,SD]
 congr 2
 by_cases h:a=b<;>simp[h]
structure Below(n:Nat)(H H':Zc):Prop where
 nx:H.nx<=H'.nx
 ro:H'.ro=H.ro
 get: ∀c,c<n->c<H.nx->H'.t.get c=H.t.get c
theorem Below.refl(n:Nat)(H:Zc):Below n H H:=⟨Zj _,rfl,λ_ _ _=>rfl⟩
theorem Below.trans{n:Nat}{H H' H'':Zc}(a:Below n H H')(b:Below n H' H''):Below n H H'':=
 ⟨Yt a.nx b.nx,b.ro.trans a.ro,λc h1 h2=>(b.get c h1 (ZH h2 a.nx)).trans (a.get c h1 h2)⟩
theorem Below.put{n b:Nat}{H:Zc}{o:Obj}(h:n<=b):Below n H (H.put b o):=⟨Zj _,rfl,λc h1 _=>by rw[OD,if_neg (by omega)]⟩
theorem Below.new(n:Nat)(H:Zc)(o:Obj):Below n H (H.new o):=⟨XZ _,rfl,λc _ h2=>by rw[QL,if_neg (by omega)]⟩
theorem Below.mono{n m:Nat}{H H':Zc}(a:Below n H H')(h:m<=n):Below m H H':=⟨a.nx,a.ro,λc h1 h2=>a.get c (by omega) h2⟩
theorem Zp.below{H0 H H':Zc}{n:Nat}(k:Zp H0 H [])(b:Below n H H')(h:H0.nx<=n):Zp H0 H' []:=
 ⟨Yt k.nx b.nx,b.ro.trans k.ro,λc h1 h2=>(b.get c (by omega) (ZH h1 k.nx)).trans (k.get c h1 h2)⟩
def ZmK(H:Zc)(v:AV)(l:List UInt8)(lo:Nat):Prop:= ∃b r,v=.slice b 0 l.length none∧hO H b 5 (l.map UZ) r∧lo<=b
def Buf(H:Zc)(v:AV)(l:List UInt8)(lo:Nat):Prop:=(l=[]∧v=.nils)∨(l≠[]∧ZmK H v l lo)
theorem gG{H:Zc}{v:AV}{l:List UInt8}{lo:Nat}(h:Buf H v l lo)(hl:l.length<140737488355328)(YL:H.ro<=H.nx)(Pj:lo<=H.nx)(x:UInt8):
  ∃v' H',Uw 5 1 1 v (.slice H.nx 0 1 none) (H.newRow 5 1 [UZ x] true)=.val v' H'∧Buf H' v' (l++[x]) lo∧Below lo H H':=by
 generalize Yo:H.newRow 5 1 [UZ x] true=H1
 have VH:H1.nx=H.nx+1:=by rw[<-Yo];rfl
 have k1:Zp H H1 []:=by rw[<-Yo];exact Zp.new H _ []
 have b1:Below lo H H1:=by rw[<-Yo];exact Below.new lo H _
 have gx:H1.t.get H.nx=some (.row ⟨5,1,1,T.ofList [UZ x],.unk,0,false,true,true⟩):=by rw[<-Yo,OM,QL,if_pos rfl];rfl
 have src:Src H1 (.slice H.nx 0 1 none) [UZ x]:=Src.row (l:=[UZ x]) gx (Zj _) (λi hi=>by
  have:i=0:=by simp at hi;exact hi
  subst this
  rfl)
 rw[LJ (Zj 1) src]
 rcases h with⟨rfl,rfl⟩|⟨VY,b,r,rfl,g,hb⟩
 ·have g:=vR (H:=H1) (e:=5) (l:=[UZ x]) (by rw[k1.ro];omega)
  exact⟨_,_,ve (l:=[UZ x]) (by simp) (by simp),.inr ⟨by simp,_,_,rfl,g,by omega⟩,b1.trans (Below.new lo H1 _)⟩
 ·have g1:hO H1 b 5 (l.map UZ) r:=⟨⟨by rw[k1.get b g.low (by simp)];exact g.at_,g.elem,g.sz,g.own,g.fz,g.sm,g.cells,by rw[k1.ro];exact g.ro⟩,g.exact_,by have:=g.low;omega⟩
  obtain⟨H',r',e,g',k',nx'⟩:=AC (m:=[UZ x]) g1 (by simp) (by rw[Zr];simp;omega)
  rw[Zr] at e
  refine⟨_,H',e,.inr ⟨by simp,H1.nx,r',by rw[Zm];rfl,by rw[Xo];exact g',by omega⟩,b1.trans ⟨by omega,k'.ro,λc h1 h2=>k'.get c h2 (by simp;omega)⟩⟩
theorem Buf.below{H H':Zc}{v:AV}{l:List UInt8}{lo:Nat}(h:Buf H v l lo)(hp: ∀c,lo<=c->c<H.nx->H'.t.get c=H.t.get c)(YL:H'.ro=H.ro)(B5:H.nx<=H'.nx):Buf H' v l lo:=by
 rcases h with h|⟨VY,b,r,rfl,g,hb⟩
 ·exact .inl h
 ·exact .inr ⟨VY,b,r,rfl,⟨⟨by rw[hp b hb g.low];exact g.at_,g.elem,g.sz,g.own,g.fz,g.sm,g.cells,by rw[YL];exact g.ro⟩,g.exact_,ZH g.low B5⟩,hb⟩
theorem YK(k:IntKind)(a b:Nat)(H:Zc):P6 OA SX (nI k a) (nI k b) H=.val (.bool (decide (b<a))) H:=by
 show ZL (Qd k k) (SE (rT (.ofNat b) (.ofNat a)) H)=_
 rw[Y4,Sa,K0];rfl
theorem WG(k:IntKind)(a b:Nat)(H:Zc):P6 Nm RG (nI k a) (nI k b) H=.val (.bool (decide (a<=b))) H:=by
 show ZL (Qd k k) (SE (!rT (.ofNat b) (.ofNat a)) H)=_
 rw[Y4,Sa,K0]
 show OR.val (.bool (!decide (b<a))) H=_
 congr 2
 by_cases h:b<a
 ·rw[Ze h,Za (by omega)];rfl
 ·rw[Za h,Ze (by omega)];rfl
theorem Zc7(b c:AV)(H:Zc):z9 (.bool true) b c H=.val b H:=rfl
theorem Zc6(b c:AV)(H:Zc):z9 (.bool false) b c H=.val c H:=rfl
theorem Kx(b:Bool)(H:Zc):ZcB (.bool b) H=.val (.bool (cond b false true)) H:=rfl
theorem dP(n:Nat)(l:List AV):Xt n (.agg l)=Ob n l:=rfl
theorem qs(n:Nat):Xt n YS=true:=rfl
theorem CL(n:Nat)(s:List UInt8):Xt n (.str s)=true:=rfl
noncomputable def ZgB(mx:Bool)(l:List AV)(H:Zc):OR:=match l with
 |.int k a::l=>min2 mx k a H l
 |_=>.fail
theorem uI(mx:Bool)(args:List Yc)(tm:TM)(H:Zc):M0 mx args tm H=ZgB mx (evs tm args) H:=rfl
theorem dU(a b:Nat)(H:Zc):ZgB false [nI .i64 a,nI .i64 b] H=.val (nI .i64 (min a b)) H:=by
 show ZL (Qd .i64 .i64) (min2 false .i64 (cond (cond false (rT (.ofNat a) (.ofNat b)) (rT (.ofNat b) (.ofNat a))) (.ofNat b) (.ofNat a)) H [])=_
 rw[Y4,K0,K0]
 show OR.val (.int .i64 (cond (decide (b<a)) (.ofNat b) (.ofNat a))) H=_
 by_cases h:b<a
 ·rw[Ze h,Sv (by omega)];rfl
 ·rw[Za h,VA (by omega)];rfl
noncomputable def FX(i:Nat)(a:AV)(H:Zc):OR:=nM a λvs=>TN (E2 vs i) λv=>.val v H
theorem kZ(x:Yc)(i:Nat)(tm:TM)(H:Zc):WS x i tm H=FX i (x tm) H:=rfl
theorem Zbs(a:AV)(l:List AV)(H:Zc):FX 0 (.tup (a::l)) H=.val a H:=rfl
theorem Zbt(a b:AV)(l:List AV)(H:Zc):FX 1 (.tup (a::b::l)) H=.val b H:=rfl
theorem Zbu(a b c:AV)(l:List AV)(H:Zc):FX 2 (.tup (a::b::c::l)) H=.val c H:=rfl
theorem Zbo(a b:Bool)(H:Zc):LV oG false (.bool a) (.bool b) H=.val (.bool (decide (a=b))) H:=by cases a<;>cases b<;>rfl
theorem Zbp(b o:Nat)(H:Zc):LV iV false (.ptr b o) .nilp H=.val (.bool false) H:=rfl
theorem s9(H:Zc):LV iV false .nilp .nilp H=.val (.bool true) H:=rfl
theorem fF(b o:Nat)(H:Zc):LV iV true (.ptr b o) (.ptr b o) H=.val (.bool false) H:=by
 show TN (cond (Nat.beq b b) (some (Nat.beq o o)) none) (λb=>SE (cond true (cond b false true) b) H)=_
 rw[Yb,Yb];rfl
noncomputable def bu(a:AV)(H:Zc):OR:=match a with
 |.nilp=>.val .nilp H
 |.ptr b o=>Y3 H b λr=>ZL (Nat.ble (Nat.succ o) r.size) (.val (.ptr b o) H)
 |_=>.fail
theorem zY(x:Yc)(tm:TM)(H:Zc):zX x tm H=bu (x tm) H:=rfl
noncomputable def br(u n:Nat)(a:AV)(H:Zc):OR:=match a with
 |.nilp=>.val .nilp H
 |.ptr b o=>Y3 H b λr=>ZL r.exact (ZL (Nat.beq r.elem u) (ZL (Nat.beq o 0) (ZL (Nat.ble n r.size) (.val (.ptr b o) H))))
 |_=>.fail
theorem zW(x:Yc)(u n:Nat)(tm:TM)(H:Zc):zU x u n tm H=br u n (x tm) H:=rfl
noncomputable def DH(a:AV)(H:Zc):OR:=Tk a (.val .nilp H) λb o _ cap=>Option.rec (Y3 H b λr=>ZL (Nat.ble (Nat.succ o) r.size) (.val (.ptr b o) H)) (λc=>ZL (Nat.ble 1 c) (.val (.ptr b o) H)) cap
theorem KA(x:Yc)(tm:TM)(H:Zc):Dw x tm H=DH (x tm) H:=rfl
noncomputable def so(e:Nat)(a n:AV)(H:Zc):OR:=SW n λn=>cond (Nat.beq n 0) (match a with|.nilp=>.val (.str []) H|.ptr .. =>.val (.str []) H|_=>.fail)
 (ZL (Nat.ble n 140737488355328)<|QO a λb o=>Y3 H b λr=>ZL (Nat.beq r.elem e)<|ZL (cond r.sm false (H.may r b)) (ZL (Nat.ble (Nat.add o n) r.size) (Rz (λs=>.val (.str s)
  (H.put b (.row ⟨r.elem,r.sz,r.size,r.cells,r.dflt,cond (Nat.ble r.fz (Nat.add o n)) (Nat.add o n) r.fz,r.sm,r.own,r.exact⟩))) (loadN r o n))))
theorem Fi(x y:Yc)(e:Nat)(tm:TM)(H:Zc):uM x y e tm H=so e (x tm) (y tm) H:=rfl
theorem Nh: ∀(l:List UInt8) (k:List UInt8->OR),Rz k (l.map UZ)=k l
 |[],k=>rfl
 |x::l,k=>by
  show Rz (λs=>k (UInt8.ofNat x.toNat::s)) (l.map UZ)=_
  rw[Nh l]
  simp
theorem od{H:Zc}{v:AV}{l:List UInt8}{lo:Nat}(h:Buf H v l lo)(hl:l.length<=140737488355328): ∃p,(∀G:Zc,G.t=H.t->DH v G=.val p G)∧(∃H',so 5 p (nI .i64 l.length) H=.val (.str l) H'∧Below lo H H')∧(∀n,H.nx<=n->Xt n p=true)∧(∀n t,VP (.val p ⟨n,t,n⟩) p n=true)∧(∀n,H.nx<=n->Xt n v=true)∧(∀n t,VP (.val v ⟨n,t,n⟩) v n=true)∧ ∀G,QK v G=.val (nI .i64 l.length) G:=by
 rcases h with⟨rfl,rfl⟩|⟨VY,b,r,rfl,g,hb⟩
 ·exact⟨.nilp,λ_ _=>rfl,⟨H,rfl,Below.refl _ _⟩,λ_ _=>rfl,λn t=>UC _ _ _ (by unfold same;rfl),λ_ _=>rfl,λn t=>Qn n t,λG=>O3 G⟩
 ·have hp:0<l.length:=XU.2 VY
  have hsz:r.size=l.length:=by rw[g.cells.size,Zr]
  refine⟨.ptr b 0,λG e=>?_,?_,λn hn=>Yq (ZH g.low hn) 0,λn t=>UC _ _ _ (by unfold same;rw[Yb,Yb];rfl),λn hn=>We (ZH g.low hn) _ _ _,λn t=>UU _ _ _ _ _ _,λG=>Vl ..⟩
  ·show Y3 G b _=_
   unfold Y3
   rw[e,g.at_]
   show ZL (Nat.ble 1 r.size) _=_
   rw[Zg (by omega)];rfl
  ·refine⟨H.put b (.row ⟨r.elem,r.sz,r.size,r.cells,r.dflt,cond (Nat.ble r.fz (Nat.add 0 l.length)) (Nat.add 0 l.length) r.fz,r.sm,r.own,r.exact⟩),?_,Below.put hb⟩
   show cond (Nat.beq l.length 0) _ (ZL (Nat.ble l.length 140737488355328) (Y3 H b _))=_
   rw[Ym,Za (by omega),Zg hl]
   unfold Y3
   rw[g.at_]
   show ZL (Nat.beq r.elem 5) (ZL (cond r.sm false (H.may r b)) (ZL (Nat.ble (0+l.length) r.size) (Rz _ (loadN r 0 l.length))))=_
   have Rb:H.may r b=true:=by unfold Zc.may;rw[g.own,Zg g.ro];rfl
   rw[g.elem,g.sm,Rb,Zg (by omega),g.cells.load (by rw[Zr];omega),Ye,ZM (by rw[Zr];omega),Nh]
   rfl
namespace T
variable {α:Type}
theorem Fu(x:α)(l:T α)(v:Option α)(r:T α)(bs:List Bool):setB x (node l v r) (true::bs)=node (setB x l bs) v r:=rfl
theorem Fs(x:α)(l:T α)(v:Option α)(r:T α)(bs:List Bool):setB x (node l v r) (false::bs)=node l v (setB x r bs):=rfl
theorem ym(x:α)(bs:List Bool):setB x leaf bs=single x bs:=rfl
theorem tE(x:α)(bs:List Bool):single x (true::bs)=node (single x bs) none leaf:=rfl
theorem tD(x:α)(bs:List Bool):single x (false::bs)=node leaf none (single x bs):=rfl
theorem KJ(x y:α): ∀bs:List Bool,setB y (single x bs) bs=single y bs
 |[]=>rfl
 |true::bs=>by rw[tE,Fu,KJ x y bs,tE]
 |false::bs=>by rw[tD,Fs,KJ x y bs,tD]
theorem Ft(x y:α): ∀(t:T α) (bs:List Bool),setB y (setB x t bs) bs=setB y t bs
 |leaf,bs=>by rw[ym,KJ,ym]
 |node l v r,[]=>rfl
 |node l v r,true::bs=>by rw[Fu,Fu,Fu,Ft x y l bs]
 |node l v r,false::bs=>by rw[Fs,Fs,Fs,Ft x y r bs]
theorem set_set(t:T α)(n:Nat)(x y:α):(t.set n x).set n y=t.set n y:=Ft x y t (bits n)
theorem O8(a b:α)(l:List α):ST (a::b::l)=a::ST l:=by simp[ST]
theorem CV: ∀(l:List α) (i:Nat) (v:α),ST (l.set (2*i) v)=(ST l).set i v
 |[],_,_=>by simp[ST]
 |[a],0,_=>by simp[ST]
 |[a],i+1,v=>by
  rw[show 2*(i+1)=2*i+1+1 by omega];simp[ST]
 |a::b::l,0,v=>by simp[ST]
 |a::b::l,i+1,v=>by
  rw[show 2*(i+1)=2*i+1+1 by omega,W4,W4,O8,O8,CV l i v,W4]
theorem M2: ∀(l:List α) (i:Nat) (v:α),ST (l.set (2*i+1) v)=ST l
 |[],_,_=>by simp[ST]
 |[a],i,_=>by simp[ST]
 |a::b::l,0,v=>by simp[ST]
 |a::b::l,i+1,v=>by
  rw[show 2*(i+1)+1=(2*i+1)+1+1 by omega,W4,W4,O8,O8,M2 l i v]
theorem si(l:List α)(i:Nat)(v:α):(l.set (i+1) v).tail=l.tail.set i v:=by cases l<;>rfl
theorem iw(l:List α)(v:α):(l.set 0 v).tail=l.tail:=by cases l<;>rfl
theorem Hn(l:List α):(ST l).length=(l.length+1)/2:=by
 have: ∀(n:Nat) (l:List α),l.length<=n->(ST l).length=(l.length+1)/2:=by
  intro n
  induction n with
  |zero=>intro l h;cases l with|nil=>simp[ST]|cons=>simp at h
  |succ n ih=>
   intro l h
   match l,h with
   |[],_=>simp[ST]
   |[a],_=>simp[ST]
   |a::b::l,h=>
    rw[O8,Zl,ih l (by simp at h;omega)]
    simp only[Zl];omega
 exact this _ l (Zj _)
theorem Ho(f:Nat)(x:α)(l:List α):Rw (f+1) (x::l)=node (Rw f (ST l)) (some x) (Rw f (ST l.tail)):=rfl
theorem tA: ∀(f:Nat) (l:List α) (i:Nat) (v:α),l.length<=f->i<l.length->(Rw f l).set i v=Rw f (l.set i v):=by
 intro f
 induction f with
 |zero=>intro l i v h hi;omega
 |succ f ih=>
  intro l i v h hi
  cases l with
  |nil=>cases hi
  |cons x l=>
   rw[Ho]
   by_cases h0:i=0
   ·subst h0;rfl
   ·obtain⟨j,rfl⟩: ∃j,i=j+1:=⟨i - 1,by omega⟩
    rw[W4,Ho]
    simp only[Zl] at h hi
    unfold set
    by_cases h1:(j+1) % 2=1
    ·obtain⟨m,rfl⟩: ∃m,j=2*m:=⟨j/2,by omega⟩
     rw[vi h1,Fu,show(2*m+1)/2=m by omega]
     have:=ih (ST l) m v (by rw[Hn];omega) (by rw[Hn];omega)
     unfold set at this
     rw[this,CV]
     cases m with
     |zero=>rw[iw]
     |succ m=>rw[show 2*(m+1)=2*m+1+1 by omega,si,M2]
    ·obtain⟨m,rfl⟩: ∃m,j=2*m+1:=⟨j/2,by omega⟩
     rw[AF (by omega) (by omega),Fs,show(2*m+1+1)/2 - 1=m by omega]
     have:=ih (ST l.tail) m v (by rw[Hn,List.length_tail];omega) (by rw[Hn,List.length_tail];omega)
     unfold set at this
     rw[this,M2,si,CV]
theorem set_ofList{l:List α}{i:Nat}(v:α)(h:i<l.length):(ofList l).set i v=ofList (l.set i v):=by
 unfold ofList
 rw[xJ,xJ,Xv]
 exact tA _ l i v (Zj _) h
end T
def lay(l:List AV):Nat->List AV->List AV
 |_,[]=>l
 |o,v::vs=>lay (l.set o v) (o+1) vs
theorem xI: ∀(l:List AV) (o:Nat) (vs:List AV),(lay l o vs).length=l.length
 |_,_,[]=>rfl
 |l,o,v::vs=>by
  show(lay (l.set o v) (o+1) vs).length=_
  rw[xI,Xv]
theorem BF: ∀(l:List AV) (o:Nat) (vs:List AV),o+vs.length<=l.length->XM (T.ofList l) o vs=T.ofList (lay l o vs)
 |_,_,[],_=>rfl
 |l,o,v::vs,h=>by
  simp only[Zl] at h
  show XM ((T.ofList l).set o v) (o+1) vs=T.ofList (lay (l.set o v) (o+1) vs)
  rw[T.set_ofList v (by omega),BF (l.set o v) (o+1) vs (by rw[Xv];omega)]
theorem qh: ∀(l:List AV) (o:Nat) (vs:List AV),o+vs.length<=l.length->lay l o vs=l.take o++(vs++l.drop (o+vs.length))
 |l,o,[],h=>by show l=_;simp
 |l,o,v::vs,h=>by
  simp only[Zl] at h
  show lay (l.set o v) (o+1) vs=_
  rw[qh (l.set o v) (o+1) vs (by rw[Xv];omega),List.set_eq_take_append_cons_drop,if_pos (by omega)]
  have e1:(l.take o++v::l.drop (o+1)).take (o+1)=l.take o++[v]:=by
   rw[List.take_append,ZM (by rw[Z9];omega),Z9,VA (by omega),show o+1 - o=1 by omega];rfl
  have e2:(l.take o++v::l.drop (o+1)).drop (o+1+vs.length)=l.drop (o+(v::vs).length):=by
   rw[List.drop_append,Y0 (by rw[Z9];omega),Xp,Z9,VA (by omega),show o+1+vs.length - o=vs.length+1 by omega,Ve,U8,Zl]
   congr 1;omega
  rw[e1,e2];simp
section
def rG(e sz:Nat)(l:List AV)(fz:Nat)(sm own ex:Bool):Obj:=.row ⟨e,sz,YH l,T.ofList l,.unk,fz,sm,own,ex⟩
theorem Fo(e sz:Nat)(l:List AV)(fz:Nat)(sm own ex:Bool)(i:Nat):Row.get ⟨e,sz,YH l,T.ofList l,.unk,fz,sm,own,ex⟩ i=l.getD i .unk:=by
 rw[Row.get_eq]
 show((T.ofList l).get i).getD .unk=_
 rw[T.get_ofList,Zf]
theorem uV(e sz:Nat)(l:List AV)(fz:Nat)(sm own ex:Bool):V7 ⟨e,sz,YH l,T.ofList l,.unk,fz,sm,own,ex⟩ l:=V7.new ..
def ld1(x:Option Obj)(o:Nat)(H:Zc):OR:=match x with|some (.row r)=>ZL (Nat.ble (Nat.succ o) r.size) (.val (r.get o) H)|_=>.fail
theorem zM(b o:Nat)(H:Zc):Fa (.ptr b o) H=ld1 (H.t.get b) o H:=rfl
theorem ZJ{o:Nat}{l:List AV}(h:o<l.length)(e sz fz:Nat)(sm own ex:Bool)(H:Zc):ld1 (some (rG e sz l fz sm own ex)) o H=.val (l.getD o .unk) H:=by
 show ZL (Nat.ble (Nat.succ o) (YH l)) (.val (Row.get ⟨e,sz,YH l,T.ofList l,.unk,fz,sm,own,ex⟩ o) H)=_
 rw[YC,Zg (show Nat.succ o<=l.length from h)]
 show OR.val (Row.get ⟨e,sz,l.length,T.ofList l,.unk,fz,sm,own,ex⟩ o) H=_
 rw[<-YC,Fo]
def ldN(n:Nat)(x:Option Obj)(o:Nat)(H:Zc):OR:=match x with|some (.row r)=>ZL (Nat.ble (Nat.add o n) r.size) (.val (.agg (loadN r o n)) H)|_=>.fail
theorem dL(n b o:Nat)(H:Zc):zN n (.ptr b o) H=ldN n (H.t.get b) o H:=rfl
theorem WV{n o:Nat}{l:List AV}(h:o+n<=l.length)(e sz fz:Nat)(sm own ex:Bool)(H:Zc):ldN n (some (rG e sz l fz sm own ex)) o H=.val (.agg ((l.drop o).take n)) H:=by
 show ZL (Nat.ble (o+n) (YH l)) (.val (.agg (loadN ⟨e,sz,YH l,T.ofList l,.unk,fz,sm,own,ex⟩ o n)) H)=_
 rw[(uV e sz l fz sm own ex).load h,YC,Zg h];rfl
def FG(n:Nat)(x:Option Obj)(b o:Nat)(v:AV)(H:Zc):OR:=match x with
 |some (.row r)=>ZL (Nat.ble 1 n)<|ZL (H.may r b) (ZL (Nat.ble (Nat.add o n) r.size) (ZL (Nat.ble r.fz o) (ZL (Nat.beq (YH v.cells) n) (.val YS (H.put b (.row (r.setCells (XM r.cells o v.cells))))))))
 |_=>.fail
theorem iq(n b o:Nat)(v:AV)(H:Zc):BG n (.ptr b o) v H=FG n (H.t.get b) b o v H:=rfl
theorem Il{n b o:Nat}{l:List AV}{v:AV}{H:Zc}{fz:Nat}(hn:1<=n)(hv:v.cells.length=n)(ho:o+n<=l.length)(YL:H.ro<=b)(Ly:fz<=o)(e sz:Nat)(sm ex:Bool):
  FG n (some (rG e sz l fz sm true ex)) b o v H=.val YS (H.put b (rG e sz (lay l o v.cells) fz sm true ex)):=by
 show ZL (Nat.ble 1 n) (ZL (cond true (Nat.ble H.ro b) false) (ZL (Nat.ble (o+n) (YH l)) (ZL (Nat.ble fz o) (ZL (Nat.beq (YH v.cells) n) (.val YS (H.put b (.row ⟨e,sz,YH l,XM (T.ofList l) o v.cells,.unk,fz,sm,true,ex⟩)))))))=_
 rw[Zg hn,Zg YL,YC,Zg ho,Zg Ly,YC,hv,Yb,BF l o v.cells (by omega)]
 unfold rG
 rw[YC,xI];rfl
theorem XK{b o:Nat}{l:List AV}{v:AV}{H:Zc}{fz:Nat}(hv:v.cells=[v])(ho:o<l.length)(YL:H.ro<=b)(Ly:fz<=o)(e sz:Nat)(sm ex:Bool):
  FG 1 (some (rG e sz l fz sm true ex)) b o v H=.val YS (H.put b (rG e sz (l.set o v) fz sm true ex)):=by
 rw[Il (Zj 1) (by rw[hv];rfl) ho YL Ly,hv];rfl
theorem ZS(H:Zc)(b:Nat)(o:Obj):(H.put b o).t.get b=some o:=by rw[OD,if_pos rfl]
theorem ZD{b c:Nat}(h: ¬b=c)(H:Zc)(o:Obj):(H.put b o).t.get c=H.t.get c:=by rw[OD,if_neg h]
theorem ZC{H:Zc}{c:Nat}(h:H.nx=c)(o:Obj):(H.new o).t.get c=some o:=by rw[QL,if_pos h]
theorem ZK{H:Zc}{c:Nat}(h: ¬H.nx=c)(o:Obj):(H.new o).t.get c=H.t.get c:=by rw[QL,if_neg h]
theorem Hx(H:Zc)(b:Nat)(o o':Obj):(H.put b o).put b o'=H.put b o':=by
 unfold Zc.put;simp only[T.set_set]
theorem Vb{H:Zc}{b:Nat}(h:H.nx=b)(o o':Obj):(H.new o).put b o'=H.new o':=by
 subst h;unfold Zc.put Zc.new;simp only[T.set_set]
theorem Uy(H:Zc)(e sz:Nat)(l:List AV)(ex:Bool):H.newRow e sz l ex=H.new (rG e sz l 0 false true ex):=rfl
theorem uC(e:Nat)(c:AV)(cs:List AV)(tm:TM)(H:Zc):XV e (c::cs) tm H=.val (.ptr H.nx 0) (H.new (rG e 1 (c::cs) 0 false true true)):=by
 rw[qC _ _ (by rw[YC];simp)];rfl
def sQ(e:Nat)(a:AV)(H:Zc):OR:=ZL (Nat.ble 1 (YH a.cells))<|.val (.ptr H.nx 0) (H.newRow e 1 a.cells true)
theorem ZcE(x:Yc)(e:Nat)(tm:TM)(H:Zc):RN x e tm H=sQ e (x tm) H:=rfl
theorem oz{a:AV}{l:List AV}(h:a.cells=l)(h1:1<=l.length)(e:Nat)(H:Zc):sQ e a H=.val (.ptr H.nx 0) (H.new (rG e 1 l 0 false true true)):=by
 subst h
 show ZL (Nat.ble 1 (YH a.cells)) _=_
 rw[YC,Zg h1];rfl
theorem sS(l:List AV):(AV.agg l).cells=l:=rfl
theorem VW{l:List AV}(h1:1<=l.length)(e:Nat)(H:Zc):sQ e (.agg l) H=.val (.ptr H.nx 0) (H.new (rG e 1 l 0 false true true)):=oz (sS l) h1 e H
theorem vm{a:AV}(h:a.cells=[a])(e:Nat)(H:Zc):sQ e a H=.val (.ptr H.nx 0) (H.new (rG e 1 [a] 0 false true true)):=oz h (Zj 1) e H
theorem DZ(b:Bool):(AV.bool b).cells=[.bool b]:=rfl
theorem AL(k:IntKind)(n:Int):(AV.int k n).cells=[.int k n]:=rfl
theorem vz(k:IntKind)(n:Nat):(nI k n).cells=[nI k n]:=rfl
theorem AP(x:UInt8):(UZ x).cells=[UZ x]:=rfl
theorem AO(s:List UInt8):(AV.str s).cells=[.str s]:=rfl
theorem D2:AV.nilp.cells=[.nilp]:=rfl
theorem AN(b o:Nat):(AV.ptr b o).cells=[.ptr b o]:=rfl
theorem D3:AV.nils.cells=[.nils]:=rfl
theorem FS(b o n:Nat)(c:Option Nat):(AV.slice b o n c).cells=[.slice b o n c]:=rfl
theorem AM(b:Nat):(AV.map b).cells=[.map b]:=rfl
theorem D0(f:Nat)(a b:List AV):(AV.func f a b).cells=[.func f a b]:=rfl
theorem FR(t:Nat)(v:AV):(AV.iface t v).cells=[.iface t v]:=rfl
theorem D1:AV.nili.cells=[.nili]:=rfl
theorem AK(l:List AV):(AV.agg l).cells=l:=rfl
theorem Xk{a:TM->Zc->X->X6}{x:X}(I:Nat->TM->Zc->Prop)(Q:Out->TM->Zc->Prop)
  (step: ∀m tm H,I m tm H-> ∃o Yp H',a tm H x=.ok o Yp H' x∧((o=.normal∧ ∃k,k<m∧I k Yp H')∨(o≠.normal∧Q o Yp H'))):
  ∀(F m:Nat) (tm:TM) (H:Zc),m<F->I m tm H-> ∃o Yp H',WR a F tm H x=.ok o Yp H' x∧o≠.normal∧Q o Yp H'
 |0,m,_,_,h,_=>by omega
 |F+1,m,tm,H,h,hi=>by
  obtain⟨o,Yp,H',h1,h2⟩:=step m tm H hi
  rcases h2 with⟨rfl,k,hk,h3⟩|⟨h2,h3⟩
  ·obtain⟨o2,Dl,H2,e,h4,h5⟩:=Xk I Q step F k Yp H' (by omega) h3
   refine⟨o2,Dl,H2,?_,h4,h5⟩
   show QV (a tm H x) (WR a F)=_
   rw[h1];exact e
  ·refine⟨o,Yp,H',?_,h2,h3⟩
   show QV (a tm H x) (WR a F)=_
   rw[h1]
   cases o with
   |normal=>exact absurd rfl h2
   |_=>rfl
theorem Y9{a:TM->Zc->X->X6}{F:Nat}{H:Zc}{x:X}{L:X6}{P:TM->Prop}{Q:Out->TM->Zc->Prop}(lp: ∀T,P T-> ∃o Yp H',WR a F T H x=.ok o Yp H' x∧o≠.normal∧Q o Yp H'){T:TM}(hL:WR a F T H x=L)(hi:P T):
  ∃o Yp H',L=.ok o Yp H' x∧o≠.normal∧Q o Yp H':=by
 obtain⟨o,b,c,e,j⟩:=lp T hi
 exact⟨o,b,c,hL.symm.trans e,j⟩
end
theorem Zu:(∀(f:W2) (dst:ZP) (next:D) (c:Ctx) (tm:TM) (H:Zc) (x:X),Zb f dst next c tm H x=Pf (next c) dst c tm H x (f tm H))∧(∀(next:TM->Zc->X->X6) (dst:ZP) (c:Ctx) (tm:TM) (H:Zc) (x:X) (v:AV) (H':Zc),Pf next dst c tm H x (.val v H')=next (dst tm v) H' x)∧(∀(next:TM->Zc->X->X6) (dst:ZP) (c:Ctx) (tm:TM) (H:Zc) (x:X) (f:Nat) (args:List AV) (H':Zc),Pf next dst c tm H x (.oth (.call f args H'))=E3 next dst tm x (c.call f args H'))∧(∀(next:TM->Zc->X->X6) (dst:ZP) (tm:TM) (x:X) (v:AV) (H:Zc),E3 next dst tm x (.ret v H)=next (dst tm v) H x)∧(∀(a b:D) (c:Ctx) (tm:TM) (H:Zc) (x:X),Zh a b c tm H x=QV (a c tm H x) (b c))∧(∀(tm:TM) (H:Zc) (x:X) (k:TM->Zc->X->X6),QV (.ok .normal tm H x) k=k tm H x)∧(∀(tm:TM) (H:Zc) (x:X) (k:TM->Zc->X->X6),QV (.ok .ret tm H x) k=.ok .ret tm H x)∧(∀(i:Nat) (tm:TM) (H:Zc) (x:X) (k:TM->Zc->X->X6),QV (.ok (.exit i) tm H x) k=.ok (.exit i) tm H x)∧(∀(c:Ctx) (tm:TM) (H:Zc) (x:X),Zd c tm H x=.ok .normal tm H x)∧(∀(c:Ctx) (tm:TM) (H:Zc) (x:X),Yw c tm H x=.ok .ret tm H x)∧(∀(i:Nat) (c:Ctx) (tm:TM) (H:Zc) (x:X),VK i c tm H x=.ok (.exit i) tm H x)∧(∀(q:Yc) (a b:D) (c:Ctx) (tm:TM) (H:Zc) (x:X),ZR q a b c tm H x=xE (q tm) λv=>IH (a c) (b c) v tm H x)∧(∀(b:Bool) (k:Bool->X6),xE (.bool b) k=k b)∧(∀(a b:TM->Zc->X->X6) (tm:TM) (H:Zc) (x:X),IH a b true tm H x=a tm H x)∧(∀(a b:TM->Zc->X->X6) (tm:TM) (H:Zc) (x:X),IH a b false tm H x=b tm H x)∧(∀(i:Nat) (a:D) (c:Ctx) (tm:TM) (H:Zc) (x:X),Yy i a c tm H x=QJ i (a c tm H x))∧(∀(a:D) (c:Ctx) (tm:TM) (H:Zc) (x:X),Ua a c tm H x=WR (a c) c.fuel tm H x)∧(∀(i:Nat) (tm:TM) (H:Zc) (x:X),QJ i (.ok .normal tm H x)=.ok .normal tm H x)∧(∀(i:Nat) (tm:TM) (H:Zc) (x:X),QJ i (.ok (.exit i) tm H x)=.ok .normal tm H x)∧(∀(i:Nat) (tm:TM) (H:Zc) (x:X),QJ i (.ok .ret tm H x)=.ok .ret tm H x)∧(∀(tm:TM) (v:AV),d0 tm v=tm)∧(∀(v:AV) (tm:TM),k v tm=v)∧(∀(tm:TM),evs tm []=[])∧(∀(tm:TM) (f:Yc) (l:List Yc),evs tm (f::l)=f tm::evs tm l)∧(∀(x:Yc) (tm:TM) (H:Zc),Z6 x tm H=.val (x tm) H)∧(∀(x:Yc) (tm:TM) (H:Zc),jh x tm H=uy (x tm) H)∧(∀(x:Yc) (k:IntKind) (tm:TM) (H:Zc),UD x k tm H=MW k (x tm) H)∧(∀(x y:Yc) (tm:TM) (H:Zc),YT x y tm H=yT (x tm) (y tm) H)∧(∀(x y:Yc) (tm:TM) (H:Zc),V5 x y tm H=Az (x tm) (y tm) H)∧(∀(x y:Yc) (tm:TM) (H:Zc),M1 x y tm H=dY (x tm) (y tm) H)∧(∀(x y:Yc) (tm:TM) (H:Zc),If x y tm H=jP (x tm) (y tm) H)∧(∀(x y:Yc) (tm:TM) (H:Zc),Jr x y tm H=jW (x tm) (y tm) H)∧(∀(x y:Yc) (f:Nat->Nat->Nat->Nat) (tm:TM) (H:Zc),Wv x y f tm H=Nq f (x tm) (y tm) H)∧(∀(x y:Yc) (tm:TM) (H:Zc),Oe x y tm H=E5 (x tm) (y tm) H)∧(∀(x y:Yc) (tm:TM) (H:Zc),CT x y tm H=pH (x tm) (y tm) H)∧(∀(x:Yc) (tm:TM) (H:Zc),cH x tm H=ZeF (x tm) H)∧(∀(x y:Yc) (f:Int->Int->Bool) (g:List UInt8->List UInt8->Bool) (tm:TM) (H:Zc),YP x y f g tm H=P6 f g (x tm) (y tm) H)∧(∀(x y:Yc) (f:AV->AV->Option Bool) (neg:Bool) (tm:TM) (H:Zc),Vd x y f neg tm H=LV f neg (x tm) (y tm) H)∧(∀(x:Yc) (tm:TM) (H:Zc),OB x tm H=ZcB (x tm) H)∧(∀(x y z:Yc) (tm:TM) (H:Zc),YU x y z tm H=z9 (x tm) (y tm) (z tm) H)∧(∀(f:Nat) (args:List Yc) (tm:TM) (H:Zc),Zy f args tm H=.oth (.call f (evs tm args) H))∧(∀(yes no:X6),UT (.bool true) true yes no=yes)∧(∀(yes no:X6),UT (.bool false) true yes no=no)∧(∀(yes no:X6),UT (.bool false) false yes no=yes)∧(∀(yes no:X6),UT (.bool true) false yes no=no)∧(∀(g:Yc) (b:Bool) (f:W2) (dst:ZP) (next:D) (c:Ctx) (tm:TM) (H:Zc) (x:X),Z8 g b f dst next c tm H x=UT (g tm) b (Pf (next c) dst c tm H x (f tm H)) (next c (dst tm YS) H x))∧(∀(n:Nat) (l:List AV),Xt n (.agg l)=Ob n l)∧(∀(n:Nat),Xt n YS=true)∧(∀(n:Nat) (s:List UInt8),Xt n (.str s)=true)∧(∀(n:Nat) (k:IntKind) (m:Nat),Xt n (nI k m)=true)∧(∀(n:Nat) (x:UInt32),Xt n (Io x)=true)∧(∀(n:Nat) (x:UInt8),Xt n (UZ x)=true)∧(∀(n:Nat) (x:Bool),Xt n (.bool x)=true)∧(∀(sz:Nat) (x:Yc) (lo hi:Option Yc) (tm:TM) (H:Zc),Kz sz x lo hi none tm H=Fw sz (x tm) (lo.map λf=>f tm) (hi.map λf=>f tm) H)∧(∀(mx:Bool) (args:List Yc) (tm:TM) (H:Zc),M0 mx args tm H=ZgB mx (evs tm args) H)∧(∀(zs:List AV) (ps:List yO) (tm:TM) (H:Zc),W9 zs ps tm H=LP zs (ps.map λp=>(p.off,p.sz,p.x tm)) H)∧(∀(e sz n:Nat) (zs:List AV) (ps:List yO) (tm:TM) (H:Zc),Sp e sz n zs ps tm H=Py e sz n zs (ps.map λp=>(p.off,p.sz,p.x tm)) H)∧(∀(x y:Yc) (e sz bytes:Nat) (tm:TM) (H:Zc),TT x y e sz bytes tm H=Uw e sz bytes (x tm) (y tm) H)∧(∀(x y:Yc) (sz:Nat) (tm:TM) (H:Zc),uF x y sz tm H=oD sz (x tm) (y tm) H)∧(∀(n sz:Nat) (x:Yc) (lo hi:Option Yc) (tm:TM) (H:Zc),Fh n sz x lo hi none tm H=wC n sz (x tm) (lo.map λf=>f tm) (hi.map λf=>f tm) H)∧(∀(x:Yc) (tm:TM) (H:Zc),Ub x tm H=zL (x tm) H)∧(∀(x y:Yc) (tm:TM) (H:Zc),YA x y tm H=MV (x tm) (y tm) H)∧(∀(x:Yc) (lo hi:Option Yc) (tm:TM) (H:Zc),Vu x lo hi none tm H=M8 (x tm) (lo.map λf=>f tm) (hi.map λf=>f tm) H)∧(∀(x:Yc) (i:Nat) (tm:TM) (H:Zc),WS x i tm H=FX i (x tm) H)∧(∀(b c:AV) (H:Zc),z9 (.bool true) b c H=.val b H)∧(∀(b c:AV) (H:Zc),z9 (.bool false) b c H=.val c H)∧(∀(b:Bool) (H:Zc),ZcB (.bool b) H=.val (.bool (cond b false true)) H)∧(∀(x:Yc) (tm:TM) (H:Zc),ZE x tm H=Fa (x tm) H)∧(∀(x:Yc) (n:Nat) (tm:TM) (H:Zc),Ww x n tm H=zN n (x tm) H)∧(∀(x y:Yc) (n:Nat) (tm:TM) (H:Zc),Yi x y n tm H=BG n (x tm) (y tm) H)∧(∀(x:Yc) (n:Nat) (tm:TM) (H:Zc),YB x n tm H=ZcQ n (x tm) H)∧(∀(x y:Yc) (n sz:Nat) (tm:TM) (H:Zc),JJ x y n sz tm H=zy n sz (x tm) (y tm) H)∧(∀(x y:Yc) (sz:Nat) (tm:TM) (H:Zc),Wg x y sz tm H=Ha sz (x tm) (y tm) H)∧(∀(x:Yc) (tm:TM) (H:Zc),XA x tm H=Zcy (x tm) H)∧(∀(x:Yc) (tm:TM) (H:Zc),WY x tm H=QK (x tm) H)∧(∀(e n:Nat) (v:AV) (tm:TM) (H:Zc),Du e n v tm H=.val (.ptr H.nx 0) (H.new (.row ⟨e,1,n,.leaf,v,0,false,true,true⟩)))∧(∀(x:Yc) (e:Nat) (tm:TM) (H:Zc),RN x e tm H=sQ e (x tm) H)∧(∀(e:Nat) (c:AV) (cs:List AV) (tm:TM) (H:Zc),XV e (c::cs) tm H=.val (.ptr H.nx 0) (H.new (rG e 1 (c::cs) 0 false true true)))∧(∀(n b o:Nat) (H:Zc),ZcQ n (.ptr b o) H=.val (.ptr b (o+n)) H)∧(∀(b o:Nat) (H:Zc),Zcy (.ptr b o) H=.val (.ptr b o) H)∧(∀(b o n:Nat) (c:Option Nat) (H:Zc),QK (.slice b o n c) H=.val (nI .i64 n) H)∧(∀(H:Zc),QK .nils H=.val (nI .i64 0) H)∧(∀(H:Zc) (b:Nat) (o:Obj),(H.put b o).nx=H.nx)∧(∀(H:Zc) (b:Nat) (o:Obj),(H.put b o).ro=H.ro)∧(∀(H:Zc) (o:Obj),(H.new o).nx=H.nx+1)∧(∀(H:Zc) (o:Obj),(H.new o).ro=H.ro)∧(∀(H:Zc) (b:Nat) (o:Obj),(H.put b o).t.get b=some o)∧(∀(H:Zc) (b:Nat) (o o':Obj),(H.put b o).put b o'=H.put b o')∧(∀(H:Zc) (e sz:Nat) (l:List AV) (ex:Bool),H.newRow e sz l ex=H.new (rG e sz l 0 false true ex))∧(∀(b o:Nat) (H:Zc),Fa (.ptr b o) H=ld1 (H.t.get b) o H)∧(∀(n b o:Nat) (H:Zc),zN n (.ptr b o) H=ldN n (H.t.get b) o H)∧(∀(n b o:Nat) (v:AV) (H:Zc),BG n (.ptr b o) v H=FG n (H.t.get b) b o v H)∧(∀(b:Bool),(AV.bool b).cells=[.bool b])∧(∀(k:IntKind) (n:Int),(AV.int k n).cells=[.int k n])∧(∀(k:IntKind) (n:Nat),(nI k n).cells=[nI k n])∧(∀(x:UInt8),(UZ x).cells=[UZ x])∧(∀(s:List UInt8),(AV.str s).cells=[.str s])∧(AV.nilp.cells=[.nilp])∧(∀(b o:Nat),(AV.ptr b o).cells=[.ptr b o])∧(AV.nils.cells=[.nils])∧(∀(b o n:Nat) (c:Option Nat),(AV.slice b o n c).cells=[.slice b o n c])∧(∀(b:Nat),(AV.map b).cells=[.map b])∧(∀(f:Nat) (a b:List AV),(AV.func f a b).cells=[.func f a b])∧(∀(t:Nat) (v:AV),(AV.iface t v).cells=[.iface t v])∧(AV.nili.cells=[.nili])∧(∀(l:List AV),(AV.agg l).cells=l)∧(∀(l:List PI) (c:Ctx) (tm:TM) (H:Zc) (x:X),XL l c tm H x=VL (l.map (·.dst)) Kv l c [] tm H x)∧(∀(ds:List ZP) (fin:PK) (c:Ctx) (rs:List RD) (tm:TM) (H:Zc) (x:X),VL ds fin [] c rs tm H x=cond (still tm H rs) (fin rs tm H x) .fail)∧(∀(ds:List ZP) (fin:PK) (p:PI) (l:List PI) (c:Ctx) (rs:List RD) (tm:TM) (H:Zc) (x:X),VL ds fin (p::l) c rs tm H x=SC ds p (VL ds fin l c) c rs tm H x)∧(∀(rs:List RD) (tm:TM) (H:Zc) (x:X),Kv rs tm H x=.ok .normal tm H x)∧(∀(ds:List ZP) (f:W2) (os:List (ZP×Yc)) (dst:ZP) (i bef:Nat) (nx:PK) (c:Ctx) (rs:List RD) (tm:TM) (H:Zc) (x:X),SC ds ⟨f,none,os,dst,.free,i,bef⟩ nx c rs tm H x=cond (RB H.nx tm os) (LW ⟨f,none,os,dst,.free,i,bef⟩ nx rs tm H x (f (RP tm os) ⟨H.nx,.leaf,H.nx⟩)) .fail)∧(∀(ds:List ZP) (f:W2) (os:List (ZP×Yc)) (dst:ZP) (i bef:Nat) (nx:PK) (c:Ctx) (rs:List RD) (tm:TM) (H:Zc) (x:X),SC ds ⟨f,none,os,dst,.read,i,bef⟩ nx c rs tm H x=HJ ⟨f,none,os,dst,.read,i,bef⟩ nx rs tm H x (f (RP tm os) ⟨H.nx,H.t,H.nx⟩))∧(∀(ds:List ZP) (f:W2) (os:List (ZP×Yc)) (dst:ZP) (i bef:Nat) (nx:PK) (c:Ctx) (rs:List RD) (tm:TM) (H:Zc) (x:X),SC ds ⟨f,none,os,dst,.eff,i,bef⟩ nx c rs tm H x=cond (still tm H rs) (IN ds ⟨f,none,os,dst,.eff,i,bef⟩ nx rs c tm x (f (RP tm os) H)) .fail)∧(∀(ds:List ZP) (f:W2) (e:Yc) (b:Bool) (os:List (ZP×Yc)) (dst:ZP) (i bef:Nat) (nx:PK) (c:Ctx) (rs:List RD) (tm:TM) (H:Zc) (x:X),SC ds ⟨f,some (e,b),os,dst,.free,i,bef⟩ nx c rs tm H x=UT (e tm) b (cond (RB H.nx tm os) (LW ⟨f,some (e,b),os,dst,.free,i,bef⟩ nx rs tm H x (f (RP tm os) ⟨H.nx,.leaf,H.nx⟩)) .fail) (nx rs (dst tm YS) H x))∧(∀(ds:List ZP) (f:W2) (e:Yc) (b:Bool) (os:List (ZP×Yc)) (dst:ZP) (i bef:Nat) (nx:PK) (c:Ctx) (rs:List RD) (tm:TM) (H:Zc) (x:X),SC ds ⟨f,some (e,b),os,dst,.read,i,bef⟩ nx c rs tm H x=UT (e tm) b (HJ ⟨f,some (e,b),os,dst,.read,i,bef⟩ nx rs tm H x (f (RP tm os) ⟨H.nx,H.t,H.nx⟩)) (nx rs (dst tm YS) H x))∧(∀(ds:List ZP) (f:W2) (e:Yc) (b:Bool) (os:List (ZP×Yc)) (dst:ZP) (i bef:Nat) (nx:PK) (c:Ctx) (rs:List RD) (tm:TM) (H:Zc) (x:X),SC ds ⟨f,some (e,b),os,dst,.eff,i,bef⟩ nx c rs tm H x=cond (still tm H rs) (UT (e tm) b (IN ds ⟨f,some (e,b),os,dst,.eff,i,bef⟩ nx rs c tm x (f (RP tm os) H)) (nx (Uq bef rs) (dst tm YS) H x)) .fail)∧(∀(ds:List ZP) (f:W2) (os:List (ZP×Yc)) (dst:ZP) (i bef:Nat) (nx:PK) (c:Ctx) (rs:List RD) (tm:TM) (x:X) (g:Option (Yc×Bool)) (kd:JR) (v:AV) (H':Zc),IN ds ⟨f,g,os,dst,kd,i,bef⟩ nx rs c tm x (.val v H')=nx (Uq bef rs) (dst tm v) H' x)∧(∀(ds:List ZP) (f:W2) (os:List (ZP×Yc)) (dst:ZP) (i bef:Nat) (nx:PK) (c:Ctx) (rs:List RD) (tm:TM) (x:X) (g:Option (Yc×Bool)) (kd:JR) (H':Zc) (q:Nat) (args:List AV),IN ds ⟨f,g,os,dst,kd,i,bef⟩ nx rs c tm x (.oth (.call q args H'))=C8 ds ⟨f,g,os,dst,kd,i,bef⟩ nx rs tm x (c.call q args H'))∧(∀(ds:List ZP) (f:W2) (os:List (ZP×Yc)) (dst:ZP) (i bef:Nat) (nx:PK) (rs:List RD) (tm:TM) (x:X) (g:Option (Yc×Bool)) (kd:JR) (v:AV) (H':Zc),C8 ds ⟨f,g,os,dst,kd,i,bef⟩ nx rs tm x (.ret v H')=nx (Uq bef rs) (dst tm v) H' x)∧(∀(b:Nat),Uq b []=[])∧(∀(f:W2) (os:List (ZP×Yc)) (dst:ZP) (i bef:Nat) (rs:List RD) (g:Option (Yc×Bool)) (kd:JR) (v:AV) (b:Nat),Uq b (⟨⟨f,g,os,dst,kd,i,bef⟩,v⟩::rs)=cond (Nat.testBit b i) (Uq b rs) (⟨⟨f,g,os,dst,kd,i,bef⟩,v⟩::Uq b rs))∧(∀(tm:TM) (H:Zc),still tm H []=true)∧(∀(f:W2) (os:List (ZP×Yc)) (dst:ZP) (i bef:Nat) (rs:List RD) (tm:TM) (H:Zc) (g:Option (Yc×Bool)) (kd:JR) (v:AV),still tm H (⟨⟨f,g,os,dst,kd,i,bef⟩,v⟩::rs)=cond (uZ ⟨⟨f,g,os,dst,kd,i,bef⟩,v⟩ tm H) (still tm H rs) false)∧(∀(f:W2) (os:List (ZP×Yc)) (dst:ZP) (i bef:Nat) (tm:TM) (H:Zc) (g:Option (Yc×Bool)) (kd:JR) (v:AV),uZ ⟨⟨f,g,os,dst,kd,i,bef⟩,v⟩ tm H=VP (f (RP tm os) ⟨H.nx,H.t,H.nx⟩) v H.nx)∧(∀(v:UInt32) (n:Nat) (t:T Obj),VP (.val (Io v) ⟨n,t,n⟩) (Io v) n=true)∧(∀(v:UInt8) (n:Nat) (t:T Obj),VP (.val (UZ v) ⟨n,t,n⟩) (UZ v) n=true)∧(∀(k:IntKind) (v:Nat) (n:Nat) (t:T Obj),VP (.val (nI k v) ⟨n,t,n⟩) (nI k v) n=true)∧(∀(s:List UInt8) (n:Nat) (t:T Obj),VP (.val (.str s) ⟨n,t,n⟩) (.str s) n=true)∧(∀(n:Nat) (t:T Obj),VP (.val .nils ⟨n,t,n⟩) .nils n=true)∧(∀(b o n:Nat) (c:Option Nat) (k:Nat) (t:T Obj),VP (.val (.slice b o n c) ⟨k,t,k⟩) (.slice b o n c) k=true)∧(∀(n:Nat) (tm:TM),RB n tm []=true)∧(∀(n:Nat) (tm:TM) (s:ZP) (g:Yc) (os:List (ZP×Yc)),RB n tm ((s,g)::os)=cond (Xt n (g tm)) (RB n tm os) false)∧(∀(tm:TM),RP tm []=Lb)∧(∀(tm:TM) (s:ZP) (g:Yc) (os:List (ZP×Yc)),RP tm ((s,g)::os)=s (RP tm os) (g tm))∧(∀(a:AV) (l:List AV) (H:Zc),FX 0 (.tup (a::l)) H=.val a H)∧(∀(a b:AV) (l:List AV) (H:Zc),FX 1 (.tup (a::b::l)) H=.val b H)∧(∀(a b c:AV) (l:List AV) (H:Zc),FX 2 (.tup (a::b::c::l)) H=.val c H)∧(∀(dc:Option AV->Nat->List AV->Zc->DR) (rs:List (Yc×Option (Nat×Bool))) (tm:TM) (H:Zc) (rc:Option AV),Mh dc rs (.ok .ret tm H ⟨[],rc⟩)=results rs tm H)∧(∀(dc:Option AV->Nat->List AV->Zc->DR) (rs:List (Yc×Option (Nat×Bool))) (tm:TM) (H:Zc) (rc:Option AV),Mh dc rs (.ok .normal tm H ⟨[],rc⟩)=results rs tm H)∧(∀(f:Yc) (tm:TM) (H:Zc),results [(f,none)] tm H=.ret (f tm) H)∧(∀(tm:TM) (H:Zc),results [] tm H=.ret (.tup []) H)∧(∀(a b:UInt32) (H:Zc),yT (Io a) (Io b) H=.val (Io (a+b)) H)∧(TX []=Lb)∧(∀(a:AV),TX [a]=WZ Lb a)∧(∀(a b:AV),TX [a,b]=st1 (WZ Lb a) b)∧(∀(a b c:AV),TX [a,b,c]=st2 (st1 (WZ Lb a) b) c)∧(∀(a b c d:AV),TX [a,b,c,d]=Tl (st2 (st1 (WZ Lb a) b) c) d)∧(∀(a b:List UInt8) (H:Zc),LV Lt false (.str a) (.str b) H=.val (.bool (decide (a=b))) H)∧(∀(a b:List UInt8) (H:Zc),LV Lt true (.str a) (.str b) H=.val (.bool (!decide (a=b))) H)∧(∀(a b:Bool) (H:Zc),LV oG false (.bool a) (.bool b) H=.val (.bool (decide (a=b))) H)∧(∀(k:IntKind) (a b:Nat) (H:Zc),P6 XY YD (nI k a) (nI k b) H=.val (.bool (decide (a<b))) H)∧(∀(k:IntKind) (a b:Nat) (H:Zc),P6 T3 Vs (nI k a) (nI k b) H=.val (.bool (decide (b<=a))) H)∧(∀(k:IntKind) (a b:Nat) (H:Zc),P6 OA SX (nI k a) (nI k b) H=.val (.bool (decide (b<a))) H)∧(∀(k:IntKind) (a b:Nat) (H:Zc),P6 Nm RG (nI k a) (nI k b) H=.val (.bool (decide (a<=b))) H)∧(∀(k:IntKind) (a b:Nat) (H:Zc),LV VN false (nI k a) (nI k b) H=.val (.bool (decide (a=b))) H)∧(∀(k:IntKind) (a b:Nat) (H:Zc),LV VN true (nI k a) (nI k b) H=.val (.bool (decide (a≠b))) H)∧(∀(s:List UInt8) (H:Zc),zL (.str s) H=.val (nI .i64 s.length) H)∧(∀(x:Yc) (tm:TM) (H:Zc),zX x tm H=bu (x tm) H)∧(∀(x:Yc) (u n:Nat) (tm:TM) (H:Zc),zU x u n tm H=br u n (x tm) H)∧(∀(x:Yc) (tm:TM) (H:Zc),Dw x tm H=DH (x tm) H)∧(∀(x y:Yc) (e:Nat) (tm:TM) (H:Zc),uM x y e tm H=so e (x tm) (y tm) H):=⟨@am, @fY, @lC, @CZ, @ak, @UY, @iA, @p8, @kN, @bQ, @mY, @mU, @lZ, @sY, @vD, @sP, @ky, @Ao, @TF, @ql, @Zfw, @Zku, @Zbr, @fK, @ZcK, @cu, @cr, @kS, @cG, @ct, @cC, @cD, @kU, @cE, @cF, @jm, @cn, @ZcG, @cA, @jl, @qF, @lK, @lI, @lH, @lJ, @al, @dP, @qs, @CL, @Zcr, @dS, @Zcs, @kE, @qJ, @uI, @qE, @Er, @Ny, @kX, @qH, @jf, @uH, @qI, @kZ, @Zc7, @Zc6, @Kx, @qG, @jg, @qK, @cB, @ja, @jc, @cw, @je, @uB, @ZcE, @uC, @cM, @cd, @Vl, @O3, @Of, @NU, @WJ, @qy, @ZS, @Hx, @Uy, @zM, @dL, @iq, @DZ, @AL, @vz, @AP, @AO, @D2, @AN, @D3, @FS, @AM, @D0, @FR, @D1, @AK, @s8, @jN, @pd, @kO, @pR, @pS, @il, @tV, @tW, @pQ, @fw, @mW, @bS, @kg, @qf, @ip, @pT, @bM, @qa, @kc, @zF, @r9, @Qn, @UU, @kD, @qq, @Zdj, @bZ, @Zbs, @Zbt, @Zbu, @bp, @uR, @tg, @wt, @ZaE, @ZaK, @ZaL, @ZaM, @ZaN, @ZaO, @GH, @GI, @Zbo, @ZO, @Yu, @YK, @WG, @Z2, @Vi, @Yv, @zY, @zW, @KA, @Fi⟩
theorem ZX:(∀{α:Type} (f:α->α) (n:N8 α),N8.a0 (N8.u0 f n)=f (N8.a0 n))∧(∀{α:Type} (f:α->α) (n:N8 α),N8.a0 (N8.u1 f n)=N8.a0 n)∧(∀{α:Type} (f:α->α) (n:N8 α),N8.a0 (N8.u2 f n)=N8.a0 n)∧(∀{α:Type} (f:α->α) (n:N8 α),N8.a0 (N8.u3 f n)=N8.a0 n)∧(∀{α:Type} (f:α->α) (n:N8 α),N8.a0 (N8.u4 f n)=N8.a0 n)∧(∀{α:Type} (f:α->α) (n:N8 α),N8.a0 (N8.u5 f n)=N8.a0 n)∧(∀{α:Type} (f:α->α) (n:N8 α),N8.a0 (N8.u6 f n)=N8.a0 n)∧(∀{α:Type} (f:α->α) (n:N8 α),N8.a0 (N8.u7 f n)=N8.a0 n)∧(∀{α:Type} (f:α->α) (n:N8 α),N8.a1 (N8.u0 f n)=N8.a1 n)∧(∀{α:Type} (f:α->α) (n:N8 α),N8.a1 (N8.u1 f n)=f (N8.a1 n))∧(∀{α:Type} (f:α->α) (n:N8 α),N8.a1 (N8.u2 f n)=N8.a1 n)∧(∀{α:Type} (f:α->α) (n:N8 α),N8.a1 (N8.u3 f n)=N8.a1 n)∧(∀{α:Type} (f:α->α) (n:N8 α),N8.a1 (N8.u4 f n)=N8.a1 n)∧(∀{α:Type} (f:α->α) (n:N8 α),N8.a1 (N8.u5 f n)=N8.a1 n)∧(∀{α:Type} (f:α->α) (n:N8 α),N8.a1 (N8.u6 f n)=N8.a1 n)∧(∀{α:Type} (f:α->α) (n:N8 α),N8.a1 (N8.u7 f n)=N8.a1 n)∧(∀{α:Type} (f:α->α) (n:N8 α),N8.a2 (N8.u0 f n)=N8.a2 n)∧(∀{α:Type} (f:α->α) (n:N8 α),N8.a2 (N8.u1 f n)=N8.a2 n)∧(∀{α:Type} (f:α->α) (n:N8 α),N8.a2 (N8.u2 f n)=f (N8.a2 n))∧(∀{α:Type} (f:α->α) (n:N8 α),N8.a2 (N8.u3 f n)=N8.a2 n)∧(∀{α:Type} (f:α->α) (n:N8 α),N8.a2 (N8.u4 f n)=N8.a2 n)∧(∀{α:Type} (f:α->α) (n:N8 α),N8.a2 (N8.u5 f n)=N8.a2 n)∧(∀{α:Type} (f:α->α) (n:N8 α),N8.a2 (N8.u6 f n)=N8.a2 n)∧(∀{α:Type} (f:α->α) (n:N8 α),N8.a2 (N8.u7 f n)=N8.a2 n)∧(∀{α:Type} (f:α->α) (n:N8 α),N8.a3 (N8.u0 f n)=N8.a3 n)∧(∀{α:Type} (f:α->α) (n:N8 α),N8.a3 (N8.u1 f n)=N8.a3 n)∧(∀{α:Type} (f:α->α) (n:N8 α),N8.a3 (N8.u2 f n)=N8.a3 n)∧(∀{α:Type} (f:α->α) (n:N8 α),N8.a3 (N8.u3 f n)=f (N8.a3 n))∧(∀{α:Type} (f:α->α) (n:N8 α),N8.a3 (N8.u4 f n)=N8.a3 n)∧(∀{α:Type} (f:α->α) (n:N8 α),N8.a3 (N8.u5 f n)=N8.a3 n)∧(∀{α:Type} (f:α->α) (n:N8 α),N8.a3 (N8.u6 f n)=N8.a3 n)∧(∀{α:Type} (f:α->α) (n:N8 α),N8.a3 (N8.u7 f n)=N8.a3 n)∧(∀{α:Type} (f:α->α) (n:N8 α),N8.a4 (N8.u0 f n)=N8.a4 n)∧(∀{α:Type} (f:α->α) (n:N8 α),N8.a4 (N8.u1 f n)=N8.a4 n)∧(∀{α:Type} (f:α->α) (n:N8 α),N8.a4 (N8.u2 f n)=N8.a4 n)∧(∀{α:Type} (f:α->α) (n:N8 α),N8.a4 (N8.u3 f n)=N8.a4 n)∧(∀{α:Type} (f:α->α) (n:N8 α),N8.a4 (N8.u4 f n)=f (N8.a4 n))∧(∀{α:Type} (f:α->α) (n:N8 α),N8.a4 (N8.u5 f n)=N8.a4 n)∧(∀{α:Type} (f:α->α) (n:N8 α),N8.a4 (N8.u6 f n)=N8.a4 n)∧(∀{α:Type} (f:α->α) (n:N8 α),N8.a4 (N8.u7 f n)=N8.a4 n)∧(∀{α:Type} (f:α->α) (n:N8 α),N8.a5 (N8.u0 f n)=N8.a5 n)∧(∀{α:Type} (f:α->α) (n:N8 α),N8.a5 (N8.u1 f n)=N8.a5 n)∧(∀{α:Type} (f:α->α) (n:N8 α),N8.a5 (N8.u2 f n)=N8.a5 n)∧(∀{α:Type} (f:α->α) (n:N8 α),N8.a5 (N8.u3 f n)=N8.a5 n)∧(∀{α:Type} (f:α->α) (n:N8 α),N8.a5 (N8.u4 f n)=N8.a5 n)∧(∀{α:Type} (f:α->α) (n:N8 α),N8.a5 (N8.u5 f n)=f (N8.a5 n))∧(∀{α:Type} (f:α->α) (n:N8 α),N8.a5 (N8.u6 f n)=N8.a5 n)∧(∀{α:Type} (f:α->α) (n:N8 α),N8.a5 (N8.u7 f n)=N8.a5 n)∧(∀{α:Type} (f:α->α) (n:N8 α),N8.a6 (N8.u0 f n)=N8.a6 n)∧(∀{α:Type} (f:α->α) (n:N8 α),N8.a6 (N8.u1 f n)=N8.a6 n)∧(∀{α:Type} (f:α->α) (n:N8 α),N8.a6 (N8.u2 f n)=N8.a6 n)∧(∀{α:Type} (f:α->α) (n:N8 α),N8.a6 (N8.u3 f n)=N8.a6 n)∧(∀{α:Type} (f:α->α) (n:N8 α),N8.a6 (N8.u4 f n)=N8.a6 n)∧(∀{α:Type} (f:α->α) (n:N8 α),N8.a6 (N8.u5 f n)=N8.a6 n)∧(∀{α:Type} (f:α->α) (n:N8 α),N8.a6 (N8.u6 f n)=f (N8.a6 n))∧(∀{α:Type} (f:α->α) (n:N8 α),N8.a6 (N8.u7 f n)=N8.a6 n)∧(∀{α:Type} (f:α->α) (n:N8 α),N8.a7 (N8.u0 f n)=N8.a7 n)∧(∀{α:Type} (f:α->α) (n:N8 α),N8.a7 (N8.u1 f n)=N8.a7 n)∧(∀{α:Type} (f:α->α) (n:N8 α),N8.a7 (N8.u2 f n)=N8.a7 n)∧(∀{α:Type} (f:α->α) (n:N8 α),N8.a7 (N8.u3 f n)=N8.a7 n)∧(∀{α:Type} (f:α->α) (n:N8 α),N8.a7 (N8.u4 f n)=N8.a7 n)∧(∀{α:Type} (f:α->α) (n:N8 α),N8.a7 (N8.u5 f n)=N8.a7 n)∧(∀{α:Type} (f:α->α) (n:N8 α),N8.a7 (N8.u6 f n)=N8.a7 n)∧(∀{α:Type} (f:α->α) (n:N8 α),N8.a7 (N8.u7 f n)=f (N8.a7 n)):=⟨@N8.g00, @N8.g01, @N8.g02, @N8.g03, @N8.g04, @N8.g05, @N8.g06, @N8.g07, @N8.g10, @N8.g11, @N8.g12, @N8.g13, @N8.g14, @N8.g15, @N8.g16, @N8.g17, @N8.g20, @N8.g21, @N8.g22, @N8.g23, @N8.g24, @N8.g25, @N8.g26, @N8.g27, @N8.g30, @N8.g31, @N8.g32, @N8.g33, @N8.g34, @N8.g35, @N8.g36, @N8.g37, @N8.g40, @N8.g41, @N8.g42, @N8.g43, @N8.g44, @N8.g45, @N8.g46, @N8.g47, @N8.g50, @N8.g51, @N8.g52, @N8.g53, @N8.g54, @N8.g55, @N8.g56, @N8.g57, @N8.g60, @N8.g61, @N8.g62, @N8.g63, @N8.g64, @N8.g65, @N8.g66, @N8.g67, @N8.g70, @N8.g71, @N8.g72, @N8.g73, @N8.g74, @N8.g75, @N8.g76, @N8.g77⟩
theorem KS{n:Nat}(h:n<2147483648):IntKind.i32.wrap (.ofNat n)=.ofNat n:=by
 rw[<-P1]
 show cond (Nat.ble 2147483648 n) _ (Int.ofNat n)=_
 cases h2:Nat.ble 2147483648 n with
 |true=>have:=ZN h2;omega
 |false=>rfl
theorem TE{j:IntKind}{a:Nat}(h:a<9223372036854775808)(H:Zc):MW .i64 (nI j a) H=.val (nI .i64 a) H:=by
 show Vm .i64 (.ofNat a) H=_
 rw[YY,Mu h];rfl
theorem ia{j:IntKind}{a b:Nat}(h:b<64)(H:Zc):pH (nI .i64 a) (nI j b) H=.val (nI .i64 (a/2^b)) H:=by
 show QB (.ofNat (Nat.div a (Nat.pow 2 (Me b 64)))) (λn=>OR.val (.int .i64 n) H)=_
 have:Me b 64=b:=by unfold Me;rw[Zg (by omega)];rfl
 rw[Rt,this];rfl
theorem sa{a b:Nat}(h:b<=a)(h2:a<18446744073709551616)(H:Zc):Az (nI .u64 a) (nI .u64 b) H=.val (nI .u64 (a - b)) H:=by
 show ZL (Qd .u64 .u64) (Vm .u64 (Km (.ofNat a) (.ofNat b)) H)=_
 rw[Y4,YY,Hb h,R5,ZV (by omega)];rfl
theorem ux{a b:Nat}(h:a*b<18446744073709551616)(H:Zc):dY (nI .u64 a) (nI .u64 b) H=.val (nI .u64 (a*b)) H:=by
 show ZL (Qd .u64 .u64) (Vm .u64 (Kk (.ofNat a) (.ofNat b)) H)=_
 rw[Y4,YY,Kl,R5,ZV h];rfl
theorem bz{a b:Nat}(h:0<b)(h2:a<18446744073709551616)(H:Zc):jP (nI .u64 a) (nI .u64 b) H=.val (nI .u64 (a/b)) H:=by
 show ZL (Qd .u64 .u64) (cond (G5 (.ofNat b) (.ofNat 0)) .fail (Vm .u64 (.ofNat (Nat.div a b)) H))=_
 rw[Y4,PC,Za (by omega),YY,show(Int.ofNat (Nat.div a b))=Int.ofNat (a/b) from rfl,R5,ZV (VJ (S4 a b) h2)];rfl
theorem bO{a b:Nat}(h:0<b)(H:Zc):jW (nI .u64 a) (nI .u64 b) H=.val (nI .u64 (a % b)) H:=by
 show ZL (Qd .u64 .u64) (cond (G5 (.ofNat b) (.ofNat 0)) .fail (QB (.ofNat (Nat.mod a b)) λn=>.val (.int .u64 n) H))=_
 rw[Y4,PC,Za (by omega),Rt];rfl
theorem SA{j:IntKind}{a:Nat}(h:a<18446744073709551616)(H:Zc):MW .u64 (nI j a) H=.val (nI .u64 a) H:=by
 show Vm .u64 (.ofNat a) H=_
 rw[YY,R5,ZV h];rfl
theorem Pr{j:IntKind}{a b:Nat}(h:b<64)(H:Zc):pH (nI .u64 a) (nI j b) H=.val (nI .u64 (a/2^b)) H:=by
 show QB (.ofNat (Nat.div a (Nat.pow 2 (Me b 64)))) (λn=>OR.val (.int .u64 n) H)=_
 have:Me b 64=b:=by unfold Me;rw[Zg (by omega)];rfl
 rw[Rt,this];rfl
theorem SK{j:IntKind}{a b:Nat}(h:b<=64)(H:Zc):E5 (nI .u64 a) (nI j b) H=.val (nI .u64 (a*2^b % 18446744073709551616)) H:=by
 show Vm .u64 (Kk (.ofNat a) (.ofNat (Nat.pow 2 (cond (Nat.ble b 64) b 64)))) H=_
 rw[YY,Kl,R5,Zg h];rfl
theorem U7{a b:Nat}(h:a+b<4294967296)(H:Zc):yT (nI .u32 a) (nI .u32 b) H=.val (nI .u32 (a+b)) H:=by
 show ZL (Qd .u32 .u32) (Vm .u32 (xB (.ofNat a) (.ofNat b)) H)=_
 rw[Y4,YY,Ki,KT,ZV h];rfl
theorem O5{a b:Nat}(h:a*b<4294967296)(H:Zc):dY (nI .u32 a) (nI .u32 b) H=.val (nI .u32 (a*b)) H:=by
 show ZL (Qd .u32 .u32) (Vm .u32 (Kk (.ofNat a) (.ofNat b)) H)=_
 rw[Y4,YY,Kl,KT,ZV h];rfl
theorem Na{a b:Nat}(h:0<b)(h2:a<4294967296)(H:Zc):jP (nI .u32 a) (nI .u32 b) H=.val (nI .u32 (a/b)) H:=by
 show ZL (Qd .u32 .u32) (cond (G5 (.ofNat b) (.ofNat 0)) .fail (Vm .u32 (.ofNat (Nat.div a b)) H))=_
 rw[Y4,PC,Za (by omega),YY,show(Int.ofNat (Nat.div a b))=Int.ofNat (a/b) from rfl,KT,ZV (VJ (S4 a b) h2)];rfl
theorem Nc{a b:Nat}(h:0<b)(H:Zc):jW (nI .u32 a) (nI .u32 b) H=.val (nI .u32 (a % b)) H:=by
 show ZL (Qd .u32 .u32) (cond (G5 (.ofNat b) (.ofNat 0)) .fail (QB (.ofNat (Nat.mod a b)) λn=>.val (.int .u32 n) H))=_
 rw[Y4,PC,Za (by omega),Rt];rfl
theorem QH{j:IntKind}{a:Nat}(h:a<4294967296)(H:Zc):MW .u32 (nI j a) H=.val (nI .u32 a) H:=by
 show Vm .u32 (.ofNat a) H=_
 rw[YY,KT,ZV h];rfl
theorem wE{a b:Nat}(h:b<=a)(h2:a<256)(H:Zc):Az (nI .u8 a) (nI .u8 b) H=.val (nI .u8 (a - b)) H:=by
 show ZL (Qd .u8 .u8) (Vm .u8 (Km (.ofNat a) (.ofNat b)) H)=_
 rw[Y4,YY,Hb h,OI,ZV (by omega)];rfl
theorem Zda{a b:Nat}(h:0<b)(h2:a<256)(H:Zc):jP (nI .u8 a) (nI .u8 b) H=.val (nI .u8 (a/b)) H:=by
 show ZL (Qd .u8 .u8) (cond (G5 (.ofNat b) (.ofNat 0)) .fail (Vm .u8 (.ofNat (Nat.div a b)) H))=_
 rw[Y4,PC,Za (by omega),YY,show(Int.ofNat (Nat.div a b))=Int.ofNat (a/b) from rfl,OI,ZV (VJ (S4 a b) h2)];rfl
theorem nW{a b:Nat}(h:0<b)(H:Zc):jW (nI .u8 a) (nI .u8 b) H=.val (nI .u8 (a % b)) H:=by
 show ZL (Qd .u8 .u8) (cond (G5 (.ofNat b) (.ofNat 0)) .fail (QB (.ofNat (Nat.mod a b)) λn=>.val (.int .u8 n) H))=_
 rw[Y4,PC,Za (by omega),Rt];rfl
theorem MX{j:IntKind}{a:Nat}(h:a<256)(H:Zc):MW .u8 (nI j a) H=.val (nI .u8 a) H:=by
 show Vm .u8 (.ofNat a) H=_
 rw[YY,OI,ZV h];rfl
theorem aw{j:IntKind}{a b:Nat}(h:b<8)(H:Zc):pH (nI .u8 a) (nI j b) H=.val (nI .u8 (a/2^b)) H:=by
 show QB (.ofNat (Nat.div a (Nat.pow 2 (Me b 8)))) (λn=>OR.val (.int .u8 n) H)=_
 have:Me b 8=b:=by unfold Me;rw[Zg (by omega)];rfl
 rw[Rt,this];rfl
theorem Nx(j:IntKind)(a:Nat)(H:Zc):MW .u8 (nI j a) H=.val (nI .u8 (a % 256)) H:=by
 show Vm .u8 (.ofNat a) H=_
 rw[YY,OI];rfl
theorem gg{a b:Nat}(h:a+b<2147483648)(H:Zc):yT (nI .i32 a) (nI .i32 b) H=.val (nI .i32 (a+b)) H:=by
 show ZL (Qd .i32 .i32) (Vm .i32 (xB (.ofNat a) (.ofNat b)) H)=_
 rw[Y4,YY,Ki,KS h];rfl
theorem aH{a b:Nat}(h:b<=a)(h2:a<2147483648)(H:Zc):Az (nI .i32 a) (nI .i32 b) H=.val (nI .i32 (a - b)) H:=by
 show ZL (Qd .i32 .i32) (Vm .i32 (Km (.ofNat a) (.ofNat b)) H)=_
 rw[Y4,YY,Hb h,KS (by omega)];rfl
theorem ug{j:IntKind}{a:Nat}(h:a<2147483648)(H:Zc):MW .i32 (nI j a) H=.val (nI .i32 a) H:=by
 show Vm .i32 (.ofNat a) H=_
 rw[YY,KS h];rfl
theorem Zcu(k:IntKind)(m b:Nat)(H:Zc):P6 XY YD (.int k (.negSucc m)) (nI k b) H=.val (.bool true) H:=by
 show ZL (Qd k k) (SE true H)=_
 rw[Y4];rfl
theorem Zcm(k:IntKind)(m b:Nat)(H:Zc):P6 Nm RG (nI k b) (.int k (.negSucc m)) H=.val (.bool false) H:=by
 show ZL (Qd k k) (SE (!rT (.negSucc m) (.ofNat b)) H)=_
 rw[Y4];rfl
theorem fH(k:IntKind)(a b:Int)(H:Zc):LV VN false (.int k a) (.int k b) H=.val (.bool (decide (a=b))) H:=by
 show TN (cond (Qd k k) (some (G5 a b)) none) (λb=>SE (cond false (cond b false true) b) H)=_
 rw[Y4,Oa]
 exact Sa _ _
theorem yM(n:Int):IntKind.u64.wrap n=n % 18446744073709551616:=by
 unfold IntKind.wrap
 simp[IntKind.bits,IntKind.signed]
theorem iO{z:Int}(h1: -9223372036854775808<=z)(h2:z<9223372036854775808):IntKind.i64.wrap z=z:=by
 unfold IntKind.wrap
 simp[IntKind.bits,IntKind.signed]
 omega
theorem Mb(k j:IntKind)(n:Int)(H:Zc):MW k (.int j n) H=Vm k n H:=rfl
theorem rW{m:Nat}(h:m<9223372036854775808)(H:Zc):MW .u64 (.int .i64 (.negSucc m)) H=.val (nI .u64 (18446744073709551615 - m)) H:=by
 have e1:IntKind.u64.wrap (.negSucc m)=Int.ofNat (18446744073709551615 - m):=by
  rw[Int.negSucc_eq,yM,Yx]
  omega
 rw[Mb,YY,e1];unfold nI;rfl
theorem cb{u:Nat}(h0:0<u)(h:u<18446744073709551616)(H:Zc):uy (nI .u64 u) H=.val (nI .u64 (18446744073709551616 - u)) H:=by
 show Vm .u64 (Km 0 (.ofNat u)) H=_
 rw[YY]
 congr 2
 have e:Km 0 (.ofNat u)= -(u:Int):=by
  show cond (Nat.ble u 0) (Int.ofNat (Nat.sub 0 u)) (Int.ofNat 0 - Int.ofNat u)=_
  cases hb:Nat.ble u 0 with
  |true=>have:=ZN hb;omega
  |false=>show(0:Int) - u=_;omega
 rw[e,yM,Yx]
 omega
theorem d9{u:Nat}(h0:0<u)(h:u<=9223372036854775808)(H:Zc):uy (nI .i64 u) H=.val (.int .i64 (.negSucc (u - 1))) H:=by
 show Vm .i64 (Km 0 (.ofNat u)) H=_
 rw[YY]
 congr 2
 have e:Km 0 (.ofNat u)= -(u:Int):=by
  show cond (Nat.ble u 0) (Int.ofNat (Nat.sub 0 u)) (Int.ofNat 0 - Int.ofNat u)=_
  cases hb:Nat.ble u 0 with
  |true=>have:=ZN hb;omega
  |false=>show(0:Int) - u=_;omega
 rw[e]
 rw[iO (by omega) (by omega)];omega
theorem xV(H:Zc):uy (nI .i64 0) H=.val (nI .i64 0) H:=rfl
theorem Ps{s:List UInt8}{p q:Nat}(h1:p<=q)(h2:q<=s.length)(k j:IntKind)(H:Zc):M8 (.str s) (some (nI k p)) (some (nI j q)) H=.val (.str ((s.take q).drop p)) H:=by
 show ZL (Nat.ble q (YH s)) (ZL (Nat.ble p q) (OR.val (.str (JB p (Ng q s))) H))=_
 rw[YC,Zg h2,Zg h1,PZ,IL];rfl
theorem XO{s:List UInt8}{p:Nat}(h1:p<=s.length)(k:IntKind)(H:Zc):M8 (.str s) (some (nI k p)) none H=.val (.str (s.drop p)) H:=by
 show ZL (Nat.ble p (YH s)) (OR.val (.str (JB p (Ng (YH s) s))) H)=_
 rw[YC,Zg h1,PZ,IL,U4];rfl
theorem WB{s:List UInt8}{i:Nat}(h:i<s.length)(k:IntKind)(H:Zc):MV (.str s) (nI k i) H=.val (nI .u8 (s.getD i 0).toNat) H:=Ib h k H
section
variable (f:W2) (os:List (ZP×Yc)) (dst:ZP) (i bef:Nat) (nx:PK) (rs:List RD) (tm:TM) (H:Zc) (x:X) (g:Option (Yc×Bool)) (kd:JR) (v:AV)
theorem ZQ{m:Nat}(h:H.nx=m):LW ⟨f,g,os,dst,kd,i,bef⟩ nx rs tm H x (.val v ⟨m,.leaf,m⟩)=nx rs (dst tm v) H x:=by subst h;exact lj ..
theorem Yk{m:Nat}(h:H.nx=m)(t:T Obj)(k:Nat):HJ ⟨f,g,os,dst,kd,i,bef⟩ nx rs tm H x (.val v ⟨m,t,k⟩)=nx (⟨⟨f,g,os,dst,kd,i,bef⟩,v⟩::rs) (dst tm v) H x:=by
 subst h
 show cond (Nat.beq H.nx H.nx) _ _=_
 rw[Yb];rfl
theorem WW{m:Nat}(h:H.nx=m)(o:Obj)(hw:wrO o=true):LW ⟨f,g,os,dst,kd,i,bef⟩ nx rs tm H x (.val v ((⟨m,.leaf,m⟩:Zc).new o))=nx rs (dst tm v) (H.new o) x:=by subst h;exact li _ _ _ _ _ _ _ _ _ _ _ _ _ _ hw
end
theorem Zac(e sz:Nat)(l:List AV)(fz:Nat)(sm ex:Bool):wrO (rG e sz l fz sm true ex)=true:=rfl
def Row.st(r:Row)(o:Nat)(v:AV):Row:=r.setCells (r.cells.set o v)
theorem Row.st_size(r:Row)(o:Nat)(v:AV):(r.st o v).size=r.size:=rfl
theorem Row.st_own(r:Row)(o:Nat)(v:AV):(r.st o v).own=r.own:=rfl
theorem Row.st_fz(r:Row)(o:Nat)(v:AV):(r.st o v).fz=r.fz:=rfl
theorem Row.st_get(r:Row)(o:Nat)(v:AV)(i:Nat):(r.st o v).get i=if o=i then v else r.get i:=by
 rw[Row.get_eq,Row.get_eq]
 show((r.cells.set o v).get i).getD r.dflt=_
 rw[T.get_set]
 split<;>rfl
theorem Dt{r:Row}{o:Nat}(h:o<r.size)(H:Zc):ld1 (some (.row r)) o H=.val (r.get o) H:=by
 show ZL (Nat.ble (Nat.succ o) r.size) (.val (r.get o) H)=_
 rw[Zg (show Nat.succ o<=r.size from h)];rfl
theorem OH{r:Row}{b o:Nat}{v:AV}{H:Zc}(hv:v.cells=[v])(ho:o<r.size)(how:r.own=true)(YL:H.ro<=b)(Ly:r.fz<=o):FG 1 (some (.row r)) b o v H=.val YS (H.put b (.row (r.st o v))):=by
 show ZL (Nat.ble 1 1) (ZL (cond r.own (Nat.ble H.ro b) false) (ZL (Nat.ble (o+1) r.size) (ZL (Nat.ble r.fz o) (ZL (Nat.beq (YH v.cells) 1) (.val YS (H.put b (.row (r.setCells (XM r.cells o v.cells)))))))))=_
 rw[how,cond_true,Zg YL,Zg (show o+1<=r.size from ho),Zg Ly,hv];rfl
def pX(a:AV)(H:Zc):OR:=Tk a (.val (.str []) H) λb o n _=>cond (Nat.beq n 0) (.val (.str []) H) (Y3 H b λr=>ZL (Nat.ble (Nat.add o n) r.size) (Rz (λs=>.val (.str s) H) (loadN r o n)))
theorem x5(x:Yc)(tm:TM)(H:Zc):qL x tm H=pX (x tm) H:=rfl
theorem BH{H:Zc}{b o n:Nat}{c:Option Nat}{r:Row}{l:List UInt8}(hr:H.t.get b=some (.row r))(hl:l.length=n)(hf:o+n<=r.size)(hg: ∀i,i<n->r.get (o+i)=UZ (l.getD i 0)):pX (.slice b o n c) H=.val (.str l) H:=by
 subst hl
 by_cases h0:l.length=0
 ·have:l=[]:=Yj.1 h0
  subst this;rfl
 ·show cond (Nat.beq l.length 0) _ (Y3 H b _)=_
  rw[Ym,Za h0]
  show Y3 H b _=_
  unfold Y3
  rw[hr]
  show ZL (Nat.ble (o+l.length) r.size) (Rz _ (loadN r o l.length))=_
  have:loadN r o l.length=l.map UZ:=by
   refine Wl λi=>?_
   by_cases hi:i<l.length
   ·rw[SJ r l.length o i hi,hg i hi,YR,Zi hi,Zf,Zi hi];rfl
   ·rw[YF (by rw[So];omega),YF (by rw[Zr];omega)]
  rw[Zg hf,this,Nh];rfl
def DS(e:Nat)(a:AV)(H:Zc):OR:=Ol a λs=>.val (.slice H.nx 0 (YH s) none) (H.new (.row ⟨e,1,YH s,T.ofList (Kr s),.unk,0,true,true,false⟩))
theorem kV(x:Yc)(e:Nat)(tm:TM)(H:Zc):Ky x e tm H=DS e (x tm) H:=rfl
theorem DT(e:Nat)(s:List UInt8)(H:Zc):DS e (.str s) H=.val (.slice H.nx 0 s.length none) (H.new (rG e 1 (s.map UZ) 0 true true false)):=by
 show OR.val (.slice H.nx 0 (YH s) none) (H.new (.row ⟨e,1,YH s,T.ofList (Kr s),.unk,0,true,true,false⟩))=_
 have:Kr s=s.map UZ:=by rw[He];rfl
 unfold rG
 rw[this,YC,YC,Zr]
theorem jd(x:Yc)(t:Nat)(tm:TM)(H:Zc):X3 x t tm H=.val (.iface t (x tm)) H:=rfl
theorem cq(f:Nat)(a b:List Yc)(tm:TM)(H:Zc):Nz f a b tm H=.val (.func f (evs tm a) (evs tm b)) H:=rfl
def vx(P:Program)(a:AV)(args:List AV)(H:Zc):OR:=match a with
 |.func f x y=>.oth (.call f (x++(args++y)) H)
 |.meth n r=>QN r .fail λu v=>Hh P n u λg=>.oth (.call g (v::args) H)
 |.yield b=>.oth (.yield b args H)
 |_=>.fail
theorem ck(x:Yc)(P:Program)(args:List Yc)(tm:TM)(H:Zc):R2 x P args tm H=vx P (x tm) (evs tm args) H:=rfl
theorem OU(P:Program)(f:Nat)(x y args:List AV)(H:Zc):vx P (.func f x y) args H=.oth (.call f (x++(args++y)) H):=rfl
theorem ZfB(lit:Bool)(g:Nat->AV->AV->Option Bool)(neg:Bool)(t:Nat)(v:AV)(H:Zc):LV (B1 lit g) neg (.iface t v) .nili H=.val (.bool neg) H:=by cases neg<;>rfl
theorem ZfC(g:Nat->AV->AV->Option Bool)(neg:Bool)(H:Zc):LV (B1 true g) neg .nili .nili H=.val (.bool (!neg)) H:=by cases neg<;>rfl
def Zc0(neg:Bool)(r:Option Bool)(H:Zc):OR:=match r with|some b=>.val (.bool (cond neg (!b) b)) H|none=>.fail
theorem jF(neg b:Bool)(H:Zc):Zc0 neg (some b) H=.val (.bool (cond neg (!b) b)) H:=rfl
theorem ZfA(lit:Bool)(g:Nat->AV->AV->Option Bool)(neg:Bool)(t:Nat)(v w:AV)(H:Zc):LV (B1 lit g) neg (.iface t v) (.iface t w) H=Zc0 neg (g t v w) H:=by
 show TN (cond (Nat.beq t t) (g t v w) (some false)) _=_
 rw[Yb,cond_true]
 cases g t v w with
 |none=>rfl
 |some b=>
  show SE (cond neg (cond b false true) b) H=_
  rw[Sa];cases neg<;>cases b<;>rfl
theorem dN(n:Nat):Ob n []=true:=rfl
theorem kz(n:Nat)(v:AV)(l:List AV):Ob n (v::l)=cond (Xt n v) (Ob n l) false:=rfl
theorem qr(n t:Nat)(v:AV):Xt n (.iface t v)=Xt n v:=rfl
theorem dR(n:Nat)(l:List AV):Xt n (.tup l)=Ob n l:=rfl
theorem rY(b o n:Nat)(t:T Obj):VP (.val (.ptr b o) ⟨n,t,n⟩) (.ptr b o) n=true:=UC _ _ _ (by unfold same;rw[Yb,Yb];rfl)
theorem kF(n:Nat):Xt n .nili=true:=rfl
theorem kH(n:Nat):Xt n .nils=true:=rfl
theorem dQ(n:Nat)(k:IntKind)(z:Int):Xt n (.int k z)=true:=rfl
def Np(t:Nat)(zv:AV)(ok:Bool)(a:AV)(H:Zc):OR:=QN a (S7 zv ok H none) λu v=>S7 zv ok H (cond (Nat.beq u t) (some v) none)
theorem qD(x:Yc)(t:Nat)(zv:AV)(ok:Bool)(tm:TM)(H:Zc):QM x t zv ok tm H=Np t zv ok (x tm) H:=rfl
theorem sM(t:Nat)(zv:AV)(H:Zc):Np t zv true .nili H=.val (.tup [zv,.bool false]) H:=rfl
theorem sN(t:Nat)(zv v:AV)(H:Zc):Np t zv true (.iface t v) H=.val (.tup [v,.bool true]) H:=by
 show S7 zv true H (cond (Nat.beq t t) (some v) none)=_
 rw[Yb];rfl
theorem mK{t u:Nat}(h:Nat.beq u t=false)(zv v:AV)(H:Zc):Np t zv true (.iface u v) H=.val (.tup [zv,.bool false]) H:=by
 show S7 zv true H (cond (Nat.beq u t) (some v) none)=_
 rw[h];rfl
def Zc2(a:AV)(H:Zc):OR:=QN a .fail λ_ _=>.oth (.pan a H)
theorem jk(x:Yc)(tm:TM)(H:Zc):Od x tm H=Zc2 (x tm) H:=rfl
theorem Zc3(t:Nat)(v:AV)(H:Zc):Zc2 (.iface t v) H=.oth (.pan (.iface t v) H):=rfl
theorem fX(next:TM->Zc->X->X6)(dst:ZP)(c:Ctx)(tm:TM)(H:Zc)(x:X)(v:AV)(H':Zc):Pf next dst c tm H x (.oth (.pan v H'))=.ok (.pan v) tm H' x:=rfl
theorem ba(next:TM->Zc->X->X6)(dst:ZP)(tm:TM)(x:X)(v:AV)(H:Zc):E3 next dst tm x (.pan v H)=.ok (.pan v) tm H x:=rfl
theorem iz(v:AV)(tm:TM)(H:Zc)(x:X)(k:TM->Zc->X->X6):QV (.ok (.pan v) tm H x) k=.ok (.pan v) tm H x:=rfl
theorem qk(i:Nat)(v:AV)(tm:TM)(H:Zc)(x:X):QJ i (.ok (.pan v) tm H x)=.ok (.pan v) tm H x:=rfl
theorem bo(dc:Option AV->Nat->List AV->Zc->DR)(rs:List (Yc×Option (Nat×Bool)))(v:AV)(tm:TM)(H:Zc)(rc:Option AV):Mh dc rs (.ok (.pan v) tm H ⟨[],rc⟩)=.pan v H:=rfl
theorem bR(ds:List ZP)(p:PI)(nx:PK)(rs:List RD)(tm:TM)(x:X)(v:AV)(H:Zc):C8 ds p nx rs tm x (.pan v H)=.ok (.pan v) (QA tm ds) H x:=rfl
def vH(H:Zc)(vs:List AV):CR:=match vs with|[v]=>.ret v H|vs=>.ret (.tup vs) H
theorem tf(rs:List (Yc×Option (Nat×Bool)))(tm:TM)(H:Zc):results rs tm H=Om tm H (vH H) rs:=rfl
theorem ZfH(H:Zc)(v:AV):vH H [v]=.ret v H:=rfl
theorem ZfG(H:Zc):vH H []=.ret (.tup []) H:=rfl
theorem ZfI(H:Zc)(v w:AV)(l:List AV):vH H (v::w::l)=.ret (.tup (v::w::l)) H:=rfl
theorem jY(tm:TM)(H:Zc)(k:List AV->CR):Om tm H k []=k []:=rfl
def rV(n:Nat)(ag:Bool)(o:Option Obj)(off:Nat)(k:AV->CR):CR:=match o with
 |some (.row r)=>cond (Nat.ble (Nat.add off n) r.size) (cond ag (k (.agg (loadN r off n))) (k (r.get off))) .fail
 |_=>.fail
def Zde(H:Zc)(a:AV)(n:Nat)(ag:Bool)(k:AV->CR):CR:=match a with
 |.ptr b o=>rV n ag (H.t.get b) o k
 |_=>.fail
theorem bP(H:Zc)(b o n:Nat)(ag:Bool)(k:AV->CR):Zde H (.ptr b o) n ag k=rV n ag (H.t.get b) o k:=rfl
theorem pw(f:Yc)(tm:TM)(H:Zc)(k:List AV->CR)(l:List (Yc×Option (Nat×Bool))):Om tm H k ((f,none)::l)=Om tm H (λvs=>k (f tm::vs)) l:=rfl
theorem px(f:Yc)(n:Nat)(ag:Bool)(tm:TM)(H:Zc)(k:List AV->CR)(l:List (Yc×Option (Nat×Bool))):Om tm H k ((f,some (n,ag))::l)=Zde H (f tm) n ag (λv=>Om tm H (λvs=>k (v::vs)) l):=rfl
theorem Tf{n e sz:Nat}{l:List AV}{fz:Nat}{sm own ex:Bool}(hn:l.length=n)(k:AV->CR):rV n true (some (rG e sz l fz sm own ex)) 0 k=k (.agg l):=by
 subst hn
 show cond (Nat.ble (0+l.length) (YH l)) (k (.agg (loadN ⟨e,sz,YH l,T.ofList l,.unk,fz,sm,own,ex⟩ 0 l.length))) .fail=_
 rw[(uV e sz l fz sm own ex).load (by omega),Ye,U4,YC,Zt,Zg (Zj _)];rfl
theorem pj{e sz o:Nat}{l:List AV}{fz:Nat}{sm own ex:Bool}(hn:o<l.length)(k:AV->CR):rV 1 false (some (rG e sz l fz sm own ex)) o k=k (l.getD o .unk):=by
 show cond (Nat.ble (o+1) (YH l)) (k (Row.get ⟨e,sz,YH l,T.ofList l,.unk,fz,sm,own,ex⟩ o)) .fail=_
 rw[Fo,YC,Zg (show o+1<=l.length from hn)];rfl
theorem kY(x:Yc)(args:List Yc)(tm:TM)(H:Zc):Ff x args tm H=.oth (.defer (x tm) (evs tm args)):=rfl
theorem uK(tm:TM)(H:Zc):Hl tm H=.oth .recov:=rfl
theorem ru(next:TM->Zc->X->X6)(dst:ZP)(cl y rg fu)(tm:TM)(H:Zc)(x:X)(f:Nat)(a b args:List AV):Pf next dst ⟨cl,y,rg,fu,false⟩ tm H x (.oth (.defer (.func f a b) args))=next (dst tm YS) H ⟨(.func f a b,args)::x.df,x.rc⟩:=rfl
theorem vN(next:TM->Zc->X->X6)(dst:ZP)(cl y rg fu)(tm:TM)(H:Zc)(df:List (AV×List AV)):Pf next dst ⟨cl,y,rg,fu,false⟩ tm H ⟨df,none⟩ (.oth .recov)=next (dst tm .nili) H ⟨df,none⟩:=rfl
theorem vO(next:TM->Zc->X->X6)(dst:ZP)(cl y rg fu)(tm:TM)(H:Zc)(df:List (AV×List AV))(v:AV):Pf next dst ⟨cl,y,rg,fu,false⟩ tm H ⟨df,some v⟩ (.oth .recov)=next (dst tm v) H ⟨df,none⟩:=rfl
theorem jI(dc:Option AV->Nat->List AV->Zc->DR)(rs:List (Yc×Option (Nat×Bool)))(tm:TM)(H:Zc)(d:AV×List AV)(l:List (AV×List AV))(rc:Option AV):Mh dc rs (.ok .ret tm H ⟨d::l,rc⟩)=deferred dc rs tm (d::l) none H:=rfl
theorem jH(dc:Option AV->Nat->List AV->Zc->DR)(rs:List (Yc×Option (Nat×Bool)))(v:AV)(tm:TM)(H:Zc)(d:AV×List AV)(l:List (AV×List AV))(rc:Option AV):Mh dc rs (.ok (.pan v) tm H ⟨d::l,rc⟩)=deferred dc rs tm (d::l) (some v) H:=rfl
def D6(dc:Option AV->Nat->List AV->Zc->DR)(rs:List (Yc×Option (Nat×Bool)))(tm:TM)(l:List (AV×List AV))(pn:Option AV)(r:DR):CR:=match r with
 |.ret _ H rec=>deferred dc rs tm l (cond rec none pn) H
 |_=>.fail
theorem Aa(dc:Option AV->Nat->List AV->Zc->DR)(rs:List (Yc×Option (Nat×Bool)))(tm:TM)(g:Nat)(a b args:List AV)(l:List (AV×List AV))(pn:Option AV)(H:Zc):deferred dc rs tm ((.func g a b,args)::l) pn H=D6 dc rs tm l pn (dc pn g (a++(args++b)) H):=by
 show(match dc pn g (a++(args++b)) H with|.ret _ H rec=>deferred dc rs tm l (cond rec none pn) H|_=>.fail)=_
 unfold D6
 cases dc pn g (a++(args++b)) H<;>rfl
theorem s0(dc:Option AV->Nat->List AV->Zc->DR)(rs:List (Yc×Option (Nat×Bool)))(tm:TM)(l:List (AV×List AV))(pn:Option AV)(v:AV)(H:Zc)(rec:Bool):D6 dc rs tm l pn (.ret v H rec)=deferred dc rs tm l (cond rec none pn) H:=rfl
theorem xf(dc:Option AV->Nat->List AV->Zc->DR)(rs:List (Yc×Option (Nat×Bool)))(tm:TM)(H:Zc):deferred dc rs tm [] none H=results rs tm H:=rfl
theorem xg(dc:Option AV->Nat->List AV->Zc->DR)(rs:List (Yc×Option (Nat×Bool)))(tm:TM)(v:AV)(H:Zc):deferred dc rs tm [] (some v) H=.pan v H:=rfl
def Zc1{α β:Type}(o:Option α)(d:β)(k:α->β):β:=match o with|some x=>k x|none=>d
theorem wc{α:Type}(d:α)(fs:T CF)(f:Nat)(k:CF->α):Js d fs f k=Zc1 (fs.get f) d k:=by
 unfold Js Zc1;cases fs.get f<;>rfl
theorem jG{α β:Type}(x:α)(d:β)(k:α->β):Zc1 (some x) d k=k x:=rfl
def qZ(rc:Option AV)(x:X)(r:CR):DR:=match r with|.ret v H=>.ret v H (M5 rc x)|_=>.fail
theorem bj(rc:Option AV)(x:X)(v:AV)(H:Zc):qZ rc x (.ret v H)=.ret v H (M5 rc x):=rfl
theorem Eu(rc:Option AV)(rs:List (Yc×Option (Nat×Bool)))(tm:TM)(H:Zc)(q:Option AV):Hu rc rs (.ok .normal tm H ⟨[],q⟩)=qZ rc ⟨[],q⟩ (results rs tm H):=by
 show(match([]:List (AV×List AV)),results rs tm H with|[],.ret v H=>DR.ret v H (M5 rc ⟨[],q⟩)|_,_=>.fail)=_
 unfold qZ
 cases results rs tm H<;>rfl
theorem bi(rc:Option AV)(rs:List (Yc×Option (Nat×Bool)))(tm:TM)(H:Zc)(q:Option AV):Hu rc rs (.ok .ret tm H ⟨[],q⟩)=qZ rc ⟨[],q⟩ (results rs tm H):=Eu rc rs tm H q
theorem bh(rc:Option AV)(rs:List (Yc×Option (Nat×Bool)))(v:AV)(tm:TM)(H:Zc)(q:Option AV):Hu rc rs (.ok (.pan v) tm H ⟨[],q⟩)=.pan v H (M5 rc ⟨[],q⟩):=rfl
theorem Zg5(v:AV)(l:List (AV×List AV)):M5 (some v) ⟨l,none⟩=true:=rfl
theorem Zg4(x:X):M5 none x=false:=rfl
theorem yV(a b c d e:AV):TX [a,b,c,d,e]=Wf (Tl (st2 (st1 (WZ Lb a) b) c) d) e:=rfl
theorem mZ(k:List AV->OR)(cells:List AV):OW k [] cells=k cells:=rfl
theorem rf(k:List AV->OR)(o n:Nat)(v:AV)(ps:List (Nat×Nat×AV))(cells:List AV):OW k ((o,n,v)::ps) cells=ZL (Nat.ble 1 n) (ZL (Nat.beq (YH v.cells) n) (ZL (Nat.ble (Nat.add o n) (YH cells)) (OW k ps (Oo o cells++(v.cells++PH (Nat.add o n) cells))))):=rfl
theorem dG{cells l:List AV}{o:Nat}(h:o+l.length<=cells.length):Oo o cells++(l++PH (Nat.add o l.length) cells)=lay cells o l:=by
 rw[qh cells o l h]
 have h1:Oo o cells=cells.take o:=Mt ..
 have h2:PH (o+l.length) cells=cells.drop (o+l.length):=N3 ..
 rw[h1]
 show _++(_++PH (o+l.length) cells)=_
 rw[h2]
theorem rh{k:List AV->OR}{o n:Nat}{v:AV}{l:List AV}{ps:List (Nat×Nat×AV)}{cells:List AV}(hv:v.cells=l)(hl:l.length=n)(hn:1<=n)(h:o+n<=cells.length):OW k ((o,n,v)::ps) cells=OW k ps (lay cells o l):=by
 subst hv;subst hl
 rw[rf,Zg hn,YC,Yb,YC,Zg (show Nat.add o v.cells.length<=cells.length from h),dG h];rfl
theorem m7{k:List AV->OR}{o:Nat}{v:AV}{ps:List (Nat×Nat×AV)}{cells:List AV}(hv:v.cells=[v])(h:o<cells.length):OW k ((o,1,v)::ps) cells=OW k ps (cells.set o v):=rh hv rfl (Zj 1) h
theorem Hc(l:List AV)(o:Nat):lay l o []=l:=rfl
theorem Kn(l:List AV)(o:Nat)(v:AV)(vs:List AV):lay l o (v::vs)=lay (l.set o v) (o+1) vs:=rfl
theorem vp(z:AV)(zs:List AV)(ps:List (Nat×Nat×AV))(H:Zc):LP (z::zs) ps H=OW (λcs=>.val (.agg cs) H) ps (z::zs):=by
 show ZL (Nat.ble 1 (YH (z::zs))) _=_
 rw[YC,Zg (by simp)];rfl
theorem wW(a b:Nat)(H:Zc):yT (nI .u64 a) (nI .u64 b) H=.val (nI .u64 ((a+b) % 18446744073709551616)) H:=by
 show ZL (Qd .u64 .u64) (Vm .u64 (xB (.ofNat a) (.ofNat b)) H)=_
 rw[Y4,YY,Ki,R5];rfl
theorem zK(H:Zc):MW .i64 (nI .u64 9223372036854775808) H=.val (.int .i64 (.negSucc 9223372036854775807)) H:=by
 unfold nI
 rw[Mb,YY]
 congr 2
theorem zR(H:Zc):uy (.int .i64 (.negSucc 9223372036854775807)) H=.val (.int .i64 (.negSucc 9223372036854775807)) H:=by
 have:uy (.int .i64 (.negSucc 9223372036854775807)) H=Vm .i64 (Km 0 (.negSucc 9223372036854775807)) H:=by simp only[uy,RC]
 rw[this,YY]
 congr 2
theorem Zw:(∀(x:Yc) (args:List Yc) (tm:TM) (H:Zc),Ff x args tm H=.oth (.defer (x tm) (evs tm args)))∧
 (∀(tm:TM) (H:Zc),Hl tm H=.oth .recov)∧
 (∀(next:TM->Zc->X->X6) (dst:ZP) (cl y rg fu) (tm:TM) (H:Zc) (x:X) (f:Nat) (a b args:List AV),Pf next dst ⟨cl,y,rg,fu,false⟩ tm H x (.oth (.defer (.func f a b) args))=next (dst tm YS) H ⟨(.func f a b,args)::x.df,x.rc⟩)∧
 (∀(next:TM->Zc->X->X6) (dst:ZP) (cl y rg fu) (tm:TM) (H:Zc) (df:List (AV×List AV)),Pf next dst ⟨cl,y,rg,fu,false⟩ tm H ⟨df,none⟩ (.oth .recov)=next (dst tm .nili) H ⟨df,none⟩)∧
 (∀(next:TM->Zc->X->X6) (dst:ZP) (cl y rg fu) (tm:TM) (H:Zc) (df:List (AV×List AV)) (v:AV),Pf next dst ⟨cl,y,rg,fu,false⟩ tm H ⟨df,some v⟩ (.oth .recov)=next (dst tm v) H ⟨df,none⟩)∧
 (∀(dc:Option AV->Nat->List AV->Zc->DR) (rs:List (Yc×Option (Nat×Bool))) (tm:TM) (H:Zc) (d:AV×List AV) (l:List (AV×List AV)) (rc:Option AV),Mh dc rs (.ok .ret tm H ⟨d::l,rc⟩)=deferred dc rs tm (d::l) none H)∧
 (∀(dc:Option AV->Nat->List AV->Zc->DR) (rs:List (Yc×Option (Nat×Bool))) (v:AV) (tm:TM) (H:Zc) (d:AV×List AV) (l:List (AV×List AV)) (rc:Option AV),Mh dc rs (.ok (.pan v) tm H ⟨d::l,rc⟩)=deferred dc rs tm (d::l) (some v) H)∧
 (∀(dc:Option AV->Nat->List AV->Zc->DR) (rs:List (Yc×Option (Nat×Bool))) (tm:TM) (g:Nat) (a b args:List AV) (l:List (AV×List AV)) (pn:Option AV) (H:Zc),deferred dc rs tm ((.func g a b,args)::l) pn H=D6 dc rs tm l pn (dc pn g (a++(args++b)) H))∧
 (∀(dc:Option AV->Nat->List AV->Zc->DR) (rs:List (Yc×Option (Nat×Bool))) (tm:TM) (l:List (AV×List AV)) (pn:Option AV) (v:AV) (H:Zc) (rec:Bool),D6 dc rs tm l pn (.ret v H rec)=deferred dc rs tm l (cond rec none pn) H)∧
 (∀(dc:Option AV->Nat->List AV->Zc->DR) (rs:List (Yc×Option (Nat×Bool))) (tm:TM) (H:Zc),deferred dc rs tm [] none H=results rs tm H)∧
 (∀(dc:Option AV->Nat->List AV->Zc->DR) (rs:List (Yc×Option (Nat×Bool))) (tm:TM) (v:AV) (H:Zc),deferred dc rs tm [] (some v) H=.pan v H)∧
 (∀{α β:Type} (x:α) (d:β) (k:α->β),Zc1 (some x) d k=k x)∧
 (∀(rc:Option AV) (x:X) (v:AV) (H:Zc),qZ rc x (.ret v H)=.ret v H (M5 rc x))∧
 (∀(rc:Option AV) (rs:List (Yc×Option (Nat×Bool))) (tm:TM) (H:Zc) (q:Option AV),Hu rc rs (.ok .normal tm H ⟨[],q⟩)=qZ rc ⟨[],q⟩ (results rs tm H))∧
 (∀(rc:Option AV) (rs:List (Yc×Option (Nat×Bool))) (tm:TM) (H:Zc) (q:Option AV),Hu rc rs (.ok .ret tm H ⟨[],q⟩)=qZ rc ⟨[],q⟩ (results rs tm H))∧
 (∀(rc:Option AV) (rs:List (Yc×Option (Nat×Bool))) (v:AV) (tm:TM) (H:Zc) (q:Option AV),Hu rc rs (.ok (.pan v) tm H ⟨[],q⟩)=.pan v H (M5 rc ⟨[],q⟩))∧
 (∀(v:AV) (l:List (AV×List AV)),M5 (some v) ⟨l,none⟩=true)∧
 (∀(x:X),M5 none x=false)∧
 (∀{a:AV} (h:a.cells=[a]) (e:Nat) (H:Zc),sQ e a H=.val (.ptr H.nx 0) (H.new (rG e 1 [a] 0 false true true)))∧
 (∀{l:List AV} (h1:1<=l.length) (e:Nat) (H:Zc),sQ e (.agg l) H=.val (.ptr H.nx 0) (H.new (rG e 1 l 0 false true true)))∧
 (∀{b c:Nat} (h: ¬b=c) (H:Zc) (o:Obj),(H.put b o).t.get c=H.t.get c)∧
 (∀{H:Zc} {c:Nat} (h: ¬H.nx=c) (o:Obj),(H.new o).t.get c=H.t.get c)∧
 (∀{H:Zc} {c:Nat} (h:H.nx=c) (o:Obj),(H.new o).t.get c=some o)∧
 (∀{H:Zc} {b:Nat} (h:H.nx=b) (o o':Obj),(H.new o).put b o'=H.new o')∧
 (∀(neg b:Bool) (H:Zc),Zc0 neg (some b) H=.val (.bool (cond neg (!b) b)) H)∧
 (∀(lit:Bool) (g:Nat->AV->AV->Option Bool) (neg:Bool) (t:Nat) (v w:AV) (H:Zc),LV (B1 lit g) neg (.iface t v) (.iface t w) H=Zc0 neg (g t v w) H)∧
 (∀(n:Nat),Ob n []=true)∧
 (∀(n:Nat) (v:AV) (l:List AV),Ob n (v::l)=cond (Xt n v) (Ob n l) false)∧
 (∀(n t:Nat) (v:AV),Xt n (.iface t v)=Xt n v)∧
 (∀(n:Nat) (l:List AV),Xt n (.tup l)=Ob n l)∧
 (∀(b o n:Nat) (t:T Obj),VP (.val (.ptr b o) ⟨n,t,n⟩) (.ptr b o) n=true)∧
 (∀(n:Nat),Xt n .nili=true)∧
 (∀(n:Nat),Xt n .nils=true)∧
 (∀(n:Nat) (k:IntKind) (z:Int),Xt n (.int k z)=true)∧
 (∀(k:List AV->OR) (cells:List AV),OW k [] cells=k cells)∧
 (∀{k:List AV->OR} {o:Nat} {v:AV} {ps:List (Nat×Nat×AV)} {cells:List AV} (hv:v.cells=[v]) (h:o<cells.length),OW k ((o,1,v)::ps) cells=OW k ps (cells.set o v))∧
 (∀(z:AV) (zs:List AV) (ps:List (Nat×Nat×AV)) (H:Zc),LP (z::zs) ps H=OW (λcs=>.val (.agg cs) H) ps (z::zs))∧
 (∀(e sz:Nat) (l:List AV) (fz:Nat) (sm ex:Bool),wrO (rG e sz l fz sm true ex)=true)∧
 (∀(x:Yc) (e:Nat) (tm:TM) (H:Zc),Ky x e tm H=DS e (x tm) H)∧
 (∀(e:Nat) (s:List UInt8) (H:Zc),DS e (.str s) H=.val (.slice H.nx 0 s.length none) (H.new (rG e 1 (s.map UZ) 0 true true false)))∧
 (∀(x:Yc) (t:Nat) (tm:TM) (H:Zc),X3 x t tm H=.val (.iface t (x tm)) H)∧
 (∀(f:Nat) (a b:List Yc) (tm:TM) (H:Zc),Nz f a b tm H=.val (.func f (evs tm a) (evs tm b)) H)∧
 (∀(x:Yc) (P:Program) (args:List Yc) (tm:TM) (H:Zc),R2 x P args tm H=vx P (x tm) (evs tm args) H)∧
 (∀(P:Program) (f:Nat) (x y args:List AV) (H:Zc),vx P (.func f x y) args H=.oth (.call f (x++(args++y)) H))∧
 (∀(lit:Bool) (g:Nat->AV->AV->Option Bool) (neg:Bool) (t:Nat) (v:AV) (H:Zc),LV (B1 lit g) neg (.iface t v) .nili H=.val (.bool neg) H)∧
 (∀(g:Nat->AV->AV->Option Bool) (neg:Bool) (H:Zc),LV (B1 true g) neg .nili .nili H=.val (.bool (!neg)) H)∧
 (∀(x:Yc) (t:Nat) (zv:AV) (ok:Bool) (tm:TM) (H:Zc),QM x t zv ok tm H=Np t zv ok (x tm) H)∧
 (∀(t:Nat) (zv:AV) (H:Zc),Np t zv true .nili H=.val (.tup [zv,.bool false]) H)∧
 (∀(t:Nat) (zv v:AV) (H:Zc),Np t zv true (.iface t v) H=.val (.tup [v,.bool true]) H)∧
 (∀(x:Yc) (tm:TM) (H:Zc),Od x tm H=Zc2 (x tm) H)∧
 (∀(t:Nat) (v:AV) (H:Zc),Zc2 (.iface t v) H=.oth (.pan (.iface t v) H))∧
 (∀(next:TM->Zc->X->X6) (dst:ZP) (c:Ctx) (tm:TM) (H:Zc) (x:X) (v:AV) (H':Zc),Pf next dst c tm H x (.oth (.pan v H'))=.ok (.pan v) tm H' x)∧
 (∀(next:TM->Zc->X->X6) (dst:ZP) (tm:TM) (x:X) (v:AV) (H:Zc),E3 next dst tm x (.pan v H)=.ok (.pan v) tm H x)∧
 (∀(v:AV) (tm:TM) (H:Zc) (x:X) (k:TM->Zc->X->X6),QV (.ok (.pan v) tm H x) k=.ok (.pan v) tm H x)∧
 (∀(i:Nat) (v:AV) (tm:TM) (H:Zc) (x:X),QJ i (.ok (.pan v) tm H x)=.ok (.pan v) tm H x)∧
 (∀(dc:Option AV->Nat->List AV->Zc->DR) (rs:List (Yc×Option (Nat×Bool))) (v:AV) (tm:TM) (H:Zc) (rc:Option AV),Mh dc rs (.ok (.pan v) tm H ⟨[],rc⟩)=.pan v H)∧
 (∀(ds:List ZP) (p:PI) (nx:PK) (rs:List RD) (tm:TM) (x:X) (v:AV) (H:Zc),C8 ds p nx rs tm x (.pan v H)=.ok (.pan v) (QA tm ds) H x)∧
 (∀(rs:List (Yc×Option (Nat×Bool))) (tm:TM) (H:Zc),results rs tm H=Om tm H (vH H) rs)∧
 (∀(H:Zc) (v:AV),vH H [v]=.ret v H)∧
 (∀(H:Zc),vH H []=.ret (.tup []) H)∧
 (∀(H:Zc) (v w:AV) (l:List AV),vH H (v::w::l)=.ret (.tup (v::w::l)) H)∧
 (∀(tm:TM) (H:Zc) (k:List AV->CR),Om tm H k []=k [])∧
 (∀(f:Yc) (tm:TM) (H:Zc) (k:List AV->CR) (l:List (Yc×Option (Nat×Bool))),Om tm H k ((f,none)::l)=Om tm H (λvs=>k (f tm::vs)) l)∧
 (∀(f:Yc) (n:Nat) (ag:Bool) (tm:TM) (H:Zc) (k:List AV->CR) (l:List (Yc×Option (Nat×Bool))),Om tm H k ((f,some (n,ag))::l)=Zde H (f tm) n ag (λv=>Om tm H (λvs=>k (v::vs)) l))∧
 (∀(H:Zc) (b o n:Nat) (ag:Bool) (k:AV->CR),Zde H (.ptr b o) n ag k=rV n ag (H.t.get b) o k)∧
 (∀(x:Yc) (tm:TM) (H:Zc),qL x tm H=pX (x tm) H):=⟨@kY, @uK, @ru, @vN, @vO, @jI, @jH, @Aa, @s0, @xf, @xg, @jG, @bj, @Eu, @bi, @bh, @Zg5, @Zg4, @vm, @VW, @ZD, @ZK, @ZC, @Vb, @jF, @ZfA, @dN, @kz, @qr, @dR, @rY, @kF, @kH, @dQ, @mZ, @m7, @vp, @Zac, @kV, @DT, @jd, @cq, @ck, @OU, @ZfB, @ZfC, @qD, @sM, @sN, @jk, @Zc3, @fX, @ba, @iz, @qk, @bo, @bR, @tf, @ZfH, @ZfG, @ZfI, @jY, @pw, @px, @bP, @x5⟩
theorem ZY:(∀(e sz:Nat) (l:List AV) (fz:Nat) (sm ex:Bool),wrO (rG e sz l fz sm true ex)=true)∧
 (∀(H:Zc) (b:Nat) (o:Obj),(H.put b o).nx=H.nx)∧
 (∀(H:Zc) (o:Obj),(H.new o).nx=H.nx+1)∧
 (∀(H:Zc) (b:Nat) (o:Obj),(H.put b o).ro=H.ro)∧
 (∀(H:Zc) (o:Obj),(H.new o).ro=H.ro)∧
 (∀(b:Bool),(AV.bool b).cells=[.bool b])∧
 (∀(k:IntKind) (n:Int),(AV.int k n).cells=[.int k n])∧
 (∀(k:IntKind) (n:Nat),(nI k n).cells=[nI k n])∧
 (∀(x:UInt8),(UZ x).cells=[UZ x])∧
 (∀(s:List UInt8),(AV.str s).cells=[.str s])∧
 (AV.nilp.cells=[.nilp])∧
 (∀(b o:Nat),(AV.ptr b o).cells=[.ptr b o])∧
 (AV.nils.cells=[.nils])∧
 (∀(b o n:Nat) (c:Option Nat),(AV.slice b o n c).cells=[.slice b o n c])∧
 (∀(b:Nat),(AV.map b).cells=[.map b])∧
 (∀(f:Nat) (a b:List AV),(AV.func f a b).cells=[.func f a b])∧
 (∀(t:Nat) (v:AV),(AV.iface t v).cells=[.iface t v])∧
 (AV.nili.cells=[.nili])∧
 (∀(l:List AV),(AV.agg l).cells=l)∧
 (∀(r:Row) (o:Nat) (v:AV),(r.st o v).size=r.size)∧
 (∀(r:Row) (o:Nat) (v:AV),(r.st o v).own=r.own)∧
 (∀(r:Row) (o:Nat) (v:AV),(r.st o v).fz=r.fz)∧
 (∀(l:List AV) (o:Nat) (vs:List AV),(lay l o vs).length=l.length):=⟨@Zac, @Of, @WJ, @NU, @qy, @DZ, @AL, @vz, @AP, @AO, @D2, @AN, @D3, @FS, @AM, @D0, @FR, @D1, @AK, @Row.st_size, @Row.st_own, @Row.st_fz, @xI⟩
theorem Zz:((!true)=false)∧((!false)=true)∧(∀{α:Type} (l:List α),[]++l=l)∧(∀{α:Type} (l:List α),l++[]=l)∧(∀{α β:Type} (f:α->β),Option.map f none=none)∧(∀{α β:Type} (f:α->β) (a:α),Option.map f (some a)=some (f a))∧(∀{α β:Type} (f:α->β) (a:α) (l:List α),List.map f (a::l)=f a::List.map f l)∧(∀{α β:Type} (f:α->β),List.map f []=[])∧(∀{α:Type} (a b:α),cond true a b=a)∧(∀{α:Type} (a b:α),cond false a b=b)∧(∀(x i:Nat),x.testBit i=decide (x/2^i % 2=1))∧(∀h:Decidable True, @decide True h=true)∧(∀h:Decidable False, @decide False h=false)∧(∀n:Nat,0+n=n)∧
 (∀{α:Type} (a d:α) (l:List α),(a::l).getD 0 d=a)∧(∀{α:Type} (a d:α) (l:List α) (n:Nat),(a::l).getD (n+1) d=l.getD n d)∧(∀{α:Type} (a b:α) (l:List α),(a::l).set 0 b=b::l)∧(∀{α:Type} (a b:α) (l:List α) (n:Nat),(a::l).set (n+1) b=a::l.set n b):=
 ⟨Uc,Uk,λ_=>rfl,Xu,λ_=>rfl,λ_ _=>rfl,λ_ _ _=>rfl,λ_=>rfl,λ_ _=>rfl,λ_ _=>rfl,λ_ _=>Nat.testBit_eq_decide_div_mod_eq,λ_=>Ze trivial,λ_=>Za id,Zt,λ_ _ _=>rfl,λ_ _ _ _=>rfl,λ_ _ _=>rfl,λ_ _ _ _=>rfl⟩
theorem ZZ:(∀{α:Type} (a:α) (l:List α),(a::l).length=l.length+1)∧(∀{α:Type},([]:List α).length=0)∧(∀{α:Type} (l:List α) (n:Nat) (a:α),(l.set n a).length=l.length)∧(∀{α β:Type} (f:α->β) (l:List α),(l.map f).length=l.length):=
 ⟨λ_ _=>rfl,rfl,λ_ _ _=>Xv,λ_ _=>Zr ..⟩
section
variable {P:Program}
def kJ(n:Nat):Obj->Prop
 |.row r=> ∀i,i<r.size->Xt n (r.get i)=true
 |.map es _=> ∀x∈es,Xt n x.key=true∧Xt n x.val=true
 |.siter _ _=>True
 |.loop=>True
 |_=>False
theorem Uz.cutX{σ:Mp}{n:Nat}{o:Obj}{l:Loc}{c:Go.Obj}(h:kJ n o)(r:Uz σ o l c):Uz (σ.cut n) o l c:=by
 cases o with
 |row q=>
  obtain⟨cs,fr,rfl,r⟩:=r
  refine⟨cs,fr,rfl,r.sz,r.sz1,r.fits,r.room,r.exact,λi hi=>?_,r.one,r.frz,r.frs⟩
  obtain⟨v,h1,h2⟩:=r.cell i hi
  exact⟨v,h1,Ys.cut (h i hi) h2⟩
 |map es clock=>
  obtain⟨ents,e,h1,h2⟩:=r
  exact⟨ents,e,YE.cutE h h1,h2⟩
 |siter s pos=>exact r
 |loop=>exact r
 |miter _ _ _=>exact h.elim
 |cmap _=>exact h.elim
structure LE(H H' G:Zc):Prop where
 nx:H.nx<=G.nx
 ro:G.ro=H.ro
 old: ∀b,b<H.nx->G.t.get b=H'.t.get b
 new: ∀b o,H.nx<=b->G.t.get b=some o->H.t.get b=some o∨(b<G.nx∧H'.t.get b=some o)
 low: ∀b o,G.t.get b=some o->H.t.get b=some o∨kJ G.nx o
theorem Tr.less{σ σ':Mp}{H H' G:Zc}{w w':World}(hs:Wh P σ H w)(t:Tr P σ H w σ' H' w')(g:LE H H' G):Tr P σ H w (σ'.cut G.nx) G w':=by
 have hex:Oq σ (σ'.cut G.nx):=λb l hb=>by
  have:=hs.dom b l hb
  rw[Mp.cut_lt (ZH this g.nx)]
  exact t.ext b l hb
 have lN: ∀{b l},σ'.cut G.nx b=some l->σ' b=some l:=λh=>(Mp.cut_some h).2
 have Nk: ∀b o,G.t.get b=some o->H'.t.get b=some o:=λb o h=>by
  by_cases hb:b<H.nx
  ·rw[<-g.old b hb];exact h
  ·rcases g.new b o (by omega) h with h1|h1
   ·exact absurd (hs.low b o h1) hb
   ·exact h1.2
 have lV:Wh P (σ'.cut G.nx) G w':=by
  refine⟨λb l h=>(Mp.cut_some h).1,λb o h=>?_,λb o l hb hl=>?_,λb b' o o' l l' h1 h2 h3 h4 e=>t.sim.inj b b' o o' l l' (Nk _ _ h1) (Nk _ _ h2) (lN h3) (lN h4) e,λq hq=>?_,by rw[g.ro];exact Yt hs.ro g.nx⟩
  ·by_cases hb:b<H.nx
   ·exact ZH hb g.nx
   ·rcases g.new b o (by omega) h with h1|h1
    ·exact absurd (hs.low b o h1) hb
    ·exact h1.1
  ·obtain⟨c,h2,h3⟩:=t.sim.alive b o l (Nk b o hb) (lN hl)
   refine⟨c,h2,?_⟩
   rcases g.low b o hb with h5|h4
   ·cases hσ:σ b with
    |none=>
     have:=(t.pend b (hs.low b o h5) hσ).2
     rw[lN hl] at this;cases this
    |some l0=>
     have e:=t.ext b l0 hσ
     rw[lN hl] at e;cases e
     obtain⟨c0,_,h1⟩:=hs.alive b o l h5 hσ
     exact(h1.back t.ext h3).mono hex
   ·exact h3.cutX h4
  ·obtain⟨l,h1,h2,h3⟩:=hs.glob q hq
   exact⟨l,hex _ _ h1,h2,h3⟩
 refine⟨hex,lV,t.size,t.frame,λb l hw hl Y6=>?_,g.nx,g.ro,λb hb=>?_,t.tape,t.os,t.out,λb hb hn=>?_⟩
 ·obtain⟨h1,o,h2,h3⟩:=hw
  exact t.wr b l ⟨by rw[t.ro,<-g.ro];exact h1,o,Nk b o h2,h3⟩ (lN hl) Y6
 ·rw[g.old b (ZH hb hs.ro)]
  exact t.low b hb
 ·obtain⟨h1,h2⟩:=t.pend b hb hn
  refine⟨by rw[g.old b hb,h1],?_⟩
  rw[Mp.cut_lt (ZH hb g.nx)];exact h2
def FO(H:Zc):CR->CR->Prop
 |.ret v H',.ret u G=>u=v∧LE H H' G∧Xt G.nx v=true
 |.pan v H',.pan u G=>u=v∧LE H H' G∧Xt G.nx v=true
 |_,_=>False
theorem Zcn{call:Nat->List AV->Zc->CR}(SV:SL P call){f:FuncId}{args:List AV}{H:Zc}{r:CR}(g:FO H (call f args H) r)
  {σ:Mp}{w:World}{vs:List Value}(hs:Wh P σ H w)(hv:YM σ args vs):Lq P σ H w r ((callFunc f ⟨vs⟩).run P w):=by
 have v4:=SV f _ H σ w vs hs hv
 generalize call f args H=q at g v4
 cases q with
 |fail=>cases r<;>exact g.elim
 |ret v H'=>
  cases r with
  |ret u G=>
   obtain⟨rfl,g,Oz⟩:=g
   refine Ends.mono (λu' w' hx=>?_) (λ_ _ hx=>hx) v4
   obtain⟨σ2,h1,t⟩:=hx
   exact⟨σ2.cut G.nx,Ys.cut Oz h1,t.less hs g⟩
  |_=>exact g.elim
 |pan v H'=>
  cases r with
  |pan u G=>
   obtain⟨rfl,g,Oz⟩:=g
   refine Ends.mono (λ_ _ hx=>hx) (λu' w' hx=>?_) v4
   obtain⟨σ2,h1,t⟩:=hx
   exact⟨σ2.cut G.nx,Ys.cut Oz h1,t.less hs g⟩
  |_=>exact g.elim
theorem LE.put{H:Zc}{b:Nat}{o:Obj}(hb:b<H.nx)(ho:kJ H.nx o){H':Zc}(h: ∀c,c<H.nx->H'.t.get c=(H.put b o).t.get c):LE H H' (H.put b o):=by
 refine⟨Zj _,rfl,λc hc=>(h c hc).symm,λc q hc hq=>.inl ?_,λc q hq=>?_⟩
 ·rw[OD,if_neg (by omega)] at hq;exact hq
 ·rw[OD] at hq
  split at hq
  ·cases hq;exact .inr ho
  ·exact .inl hq
theorem LE.same{H H':Zc}(h: ∀c,c<H.nx->H'.t.get c=H.t.get c):LE H H' H:=
 ⟨Zj _,rfl,λc hc=>(h c hc).symm,λ_ _ _ hq=>.inl hq,λ_ _ hq=>.inl hq⟩
end
section
variable {P:Program}
abbrev NJ:=Nat->List AV->Zc->Option CR
def Ko(Ur:Nat->Nat)(Ts:NJ)(call:Nat->List AV->Zc->CR)(lib:NJ)(k:Nat):NJ:=λf args H=>
 open Classical in if Ur f=k then
  (match Ts f args H with
  |some r=>if FO H (call f args H) r then some r else lib f args H
  |none=>if ∃v H',call f args H=.ret v H'∧Zp H H' []∧Xt 0 v=true then(match call f args H with|.ret v _=>some (.ret v H)|_=>none) else lib f args H)
 else lib f args H
theorem dH{Ur:Nat->Nat}{Ts:NJ}{call:Nat->List AV->Zc->CR}{lib:NJ}{k:Nat}(SV:SL P call)(hl:NZ P lib):NZ P (Ko Ur Ts call lib k):=by
 intro f args H r h σ w vs hs hv
 unfold Ko at h
 split at h
 ·split at h
  ·split at h
   ·rename_i hc
    cases h
    exact Zcn SV hc hs hv
   ·exact hl f args H r h σ w vs hs hv
  ·split at h
   ·rename_i hc
    obtain⟨v,H',h1,h2,h3⟩:=hc
    rw[h1] at h
    cases h
    exact Zck SV h1 h2 h3 hs hv
   ·exact hl f args H r h σ w vs hs hv
 ·exact hl f args H r h σ w vs hs hv
theorem Id{Ur:Nat->Nat}{Ts:NJ}{call:Nat->List AV->Zc->CR}{lib:NJ}{k f:Nat}(h:Ur f≠k)(args:List AV)(H:Zc):Ko Ur Ts call lib k f args H=lib f args H:=by
 unfold Ko;rw[if_neg h]
theorem qj{Ur:Nat->Nat}{Ts:NJ}{call:Nat->List AV->Zc->CR}{lib:NJ}{k f:Nat}{args:List AV}{H:Zc}{r:CR}(h:Ur f=k)(hs:Ts f args H=some r)(g:FO H (call f args H) r):Ko Ur Ts call lib k f args H=some r:=by
 unfold Ko;rw[if_pos h,hs];exact if_pos g
theorem qi{Ur:Nat->Nat}{Ts:NJ}{call:Nat->List AV->Zc->CR}{lib:NJ}{k f:Nat}{args:List AV}{H H':Zc}{v:AV}(h:Ur f=k)(hs:Ts f args H=none)(hr:call f args H=.ret v H')(g:Zp H H' [])(hv:Xt 0 v=true):Ko Ur Ts call lib k f args H=some (.ret v H):=by
 unfold Ko;rw[if_pos h,hs]
 simp only
 rw[if_pos ⟨v,H',hr,g,hv⟩,hr]
def Mc(Zo:NJ)(fs:T CF)(fuel:Nat)(Ur:Nat->Nat)(Ts:NJ):Nat->NJ
 |0=>Zo
 |k+1=>Ko Ur Ts (ZG (Mc Zo fs fuel Ur Ts k) fs fuel 900) (Mc Zo fs fuel Ur Ts k) (k+1)
variable {Zo:NJ} {fs:T CF} {fuel:Nat} {Ur:Nat->Nat} {Ts:NJ}
theorem xK(hc: ∀lib,NZ P lib->SL P (ZG lib fs fuel 900))(h0:NZ P Zo): ∀k,NZ P (Mc Zo fs fuel Ur Ts k)
 |0=>h0
 |k+1=>dH (hc _ (xK hc h0 k)) (xK hc h0 k)
theorem um{f:Nat}(args:List AV)(H:Zc): ∀k,k<Ur f->Mc Zo fs fuel Ur Ts k f args H=Zo f args H
 |0,_=>rfl
 |k+1,h=>(Id (by omega) args H).trans (um args H k (by omega))
theorem G9{f:Nat}(h:Ur f=0)(args:List AV)(H:Zc): ∀k,Mc Zo fs fuel Ur Ts k f args H=Zo f args H
 |0=>rfl
 |k+1=>(Id (by omega) args H).trans (G9 h args H k)
theorem xL{f r:Nat}(h:Ur f=r)(args:List AV)(H:Zc): ∀k,r<=k->Mc Zo fs fuel Ur Ts k f args H=Mc Zo fs fuel Ur Ts r f args H:=by
 intro k hk
 induction k with
 |zero=>rw[Nat.le_zero.1 hk]
 |succ k ih=>
  by_cases e:r=k+1
  ·rw[e]
  ·exact(Id (by omega) args H).trans (ih (by omega))
theorem ZB{f k:Nat}(h0: ∀l H,Zo f l H=none)(h:k<Ur f∨Ur f=0)(args:List AV)(H:Zc):Mc Zo fs fuel Ur Ts k f args H=none:=by
 rcases h with h|h
 ·rw[um args H k h,h0]
 ·rw[G9 h args H k,h0]
theorem LL{f k n:Nat}{args:List AV}{H:Zc}{r:CR}(h:Ur f=0)(hr:Zo f args H=some r):ZG (Mc Zo fs fuel Ur Ts k) fs fuel (n+1) f args H=r:=
 GF (by rw[G9 h];exact hr)
theorem Xd{f r k n:Nat}{args:List AV}{H H':Zc}{v:AV}(h:Ur f=r+1)(hs:Ts f args H=none)(hr:ZG (Mc Zo fs fuel Ur Ts r) fs fuel 900 f args H=.ret v H')(g:Zp H H' [])(hv:Xt 0 v=true)(hk:r+1<=k):
  ZG (Mc Zo fs fuel Ur Ts k) fs fuel (n+1) f args H=.ret v H:=
 GF (by rw[xL h args H k hk];exact qi h hs hr g hv)
theorem Bj{f r k n:Nat}{args:List AV}{H:Zc}{q:CR}(h:Ur f=r+1)(hs:Ts f args H=some q)(g:FO H (ZG (Mc Zo fs fuel Ur Ts r) fs fuel 900 f args H) q)(hk:r+1<=k):
  ZG (Mc Zo fs fuel Ur Ts k) fs fuel (n+1) f args H=q:=
 GF (by rw[xL h args H k hk];exact qj h hs g)
end
end
end Go.AI
