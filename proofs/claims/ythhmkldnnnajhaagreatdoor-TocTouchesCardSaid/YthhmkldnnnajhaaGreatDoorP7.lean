/- Running the interpreter's code on values that are not known: equations, proved without conditions but those that each names; what is looked up rank by rank. -/
import Derived.Test.YthhmkldnnnajhaaGreatDoorP6
import Derived.Test.YthhmkldnnnajhaaGreatDoorP5
set_option maxRecDepth 1000000
set_option maxHeartbeats 0
set_option linter.unusedVariables false
set_option linter.unusedSimpArgs false
namespace Go.AI
open Go
noncomputable section
section
variable {α:Type}
namespace N8
theorem g00(f:α->α)(n:N8 α):a0 (u0 f n)=f (a0 n):=rfl
theorem g01(f:α->α)(n:N8 α):a0 (u1 f n)=a0 n:=rfl
theorem g02(f:α->α)(n:N8 α):a0 (u2 f n)=a0 n:=rfl
theorem g03(f:α->α)(n:N8 α):a0 (u3 f n)=a0 n:=rfl
theorem g04(f:α->α)(n:N8 α):a0 (u4 f n)=a0 n:=rfl
theorem g05(f:α->α)(n:N8 α):a0 (u5 f n)=a0 n:=rfl
theorem g06(f:α->α)(n:N8 α):a0 (u6 f n)=a0 n:=rfl
theorem g07(f:α->α)(n:N8 α):a0 (u7 f n)=a0 n:=rfl
theorem g10(f:α->α)(n:N8 α):a1 (u0 f n)=a1 n:=rfl
theorem g11(f:α->α)(n:N8 α):a1 (u1 f n)=f (a1 n):=rfl
theorem g12(f:α->α)(n:N8 α):a1 (u2 f n)=a1 n:=rfl
theorem g13(f:α->α)(n:N8 α):a1 (u3 f n)=a1 n:=rfl
theorem g14(f:α->α)(n:N8 α):a1 (u4 f n)=a1 n:=rfl
theorem g15(f:α->α)(n:N8 α):a1 (u5 f n)=a1 n:=rfl
theorem g16(f:α->α)(n:N8 α):a1 (u6 f n)=a1 n:=rfl
theorem g17(f:α->α)(n:N8 α):a1 (u7 f n)=a1 n:=rfl
theorem g20(f:α->α)(n:N8 α):a2 (u0 f n)=a2 n:=rfl
theorem g21(f:α->α)(n:N8 α):a2 (u1 f n)=a2 n:=rfl
theorem g22(f:α->α)(n:N8 α):a2 (u2 f n)=f (a2 n):=rfl
theorem g23(f:α->α)(n:N8 α):a2 (u3 f n)=a2 n:=rfl
theorem g24(f:α->α)(n:N8 α):a2 (u4 f n)=a2 n:=rfl
theorem g25(f:α->α)(n:N8 α):a2 (u5 f n)=a2 n:=rfl
theorem g26(f:α->α)(n:N8 α):a2 (u6 f n)=a2 n:=rfl
theorem g27(f:α->α)(n:N8 α):a2 (u7 f n)=a2 n:=rfl
theorem g30(f:α->α)(n:N8 α):a3 (u0 f n)=a3 n:=rfl
theorem g31(f:α->α)(n:N8 α):a3 (u1 f n)=a3 n:=rfl
theorem g32(f:α->α)(n:N8 α):a3 (u2 f n)=a3 n:=rfl
theorem g33(f:α->α)(n:N8 α):a3 (u3 f n)=f (a3 n):=rfl
theorem g34(f:α->α)(n:N8 α):a3 (u4 f n)=a3 n:=rfl
theorem g35(f:α->α)(n:N8 α):a3 (u5 f n)=a3 n:=rfl
theorem g36(f:α->α)(n:N8 α):a3 (u6 f n)=a3 n:=rfl
theorem g37(f:α->α)(n:N8 α):a3 (u7 f n)=a3 n:=rfl
theorem g40(f:α->α)(n:N8 α):a4 (u0 f n)=a4 n:=rfl
theorem g41(f:α->α)(n:N8 α):a4 (u1 f n)=a4 n:=rfl
theorem g42(f:α->α)(n:N8 α):a4 (u2 f n)=a4 n:=rfl
theorem g43(f:α->α)(n:N8 α):a4 (u3 f n)=a4 n:=rfl
theorem g44(f:α->α)(n:N8 α):a4 (u4 f n)=f (a4 n):=rfl
theorem g45(f:α->α)(n:N8 α):a4 (u5 f n)=a4 n:=rfl
theorem g46(f:α->α)(n:N8 α):a4 (u6 f n)=a4 n:=rfl
theorem g47(f:α->α)(n:N8 α):a4 (u7 f n)=a4 n:=rfl
theorem g50(f:α->α)(n:N8 α):a5 (u0 f n)=a5 n:=rfl
theorem g51(f:α->α)(n:N8 α):a5 (u1 f n)=a5 n:=rfl
theorem g52(f:α->α)(n:N8 α):a5 (u2 f n)=a5 n:=rfl
theorem g53(f:α->α)(n:N8 α):a5 (u3 f n)=a5 n:=rfl
theorem g54(f:α->α)(n:N8 α):a5 (u4 f n)=a5 n:=rfl
theorem g55(f:α->α)(n:N8 α):a5 (u5 f n)=f (a5 n):=rfl
theorem g56(f:α->α)(n:N8 α):a5 (u6 f n)=a5 n:=rfl
theorem g57(f:α->α)(n:N8 α):a5 (u7 f n)=a5 n:=rfl
theorem g60(f:α->α)(n:N8 α):a6 (u0 f n)=a6 n:=rfl
theorem g61(f:α->α)(n:N8 α):a6 (u1 f n)=a6 n:=rfl
theorem g62(f:α->α)(n:N8 α):a6 (u2 f n)=a6 n:=rfl
theorem g63(f:α->α)(n:N8 α):a6 (u3 f n)=a6 n:=rfl
theorem g64(f:α->α)(n:N8 α):a6 (u4 f n)=a6 n:=rfl
theorem g65(f:α->α)(n:N8 α):a6 (u5 f n)=a6 n:=rfl
theorem g66(f:α->α)(n:N8 α):a6 (u6 f n)=f (a6 n):=rfl
theorem g67(f:α->α)(n:N8 α):a6 (u7 f n)=a6 n:=rfl
theorem g70(f:α->α)(n:N8 α):a7 (u0 f n)=a7 n:=rfl
theorem g71(f:α->α)(n:N8 α):a7 (u1 f n)=a7 n:=rfl
theorem g72(f:α->α)(n:N8 α):a7 (u2 f n)=a7 n:=rfl
theorem g73(f:α->α)(n:N8 α):a7 (u3 f n)=a7 n:=rfl
theorem g74(f:α->α)(n:N8 α):a7 (u4 f n)=a7 n:=rfl
theorem g75(f:α->α)(n:N8 α):a7 (u5 f n)=a7 n:=rfl
theorem g76(f:α->α)(n:N8 α):a7 (u6 f n)=a7 n:=rfl
theorem g77(f:α->α)(n:N8 α):a7 (u7 f n)=f (a7 n):=rfl
end N8
end
section
theorem qP(f:UD)(dst:Yu)(next:D)(c:Ctx)(tm:TM)(H:Heap)(x:X):Za f dst next c tm H x=OV (next c) dst c tm H x (f tm H):=rfl
theorem qO(g:YR)(b:Bool)(f:UD)(dst:Yu)(next:D)(c:Ctx)(tm:TM)(H:Heap)(x:X):ZR g b f dst next c tm H x=T3 (g tm) b (OV (next c) dst c tm H x (f tm H)) (next c (dst tm WK) H x):=rfl
theorem wV(yes no:VZ):T3 (.bool true) true yes no=yes:=rfl
theorem wS(yes no:VZ):T3 (.bool false) false yes no=yes:=rfl
theorem wU(yes no:VZ):T3 (.bool true) false yes no=no:=rfl
theorem wT(yes no:VZ):T3 (.bool false) true yes no=no:=rfl
theorem sF(next:TM->Heap->X->VZ)(dst:Yu)(c:Ctx)(tm:TM)(H:Heap)(x:X)(v:AV)(H':Heap):OV next dst c tm H x (.val v H')=next (dst tm v) H' x:=rfl
theorem wM(next:TM->Heap->X->VZ)(dst:Yu)(c:Ctx)(tm:TM)(H:Heap)(x:X)(f:Nat)(args:List AV)(H':Heap):OV next dst c tm H x (.oth (.call f args H'))=FN next dst tm x (c.call f args H'):=rfl
theorem qm(next:TM->Heap->X->VZ)(dst:Yu)(tm:TM)(x:X)(v:AV)(H:Heap):FN next dst tm x (.ret v H)=next (dst tm v) H x:=rfl
theorem qN(a b:D)(c:Ctx)(tm:TM)(H:Heap)(x:X):Zc a b c tm H x=Oy (a c tm H x) (b c):=rfl
theorem Bb(tm:TM)(H:Heap)(x:X)(k:TM->Heap->X->VZ):Oy (.ok .normal tm H x) k=k tm H x:=rfl
theorem uM(tm:TM)(H:Heap)(x:X)(k:TM->Heap->X->VZ):Oy (.ok .ret tm H x) k=.ok .ret tm H x:=rfl
theorem yG(i:Nat)(tm:TM)(H:Heap)(x:X)(k:TM->Heap->X->VZ):Oy (.ok (.exit i) tm H x) k=.ok (.exit i) tm H x:=rfl
theorem vG(c:Ctx)(tm:TM)(H:Heap)(x:X):Zb c tm H x=.ok .normal tm H x:=rfl
theorem qC(c:Ctx)(tm:TM)(H:Heap)(x:X):Ym c tm H x=.ok .ret tm H x:=rfl
theorem wz(i:Nat)(c:Ctx)(tm:TM)(H:Heap)(x:X):Y6 i c tm H x=.ok (.exit i) tm H x:=rfl
theorem wp(q:YR)(a b:D)(c:Ctx)(tm:TM)(H:Heap)(x:X):ZL q a b c tm H x=Cu (q tm) λv=>J3 (a c) (b c) v tm H x:=rfl
theorem vf(b:Bool)(k:Bool->VZ):Cu (.bool b) k=k b:=rfl
theorem zn(a b:TM->Heap->X->VZ)(tm:TM)(H:Heap)(x:X):J3 a b true tm H x=a tm H x:=rfl
theorem Bv(a b:TM->Heap->X->VZ)(tm:TM)(H:Heap)(x:X):J3 a b false tm H x=b tm H x:=rfl
theorem za(i:Nat)(a:D)(c:Ctx)(tm:TM)(H:Heap)(x:X):Z3 i a c tm H x=PQ i (a c tm H x):=rfl
theorem vx(a:D)(c:Ctx)(tm:TM)(H:Heap)(x:X):Xj a c tm H x=TH (a c) c.fuel tm H x:=rfl
theorem Ew(i:Nat)(tm:TM)(H:Heap)(x:X):PQ i (.ok .normal tm H x)=.ok .normal tm H x:=rfl
theorem BN(i:Nat)(tm:TM)(H:Heap)(x:X):PQ i (.ok (.exit i) tm H x)=.ok .normal tm H x:=by
 show @Bool.rec (λ_=>VZ) (.ok (.exit i) tm H x) (.ok .normal tm H x) (Nat.beq i i)=_
 rw[Xt]
theorem zL(i:Nat)(tm:TM)(H:Heap)(x:X):PQ i (.ok .ret tm H x)=.ok .ret tm H x:=rfl
theorem kl(tm:TM)(v:AV):d0 tm v=tm:=rfl
theorem bi(v:AV)(tm:TM):k v tm=v:=rfl
theorem pB:RJ []=LA:=rfl
theorem pC(a:AV):RJ [a]=st0 LA a:=rfl
theorem pD(a b:AV):RJ [a,b]=st1 (st0 LA a) b:=rfl
theorem pE(a b c:AV):RJ [a,b,c]=st2 (st1 (st0 LA a) b) c:=rfl
theorem pF(a b c d:AV):RJ [a,b,c,d]=Wz (st2 (st1 (st0 LA a) b) c) d:=rfl
theorem oi(tm:TM):evs tm []=[]:=rfl
theorem su(tm:TM)(f:YR)(l:List YR):evs tm (f::l)=f tm::evs tm l:=rfl
theorem XR{lib:Nat->List AV->Heap->Option CR}{fs:T CF}{fuel n f:Nat}{args:List AV}{H:Heap}{cf:CF}(hl:lib f args H=none)(hf:fs.get f=some cf):Xd lib fs fuel (n+1) f args H=
  Ly (λpn g as H=>FM .fail fs g λcg=>Hn pn cg.rs (cg.body ⟨Xd lib fs fuel n,TK,T5,fuel,false⟩ (RJ as) H ⟨[],pn⟩))
   cf.rs (cf.body ⟨Xd lib fs fuel n,TK,Ho fs fuel (Xd lib fs fuel n),fuel,false⟩ (RJ args) H ⟨[],none⟩):=by
 show xr (lib f args H) _=_
 rw[hl]
 unfold FM
 rw[hf]
 rfl
theorem qw(dc:Option AV->Nat->List AV->Heap->DR)(rs:List (YR×Option (Nat×Bool)))(tm:TM)(H:Heap)(rc:Option AV):Ly dc rs (.ok .ret tm H ⟨[],rc⟩)=results rs tm H:=rfl
theorem Ag(dc:Option AV->Nat->List AV->Heap->DR)(rs:List (YR×Option (Nat×Bool)))(tm:TM)(H:Heap)(rc:Option AV):Ly dc rs (.ok .normal tm H ⟨[],rc⟩)=results rs tm H:=rfl
theorem An(f:YR)(tm:TM)(H:Heap):results [(f,none)] tm H=.ret (f tm) H:=rfl
theorem C5(tm:TM)(H:Heap):results [] tm H=.ret (.tup []) H:=rfl
theorem nE(x:YR)(tm:TM)(H:Heap):Ze x tm H=.val (x tm) H:=rfl
noncomputable def bv(a:AV)(H:Heap):OR:=Pm a λk a=>OM k (Cv 0 a) H
noncomputable def k8(k:IntKind)(a:AV)(H:Heap):OR:=Pm a λ_ a=>OM k a H
noncomputable def A1(a b:AV)(H:Heap):OR:=match a with
 |.int j a=>Pm b λl b=>YP (MU j l) (OM j (w8 a b) H)
 |.str a=>O8 b λb=>YP (Nat.ble (Nat.add (XX a) (XX b)) 4611686018427387904) (.val (.str (a++b)) H)
 |_=>.fail
noncomputable def uI(a b:AV)(H:Heap):OR:=Hg a b λk a b=>OM k (Cv a b) H
noncomputable def bu(a b:AV)(H:Heap):OR:=Hg a b λk a b=>OM k (s0 a b) H
noncomputable def bH(a b:AV)(H:Heap):OR:=Hg a b λk a b=>cond (Eu b 0) .fail (OM k (kX a b) H)
noncomputable def bQ(a b:AV)(H:Heap):OR:=Hg a b λk a b=>cond (Eu b 0) .fail (Jv (kY a b) λn=>.val (.int k n) H)
noncomputable def mB(f:Nat->Nat->Nat->Nat)(a b:AV)(H:Heap):OR:=Hg a b λk a b=>OM k (.ofNat (f (O7 k) (Ms (O7 k) a) (Ms (O7 k) b))) H
noncomputable def bR(a b:AV)(H:Heap):OR:=Pm a λk a=>R6 b λb=>OM k (s0 a (.ofNat (Nat.pow 2 (cond (Nat.ble b 64) b 64)))) H
noncomputable def bS(a b:AV)(H:Heap):OR:=Pm a λk a=>R6 b λb=>Jv (k9 a (BY b (yW k))) λn=>.val (.int k n) H
noncomputable def lZ(a:AV)(H:Heap):OR:=Pm a λk a=>OM k (.ofNat (Nat.sub (Nat.sub (O7 k) 1) (Ms (O7 k) a))) H
noncomputable def ND(f:Int->Int->Bool)(g:List UInt8->List UInt8->Bool)(a b:AV)(H:Heap):OR:=match a with
 |.int j a=>Pm b λl b=>YP (MU j l) (RO (f a b) H)
 |.str a=>O8 b λb=>RO (g a b) H
 |_=>.fail
noncomputable def GB(f:AV->AV->Option Bool)(neg:Bool)(a b:AV)(H:Heap):OR:=S0 (f a b) λb=>RO (cond neg (cond b false true) b) H
noncomputable def nw(a:AV)(H:Heap):OR:=Hm a λb=>.val (.bool (cond b false true)) H
noncomputable def Dv(a b c:AV)(H:Heap):OR:=Hm a λt=>.val (cond t b c) H
theorem rQ(x:YR)(tm:TM)(H:Heap):CT x tm H=bv (x tm) H:=rfl
theorem rO(x:YR)(k:IntKind)(tm:TM)(H:Heap):VS x k tm H=k8 k (x tm) H:=rfl
theorem vI(x y:YR)(tm:TM)(H:Heap):Yh x y tm H=A1 (x tm) (y tm) H:=rfl
theorem r5(x y:YR)(tm:TM)(H:Heap):Xq x y tm H=uI (x tm) (y tm) H:=rfl
theorem rP(x y:YR)(tm:TM)(H:Heap):S9 x y tm H=bu (x tm) (y tm) H:=rfl
theorem rW(x y:YR)(tm:TM)(H:Heap):Pw x y tm H=bH (x tm) (y tm) H:=rfl
theorem rX(x y:YR)(tm:TM)(H:Heap):Ey x y tm H=bQ (x tm) (y tm) H:=rfl
theorem vJ(x y:YR)(f:Nat->Nat->Nat->Nat)(tm:TM)(H:Heap):W6 x y f tm H=mB f (x tm) (y tm) H:=rfl
theorem rY(x y:YR)(tm:TM)(H:Heap):PS x y tm H=bR (x tm) (y tm) H:=rfl
theorem rZ(x y:YR)(tm:TM)(H:Heap):N7 x y tm H=bS (x tm) (y tm) H:=rfl
theorem vZ(x:YR)(tm:TM)(H:Heap):r6 x tm H=lZ (x tm) H:=rfl
theorem rM(x y:YR)(f:Int->Int->Bool)(g:List UInt8->List UInt8->Bool)(tm:TM)(H:Heap):Yl x y f g tm H=ND f g (x tm) (y tm) H:=rfl
theorem nA(x y:YR)(f:AV->AV->Option Bool)(neg:Bool)(tm:TM)(H:Heap):WM x y f neg tm H=GB f neg (x tm) (y tm) H:=rfl
theorem rS(x:YR)(tm:TM)(H:Heap):Ts x tm H=nw (x tm) H:=rfl
theorem vV(x y z:YR)(tm:TM)(H:Heap):Yx x y z tm H=Dv (x tm) (y tm) (z tm) H:=rfl
theorem zX(f:Nat)(args:List YR)(tm:TM)(H:Heap):Zy f args tm H=.oth (.call f (evs tm args) H):=rfl
theorem Sv(b:Bool)(H:Heap):RO b H=.val (.bool b) H:=by cases b<;>rfl
theorem KE(k:IntKind)(n:Int)(H:Heap):OM k n H=.val (.int k (k.wrap n)) H:=by simp only[OM,E5,MT]
theorem DW(k:IntKind)(m n:Nat):DV k m (.ofNat n)=.ofNat (n % m):=by
 show cond (Nat.ble m n) (Int.ofNat (Nat.mod n m)) (.ofNat n)=_
 cases h:Nat.ble m n with
 |true=>rfl
 |false=>
  have:n<m:=by
   have h2: ¬m<=n:=λhh=>by rw[Z1 hh] at h;cases h
   omega
  rw[Sf this];rfl
theorem mr(n:Nat):IntKind.u8.wrap (.ofNat n)=.ofNat (n % 256):=by rw[<-MT];exact DW .u8 256 n
theorem ph(n:Nat):IntKind.u32.wrap (.ofNat n)=.ofNat (n % 4294967296):=by rw[<-MT];exact DW .u32 4294967296 n
theorem AY{n:Nat}(h:n<9223372036854775808):IntKind.i64.wrap (.ofNat n)=.ofNat n:=by
 rw[<-MT]
 show cond (Nat.ble 9223372036854775808 n) _ (Int.ofNat n)=_
 cases h2:Nat.ble 9223372036854775808 n with
 |true=>have:=YE h2;omega
 |false=>rfl
theorem BJ(a b:Nat):w8 (.ofNat a) (.ofNat b)=.ofNat (a+b):=rfl
theorem rf{a b:Nat}(h:b<=a):Cv (.ofNat a) (.ofNat b)=.ofNat (a - b):=by
 show cond (Nat.ble b a) (Int.ofNat (Nat.sub a b)) (Int.ofNat a - Int.ofNat b)=_
 rw[Z1 h];rfl
theorem Me(a b:Nat):Ct (.ofNat a) (.ofNat b)=decide (a<b):=by
 show Nat.ble (Nat.succ a) b=_
 cases h:Nat.ble (Nat.succ a) b with
 |true=>have:=YE h;exact(Zr this).symm
 |false=>
  have h2: ¬Nat.succ a<=b:=λhh=>by rw[Z1 hh] at h;cases h
  exact(Zj h2).symm
theorem xj(a b:Nat):Eu (.ofNat a) (.ofNat b)=decide (a=b):=Xx a b
theorem UY(k:IntKind):MU k k=true:=by cases k<;>rfl
def i64(n:Nat):AV:=nI .i64 n
def Gq(x:UInt8):AV:=.int .u8 (.ofNat x.toNat)
def JQ(x:UInt32):AV:=.int .u32 (.ofNat x.toNat)
theorem Yb{a b:Nat}(h:a+b<9223372036854775808)(H:Heap):A1 (nI .i64 a) (nI .i64 b) H=.val (nI .i64 (a+b)) H:=by
 show YP (MU .i64 .i64) (OM .i64 (w8 (.ofNat a) (.ofNat b)) H)=_
 rw[UY,KE,BJ,AY h];rfl
theorem Yc{a b:Nat}(h:b<=a)(h2:a<9223372036854775808)(H:Heap):uI (nI .i64 a) (nI .i64 b) H=.val (nI .i64 (a - b)) H:=by
 show YP (MU .i64 .i64) (OM .i64 (Cv (.ofNat a) (.ofNat b)) H)=_
 rw[UY,KE,rf h,AY (by omega)];rfl
theorem ZP(k:IntKind)(a b:Nat)(H:Heap):ND Y9 YB (nI k a) (nI k b) H=.val (.bool (decide (a<b))) H:=by
 show YP (MU k k) (RO (Ct (.ofNat a) (.ofNat b)) H)=_
 rw[UY,Sv,Me];rfl
theorem ZK(k:IntKind)(a b:Nat)(H:Heap):ND VE XW (nI k a) (nI k b) H=.val (.bool (decide (b<=a))) H:=by
 show YP (MU k k) (RO (!Ct (.ofNat a) (.ofNat b)) H)=_
 rw[UY,Sv,Me]
 show OR.val (.bool (!decide (a<b))) H=_
 congr 2
 by_cases h:a<b
 ·rw[Zr h,Zj (by omega)];rfl
 ·rw[Zj h,Zr (by omega)];rfl
theorem Ya(k:IntKind)(a b:Nat)(H:Heap):GB Vj true (nI k a) (nI k b) H=.val (.bool (decide (a≠b))) H:=by
 show S0 (cond (MU k k) (some (Eu (.ofNat a) (.ofNat b))) none) _=_
 rw[UY,xj]
 show RO (cond true (cond (decide (a=b)) false true) (decide (a=b))) H=_
 rw[Sv]
 congr 2
 by_cases h:a=b
 ·rw[Zr h,Zj (by omega)];rfl
 ·rw[Zj h,Zr h];rfl
theorem Z9(k:IntKind)(a b:Nat)(H:Heap):GB Vj false (nI k a) (nI k b) H=.val (.bool (decide (a=b))) H:=by
 show S0 (cond (MU k k) (some (Eu (.ofNat a) (.ofNat b))) none) _=_
 rw[UY,xj]
 exact Sv _ _
theorem pv(a b:UInt32)(H:Heap):A1 (JQ a) (JQ b) H=.val (JQ (a+b)) H:=by
 show YP (MU .u32 .u32) (OM .u32 (w8 (.ofNat a.toNat) (.ofNat b.toNat)) H)=_
 rw[UY,KE,BJ,ph];unfold JQ;rw[UInt32.toNat_add];rfl
end
structure Cells(r:Row)(l:List AV):Prop where
 size:r.size=l.length
 get: ∀i,i<l.length->r.get i=l.getD i .unk
theorem Cells.load{r:Row}{l:List AV}(h:Cells r l){o n:Nat}(hn:o+n<=l.length):U5 r o n=(l.drop o).take n:=by
 refine UT λj=>?_
 by_cases hj:j<n
 ·rw[Pk r n o j hj,UE hj,Ua,h.get (o+j) (by omega),ZN]
  rw[ZW (show o+j<l.length by omega)];rfl
 ·rw[WC (by rw[PR];omega),WC (by rw[Xo,V0];omega)]
theorem Cells.store{r:Row}{l:List AV}(h:Cells r l){o:Nat}{vs:List AV}(ho:o+vs.length<=l.length):Cells (r.setCells (Tv r.cells o vs)) (l.take o++(vs++l.drop (o+vs.length))):=by
 have hlen:(l.take o++(vs++l.drop (o+vs.length))).length=l.length:=by
  rw[X3,X3,Xo,V0];omega
 refine⟨by rw[hlen];exact h.size,λi hi=>?_⟩
 rw[hlen] at hi
 rw[Row.get_eq]
 show((Tv r.cells o vs).get i).getD r.dflt=_
 rw[N3,ZN]
 by_cases h1:o<=i∧i<o+vs.length
 ·rw[if_pos h1,Xs (by rw[Xo];omega),Xo,VV (by omega),Xb (by omega),
   ZW (show i - o<vs.length by omega)];rfl
 ·rw[if_neg h1]
  have h2:=h.get i hi
  rw[Row.get_eq,ZN] at h2
  rw[h2]
  by_cases h3:i<o
  ·rw[Xb (by rw[Xo];omega),UE h3]
  ·rw[Xs (by rw[Xo];omega),Xo,VV (by omega),Xs (by omega),Ua,
    show o+vs.length+(i - o - vs.length)=i by omega]
theorem Cells.new(e sz:Nat)(l:List AV)(fz:Nat)(sm own ex:Bool):Cells ⟨e,sz,XX l,T.ofList l,.unk,fz,sm,own,ex⟩ l:=by
 refine⟨XK l,λi hi=>?_⟩
 rw[Row.get_eq]
 show((T.ofList l).get i).getD .unk=_
 rw[T.get_ofList,ZN]
theorem Cells.zero(e n:Nat)(v:AV)(fz:Nat)(sm own ex:Bool):Cells ⟨e,1,n,.leaf,v,fz,sm,own,ex⟩ (List.replicate n v):=by
 refine⟨by simp,λi hi=>?_⟩
 rw[Th] at hi
 rw[Row.get_eq]
 show((T.leaf:T AV).get i).getD v=_
 rw[T.get_leaf,ZN,Uu,if_pos hi];rfl
structure Own(H:Heap)(b e:Nat)(l:List AV)(r:Row):Prop where
 at_:H.t.get b=some (.row r)
 elem:r.elem=e
 sz:r.sz=1
 own:r.own=true
 fz:r.fz=0
 sm:r.sm=false
 cells:Cells r l
 ro:H.ro<=b
noncomputable def CH(a:AV)(H:Heap):OR:=Qz a λb o=>Uc H b λr=>YP (Nat.ble (Nat.succ o) r.size) (.val (r.get o) H)
noncomputable def Dk(n:Nat)(a:AV)(H:Heap):OR:=Qz a λb o=>Uc H b λr=>YP (Nat.ble (Nat.add o n) r.size) (.val (.agg (U5 r o n)) H)
noncomputable def C9(n:Nat)(a v:AV)(H:Heap):OR:=Qz a λb o=>Uc H b λr=>
 YP (Nat.ble 1 n)<|YP (H.may r b) (YP (Nat.ble (Nat.add o n) r.size) (YP (Nat.ble r.fz o) (YP (Nat.beq (XX v.cells) n)
  (.val WK (H.put b (.row (r.setCells (Tv r.cells o v.cells))))))))
def nK(n:Nat)(a:AV)(H:Heap):OR:=Qz a λb o=>.val (.ptr b (Nat.add o n)) H
def sZ(n sz:Nat)(a i:AV)(H:Heap):OR:=R6 i λi=>Qz a λb o=>YP (Nat.ble (Nat.succ i) n) (.val (.ptr b (Nat.add o (Nat.mul i sz))) H)
def Fv(sz:Nat)(a i:AV)(H:Heap):OR:=R6 i λi=>SH a .fail λb o len _=>YP (Nat.ble (Nat.succ i) len) (.val (.ptr b (Nat.add o (Nat.mul i sz))) H)
def nt(a:AV)(H:Heap):OR:=CP a (.val a H)
noncomputable def In(a:AV)(H:Heap):OR:=nT a (.val (.int .i64 0) H)<|SH a (.val (.int .i64 0) H) λ_ _ n _=>RZ n λn=>.val (.int .i64 (.ofNat n)) H
theorem zY(x:YR)(tm:TM)(H:Heap):ZI x tm H=CH (x tm) H:=rfl
theorem vT(x:YR)(n:Nat)(tm:TM)(H:Heap):Yk x n tm H=Dk n (x tm) H:=rfl
theorem z6(x y:YR)(n:Nat)(tm:TM)(H:Heap):Z4 x y n tm H=C9 n (x tm) (y tm) H:=rfl
theorem rU(x:YR)(n:Nat)(tm:TM)(H:Heap):Yo x n tm H=nK n (x tm) H:=rfl
theorem vO(x y:YR)(n sz:Nat)(tm:TM)(H:Heap):QR x y n sz tm H=sZ n sz (x tm) (y tm) H:=rfl
theorem vP(x y:YR)(sz:Nat)(tm:TM)(H:Heap):Yi x y sz tm H=Fv sz (x tm) (y tm) H:=rfl
theorem rR(x:YR)(tm:TM)(H:Heap):Wq x tm H=nt (x tm) H:=rfl
theorem vR(x:YR)(tm:TM)(H:Heap):WJ x tm H=In (x tm) H:=rfl
theorem B2(e n:Nat)(v:AV)(tm:TM)(H:Heap):Mh e n v tm H=.val (.ptr H.nx 0) (H.new (.row ⟨e,1,n,.leaf,v,0,false,true,true⟩)):=rfl
theorem FH(e:Nat)(cs:List AV)(h:1<=XX cs)(tm:TM)(H:Heap):Xa e cs tm H=.val (.ptr H.nx 0) (H.newRow e 1 cs true):=by
 show YP (Nat.ble 1 (XX cs)) _=_
 rw[Z1 h];rfl
theorem r8(n b o:Nat)(H:Heap):nK n (.ptr b o) H=.val (.ptr b (o+n)) H:=rfl
theorem rK(b o:Nat)(H:Heap):nt (.ptr b o) H=.val (.ptr b o) H:=rfl
theorem M5(b o n:Nat)(c:Option Nat)(H:Heap):In (.slice b o n c) H=.val (nI .i64 n) H:=by
 show RZ n (λn=>OR.val (.int .i64 (.ofNat n)) H)=_
 rw[NL];rfl
theorem BP(H:Heap):In .slice0 H=.val (nI .i64 0) H:=rfl
theorem BO(H:Heap):In .nils H=.val (nI .i64 0) H:=rfl
theorem ZJ{n i:Nat}(h:i<n)(b o:Nat)(k:IntKind)(H:Heap):sZ n 1 (.ptr b o) (nI k i) H=.val (.ptr b (o+i)) H:=by
 show YP (Nat.ble (Nat.succ i) n) (.val (.ptr b (o+i*1)) H)=_
 rw[Z1 h,RV];rfl
theorem ZD{n i:Nat}(h:i<n)(b o:Nat)(c:Option Nat)(k:IntKind)(H:Heap):Fv 1 (.slice b o n c) (nI k i) H=.val (.ptr b (o+i)) H:=by
 show YP (Nat.ble (Nat.succ i) n) (.val (.ptr b (o+i*1)) H)=_
 rw[Z1 h,RV];rfl
theorem vw{H:Heap}{b o n:Nat}{r:Row}{l:List AV}(hr:H.t.get b=some (.row r))(hc:Cells r l)(ho:o+n<=l.length):Dk n (.ptr b o) H=.val (.agg ((l.drop o).take n)) H:=by
 show Uc H b _=_
 unfold Uc
 rw[hr]
 show YP (Nat.ble (o+n) r.size) _=_
 rw[hc.size,Z1 ho,hc.load ho];rfl
theorem Le(H:Heap)(b c:Nat)(o:Obj):(H.put b o).t.get c=if b=c then some o else H.t.get c:=T.get_set _ _ _ _
theorem Mg(H:Heap)(c:Nat)(o:Obj):(H.new o).t.get c=if H.nx=c then some o else H.t.get c:=T.get_set _ _ _ _
theorem PV(H:Heap)(b:Nat)(o:Obj):(H.put b o).nx=H.nx:=rfl
theorem C3(H:Heap)(b:Nat)(o:Obj):(H.put b o).ro=H.ro:=rfl
theorem My(H:Heap)(o:Obj):(H.new o).nx=H.nx+1:=rfl
theorem rJ(H:Heap)(o:Obj):(H.new o).ro=H.ro:=rfl
theorem Hj(H:Heap)(e sz:Nat)(l:List AV)(ex:Bool):H.newRow e sz l ex=H.new (.row ⟨e,sz,XX l,T.ofList l,.unk,0,false,true,ex⟩):=rfl
theorem zp(l:List PI)(c:Ctx)(tm:TM)(H:Heap)(x:X):YK l c tm H x=Tk (l.map (·.dst)) Kb l c [] tm H x:=rfl
theorem uo(ds:List Yu)(fin:PK)(c:Ctx)(rs:List RD)(tm:TM)(H:Heap)(x:X):Tk ds fin [] c rs tm H x=cond (still tm H rs) (fin rs tm H x) .fail:=rfl
theorem yj(ds:List Yu)(fin:PK)(p:PI)(l:List PI)(c:Ctx)(rs:List RD)(tm:TM)(H:Heap)(x:X):Tk ds fin (p::l) c rs tm H x=RB ds p (Tk ds fin l c) c rs tm H x:=rfl
theorem vH(rs:List RD)(tm:TM)(H:Heap)(x:X):Kb rs tm H x=.ok .normal tm H x:=rfl
section
variable (ds:List Yu) (f:UD) (os:List (Yu×YR)) (dst:Yu) (i bef:Nat) (nx:PK) (c:Ctx) (rs:List RD) (tm:TM) (H:Heap) (x:X)
theorem yB:RB ds ⟨f,none,os,dst,.free,i,bef⟩ nx c rs tm H x=cond (Qy H.nx tm os) (LP ⟨f,none,os,dst,.free,i,bef⟩ nx rs tm H x (f (Pe tm os) ⟨H.nx,.leaf,H.nx⟩)) .fail:=rfl
theorem yC:RB ds ⟨f,none,os,dst,.read,i,bef⟩ nx c rs tm H x=IE ⟨f,none,os,dst,.read,i,bef⟩ nx rs tm H x (f (Pe tm os) ⟨H.nx,H.t,H.nx⟩):=rfl
theorem uF:RB ds ⟨f,none,os,dst,.eff,i,bef⟩ nx c rs tm H x=cond (still tm H rs) (J7 ds ⟨f,none,os,dst,.eff,i,bef⟩ nx rs c tm x (f (Pe tm os) H)) .fail:=rfl
variable (g:Option (YR×Bool)) (kd:JS) (v:AV) (H':Heap)
theorem wG:LP ⟨f,g,os,dst,kd,i,bef⟩ nx rs tm H x (.val v ⟨H.nx,.leaf,H.nx⟩)=nx rs (dst tm v) H x:=by
 show cond (Nat.beq H.nx H.nx) (nx rs (dst tm v) H x) _=_
 rw[Xt];rfl
theorem tY:J7 ds ⟨f,g,os,dst,kd,i,bef⟩ nx rs c tm x (.val v H')=nx (TZ bef rs) (dst tm v) H' x:=rfl
theorem wx(q:Nat)(args:List AV):J7 ds ⟨f,g,os,dst,kd,i,bef⟩ nx rs c tm x (.oth (.call q args H'))=FU ds ⟨f,g,os,dst,kd,i,bef⟩ nx rs tm x (c.call q args H'):=rfl
theorem qE:FU ds ⟨f,g,os,dst,kd,i,bef⟩ nx rs tm x (.ret v H')=nx (TZ bef rs) (dst tm v) H' x:=rfl
theorem vi(b:Nat):TZ b []=[]:=rfl
theorem zG(b:Nat):TZ b (⟨⟨f,g,os,dst,kd,i,bef⟩,v⟩::rs)=cond (Nat.testBit b i) (TZ b rs) (⟨⟨f,g,os,dst,kd,i,bef⟩,v⟩::TZ b rs):=rfl
theorem uG:still tm H []=true:=rfl
theorem yD:still tm H (⟨⟨f,g,os,dst,kd,i,bef⟩,v⟩::rs)=cond (Aj ⟨⟨f,g,os,dst,kd,i,bef⟩,v⟩ tm H) (still tm H rs) false:=rfl
noncomputable def TS(r:OR)(w:AV)(n:Nat):Bool:=OR.rec (λv H1=>cond (Nat.beq H1.nx n) (same v w) false) (λ_=>false) r
theorem qz:Aj ⟨⟨f,g,os,dst,kd,i,bef⟩,v⟩ tm H=TS (f (Pe tm os) ⟨H.nx,H.t,H.nx⟩) v H.nx:=rfl
end
theorem SQ(v:AV)(n:Nat)(t:T Obj)(h:same v v=true):TS (.val v ⟨n,t,n⟩) v n=true:=by
 show cond (Nat.beq n n) (same v v) false=true
 rw[Xt,h];rfl
theorem T0(k:IntKind)(n:Int):same (.int k n) (.int k n)=true:=by
 show cond (MU k k) (Eu n n) false=true
 rw[UY,PP];simp
theorem qM(x:UInt32):same (JQ x) (JQ x)=true:=T0 ..
theorem mc(x:UInt8):same (Gq x) (Gq x)=true:=T0 ..
theorem ma(k:IntKind)(n:Nat):same (nI k n) (nI k n)=true:=T0 ..
theorem zE(v:UInt32)(n:Nat)(t:T Obj):TS (.val (JQ v) ⟨n,t,n⟩) (JQ v) n=true:=SQ _ _ _ (qM v)
theorem vh(v:UInt8)(n:Nat)(t:T Obj):TS (.val (Gq v) ⟨n,t,n⟩) (Gq v) n=true:=SQ _ _ _ (mc v)
theorem vg(k:IntKind)(v:Nat)(n:Nat)(t:T Obj):TS (.val (nI k v) ⟨n,t,n⟩) (nI k v) n=true:=SQ _ _ _ (ma k v)
theorem vy(n:Nat)(tm:TM):Qy n tm []=true:=rfl
theorem zO(n:Nat)(tm:TM)(s:Yu)(g:YR)(os:List (Yu×YR)):Qy n tm ((s,g)::os)=cond (VB n (g tm)) (Qy n tm os) false:=rfl
theorem ni(n:Nat)(k:IntKind)(m:Nat):VB n (nI k m)=true:=rfl
theorem rB(n:Nat)(x:UInt32):VB n (JQ x)=true:=rfl
theorem nj(n:Nat)(x:UInt8):VB n (Gq x)=true:=rfl
theorem vz(n:Nat)(x:Bool):VB n (.bool x)=true:=rfl
theorem Yj{n b:Nat}(h:b<n)(o:Nat):VB n (.ptr b o)=true:=Z1 h
theorem JE{n b:Nat}(h:b<n)(o l:Nat)(c:Option Nat):VB n (.slice b o l c)=true:=Z1 h
theorem n7(tm:TM):Pe tm []=LA:=rfl
theorem qH(tm:TM)(s:Yu)(g:YR)(os:List (Yu×YR)):Pe tm ((s,g)::os)=s (Pe tm os) (g tm):=rfl
theorem Cp(tm:TM):Z0 tm=N8.a0 (N8.a0 (N8.a0 tm)):=rfl
theorem JA(tm:TM):YQ tm=N8.a1 (N8.a0 (N8.a0 tm)):=rfl
theorem K0(tm:TM):XC tm=N8.a2 (N8.a0 (N8.a0 tm)):=rfl
theorem Fp(tm:TM):Xm tm=N8.a3 (N8.a0 (N8.a0 tm)):=rfl
theorem Es(tm:TM):Xh tm=N8.a4 (N8.a0 (N8.a0 tm)):=rfl
theorem wQ(tm:TM):Xy tm=N8.a5 (N8.a0 (N8.a0 tm)):=rfl
theorem Fq(tm:TM):X5 tm=N8.a6 (N8.a0 (N8.a0 tm)):=rfl
theorem sJ(tm:TM):Wl tm=N8.a7 (N8.a0 (N8.a0 tm)):=rfl
theorem wR(tm:TM):XD tm=N8.a0 (N8.a1 (N8.a0 tm)):=rfl
theorem sK(tm:TM):XP tm=N8.a1 (N8.a1 (N8.a0 tm)):=rfl
theorem Df(tm:TM):YG tm=N8.a2 (N8.a1 (N8.a0 tm)):=rfl
theorem Dg(tm:TM):Yz tm=N8.a3 (N8.a1 (N8.a0 tm)):=rfl
theorem Ik(tm:TM):Yn tm=N8.a4 (N8.a1 (N8.a0 tm)):=rfl
theorem y9(tm:TM):YD tm=N8.a5 (N8.a1 (N8.a0 tm)):=rfl
theorem mU(tm:TM):XA tm=N8.a6 (N8.a2 (N8.a0 tm)):=rfl
theorem mV(tm:TM):Y8 tm=N8.a7 (N8.a2 (N8.a0 tm)):=rfl
theorem xc(tm:TM):XI tm=N8.a0 (N8.a3 (N8.a0 tm)):=rfl
theorem dR(tm:TM):Wa tm=N8.a1 (N8.a3 (N8.a0 tm)):=rfl
theorem dS(tm:TM):Wf tm=N8.a2 (N8.a3 (N8.a0 tm)):=rfl
theorem dT(tm:TM):Wg tm=N8.a5 (N8.a3 (N8.a0 tm)):=rfl
theorem dU(tm:TM):Ws tm=N8.a6 (N8.a3 (N8.a0 tm)):=rfl
theorem dV(tm:TM):Wd tm=N8.a7 (N8.a3 (N8.a0 tm)):=rfl
theorem dW(tm:TM):WX tm=N8.a5 (N8.a5 (N8.a0 tm)):=rfl
theorem dX(tm:TM):Vu tm=N8.a7 (N8.a5 (N8.a0 tm)):=rfl
theorem dY(tm:TM):Vq tm=N8.a0 (N8.a6 (N8.a0 tm)):=rfl
theorem dZ(tm:TM):Vv tm=N8.a1 (N8.a6 (N8.a0 tm)):=rfl
theorem ca(tm:TM):Uj tm=N8.a0 (N8.a7 (N8.a0 tm)):=rfl
theorem mW(tm:TM):Ub tm=N8.a1 (N8.a7 (N8.a0 tm)):=rfl
theorem sI(tm:TM):VD tm=N8.a2 (N8.a7 (N8.a0 tm)):=rfl
theorem mX(tm:TM):Uy tm=N8.a3 (N8.a7 (N8.a0 tm)):=rfl
theorem cb(tm:TM):UI tm=N8.a4 (N8.a7 (N8.a0 tm)):=rfl
theorem kI(tm:TM):HZ tm=N8.a7 (N8.a5 (N8.a2 tm)):=rfl
structure Yw(H H':Heap)(S:List Nat):Prop where
 nx:H.nx<=H'.nx
 ro:H'.ro=H.ro
 get: ∀c,c<H.nx->c∉S->H'.t.get c=H.t.get c
theorem Yw.refl(H:Heap)(S:List Nat):Yw H H S:=⟨Z2 _,rfl,λ_ _ _=>rfl⟩
theorem Yw.trans{H H' H'':Heap}{S S':List Nat}(a:Yw H H' S)(b:Yw H' H'' S')(h: ∀c,c∈S'->c<H.nx->c∈S):Yw H H'' S:=
 ⟨YZ a.nx b.nx,b.ro.trans a.ro,λc hc hn=>(b.get c (YV hc a.nx) (λhh=>hn (h c hh hc))).trans (a.get c hc hn)⟩
theorem Yw.put{H:Heap}{b:Nat}{o:Obj}{S:List Nat}(h:b<H.nx->b∈S):Yw H (H.put b o) S:=
 ⟨Z2 _,rfl,λc hc hn=>by rw[Le,if_neg (λ(e:b=c)=>hn (by rw[<-e];exact h (by omega)))]⟩
theorem Yw.new(H:Heap)(o:Obj)(S:List Nat):Yw H (H.new o) S:=
 ⟨Un _,rfl,λc hc _=>by rw[Mg,if_neg (by omega)]⟩
theorem Yw.then_put{H H':Heap}{b:Nat}{o:Obj}{S:List Nat}(k:Yw H H' S)(h:b<H.nx->b∈S):Yw H (H'.put b o) S:=
 ⟨k.nx,k.ro,λc hc hn=>by rw[Le,if_neg (λ(e:b=c)=>hn (by rw[<-e];exact h (by omega)))];exact k.get c hc hn⟩
theorem Yw.then_new{H H':Heap}{S:List Nat}(k:Yw H H' S)(o:Obj):Yw H (H'.new o) S:=
 ⟨Nat.le_succ_of_le k.nx,k.ro,λc hc hn=>by rw[Mg,if_neg (by have:=k.nx;omega)];exact k.get c hc hn⟩
theorem Yw.trans'{H H' H'':Heap}{S':List Nat}(a:Yw H H' [])(b:Yw H' H'' S'):Yw H H'' S':=
 ⟨YZ a.nx b.nx,b.ro.trans a.ro,λc hc hn=>(b.get c (YV hc a.nx) hn).trans (a.get c hc (by simp))⟩
structure ZeO(H:Heap)(b o:Nat)(cap:Option Nat)(l:List UInt8)(r:Row):Prop where
 at_:H.t.get b=some (.row r)
 sz:r.sz=1
 fits:o+l.length<=r.size
 get: ∀i,i<l.length->r.get (o+i)=Gq (l.getD i 0)
 cap: ∀c,cap=some c->l.length<=c∧o+c<=r.size
def No(x:Option AV)(d top:Nat)(k:Nat->OR):OR:=match x with|none=>k d|some v=>R6 v λn=>YP (Nat.ble n top) (k n)
noncomputable def Hw(sz:Nat)(a:AV)(lo hi:Option AV)(H:Heap):OR:=
 nT a (No hi 0 0 λh=>No lo 0 h λ_=>.val .slice0 H)<|SH a (No hi 0 0 λh=>No lo 0 h λ_=>.val .nils H) λb o len cap=>Uc H b λr=>YP (AP r sz cap) (No hi len (RK r o cap) λh=>No lo 0 h λl=>YP (Nat.ble l (RK r o cap))<|
  cond (Nat.beq l (RK r o cap)) (Option.rec (.val (.slice H.nx 0 (Nat.sub h l) none) ⟨Nat.succ H.nx,H.t,H.ro⟩) (λ_=>.val (.slice b o (Nat.sub h l) (some 0)) H) cap)
   (.val (.slice b (Nat.add o (Nat.mul l sz)) (Nat.sub h l) (Option.rec none (λc=>some (Nat.sub c l)) cap)) H))
theorem z5(sz:Nat)(x:YR)(lo hi:Option YR)(tm:TM)(H:Heap):Kh sz x lo hi none tm H=Hw sz (x tm) (lo.map λf=>f tm) (hi.map λf=>f tm) H:=by
 cases lo<;>cases hi<;>rfl
noncomputable def qS(n sz:Nat)(a:AV)(lo hi:Option AV)(H:Heap):OR:=Qz a λb o=>No hi n n λh=>No lo 0 h λl=>
 cond (Nat.beq l n) (.val (.slice b o (Nat.sub h l) (some (Nat.sub n l))) H) (.val (.slice b (Nat.add o (Nat.mul l sz)) (Nat.sub h l) (some (Nat.sub n l))) H)
theorem z3(n sz:Nat)(x:YR)(lo hi:Option YR)(tm:TM)(H:Heap):M9 n sz x lo hi none tm H=qS n sz (x tm) (lo.map λf=>f tm) (hi.map λf=>f tm) H:=by
 cases lo<;>cases hi<;>rfl
noncomputable def mG(sz:Nat)(a v:AV)(H:Heap):OR:=CB v λsn=>SH a (.val (.int .i64 0) H) λb o dn _=>RZ (BY dn sn) λn=>Ti H sz v n λnew=>
 cond (Nat.beq n 0) (.val (.int .i64 0) H) (Uc H b λr=>YP (H.may r b) (YP (Nat.ble r.fz o) (YP (Nat.ble (Nat.add o (Nat.mul n sz)) r.size) (.val (.int .i64 (.ofNat n)) (H.put b (.row (r.setCells (Tv r.cells o new))))))))
theorem vL(x y:YR)(sz:Nat)(tm:TM)(H:Heap):B6 x y sz tm H=mG sz (x tm) (y tm) H:=rfl
noncomputable def Oc(k:List AV->OR)(ps:List (Nat×Nat×AV)):List AV->OR:=List.rec (λcells=>k cells) (λp _ ih cells=>
 YP (Nat.ble 1 p.2.1)<|YP (Nat.beq (XX p.2.2.cells) p.2.1) (YP (Nat.ble (Nat.add p.1 p.2.1) (XX cells)) (ih (NA p.1 cells++(p.2.2.cells++OU (Nat.add p.1 p.2.1) cells))))) ps
theorem I8(tm:TM)(k:List AV->OR): ∀(ps:List DY) (cells:List AV),EW tm k ps cells=Oc k (ps.map λp=>(p.off,p.sz,p.x tm)) cells
 |[],_=>rfl
 |p::ps,cells=>by
  show YP (Nat.ble 1 p.sz) (YP (Nat.beq (XX (p.x tm).cells) p.sz) (YP (Nat.ble (Nat.add p.off p.sz) (XX cells)) (EW tm k ps (NA p.off cells++((p.x tm).cells++OU (Nat.add p.off p.sz) cells)))))=_
  rw[I8 tm k ps]
  rfl
noncomputable def LI(zs:List AV)(ps:List (Nat×Nat×AV))(H:Heap):OR:=YP (Nat.ble 1 (XX zs))<|Oc (λcs=>.val (.agg cs) H) ps zs
theorem M8(zs:List AV)(ps:List DY)(tm:TM)(H:Heap):W7 zs ps tm H=LI zs (ps.map λp=>(p.off,p.sz,p.x tm)) H:=by
 unfold W7 LI
 rw[I8]
noncomputable def ON(e sz n:Nat)(zs:List AV)(ps:List (Nat×Nat×AV))(H:Heap):OR:=YP (Nat.ble 1 sz)<|YP (Nat.beq (XX zs) (Nat.mul n sz))<|Oc (λcs=>.val (.slice H.nx 0 n none) (H.newRow e sz cs true)) ps zs
theorem Mi(e sz n:Nat)(zs:List AV)(ps:List DY)(tm:TM)(H:Heap):VR e sz n zs ps tm H=ON e sz n zs (ps.map λp=>(p.off,p.sz,p.x tm)) H:=by
 unfold VR ON
 rw[I8]
noncomputable def NC(e sz bytes:Nat)(a v:AV)(H:Heap):OR:=YP (Nat.ble 1 sz)<|YP (Nat.ble 1 bytes)<|CB v λn=>Ti H sz v n λnew=>Jm a e sz bytes H n new
theorem Gf(x y:YR)(e sz bytes:Nat)(tm:TM)(H:Heap):UJ x y e sz bytes tm H=NC e sz bytes (x tm) (y tm) H:=rfl
def Src(H:Heap)(v:AV)(l:List AV):Prop:= ∀k:Nat->List AV->OR,(CB v λn=>Ti H 1 v n λnew=>k n new)=k l.length l
theorem Src.nils(H:Heap):Src H .nils []:=λ_=>rfl
theorem Src.none(H:Heap)(b o:Nat)(c:Option Nat):Src H (.slice b o 0 c) []:=λ_=>rfl
theorem Src.row{H:Heap}{b o:Nat}{c:Option Nat}{r:Row}{l:List AV}(hr:H.t.get b=some (.row r))(hf:o+l.length<=r.size)(hg: ∀i,i<l.length->r.get (o+i)=l.getD i .unk):Src H (.slice b o l.length c) l:=by
 intro k
 show(Ti H 1 (.slice b o l.length c) l.length λnew=>k l.length new)=_
 unfold Ti
 rw[Xx]
 by_cases h0:l.length=0
 ·rw[Zr h0]
  have:l=[]:=Vs.1 h0
  subst this;rfl
 ·rw[Zj h0]
  unfold Uc
  simp only[hr,cond_false,RV]
  show YP (Nat.ble (o+l.length*1) r.size) (k l.length (U5 r o (l.length*1)))=_
  rw[RV,Z1 hf]
  have:U5 r o l.length=l:=by
   refine UT λj=>?_
   by_cases hj:j<l.length
   ·rw[Pk r _ o j hj,hg j hj,ZN,ZW hj];rfl
   ·rw[WC (by rw[PR];omega),WC (by omega)]
  rw[this];rfl
structure aT(H:Heap)(b e:Nat)(l:List AV)(r:Row):Prop extends Own H b e l r where
 exact_:r.exact=false
 low:b<H.nx
section
variable {P:Program}
theorem Ko(s:List UInt8):same (.str s) (.str s)=true:=by
 unfold same;rw[Qk];simp
theorem zD(s:List UInt8)(n:Nat)(t:T Obj):TS (.val (.str s) ⟨n,t,n⟩) (.str s) n=true:=SQ _ _ _ (Ko s)
theorem NG(b o n:Nat)(c:Option Nat)(k:Nat)(t:T Obj):TS (.val (.slice b o n c) ⟨k,t,k⟩) (.slice b o n c) k=true:=SQ _ _ _ (by
 unfold same
 rw[Xt,Xt,Xt]
 cases c with
 |none=>rfl
 |some x=>show Nat.beq x x=true;exact Xt x)
theorem Mf(n:Nat)(t:T Obj):TS (.val .nils ⟨n,t,n⟩) .nils n=true:=SQ _ _ _ (by unfold same;rfl)
variable (ds:List Yu) (f:UD) (e:YR) (b:Bool) (os:List (Yu×YR)) (dst:Yu) (i bef:Nat) (nx:PK) (c:Ctx) (rs:List RD) (tm:TM) (H:Heap) (x:X)
theorem AK:RB ds ⟨f,some (e,b),os,dst,.free,i,bef⟩ nx c rs tm H x=T3 (e tm) b (cond (Qy H.nx tm os) (LP ⟨f,some (e,b),os,dst,.free,i,bef⟩ nx rs tm H x (f (Pe tm os) ⟨H.nx,.leaf,H.nx⟩)) .fail) (nx rs (dst tm WK) H x):=rfl
theorem AL:RB ds ⟨f,some (e,b),os,dst,.read,i,bef⟩ nx c rs tm H x=T3 (e tm) b (IE ⟨f,some (e,b),os,dst,.read,i,bef⟩ nx rs tm H x (f (Pe tm os) ⟨H.nx,H.t,H.nx⟩)) (nx rs (dst tm WK) H x):=rfl
theorem yA:RB ds ⟨f,some (e,b),os,dst,.eff,i,bef⟩ nx c rs tm H x=cond (still tm H rs) (T3 (e tm) b (J7 ds ⟨f,some (e,b),os,dst,.eff,i,bef⟩ nx rs c tm x (f (Pe tm os) H)) (nx (TZ bef rs) (dst tm WK) H x)) .fail:=rfl
theorem wF(g:Option (YR×Bool))(kd:JS)(v:AV)(o:Obj)(hw:wrO o=true):LP ⟨f,g,os,dst,kd,i,bef⟩ nx rs tm H x (.val v ((⟨H.nx,.leaf,H.nx⟩:Heap).new o))=nx rs (dst tm v) (H.new o) x:=by
 show cond (Nat.beq (H.nx+1) H.nx) _ (cond (Nat.beq (H.nx+1) (Nat.succ H.nx)) (qn (((T.leaf:T Obj).set H.nx o).get H.nx) λo=>nx rs (dst tm v) (H.new o) x) .fail)=_
 rw[Xx,Zj (by omega),Xx,Zr rfl,T.get_set,if_pos rfl]
 show cond (wrO o) _ _=_
 rw[hw];rfl
end
theorem EM{lib:Nat->List AV->Heap->Option CR}{fs:T CF}{fuel n f:Nat}{args:List AV}{H:Heap}{r:CR}(h:lib f args H=some r):Xd lib fs fuel (n+1) f args H=r:=by
 show xr (lib f args H) _=_
 rw[h];rfl
section
variable {P:Program}
theorem oR{call:Nat->List AV->Heap->CR}(hcall:RF P call){f:FuncId}{args:List AV}{H H':Heap}{v:AV}(hrun:call f args H=.ret v H')(k:Yw H H' [])(hlow:VB 0 v=true)
  {σ:Mp}{w:World}{vs:List Value}(hs:VP P σ H w)(hv:XG σ args vs):MV P σ H w (.ret v H) ((callFunc f ⟨vs⟩).run P w):=by
 have hcr:=hcall f _ H σ w vs hs hv
 rw[hrun] at hcr
 refine Ends.mono (λu' w' hx=>?_) (λ_ _ hx=>hx) hcr
 obtain⟨σ2,h1,t⟩:=hx
 refine⟨σ,?_,t.drop hs λb hb=>k.get b hb (by simp)⟩
 exact(Y2.cut hlow h1).mono λy _ hy=>by have:=(Mp.cut_some hy).1;omega
end
noncomputable def xp(a:AV)(H:Heap):OR:=O8 a λs=>RZ (XX s) λn=>.val (.int .i64 (.ofNat n)) H
theorem vS(x:YR)(tm:TM)(H:Heap):Wc x tm H=xp (x tm) H:=rfl
theorem Zx(s:List UInt8)(H:Heap):xp (.str s) H=.val (nI .i64 s.length) H:=by
 show RZ (XX s) (λn=>OR.val (.int .i64 (.ofNat n)) H)=_
 rw[NL,XK];rfl
noncomputable def GD(a i:AV)(H:Heap):OR:=R6 i λi=>O8 a λs=>S0 (B1 s i) λb=>RZ b.toNat λn=>.val (.int .u8 (.ofNat n)) H
theorem B8(x y:YR)(tm:TM)(H:Heap):YA x y tm H=GD (x tm) (y tm) H:=rfl
theorem zA{s:List UInt8}{i:Nat}(h:i<s.length)(k:IntKind)(H:Heap):GD (.str s) (nI k i) H=.val (Gq (s.getD i 0)) H:=by
 show S0 (B1 s i) _=_
 rw[CS,ZW h]
 show RZ s[i].toNat (λn=>OR.val (.int .u8 (.ofNat n)) H)=_
 rw[NL,ZN,ZW h];rfl
noncomputable def F4(a:AV)(lo hi:Option AV)(H:Heap):OR:=O8 a λs=>No hi (XX s) (XX s) λh=>No lo 0 h λl=>.val (.str (J5 l (Jj h s))) H
theorem z4(x:YR)(lo hi:Option YR)(tm:TM)(H:Heap):WF x lo hi none tm H=F4 (x tm) (lo.map λf=>f tm) (hi.map λf=>f tm) H:=by
 cases lo<;>cases hi<;>rfl
theorem Zs{s:List UInt8}{n:Nat}(h:n<=s.length)(k:IntKind)(H:Heap):F4 (.str s) none (some (nI k n)) H=.val (.str (s.take n)) H:=by
 show YP (Nat.ble n (XX s)) (OR.val (.str (J5 0 (Jj n s))) H)=_
 rw[XK,Z1 h,KD];rfl
theorem Bi{a b:List UInt8}(h:a.length+b.length<=4611686018427387904)(H:Heap):A1 (.str a) (.str b) H=.val (.str (a++b)) H:=by
 show YP (Nat.ble (Nat.add (XX a) (XX b)) 4611686018427387904) _=_
 rw[XK,XK,Z1 (show Nat.add a.length b.length<=_ from h)];rfl
theorem ZO(a b:List UInt8)(H:Heap):GB Nw false (.str a) (.str b) H=.val (.bool (decide (a=b))) H:=by
 show RO (KB a b) H=_
 rw[Sv,Qk]
 congr 2
 by_cases h:a=b<;>simp[h]
theorem Z8(a b:List UInt8)(H:Heap):GB Nw true (.str a) (.str b) H=.val (.bool (!decide (a=b))) H:=by
 show RO (cond (KB a b) false true) H=_
 rw[Sv,Qk]
 congr 2
 by_cases h:a=b<;>simp[h]
structure Below(n:Nat)(H H':Heap):Prop where
 nx:H.nx<=H'.nx
 ro:H'.ro=H.ro
 get: ∀c,c<n->c<H.nx->H'.t.get c=H.t.get c
theorem Below.refl(n:Nat)(H:Heap):Below n H H:=⟨Z2 _,rfl,λ_ _ _=>rfl⟩
theorem Below.trans{n:Nat}{H H' H'':Heap}(a:Below n H H')(b:Below n H' H''):Below n H H'':=
 ⟨YZ a.nx b.nx,b.ro.trans a.ro,λc h1 h2=>(b.get c h1 (YV h2 a.nx)).trans (a.get c h1 h2)⟩
theorem Below.put{n b:Nat}{H:Heap}{o:Obj}(h:n<=b):Below n H (H.put b o):=⟨Z2 _,rfl,λc h1 _=>by rw[Le,if_neg (by omega)]⟩
theorem Below.new(n:Nat)(H:Heap)(o:Obj):Below n H (H.new o):=⟨Un _,rfl,λc _ h2=>by rw[Mg,if_neg (by omega)]⟩
theorem Below.mono{n m:Nat}{H H':Heap}(a:Below n H H')(h:m<=n):Below m H H':=⟨a.nx,a.ro,λc h1 h2=>a.get c (by omega) h2⟩
theorem Yw.below{H0 H H':Heap}{n:Nat}(k:Yw H0 H [])(b:Below n H H')(h:H0.nx<=n):Yw H0 H' []:=
 ⟨YZ k.nx b.nx,b.ro.trans k.ro,λc h1 h2=>(b.get c (by omega) (YV h1 k.nx)).trans (k.get c h1 h2)⟩
def Zai(H:Heap)(v:AV)(l:List UInt8)(lo:Nat):Prop:= ∃b r,v=.slice b 0 l.length none∧aT H b 5 (l.map Gq) r∧lo<=b
def Buf(H:Heap)(v:AV)(l:List UInt8)(lo:Nat):Prop:=(l=[]∧v=.nils)∨(l≠[]∧Zai H v l lo)
theorem Buf.below{H H':Heap}{v:AV}{l:List UInt8}{lo:Nat}(h:Buf H v l lo)(hp: ∀c,lo<=c->c<H.nx->H'.t.get c=H.t.get c)(hro:H'.ro=H.ro)(hnx:H.nx<=H'.nx):Buf H' v l lo:=by
 rcases h with h|⟨hne,b,r,rfl,g,hb⟩
 ·exact .inl h
 ·exact .inr ⟨hne,b,r,rfl,⟨⟨by rw[hp b hb g.low];exact g.at_,g.elem,g.sz,g.own,g.fz,g.sm,g.cells,by rw[hro];exact g.ro⟩,g.exact_,YV g.low hnx⟩,hb⟩
theorem ZS(k:IntKind)(a b:Nat)(H:Heap):ND Tb Vl (nI k a) (nI k b) H=.val (.bool (decide (b<a))) H:=by
 show YP (MU k k) (RO (Ct (.ofNat b) (.ofNat a)) H)=_
 rw[UY,Sv,Me];rfl
theorem ZT(k:IntKind)(a b:Nat)(H:Heap):ND TG VN (nI k a) (nI k b) H=.val (.bool (decide (a<=b))) H:=by
 show YP (MU k k) (RO (!Ct (.ofNat b) (.ofNat a)) H)=_
 rw[UY,Sv,Me]
 show OR.val (.bool (!decide (b<a))) H=_
 congr 2
 by_cases h:b<a
 ·rw[Zr h,Zj (by omega)];rfl
 ·rw[Zj h,Zr (by omega)];rfl
theorem nY(b c:AV)(H:Heap):Dv (.bool true) b c H=.val b H:=rfl
theorem nX(b c:AV)(H:Heap):Dv (.bool false) b c H=.val c H:=rfl
theorem js(b:Bool)(H:Heap):nw (.bool b) H=.val (.bool (cond b false true)) H:=rfl
theorem ry(n:Nat)(l:List AV):VB n (.agg l)=Pb n l:=rfl
theorem zQ(n:Nat):VB n WK=true:=rfl
theorem rA(n:Nat)(s:List UInt8):VB n (.str s)=true:=rfl
noncomputable def vC(mx:Bool)(l:List AV)(H:Heap):OR:=match l with
 |.int k a::l=>min2 mx k a H l
 |_=>.fail
theorem Ke(mx:Bool)(args:List YR)(tm:TM)(H:Heap):T6 mx args tm H=vC mx (evs tm args) H:=rfl
theorem Xc(a b:Nat)(H:Heap):vC false [nI .i64 a,nI .i64 b] H=.val (nI .i64 (min a b)) H:=by
 show YP (MU .i64 .i64) (min2 false .i64 (cond (cond false (Ct (.ofNat a) (.ofNat b)) (Ct (.ofNat b) (.ofNat a))) (.ofNat b) (.ofNat a)) H [])=_
 rw[UY,Me,Me]
 show OR.val (.int .i64 (cond (decide (b<a)) (.ofNat b) (.ofNat a))) H=_
 by_cases h:b<a
 ·rw[Zr h,TQ (by omega)];rfl
 ·rw[Zj h,VV (by omega)];rfl
noncomputable def HN(i:Nat)(a:AV)(H:Heap):OR:=xG a λvs=>S0 (FG vs i) λv=>.val v H
theorem vN(x:YR)(i:Nat)(tm:TM)(H:Heap):XH x i tm H=HN i (x tm) H:=rfl
theorem oj(a:AV)(l:List AV)(H:Heap):HN 0 (.tup (a::l)) H=.val a H:=rfl
theorem ol(a b:AV)(l:List AV)(H:Heap):HN 1 (.tup (a::b::l)) H=.val b H:=rfl
theorem oo(a b c:AV)(l:List AV)(H:Heap):HN 2 (.tup (a::b::c::l)) H=.val c H:=rfl
theorem oe(a b:Bool)(H:Heap):GB tc false (.bool a) (.bool b) H=.val (.bool (decide (a=b))) H:=by cases a<;>cases b<;>rfl
theorem FB(a:TM->Heap->X->VZ)(n:Nat)(tm:TM)(H:Heap)(x:X):TH a (n+1) tm H x=Oy (a tm H x) (TH a n):=rfl
noncomputable def lF(a:AV)(H:Heap):OR:=match a with
 |.nilp=>.val .nilp H
 |.ptr b o=>Uc H b λr=>YP (Nat.ble (Nat.succ o) r.size) (.val (.ptr b o) H)
 |_=>.fail
theorem vX(x:YR)(tm:TM)(H:Heap):Dr x tm H=lF (x tm) H:=rfl
noncomputable def lD(u n:Nat)(a:AV)(H:Heap):OR:=match a with
 |.nilp=>.val .nilp H
 |.ptr b o=>Uc H b λr=>YP r.exact (YP (Nat.beq r.elem u) (YP (Nat.beq o 0) (YP (Nat.ble n r.size) (.val (.ptr b o) H))))
 |_=>.fail
theorem vW(x:YR)(u n:Nat)(tm:TM)(H:Heap):Dq x u n tm H=lD u n (x tm) H:=rfl
noncomputable def xX(a:AV)(H:Heap):OR:=SH a (.val .nilp H) λb o _ cap=>Option.rec (Uc H b λr=>YP (Nat.ble (Nat.succ o) r.size) (.val (.ptr b o) H)) (λc=>YP (Nat.ble 1 c) (.val (.ptr b o) H)) cap
theorem Ab(x:YR)(tm:TM)(H:Heap):GF x tm H=xX (x tm) H:=rfl
noncomputable def lX(e:Nat)(a n:AV)(H:Heap):OR:=R6 n λn=>cond (Nat.beq n 0) (match a with|.nilp=>.val (.str []) H|.ptr .. =>.val (.str []) H|_=>.fail)
 (YP (Nat.ble n 140737488355328)<|Qz a λb o=>Uc H b λr=>YP (Nat.beq r.elem e)<|YP (cond r.sm false (H.may r b)) (YP (Nat.ble (Nat.add o n) r.size) (Li (λs=>.val (.str s)
  (H.put b (.row ⟨r.elem,r.sz,r.size,r.cells,r.dflt,cond (Nat.ble r.fz (Nat.add o n)) (Nat.add o n) r.fz,r.sm,r.own,r.exact⟩))) (U5 r o n))))
theorem vY(x y:YR)(e:Nat)(tm:TM)(H:Heap):Ac x y e tm H=lX e (x tm) (y tm) H:=rfl
namespace T
variable {α:Type}
theorem F2(x:α)(l:T α)(v:Option α)(r:T α)(bs:List Bool):setB x (node l v r) (true::bs)=node (setB x l bs) v r:=rfl
theorem F1(x:α)(l:T α)(v:Option α)(r:T α)(bs:List Bool):setB x (node l v r) (false::bs)=node l v (setB x r bs):=rfl
theorem DJ(x:α)(bs:List Bool):setB x leaf bs=single x bs:=rfl
theorem AB(x:α)(bs:List Bool):single x (true::bs)=node (single x bs) none leaf:=rfl
theorem AA(x:α)(bs:List Bool):single x (false::bs)=node leaf none (single x bs):=rfl
theorem Kq(x y:α): ∀bs:List Bool,setB y (single x bs) bs=single y bs
 |[]=>rfl
 |true::bs=>by rw[AB,F2,Kq x y bs,AB]
 |false::bs=>by rw[AA,F1,Kq x y bs,AA]
theorem Hu(x y:α): ∀(t:T α) (bs:List Bool),setB y (setB x t bs) bs=setB y t bs
 |leaf,bs=>by rw[DJ,Kq,DJ]
 |node l v r,[]=>rfl
 |node l v r,true::bs=>by rw[F2,F2,F2,Hu x y l bs]
 |node l v r,false::bs=>by rw[F1,F1,F1,Hu x y r bs]
theorem set_set(t:T α)(n:Nat)(x y:α):(t.set n x).set n y=t.set n y:=Hu x y t (bits n)
theorem NX(a b:α)(l:List α):RG (a::b::l)=a::RG l:=by simp[RG]
theorem FK: ∀(l:List α) (i:Nat) (v:α),RG (l.set (2*i) v)=(RG l).set i v
 |[],_,_=>by simp[RG]
 |[a],0,_=>by simp[RG]
 |[a],i+1,v=>by
  rw[show 2*(i+1)=2*i+1+1 by omega];simp[RG]
 |a::b::l,0,v=>by simp[RG]
 |a::b::l,i+1,v=>by
  rw[show 2*(i+1)=2*i+1+1 by omega,TI,TI,NX,NX,FK l i v,TI]
theorem Lc: ∀(l:List α) (i:Nat) (v:α),RG (l.set (2*i+1) v)=RG l
 |[],_,_=>by simp[RG]
 |[a],i,_=>by simp[RG]
 |a::b::l,0,v=>by simp[RG]
 |a::b::l,i+1,v=>by
  rw[show 2*(i+1)+1=(2*i+1)+1+1 by omega,TI,TI,NX,NX,Lc l i v]
theorem AS(l:List α)(i:Nat)(v:α):(l.set (i+1) v).tail=l.tail.set i v:=by cases l<;>rfl
theorem uK(l:List α)(v:α):(l.set 0 v).tail=l.tail:=by cases l<;>rfl
theorem Iv(l:List α):(RG l).length=(l.length+1)/2:=by
 have: ∀(n:Nat) (l:List α),l.length<=n->(RG l).length=(l.length+1)/2:=by
  intro n
  induction n with
  |zero=>intro l h;cases l with|nil=>simp[RG]|cons=>simp at h
  |succ n ih=>
   intro l h
   match l,h with
   |[],_=>simp[RG]
   |[a],_=>simp[RG]
   |a::b::l,h=>
    rw[NX,Zm,ih l (by simp at h;omega)]
    simp only[Zm];omega
 exact this _ l (Z2 _)
theorem Iw(f:Nat)(x:α)(l:List α):Qr (f+1) (x::l)=node (Qr f (RG l)) (some x) (Qr f (RG l.tail)):=rfl
theorem Ay: ∀(f:Nat) (l:List α) (i:Nat) (v:α),l.length<=f->i<l.length->(Qr f l).set i v=Qr f (l.set i v):=by
 intro f
 induction f with
 |zero=>intro l i v h hi;omega
 |succ f ih=>
  intro l i v h hi
  cases l with
  |nil=>cases hi
  |cons x l=>
   rw[Iw]
   by_cases h0:i=0
   ·subst h0;rfl
   ·obtain⟨j,rfl⟩: ∃j,i=j+1:=⟨i - 1,by omega⟩
    rw[TI,Iw]
    simp only[Zm] at h hi
    unfold set
    by_cases h1:(j+1) % 2=1
    ·obtain⟨m,rfl⟩: ∃m,j=2*m:=⟨j/2,by omega⟩
     rw[Bn h1,F2,show(2*m+1)/2=m by omega]
     have:=ih (RG l) m v (by rw[Iv];omega) (by rw[Iv];omega)
     unfold set at this
     rw[this,FK]
     cases m with
     |zero=>rw[uK]
     |succ m=>rw[show 2*(m+1)=2*m+1+1 by omega,AS,Lc]
    ·obtain⟨m,rfl⟩: ∃m,j=2*m+1:=⟨j/2,by omega⟩
     rw[EI (by omega) (by omega),F1,show(2*m+1+1)/2 - 1=m by omega]
     have:=ih (RG l.tail) m v (by rw[Iv,List.length_tail];omega) (by rw[Iv,List.length_tail];omega)
     unfold set at this
     rw[this,Lc,AS,FK]
theorem set_ofList{l:List α}{i:Nat}(v:α)(h:i<l.length):(ofList l).set i v=ofList (l.set i v):=by
 unfold ofList
 rw[CC,CC,TO]
 exact Ay _ l i v (Z2 _) h
end T
def lay(l:List AV):Nat->List AV->List AV
 |_,[]=>l
 |o,v::vs=>lay (l.set o v) (o+1) vs
theorem CA: ∀(l:List AV) (o:Nat) (vs:List AV),(lay l o vs).length=l.length
 |_,_,[]=>rfl
 |l,o,v::vs=>by
  show(lay (l.set o v) (o+1) vs).length=_
  rw[CA,TO]
theorem Ea: ∀(l:List AV) (o:Nat) (vs:List AV),o+vs.length<=l.length->Tv (T.ofList l) o vs=T.ofList (lay l o vs)
 |_,_,[],_=>rfl
 |l,o,v::vs,h=>by
  simp only[Zm] at h
  show Tv ((T.ofList l).set o v) (o+1) vs=T.ofList (lay (l.set o v) (o+1) vs)
  rw[T.set_ofList v (by omega),Ea (l.set o v) (o+1) vs (by rw[TO];omega)]
theorem Cz: ∀(l:List AV) (o:Nat) (vs:List AV),o+vs.length<=l.length->lay l o vs=l.take o++(vs++l.drop (o+vs.length))
 |l,o,[],h=>by show l=_;simp
 |l,o,v::vs,h=>by
  simp only[Zm] at h
  show lay (l.set o v) (o+1) vs=_
  rw[Cz (l.set o v) (o+1) vs (by rw[TO];omega),List.set_eq_take_append_cons_drop,if_pos (by omega)]
  have e1:(l.take o++v::l.drop (o+1)).take (o+1)=l.take o++[v]:=by
   rw[List.take_append,VI (by rw[Xo];omega),Xo,VV (by omega),show o+1 - o=1 by omega];rfl
  have e2:(l.take o++v::l.drop (o+1)).drop (o+1+vs.length)=l.drop (o+(v::vs).length):=by
   rw[List.drop_append,V5 (by rw[Xo];omega),Zk,Xo,VV (by omega),show o+1+vs.length - o=vs.length+1 by omega,Zn,List.drop_drop,Zm]
   congr 1;omega
  rw[e1,e2];simp
section
def rG(e sz:Nat)(l:List AV)(fz:Nat)(sm own ex:Bool):Obj:=.row ⟨e,sz,XX l,T.ofList l,.unk,fz,sm,own,ex⟩
theorem qy(e sz:Nat)(l:List AV)(fz:Nat)(sm own ex:Bool)(i:Nat):Row.get ⟨e,sz,XX l,T.ofList l,.unk,fz,sm,own,ex⟩ i=l.getD i .unk:=by
 rw[Row.get_eq]
 show((T.ofList l).get i).getD .unk=_
 rw[T.get_ofList,ZN]
theorem Ai(e sz:Nat)(l:List AV)(fz:Nat)(sm own ex:Bool):Cells ⟨e,sz,XX l,T.ofList l,.unk,fz,sm,own,ex⟩ l:=Cells.new ..
def ld1(x:Option Obj)(o:Nat)(H:Heap):OR:=match x with|some (.row r)=>YP (Nat.ble (Nat.succ o) r.size) (.val (r.get o) H)|_=>.fail
theorem vu(b o:Nat)(H:Heap):CH (.ptr b o) H=ld1 (H.t.get b) o H:=rfl
theorem X1{o:Nat}{l:List AV}(h:o<l.length)(e sz fz:Nat)(sm own ex:Bool)(H:Heap):ld1 (some (rG e sz l fz sm own ex)) o H=.val (l.getD o .unk) H:=by
 show YP (Nat.ble (Nat.succ o) (XX l)) (.val (Row.get ⟨e,sz,XX l,T.ofList l,.unk,fz,sm,own,ex⟩ o) H)=_
 rw[XK,Z1 (show Nat.succ o<=l.length from h)]
 show OR.val (Row.get ⟨e,sz,l.length,T.ofList l,.unk,fz,sm,own,ex⟩ o) H=_
 rw[<-XK,qy]
def pk(n:Nat)(x:Option Obj)(o:Nat)(H:Heap):OR:=match x with|some (.row r)=>YP (Nat.ble (Nat.add o n) r.size) (.val (.agg (U5 r o n)) H)|_=>.fail
theorem ru(n b o:Nat)(H:Heap):Dk n (.ptr b o) H=pk n (H.t.get b) o H:=rfl
theorem VQ{n o:Nat}{l:List AV}(h:o+n<=l.length)(e sz fz:Nat)(sm own ex:Bool)(H:Heap):pk n (some (rG e sz l fz sm own ex)) o H=.val (.agg ((l.drop o).take n)) H:=by
 show YP (Nat.ble (o+n) (XX l)) (.val (.agg (U5 ⟨e,sz,XX l,T.ofList l,.unk,fz,sm,own,ex⟩ o n)) H)=_
 rw[(Ai e sz l fz sm own ex).load h,XK,Z1 h];rfl
def xS(n:Nat)(x:Option Obj)(b o:Nat)(v:AV)(H:Heap):OR:=match x with
 |some (.row r)=>YP (Nat.ble 1 n)<|YP (H.may r b) (YP (Nat.ble (Nat.add o n) r.size) (YP (Nat.ble r.fz o) (YP (Nat.beq (XX v.cells) n) (.val WK (H.put b (.row (r.setCells (Tv r.cells o v.cells))))))))
 |_=>.fail
theorem uH(n b o:Nat)(v:AV)(H:Heap):C9 n (.ptr b o) v H=xS n (H.t.get b) b o v H:=rfl
theorem F9{n b o:Nat}{l:List AV}{v:AV}{H:Heap}{fz:Nat}(hn:1<=n)(hv:v.cells.length=n)(ho:o+n<=l.length)(hro:H.ro<=b)(hfz:fz<=o)(e sz:Nat)(sm ex:Bool):
  xS n (some (rG e sz l fz sm true ex)) b o v H=.val WK (H.put b (rG e sz (lay l o v.cells) fz sm true ex)):=by
 show YP (Nat.ble 1 n) (YP (cond true (Nat.ble H.ro b) false) (YP (Nat.ble (o+n) (XX l)) (YP (Nat.ble fz o) (YP (Nat.beq (XX v.cells) n) (.val WK (H.put b (.row ⟨e,sz,XX l,Tv (T.ofList l) o v.cells,.unk,fz,sm,true,ex⟩)))))))=_
 rw[Z1 hn,Z1 hro,XK,Z1 ho,Z1 hfz,XK,hv,Xt,Ea l o v.cells (by omega)]
 unfold rG
 rw[XK,CA];rfl
theorem Mn{b o:Nat}{l:List AV}{v:AV}{H:Heap}{fz:Nat}(hv:v.cells=[v])(ho:o<l.length)(hro:H.ro<=b)(hfz:fz<=o)(e sz:Nat)(sm ex:Bool):
  xS 1 (some (rG e sz l fz sm true ex)) b o v H=.val WK (H.put b (rG e sz (l.set o v) fz sm true ex)):=by
 rw[F9 (Z2 1) (by rw[hv];rfl) ho hro hfz,hv];rfl
theorem UQ(H:Heap)(b:Nat)(o:Obj):(H.put b o).t.get b=some o:=by rw[Le,if_pos rfl]
theorem Rl{b c:Nat}(h: ¬b=c)(H:Heap)(o:Obj):(H.put b o).t.get c=H.t.get c:=by rw[Le,if_neg h]
theorem YN{H:Heap}{c:Nat}(h:H.nx=c)(o:Obj):(H.new o).t.get c=some o:=by rw[Mg,if_pos h]
theorem WH{H:Heap}{c:Nat}(h: ¬H.nx=c)(o:Obj):(H.new o).t.get c=H.t.get c:=by rw[Mg,if_neg h]
theorem xJ(H:Heap)(b:Nat)(o o':Obj):(H.put b o).put b o'=H.put b o':=by
 unfold Heap.put;simp only[T.set_set]
theorem Ty{H:Heap}{b:Nat}(h:H.nx=b)(o o':Obj):(H.new o).put b o'=H.new o':=by
 subst h;unfold Heap.put Heap.new;simp only[T.set_set]
theorem Dn(H:Heap)(e sz:Nat)(l:List AV)(ex:Bool):H.newRow e sz l ex=H.new (rG e sz l 0 false true ex):=rfl
theorem Ge(e:Nat)(c:AV)(cs:List AV)(tm:TM)(H:Heap):Xa e (c::cs) tm H=.val (.ptr H.nx 0) (H.new (rG e 1 (c::cs) 0 false true true)):=by
 rw[FH _ _ (by rw[XK];simp)];rfl
def zb(e:Nat)(a:AV)(H:Heap):OR:=YP (Nat.ble 1 (XX a.cells))<|.val (.ptr H.nx 0) (H.newRow e 1 a.cells true)
theorem nz(x:YR)(e:Nat)(tm:TM)(H:Heap):U0 x e tm H=zb e (x tm) H:=rfl
theorem yY{a:AV}{l:List AV}(h:a.cells=l)(h1:1<=l.length)(e:Nat)(H:Heap):zb e a H=.val (.ptr H.nx 0) (H.new (rG e 1 l 0 false true true)):=by
 subst h
 show YP (Nat.ble 1 (XX a.cells)) _=_
 rw[XK,Z1 h1];rfl
theorem zg(l:List AV):(AV.agg l).cells=l:=rfl
theorem Vy{l:List AV}(h1:1<=l.length)(e:Nat)(H:Heap):zb e (.agg l) H=.val (.ptr H.nx 0) (H.new (rG e 1 l 0 false true true)):=yY (zg l) h1 e H
theorem Bo{a:AV}(h:a.cells=[a])(e:Nat)(H:Heap):zb e a H=.val (.ptr H.nx 0) (H.new (rG e 1 [a] 0 false true true)):=yY h (Z2 1) e H
theorem GZ(b:Bool):(AV.bool b).cells=[.bool b]:=rfl
theorem EO(k:IntKind)(n:Int):(AV.int k n).cells=[.int k n]:=rfl
theorem Bs(k:IntKind)(n:Nat):(nI k n).cells=[nI k n]:=rfl
theorem ES(x:UInt8):(Gq x).cells=[Gq x]:=rfl
theorem ER(s:List UInt8):(AV.str s).cells=[.str s]:=rfl
theorem G2:AV.nilp.cells=[.nilp]:=rfl
theorem EQ(b o:Nat):(AV.ptr b o).cells=[.ptr b o]:=rfl
theorem G3:AV.nils.cells=[.nils]:=rfl
theorem HG(b o n:Nat)(c:Option Nat):(AV.slice b o n c).cells=[.slice b o n c]:=rfl
theorem EP(b:Nat):(AV.map b).cells=[.map b]:=rfl
theorem G0(f:Nat)(a b:List AV):(AV.func f a b).cells=[.func f a b]:=rfl
theorem HF(t:Nat)(v:AV):(AV.iface t v).cells=[.iface t v]:=rfl
theorem G1:AV.nili.cells=[.nili]:=rfl
theorem EN(l:List AV):(AV.agg l).cells=l:=rfl
theorem Vd{a:TM->Heap->X->VZ}{x:X}(I:Nat->TM->Heap->Prop)(Q:Out->TM->Heap->Prop)
  (step: ∀m tm H,I m tm H-> ∃o tm' H',a tm H x=.ok o tm' H' x∧((o=.normal∧ ∃k,k<m∧I k tm' H')∨(o≠.normal∧Q o tm' H'))):
  ∀(F m:Nat) (tm:TM) (H:Heap),m<F->I m tm H-> ∃o tm' H',TH a F tm H x=.ok o tm' H' x∧o≠.normal∧Q o tm' H'
 |0,m,_,_,h,_=>by omega
 |F+1,m,tm,H,h,hi=>by
  obtain⟨o,tm',H',h1,h2⟩:=step m tm H hi
  rcases h2 with⟨rfl,k,hk,h3⟩|⟨h2,h3⟩
  ·obtain⟨o2,aP,H2,e,h4,h5⟩:=Vd I Q step F k tm' H' (by omega) h3
   refine⟨o2,aP,H2,?_,h4,h5⟩
   show Oy (a tm H x) (TH a F)=_
   rw[h1];exact e
  ·refine⟨o,tm',H',?_,h2,h3⟩
   show Oy (a tm H x) (TH a F)=_
   rw[h1]
   cases o with
   |normal=>exact absurd rfl h2
   |_=>rfl
theorem WW{a:TM->Heap->X->VZ}{F:Nat}{H:Heap}{x:X}{L:VZ}{P:TM->Prop}{Q:Out->TM->Heap->Prop}(lp: ∀T,P T-> ∃o tm' H',TH a F T H x=.ok o tm' H' x∧o≠.normal∧Q o tm' H'){T:TM}(hL:TH a F T H x=L)(hi:P T):
  ∃o tm' H',L=.ok o tm' H' x∧o≠.normal∧Q o tm' H':=by
 obtain⟨o,b,c,e,j⟩:=lp T hi
 exact⟨o,b,c,hL.symm.trans e,j⟩
end
theorem YU:(∀(f:UD) (dst:Yu) (next:D) (c:Ctx) (tm:TM) (H:Heap) (x:X),Za f dst next c tm H x=OV (next c) dst c tm H x (f tm H))∧(∀(next:TM->Heap->X->VZ) (dst:Yu) (c:Ctx) (tm:TM) (H:Heap) (x:X) (v:AV) (H':Heap),OV next dst c tm H x (.val v H')=next (dst tm v) H' x)∧(∀(next:TM->Heap->X->VZ) (dst:Yu) (c:Ctx) (tm:TM) (H:Heap) (x:X) (f:Nat) (args:List AV) (H':Heap),OV next dst c tm H x (.oth (.call f args H'))=FN next dst tm x (c.call f args H'))∧(∀(next:TM->Heap->X->VZ) (dst:Yu) (tm:TM) (x:X) (v:AV) (H:Heap),FN next dst tm x (.ret v H)=next (dst tm v) H x)∧(∀(a b:D) (c:Ctx) (tm:TM) (H:Heap) (x:X),Zc a b c tm H x=Oy (a c tm H x) (b c))∧(∀(tm:TM) (H:Heap) (x:X) (k:TM->Heap->X->VZ),Oy (.ok .normal tm H x) k=k tm H x)∧(∀(tm:TM) (H:Heap) (x:X) (k:TM->Heap->X->VZ),Oy (.ok .ret tm H x) k=.ok .ret tm H x)∧(∀(i:Nat) (tm:TM) (H:Heap) (x:X) (k:TM->Heap->X->VZ),Oy (.ok (.exit i) tm H x) k=.ok (.exit i) tm H x)∧(∀(c:Ctx) (tm:TM) (H:Heap) (x:X),Zb c tm H x=.ok .normal tm H x)∧(∀(c:Ctx) (tm:TM) (H:Heap) (x:X),Ym c tm H x=.ok .ret tm H x)∧(∀(i:Nat) (c:Ctx) (tm:TM) (H:Heap) (x:X),Y6 i c tm H x=.ok (.exit i) tm H x)∧(∀(q:YR) (a b:D) (c:Ctx) (tm:TM) (H:Heap) (x:X),ZL q a b c tm H x=Cu (q tm) λv=>J3 (a c) (b c) v tm H x)∧(∀(b:Bool) (k:Bool->VZ),Cu (.bool b) k=k b)∧(∀(a b:TM->Heap->X->VZ) (tm:TM) (H:Heap) (x:X),J3 a b true tm H x=a tm H x)∧(∀(a b:TM->Heap->X->VZ) (tm:TM) (H:Heap) (x:X),J3 a b false tm H x=b tm H x)∧(∀(i:Nat) (a:D) (c:Ctx) (tm:TM) (H:Heap) (x:X),Z3 i a c tm H x=PQ i (a c tm H x))∧(∀(a:D) (c:Ctx) (tm:TM) (H:Heap) (x:X),Xj a c tm H x=TH (a c) c.fuel tm H x)∧(∀(i:Nat) (tm:TM) (H:Heap) (x:X),PQ i (.ok .normal tm H x)=.ok .normal tm H x)∧(∀(i:Nat) (tm:TM) (H:Heap) (x:X),PQ i (.ok (.exit i) tm H x)=.ok .normal tm H x)∧(∀(i:Nat) (tm:TM) (H:Heap) (x:X),PQ i (.ok .ret tm H x)=.ok .ret tm H x)∧(∀(tm:TM) (v:AV),d0 tm v=tm)∧(∀(v:AV) (tm:TM),k v tm=v)∧(∀(tm:TM),evs tm []=[])∧(∀(tm:TM) (f:YR) (l:List YR),evs tm (f::l)=f tm::evs tm l)∧(∀(x:YR) (tm:TM) (H:Heap),Ze x tm H=.val (x tm) H)∧(∀(x:YR) (tm:TM) (H:Heap),CT x tm H=bv (x tm) H)∧(∀(x:YR) (k:IntKind) (tm:TM) (H:Heap),VS x k tm H=k8 k (x tm) H)∧(∀(x y:YR) (tm:TM) (H:Heap),Yh x y tm H=A1 (x tm) (y tm) H)∧(∀(x y:YR) (tm:TM) (H:Heap),Xq x y tm H=uI (x tm) (y tm) H)∧(∀(x y:YR) (tm:TM) (H:Heap),S9 x y tm H=bu (x tm) (y tm) H)∧(∀(x y:YR) (tm:TM) (H:Heap),Pw x y tm H=bH (x tm) (y tm) H)∧(∀(x y:YR) (tm:TM) (H:Heap),Ey x y tm H=bQ (x tm) (y tm) H)∧(∀(x y:YR) (f:Nat->Nat->Nat->Nat) (tm:TM) (H:Heap),W6 x y f tm H=mB f (x tm) (y tm) H)∧(∀(x y:YR) (tm:TM) (H:Heap),PS x y tm H=bR (x tm) (y tm) H)∧(∀(x y:YR) (tm:TM) (H:Heap),N7 x y tm H=bS (x tm) (y tm) H)∧(∀(x:YR) (tm:TM) (H:Heap),r6 x tm H=lZ (x tm) H)∧(∀(x y:YR) (f:Int->Int->Bool) (g:List UInt8->List UInt8->Bool) (tm:TM) (H:Heap),Yl x y f g tm H=ND f g (x tm) (y tm) H)∧(∀(x y:YR) (f:AV->AV->Option Bool) (neg:Bool) (tm:TM) (H:Heap),WM x y f neg tm H=GB f neg (x tm) (y tm) H)∧(∀(x:YR) (tm:TM) (H:Heap),Ts x tm H=nw (x tm) H)∧(∀(x y z:YR) (tm:TM) (H:Heap),Yx x y z tm H=Dv (x tm) (y tm) (z tm) H)∧(∀(f:Nat) (args:List YR) (tm:TM) (H:Heap),Zy f args tm H=.oth (.call f (evs tm args) H))∧(∀(yes no:VZ),T3 (.bool true) true yes no=yes)∧(∀(yes no:VZ),T3 (.bool false) true yes no=no)∧(∀(yes no:VZ),T3 (.bool false) false yes no=yes)∧(∀(yes no:VZ),T3 (.bool true) false yes no=no)∧(∀(g:YR) (b:Bool) (f:UD) (dst:Yu) (next:D) (c:Ctx) (tm:TM) (H:Heap) (x:X),ZR g b f dst next c tm H x=T3 (g tm) b (OV (next c) dst c tm H x (f tm H)) (next c (dst tm WK) H x))∧(∀(n:Nat) (l:List AV),VB n (.agg l)=Pb n l)∧(∀(n:Nat),VB n WK=true)∧(∀(n:Nat) (s:List UInt8),VB n (.str s)=true)∧(∀(n:Nat) (k:IntKind) (m:Nat),VB n (nI k m)=true)∧(∀(n:Nat) (x:UInt32),VB n (JQ x)=true)∧(∀(n:Nat) (x:UInt8),VB n (Gq x)=true)∧(∀(n:Nat) (x:Bool),VB n (.bool x)=true)∧(∀(sz:Nat) (x:YR) (lo hi:Option YR) (tm:TM) (H:Heap),Kh sz x lo hi none tm H=Hw sz (x tm) (lo.map λf=>f tm) (hi.map λf=>f tm) H)∧(∀(mx:Bool) (args:List YR) (tm:TM) (H:Heap),T6 mx args tm H=vC mx (evs tm args) H)∧(∀(zs:List AV) (ps:List DY) (tm:TM) (H:Heap),W7 zs ps tm H=LI zs (ps.map λp=>(p.off,p.sz,p.x tm)) H)∧(∀(e sz n:Nat) (zs:List AV) (ps:List DY) (tm:TM) (H:Heap),VR e sz n zs ps tm H=ON e sz n zs (ps.map λp=>(p.off,p.sz,p.x tm)) H)∧(∀(x y:YR) (e sz bytes:Nat) (tm:TM) (H:Heap),UJ x y e sz bytes tm H=NC e sz bytes (x tm) (y tm) H)∧(∀(x y:YR) (sz:Nat) (tm:TM) (H:Heap),B6 x y sz tm H=mG sz (x tm) (y tm) H)∧(∀(n sz:Nat) (x:YR) (lo hi:Option YR) (tm:TM) (H:Heap),M9 n sz x lo hi none tm H=qS n sz (x tm) (lo.map λf=>f tm) (hi.map λf=>f tm) H)∧(∀(x:YR) (tm:TM) (H:Heap),Wc x tm H=xp (x tm) H)∧(∀(x y:YR) (tm:TM) (H:Heap),YA x y tm H=GD (x tm) (y tm) H)∧(∀(x:YR) (lo hi:Option YR) (tm:TM) (H:Heap),WF x lo hi none tm H=F4 (x tm) (lo.map λf=>f tm) (hi.map λf=>f tm) H)∧(∀(x:YR) (i:Nat) (tm:TM) (H:Heap),XH x i tm H=HN i (x tm) H)∧(∀(b c:AV) (H:Heap),Dv (.bool true) b c H=.val b H)∧(∀(b c:AV) (H:Heap),Dv (.bool false) b c H=.val c H)∧(∀(b:Bool) (H:Heap),nw (.bool b) H=.val (.bool (cond b false true)) H)∧(∀(x:YR) (tm:TM) (H:Heap),ZI x tm H=CH (x tm) H)∧(∀(x:YR) (n:Nat) (tm:TM) (H:Heap),Yk x n tm H=Dk n (x tm) H)∧(∀(x y:YR) (n:Nat) (tm:TM) (H:Heap),Z4 x y n tm H=C9 n (x tm) (y tm) H)∧(∀(x:YR) (n:Nat) (tm:TM) (H:Heap),Yo x n tm H=nK n (x tm) H)∧(∀(x y:YR) (n sz:Nat) (tm:TM) (H:Heap),QR x y n sz tm H=sZ n sz (x tm) (y tm) H)∧(∀(x y:YR) (sz:Nat) (tm:TM) (H:Heap),Yi x y sz tm H=Fv sz (x tm) (y tm) H)∧(∀(x:YR) (tm:TM) (H:Heap),Wq x tm H=nt (x tm) H)∧(∀(x:YR) (tm:TM) (H:Heap),WJ x tm H=In (x tm) H)∧(∀(e n:Nat) (v:AV) (tm:TM) (H:Heap),Mh e n v tm H=.val (.ptr H.nx 0) (H.new (.row ⟨e,1,n,.leaf,v,0,false,true,true⟩)))∧(∀(x:YR) (e:Nat) (tm:TM) (H:Heap),U0 x e tm H=zb e (x tm) H)∧(∀(e:Nat) (c:AV) (cs:List AV) (tm:TM) (H:Heap),Xa e (c::cs) tm H=.val (.ptr H.nx 0) (H.new (rG e 1 (c::cs) 0 false true true)))∧(∀(n b o:Nat) (H:Heap),nK n (.ptr b o) H=.val (.ptr b (o+n)) H)∧(∀(b o:Nat) (H:Heap),nt (.ptr b o) H=.val (.ptr b o) H)∧(∀(b o n:Nat) (c:Option Nat) (H:Heap),In (.slice b o n c) H=.val (nI .i64 n) H)∧(∀(H:Heap),In .slice0 H=.val (nI .i64 0) H)∧(∀(H:Heap),In .nils H=.val (nI .i64 0) H)∧(∀(H:Heap) (b:Nat) (o:Obj),(H.put b o).nx=H.nx)∧(∀(H:Heap) (b:Nat) (o:Obj),(H.put b o).ro=H.ro)∧(∀(H:Heap) (o:Obj),(H.new o).nx=H.nx+1)∧(∀(H:Heap) (o:Obj),(H.new o).ro=H.ro)∧(∀(H:Heap) (b:Nat) (o:Obj),(H.put b o).t.get b=some o)∧(∀(H:Heap) (b:Nat) (o o':Obj),(H.put b o).put b o'=H.put b o')∧(∀(H:Heap) (e sz:Nat) (l:List AV) (ex:Bool),H.newRow e sz l ex=H.new (rG e sz l 0 false true ex))∧(∀(b o:Nat) (H:Heap),CH (.ptr b o) H=ld1 (H.t.get b) o H)∧(∀(n b o:Nat) (H:Heap),Dk n (.ptr b o) H=pk n (H.t.get b) o H)∧(∀(n b o:Nat) (v:AV) (H:Heap),C9 n (.ptr b o) v H=xS n (H.t.get b) b o v H)∧(∀(b:Bool),(AV.bool b).cells=[.bool b])∧(∀(k:IntKind) (n:Int),(AV.int k n).cells=[.int k n])∧(∀(k:IntKind) (n:Nat),(nI k n).cells=[nI k n])∧(∀(x:UInt8),(Gq x).cells=[Gq x])∧(∀(s:List UInt8),(AV.str s).cells=[.str s])∧(AV.nilp.cells=[.nilp])∧(∀(b o:Nat),(AV.ptr b o).cells=[.ptr b o])∧(AV.nils.cells=[.nils])∧(∀(b o n:Nat) (c:Option Nat),(AV.slice b o n c).cells=[.slice b o n c])∧(∀(b:Nat),(AV.map b).cells=[.map b])∧(∀(f:Nat) (a b:List AV),(AV.func f a b).cells=[.func f a b])∧(∀(t:Nat) (v:AV),(AV.iface t v).cells=[.iface t v])∧(AV.nili.cells=[.nili])∧(∀(l:List AV),(AV.agg l).cells=l)∧(∀(l:List PI) (c:Ctx) (tm:TM) (H:Heap) (x:X),YK l c tm H x=Tk (l.map (·.dst)) Kb l c [] tm H x)∧(∀(ds:List Yu) (fin:PK) (c:Ctx) (rs:List RD) (tm:TM) (H:Heap) (x:X),Tk ds fin [] c rs tm H x=cond (still tm H rs) (fin rs tm H x) .fail)∧(∀(ds:List Yu) (fin:PK) (p:PI) (l:List PI) (c:Ctx) (rs:List RD) (tm:TM) (H:Heap) (x:X),Tk ds fin (p::l) c rs tm H x=RB ds p (Tk ds fin l c) c rs tm H x)∧(∀(rs:List RD) (tm:TM) (H:Heap) (x:X),Kb rs tm H x=.ok .normal tm H x)∧(∀(ds:List Yu) (f:UD) (os:List (Yu×YR)) (dst:Yu) (i bef:Nat) (nx:PK) (c:Ctx) (rs:List RD) (tm:TM) (H:Heap) (x:X),RB ds ⟨f,none,os,dst,.free,i,bef⟩ nx c rs tm H x=cond (Qy H.nx tm os) (LP ⟨f,none,os,dst,.free,i,bef⟩ nx rs tm H x (f (Pe tm os) ⟨H.nx,.leaf,H.nx⟩)) .fail)∧(∀(ds:List Yu) (f:UD) (os:List (Yu×YR)) (dst:Yu) (i bef:Nat) (nx:PK) (c:Ctx) (rs:List RD) (tm:TM) (H:Heap) (x:X),RB ds ⟨f,none,os,dst,.read,i,bef⟩ nx c rs tm H x=IE ⟨f,none,os,dst,.read,i,bef⟩ nx rs tm H x (f (Pe tm os) ⟨H.nx,H.t,H.nx⟩))∧(∀(ds:List Yu) (f:UD) (os:List (Yu×YR)) (dst:Yu) (i bef:Nat) (nx:PK) (c:Ctx) (rs:List RD) (tm:TM) (H:Heap) (x:X),RB ds ⟨f,none,os,dst,.eff,i,bef⟩ nx c rs tm H x=cond (still tm H rs) (J7 ds ⟨f,none,os,dst,.eff,i,bef⟩ nx rs c tm x (f (Pe tm os) H)) .fail)∧(∀(ds:List Yu) (f:UD) (e:YR) (b:Bool) (os:List (Yu×YR)) (dst:Yu) (i bef:Nat) (nx:PK) (c:Ctx) (rs:List RD) (tm:TM) (H:Heap) (x:X),RB ds ⟨f,some (e,b),os,dst,.free,i,bef⟩ nx c rs tm H x=T3 (e tm) b (cond (Qy H.nx tm os) (LP ⟨f,some (e,b),os,dst,.free,i,bef⟩ nx rs tm H x (f (Pe tm os) ⟨H.nx,.leaf,H.nx⟩)) .fail) (nx rs (dst tm WK) H x))∧(∀(ds:List Yu) (f:UD) (e:YR) (b:Bool) (os:List (Yu×YR)) (dst:Yu) (i bef:Nat) (nx:PK) (c:Ctx) (rs:List RD) (tm:TM) (H:Heap) (x:X),RB ds ⟨f,some (e,b),os,dst,.read,i,bef⟩ nx c rs tm H x=T3 (e tm) b (IE ⟨f,some (e,b),os,dst,.read,i,bef⟩ nx rs tm H x (f (Pe tm os) ⟨H.nx,H.t,H.nx⟩)) (nx rs (dst tm WK) H x))∧(∀(ds:List Yu) (f:UD) (e:YR) (b:Bool) (os:List (Yu×YR)) (dst:Yu) (i bef:Nat) (nx:PK) (c:Ctx) (rs:List RD) (tm:TM) (H:Heap) (x:X),RB ds ⟨f,some (e,b),os,dst,.eff,i,bef⟩ nx c rs tm H x=cond (still tm H rs) (T3 (e tm) b (J7 ds ⟨f,some (e,b),os,dst,.eff,i,bef⟩ nx rs c tm x (f (Pe tm os) H)) (nx (TZ bef rs) (dst tm WK) H x)) .fail)∧(∀(ds:List Yu) (f:UD) (os:List (Yu×YR)) (dst:Yu) (i bef:Nat) (nx:PK) (c:Ctx) (rs:List RD) (tm:TM) (x:X) (g:Option (YR×Bool)) (kd:JS) (v:AV) (H':Heap),J7 ds ⟨f,g,os,dst,kd,i,bef⟩ nx rs c tm x (.val v H')=nx (TZ bef rs) (dst tm v) H' x)∧(∀(ds:List Yu) (f:UD) (os:List (Yu×YR)) (dst:Yu) (i bef:Nat) (nx:PK) (c:Ctx) (rs:List RD) (tm:TM) (x:X) (g:Option (YR×Bool)) (kd:JS) (H':Heap) (q:Nat) (args:List AV),J7 ds ⟨f,g,os,dst,kd,i,bef⟩ nx rs c tm x (.oth (.call q args H'))=FU ds ⟨f,g,os,dst,kd,i,bef⟩ nx rs tm x (c.call q args H'))∧(∀(ds:List Yu) (f:UD) (os:List (Yu×YR)) (dst:Yu) (i bef:Nat) (nx:PK) (rs:List RD) (tm:TM) (x:X) (g:Option (YR×Bool)) (kd:JS) (v:AV) (H':Heap),FU ds ⟨f,g,os,dst,kd,i,bef⟩ nx rs tm x (.ret v H')=nx (TZ bef rs) (dst tm v) H' x)∧(∀(b:Nat),TZ b []=[])∧(∀(f:UD) (os:List (Yu×YR)) (dst:Yu) (i bef:Nat) (rs:List RD) (g:Option (YR×Bool)) (kd:JS) (v:AV) (b:Nat),TZ b (⟨⟨f,g,os,dst,kd,i,bef⟩,v⟩::rs)=cond (Nat.testBit b i) (TZ b rs) (⟨⟨f,g,os,dst,kd,i,bef⟩,v⟩::TZ b rs))∧(∀(tm:TM) (H:Heap),still tm H []=true)∧(∀(f:UD) (os:List (Yu×YR)) (dst:Yu) (i bef:Nat) (rs:List RD) (tm:TM) (H:Heap) (g:Option (YR×Bool)) (kd:JS) (v:AV),still tm H (⟨⟨f,g,os,dst,kd,i,bef⟩,v⟩::rs)=cond (Aj ⟨⟨f,g,os,dst,kd,i,bef⟩,v⟩ tm H) (still tm H rs) false)∧(∀(f:UD) (os:List (Yu×YR)) (dst:Yu) (i bef:Nat) (tm:TM) (H:Heap) (g:Option (YR×Bool)) (kd:JS) (v:AV),Aj ⟨⟨f,g,os,dst,kd,i,bef⟩,v⟩ tm H=TS (f (Pe tm os) ⟨H.nx,H.t,H.nx⟩) v H.nx)∧(∀(v:UInt32) (n:Nat) (t:T Obj),TS (.val (JQ v) ⟨n,t,n⟩) (JQ v) n=true)∧(∀(v:UInt8) (n:Nat) (t:T Obj),TS (.val (Gq v) ⟨n,t,n⟩) (Gq v) n=true)∧(∀(k:IntKind) (v:Nat) (n:Nat) (t:T Obj),TS (.val (nI k v) ⟨n,t,n⟩) (nI k v) n=true)∧(∀(s:List UInt8) (n:Nat) (t:T Obj),TS (.val (.str s) ⟨n,t,n⟩) (.str s) n=true)∧(∀(n:Nat) (t:T Obj),TS (.val .nils ⟨n,t,n⟩) .nils n=true)∧(∀(b o n:Nat) (c:Option Nat) (k:Nat) (t:T Obj),TS (.val (.slice b o n c) ⟨k,t,k⟩) (.slice b o n c) k=true)∧(∀(n:Nat) (tm:TM),Qy n tm []=true)∧(∀(n:Nat) (tm:TM) (s:Yu) (g:YR) (os:List (Yu×YR)),Qy n tm ((s,g)::os)=cond (VB n (g tm)) (Qy n tm os) false)∧(∀(tm:TM),Pe tm []=LA)∧(∀(tm:TM) (s:Yu) (g:YR) (os:List (Yu×YR)),Pe tm ((s,g)::os)=s (Pe tm os) (g tm))∧(∀(a:AV) (l:List AV) (H:Heap),HN 0 (.tup (a::l)) H=.val a H)∧(∀(a b:AV) (l:List AV) (H:Heap),HN 1 (.tup (a::b::l)) H=.val b H)∧(∀(a b c:AV) (l:List AV) (H:Heap),HN 2 (.tup (a::b::c::l)) H=.val c H)∧(∀(dc:Option AV->Nat->List AV->Heap->DR) (rs:List (YR×Option (Nat×Bool))) (tm:TM) (H:Heap) (rc:Option AV),Ly dc rs (.ok .ret tm H ⟨[],rc⟩)=results rs tm H)∧(∀(dc:Option AV->Nat->List AV->Heap->DR) (rs:List (YR×Option (Nat×Bool))) (tm:TM) (H:Heap) (rc:Option AV),Ly dc rs (.ok .normal tm H ⟨[],rc⟩)=results rs tm H)∧(∀(f:YR) (tm:TM) (H:Heap),results [(f,none)] tm H=.ret (f tm) H)∧(∀(tm:TM) (H:Heap),results [] tm H=.ret (.tup []) H)∧(∀(a b:UInt32) (H:Heap),A1 (JQ a) (JQ b) H=.val (JQ (a+b)) H)∧(RJ []=LA)∧(∀(a:AV),RJ [a]=st0 LA a)∧(∀(a b:AV),RJ [a,b]=st1 (st0 LA a) b)∧(∀(a b c:AV),RJ [a,b,c]=st2 (st1 (st0 LA a) b) c)∧(∀(a b c d:AV),RJ [a,b,c,d]=Wz (st2 (st1 (st0 LA a) b) c) d)∧(∀(a b:List UInt8) (H:Heap),GB Nw false (.str a) (.str b) H=.val (.bool (decide (a=b))) H)∧(∀(a b:List UInt8) (H:Heap),GB Nw true (.str a) (.str b) H=.val (.bool (!decide (a=b))) H)∧(∀(a b:Bool) (H:Heap),GB tc false (.bool a) (.bool b) H=.val (.bool (decide (a=b))) H)∧(∀(k:IntKind) (a b:Nat) (H:Heap),ND Y9 YB (nI k a) (nI k b) H=.val (.bool (decide (a<b))) H)∧(∀(k:IntKind) (a b:Nat) (H:Heap),ND VE XW (nI k a) (nI k b) H=.val (.bool (decide (b<=a))) H)∧(∀(k:IntKind) (a b:Nat) (H:Heap),ND Tb Vl (nI k a) (nI k b) H=.val (.bool (decide (b<a))) H)∧(∀(k:IntKind) (a b:Nat) (H:Heap),ND TG VN (nI k a) (nI k b) H=.val (.bool (decide (a<=b))) H)∧(∀(k:IntKind) (a b:Nat) (H:Heap),GB Vj false (nI k a) (nI k b) H=.val (.bool (decide (a=b))) H)∧(∀(k:IntKind) (a b:Nat) (H:Heap),GB Vj true (nI k a) (nI k b) H=.val (.bool (decide (a≠b))) H)∧(∀(s:List UInt8) (H:Heap),xp (.str s) H=.val (nI .i64 s.length) H)∧(∀(x:YR) (tm:TM) (H:Heap),Dr x tm H=lF (x tm) H)∧(∀(x:YR) (u n:Nat) (tm:TM) (H:Heap),Dq x u n tm H=lD u n (x tm) H)∧(∀(x:YR) (tm:TM) (H:Heap),GF x tm H=xX (x tm) H)∧(∀(x y:YR) (e:Nat) (tm:TM) (H:Heap),Ac x y e tm H=lX e (x tm) (y tm) H):=⟨@qP, @sF, @wM, @qm, @qN, @Bb, @uM, @yG, @vG, @qC, @wz, @wp, @vf, @zn, @Bv, @za, @vx, @Ew, @BN, @zL, @kl, @bi, @oi, @su, @nE, @rQ, @rO, @vI, @r5, @rP, @rW, @rX, @vJ, @rY, @rZ, @vZ, @rM, @nA, @rS, @vV, @zX, @wV, @wT, @wS, @wU, @qO, @ry, @zQ, @rA, @ni, @rB, @nj, @vz, @z5, @Ke, @M8, @Mi, @Gf, @vL, @z3, @vS, @B8, @z4, @vN, @nY, @nX, @js, @zY, @vT, @z6, @rU, @vO, @vP, @rR, @vR, @B2, @nz, @Ge, @r8, @rK, @M5, @BP, @BO, @PV, @C3, @My, @rJ, @UQ, @xJ, @Dn, @vu, @ru, @uH, @GZ, @EO, @Bs, @ES, @ER, @G2, @EQ, @G3, @HG, @EP, @G0, @HF, @G1, @EN, @zp, @uo, @yj, @vH, @yB, @yC, @uF, @AK, @AL, @yA, @tY, @wx, @qE, @vi, @zG, @uG, @yD, @qz, @zE, @vh, @vg, @zD, @Mf, @NG, @vy, @zO, @n7, @qH, @oj, @ol, @oo, @qw, @Ag, @An, @C5, @pv, @pB, @pC, @pD, @pE, @pF, @ZO, @Z8, @oe, @ZP, @ZK, @ZS, @ZT, @Z9, @Ya, @Zx, @vX, @vW, @Ab, @vY⟩
theorem WD:(∀{α:Type} (f:α->α) (n:N8 α),N8.a0 (N8.u0 f n)=f (N8.a0 n))∧(∀{α:Type} (f:α->α) (n:N8 α),N8.a0 (N8.u1 f n)=N8.a0 n)∧(∀{α:Type} (f:α->α) (n:N8 α),N8.a0 (N8.u2 f n)=N8.a0 n)∧(∀{α:Type} (f:α->α) (n:N8 α),N8.a0 (N8.u3 f n)=N8.a0 n)∧(∀{α:Type} (f:α->α) (n:N8 α),N8.a0 (N8.u4 f n)=N8.a0 n)∧(∀{α:Type} (f:α->α) (n:N8 α),N8.a0 (N8.u5 f n)=N8.a0 n)∧(∀{α:Type} (f:α->α) (n:N8 α),N8.a0 (N8.u6 f n)=N8.a0 n)∧(∀{α:Type} (f:α->α) (n:N8 α),N8.a0 (N8.u7 f n)=N8.a0 n)∧(∀{α:Type} (f:α->α) (n:N8 α),N8.a1 (N8.u0 f n)=N8.a1 n)∧(∀{α:Type} (f:α->α) (n:N8 α),N8.a1 (N8.u1 f n)=f (N8.a1 n))∧(∀{α:Type} (f:α->α) (n:N8 α),N8.a1 (N8.u2 f n)=N8.a1 n)∧(∀{α:Type} (f:α->α) (n:N8 α),N8.a1 (N8.u3 f n)=N8.a1 n)∧(∀{α:Type} (f:α->α) (n:N8 α),N8.a1 (N8.u4 f n)=N8.a1 n)∧(∀{α:Type} (f:α->α) (n:N8 α),N8.a1 (N8.u5 f n)=N8.a1 n)∧(∀{α:Type} (f:α->α) (n:N8 α),N8.a1 (N8.u6 f n)=N8.a1 n)∧(∀{α:Type} (f:α->α) (n:N8 α),N8.a1 (N8.u7 f n)=N8.a1 n)∧(∀{α:Type} (f:α->α) (n:N8 α),N8.a2 (N8.u0 f n)=N8.a2 n)∧(∀{α:Type} (f:α->α) (n:N8 α),N8.a2 (N8.u1 f n)=N8.a2 n)∧(∀{α:Type} (f:α->α) (n:N8 α),N8.a2 (N8.u2 f n)=f (N8.a2 n))∧(∀{α:Type} (f:α->α) (n:N8 α),N8.a2 (N8.u3 f n)=N8.a2 n)∧(∀{α:Type} (f:α->α) (n:N8 α),N8.a2 (N8.u4 f n)=N8.a2 n)∧(∀{α:Type} (f:α->α) (n:N8 α),N8.a2 (N8.u5 f n)=N8.a2 n)∧(∀{α:Type} (f:α->α) (n:N8 α),N8.a2 (N8.u6 f n)=N8.a2 n)∧(∀{α:Type} (f:α->α) (n:N8 α),N8.a2 (N8.u7 f n)=N8.a2 n)∧(∀{α:Type} (f:α->α) (n:N8 α),N8.a3 (N8.u0 f n)=N8.a3 n)∧(∀{α:Type} (f:α->α) (n:N8 α),N8.a3 (N8.u1 f n)=N8.a3 n)∧(∀{α:Type} (f:α->α) (n:N8 α),N8.a3 (N8.u2 f n)=N8.a3 n)∧(∀{α:Type} (f:α->α) (n:N8 α),N8.a3 (N8.u3 f n)=f (N8.a3 n))∧(∀{α:Type} (f:α->α) (n:N8 α),N8.a3 (N8.u4 f n)=N8.a3 n)∧(∀{α:Type} (f:α->α) (n:N8 α),N8.a3 (N8.u5 f n)=N8.a3 n)∧(∀{α:Type} (f:α->α) (n:N8 α),N8.a3 (N8.u6 f n)=N8.a3 n)∧(∀{α:Type} (f:α->α) (n:N8 α),N8.a3 (N8.u7 f n)=N8.a3 n)∧(∀{α:Type} (f:α->α) (n:N8 α),N8.a4 (N8.u0 f n)=N8.a4 n)∧(∀{α:Type} (f:α->α) (n:N8 α),N8.a4 (N8.u1 f n)=N8.a4 n)∧(∀{α:Type} (f:α->α) (n:N8 α),N8.a4 (N8.u2 f n)=N8.a4 n)∧(∀{α:Type} (f:α->α) (n:N8 α),N8.a4 (N8.u3 f n)=N8.a4 n)∧(∀{α:Type} (f:α->α) (n:N8 α),N8.a4 (N8.u4 f n)=f (N8.a4 n))∧(∀{α:Type} (f:α->α) (n:N8 α),N8.a4 (N8.u5 f n)=N8.a4 n)∧(∀{α:Type} (f:α->α) (n:N8 α),N8.a4 (N8.u6 f n)=N8.a4 n)∧(∀{α:Type} (f:α->α) (n:N8 α),N8.a4 (N8.u7 f n)=N8.a4 n)∧(∀{α:Type} (f:α->α) (n:N8 α),N8.a5 (N8.u0 f n)=N8.a5 n)∧(∀{α:Type} (f:α->α) (n:N8 α),N8.a5 (N8.u1 f n)=N8.a5 n)∧(∀{α:Type} (f:α->α) (n:N8 α),N8.a5 (N8.u2 f n)=N8.a5 n)∧(∀{α:Type} (f:α->α) (n:N8 α),N8.a5 (N8.u3 f n)=N8.a5 n)∧(∀{α:Type} (f:α->α) (n:N8 α),N8.a5 (N8.u4 f n)=N8.a5 n)∧(∀{α:Type} (f:α->α) (n:N8 α),N8.a5 (N8.u5 f n)=f (N8.a5 n))∧(∀{α:Type} (f:α->α) (n:N8 α),N8.a5 (N8.u6 f n)=N8.a5 n)∧(∀{α:Type} (f:α->α) (n:N8 α),N8.a5 (N8.u7 f n)=N8.a5 n)∧(∀{α:Type} (f:α->α) (n:N8 α),N8.a6 (N8.u0 f n)=N8.a6 n)∧(∀{α:Type} (f:α->α) (n:N8 α),N8.a6 (N8.u1 f n)=N8.a6 n)∧(∀{α:Type} (f:α->α) (n:N8 α),N8.a6 (N8.u2 f n)=N8.a6 n)∧(∀{α:Type} (f:α->α) (n:N8 α),N8.a6 (N8.u3 f n)=N8.a6 n)∧(∀{α:Type} (f:α->α) (n:N8 α),N8.a6 (N8.u4 f n)=N8.a6 n)∧(∀{α:Type} (f:α->α) (n:N8 α),N8.a6 (N8.u5 f n)=N8.a6 n)∧(∀{α:Type} (f:α->α) (n:N8 α),N8.a6 (N8.u6 f n)=f (N8.a6 n))∧(∀{α:Type} (f:α->α) (n:N8 α),N8.a6 (N8.u7 f n)=N8.a6 n)∧(∀{α:Type} (f:α->α) (n:N8 α),N8.a7 (N8.u0 f n)=N8.a7 n)∧(∀{α:Type} (f:α->α) (n:N8 α),N8.a7 (N8.u1 f n)=N8.a7 n)∧(∀{α:Type} (f:α->α) (n:N8 α),N8.a7 (N8.u2 f n)=N8.a7 n)∧(∀{α:Type} (f:α->α) (n:N8 α),N8.a7 (N8.u3 f n)=N8.a7 n)∧(∀{α:Type} (f:α->α) (n:N8 α),N8.a7 (N8.u4 f n)=N8.a7 n)∧(∀{α:Type} (f:α->α) (n:N8 α),N8.a7 (N8.u5 f n)=N8.a7 n)∧(∀{α:Type} (f:α->α) (n:N8 α),N8.a7 (N8.u6 f n)=N8.a7 n)∧(∀{α:Type} (f:α->α) (n:N8 α),N8.a7 (N8.u7 f n)=f (N8.a7 n)):=⟨@N8.g00, @N8.g01, @N8.g02, @N8.g03, @N8.g04, @N8.g05, @N8.g06, @N8.g07, @N8.g10, @N8.g11, @N8.g12, @N8.g13, @N8.g14, @N8.g15, @N8.g16, @N8.g17, @N8.g20, @N8.g21, @N8.g22, @N8.g23, @N8.g24, @N8.g25, @N8.g26, @N8.g27, @N8.g30, @N8.g31, @N8.g32, @N8.g33, @N8.g34, @N8.g35, @N8.g36, @N8.g37, @N8.g40, @N8.g41, @N8.g42, @N8.g43, @N8.g44, @N8.g45, @N8.g46, @N8.g47, @N8.g50, @N8.g51, @N8.g52, @N8.g53, @N8.g54, @N8.g55, @N8.g56, @N8.g57, @N8.g60, @N8.g61, @N8.g62, @N8.g63, @N8.g64, @N8.g65, @N8.g66, @N8.g67, @N8.g70, @N8.g71, @N8.g72, @N8.g73, @N8.g74, @N8.g75, @N8.g76, @N8.g77⟩
theorem ZU{j:IntKind}{a:Nat}(h:a<256)(H:Heap):k8 .u8 (nI j a) H=.val (nI .u8 a) H:=by
 show OM .u8 (.ofNat a) H=_
 rw[KE,mr,Sf h];rfl
theorem Zt{s:List UInt8}{p:Nat}(h1:p<=s.length)(k:IntKind)(H:Heap):F4 (.str s) (some (nI k p)) none H=.val (.str (s.drop p)) H:=by
 show YP (Nat.ble p (XX s)) (OR.val (.str (J5 p (Jj (XX s) s))) H)=_
 rw[XK,Z1 h1,KD,G8,V1];rfl
theorem Zz{s:List UInt8}{i:Nat}(h:i<s.length)(k:IntKind)(H:Heap):GD (.str s) (nI k i) H=.val (nI .u8 (s.getD i 0).toNat) H:=zA h k H
section
variable (f:UD) (os:List (Yu×YR)) (dst:Yu) (i bef:Nat) (nx:PK) (rs:List RD) (tm:TM) (H:Heap) (x:X) (g:Option (YR×Bool)) (kd:JS) (v:AV)
theorem ZE{m:Nat}(h:H.nx=m):LP ⟨f,g,os,dst,kd,i,bef⟩ nx rs tm H x (.val v ⟨m,.leaf,m⟩)=nx rs (dst tm v) H x:=by subst h;exact wG ..
theorem ZH{m:Nat}(h:H.nx=m)(t:T Obj)(k:Nat):IE ⟨f,g,os,dst,kd,i,bef⟩ nx rs tm H x (.val v ⟨m,t,k⟩)=nx (⟨⟨f,g,os,dst,kd,i,bef⟩,v⟩::rs) (dst tm v) H x:=by
 subst h
 show cond (Nat.beq H.nx H.nx) _ _=_
 rw[Xt];rfl
theorem ZF{m:Nat}(h:H.nx=m)(o:Obj)(hw:wrO o=true):LP ⟨f,g,os,dst,kd,i,bef⟩ nx rs tm H x (.val v ((⟨m,.leaf,m⟩:Heap).new o))=nx rs (dst tm v) (H.new o) x:=by subst h;exact wF _ _ _ _ _ _ _ _ _ _ _ _ _ _ hw
end
theorem pe(e sz:Nat)(l:List AV)(fz:Nat)(sm ex:Bool):wrO (rG e sz l fz sm true ex)=true:=rfl
def Row.st(r:Row)(o:Nat)(v:AV):Row:=r.setCells (r.cells.set o v)
theorem Row.st_size(r:Row)(o:Nat)(v:AV):(r.st o v).size=r.size:=rfl
theorem Row.st_own(r:Row)(o:Nat)(v:AV):(r.st o v).own=r.own:=rfl
theorem Row.st_fz(r:Row)(o:Nat)(v:AV):(r.st o v).fz=r.fz:=rfl
theorem Row.st_get(r:Row)(o:Nat)(v:AV)(i:Nat):(r.st o v).get i=if o=i then v else r.get i:=by
 rw[Row.get_eq,Row.get_eq]
 show((r.cells.set o v).get i).getD r.dflt=_
 rw[T.get_set]
 split<;>rfl
theorem Yf{r:Row}{o:Nat}(h:o<r.size)(H:Heap):ld1 (some (.row r)) o H=.val (r.get o) H:=by
 show YP (Nat.ble (Nat.succ o) r.size) (.val (r.get o) H)=_
 rw[Z1 (show Nat.succ o<=r.size from h)];rfl
theorem xT{r:Row}{b o:Nat}{v:AV}{H:Heap}(hv:v.cells=[v])(ho:o<r.size)(how:r.own=true)(hro:H.ro<=b)(hfz:r.fz<=o):xS 1 (some (.row r)) b o v H=.val WK (H.put b (.row (r.st o v))):=by
 show YP (Nat.ble 1 1) (YP (cond r.own (Nat.ble H.ro b) false) (YP (Nat.ble (o+1) r.size) (YP (Nat.ble r.fz o) (YP (Nat.beq (XX v.cells) 1) (.val WK (H.put b (.row (r.setCells (Tv r.cells o v.cells)))))))))=_
 rw[how,cond_true,Z1 hro,Z1 (show o+1<=r.size from ho),Z1 hfz,hv];rfl
def bY(a:AV)(H:Heap):OR:=nT a (.val (.str []) H)<|SH a (.val (.str []) H) λb o n _=>cond (Nat.beq n 0) (.val (.str []) H) (Uc H b λr=>YP (Nat.ble (Nat.add o n) r.size) (Li (λs=>.val (.str s) H) (U5 r o n)))
theorem nG(x:YR)(tm:TM)(H:Heap):CU x tm H=bY (x tm) H:=rfl
def Ca(e:Nat)(a:AV)(H:Heap):OR:=O8 a λs=>.val (.slice H.nx 0 (XX s) none) (H.new (.row ⟨e,1,XX s,T.ofList (Gu s),.unk,0,true,true,false⟩))
theorem vK(x:YR)(e:Nat)(tm:TM)(H:Heap):Hk x e tm H=Ca e (x tm) H:=rfl
theorem ze(e:Nat)(s:List UInt8)(H:Heap):Ca e (.str s) H=.val (.slice H.nx 0 s.length none) (H.new (rG e 1 (s.map Gq) 0 true true false)):=by
 show OR.val (.slice H.nx 0 (XX s) none) (H.new (.row ⟨e,1,XX s,T.ofList (Gu s),.unk,0,true,true,false⟩))=_
 have:Gu s=s.map Gq:=by rw[CJ];rfl
 unfold rG
 rw[this,XK,XK,VU]
theorem vQ(x:YR)(t:Nat)(tm:TM)(H:Heap):Wn x t tm H=.val (.iface t (x tm)) H:=rfl
theorem rN(f:Nat)(a b:List YR)(tm:TM)(H:Heap):Oj f a b tm H=.val (.func f (evs tm a) (evs tm b)) H:=rfl
def yZ(P:Program)(a:AV)(args:List AV)(H:Heap):OR:=match a with
 |.func f x y=>.oth (.call f (x++(args++y)) H)
 |.meth n r=>PT r .fail λu v=>Ir P n u λg=>.oth (.call g (v::args) H)
 |.yield b=>.oth (.yield b args H)
 |_=>.fail
theorem rL(x:YR)(P:Program)(args:List YR)(tm:TM)(H:Heap):Uo x P args tm H=yZ P (x tm) (evs tm args) H:=rfl
theorem ZM(P:Program)(f:Nat)(x y args:List AV)(H:Heap):yZ P (.func f x y) args H=.oth (.call f (x++(args++y)) H):=rfl
theorem ku(lit:Bool)(g:Nat->AV->AV->Option Bool)(neg:Bool)(t:Nat)(v:AV)(H:Heap):GB (Fb lit g) neg (.iface t v) .nili H=.val (.bool neg) H:=by cases neg<;>rfl
theorem kw(g:Nat->AV->AV->Option Bool)(neg:Bool)(H:Heap):GB (Fb true g) neg .nili .nili H=.val (.bool (!neg)) H:=by cases neg<;>rfl
def nU(neg:Bool)(r:Option Bool)(H:Heap):OR:=match r with|some b=>.val (.bool (cond neg (!b) b)) H|none=>.fail
theorem uf(neg b:Bool)(H:Heap):nU neg (some b) H=.val (.bool (cond neg (!b) b)) H:=rfl
theorem kr(lit:Bool)(g:Nat->AV->AV->Option Bool)(neg:Bool)(t:Nat)(v w:AV)(H:Heap):GB (Fb lit g) neg (.iface t v) (.iface t w) H=nU neg (g t v w) H:=by
 show S0 (cond (Nat.beq t t) (g t v w) (some false)) _=_
 rw[Xt,cond_true]
 cases g t v w with
 |none=>rfl
 |some b=>
  show RO (cond neg (cond b false true) b) H=_
  rw[Sv];cases neg<;>cases b<;>rfl
theorem BT(n:Nat):Pb n []=true:=rfl
theorem Dl(n:Nat)(v:AV)(l:List AV):Pb n (v::l)=cond (VB n v) (Pb n l) false:=rfl
theorem zP(n t:Nat)(v:AV):VB n (.iface t v)=VB n v:=rfl
theorem BV(n:Nat)(l:List AV):VB n (.tup l)=Pb n l:=rfl
theorem zC(b o n:Nat)(t:T Obj):TS (.val (.ptr b o) ⟨n,t,n⟩) (.ptr b o) n=true:=SQ _ _ _ (by unfold same;rw[Xt,Xt];rfl)
theorem vA(n:Nat):VB n .nili=true:=rfl
theorem vB(n:Nat):VB n .nils=true:=rfl
theorem rz(n:Nat)(k:IntKind)(z:Int):VB n (.int k z)=true:=rfl
def KH(t:Nat)(zv:AV)(ok:Bool)(a:AV)(H:Heap):OR:=PT a (PD zv ok H none) λu v=>PD zv ok H (cond (Nat.beq u t) (some v) none)
theorem zW(x:YR)(t:Nat)(zv:AV)(ok:Bool)(tm:TM)(H:Heap):Q5 x t zv ok tm H=KH t zv ok (x tm) H:=rfl
theorem A6(t:Nat)(zv:AV)(H:Heap):KH t zv true .nili H=.val (.tup [zv,.bool false]) H:=rfl
theorem A7(t:Nat)(zv v:AV)(H:Heap):KH t zv true (.iface t v) H=.val (.tup [v,.bool true]) H:=by
 show PD zv true H (cond (Nat.beq t t) (some v) none)=_
 rw[Xt];rfl
def nV(a:AV)(H:Heap):OR:=PT a .fail λ_ _=>.oth (.pan a H)
theorem vU(x:YR)(tm:TM)(H:Heap):Pd x tm H=nV (x tm) H:=rfl
theorem nW(t:Nat)(v:AV)(H:Heap):nV (.iface t v) H=.oth (.pan (.iface t v) H):=rfl
theorem sE(next:TM->Heap->X->VZ)(dst:Yu)(c:Ctx)(tm:TM)(H:Heap)(x:X)(v:AV)(H':Heap):OV next dst c tm H x (.oth (.pan v H'))=.ok (.pan v) tm H' x:=rfl
theorem ql(next:TM->Heap->X->VZ)(dst:Yu)(tm:TM)(x:X)(v:AV)(H:Heap):FN next dst tm x (.pan v H)=.ok (.pan v) tm H x:=rfl
theorem uL(v:AV)(tm:TM)(H:Heap)(x:X)(k:TM->Heap->X->VZ):Oy (.ok (.pan v) tm H x) k=.ok (.pan v) tm H x:=rfl
theorem zK(i:Nat)(v:AV)(tm:TM)(H:Heap)(x:X):PQ i (.ok (.pan v) tm H x)=.ok (.pan v) tm H x:=rfl
theorem qu(dc:Option AV->Nat->List AV->Heap->DR)(rs:List (YR×Option (Nat×Bool)))(v:AV)(tm:TM)(H:Heap)(rc:Option AV):Ly dc rs (.ok (.pan v) tm H ⟨[],rc⟩)=.pan v H:=rfl
theorem qD(ds:List Yu)(p:PI)(nx:PK)(rs:List RD)(tm:TM)(x:X)(v:AV)(H:Heap):FU ds p nx rs tm x (.pan v H)=.ok (.pan v) (PF tm ds) H x:=rfl
def Bz(H:Heap)(vs:List AV):CR:=match vs with|[v]=>.ret v H|vs=>.ret (.tup vs) H
theorem Am(rs:List (YR×Option (Nat×Bool)))(tm:TM)(H:Heap):results rs tm H=Nz tm H (Bz H) rs:=rfl
theorem kB(H:Heap)(v:AV):Bz H [v]=.ret v H:=rfl
theorem kA(H:Heap):Bz H []=.ret (.tup []) H:=rfl
theorem kC(H:Heap)(v w:AV)(l:List AV):Bz H (v::w::l)=.ret (.tup (v::w::l)) H:=rfl
theorem uy(tm:TM)(H:Heap)(k:List AV->CR):Nz tm H k []=k []:=rfl
def rV(n:Nat)(ag:Bool)(o:Option Obj)(off:Nat)(k:AV->CR):CR:=match o with
 |some (.row r)=>cond (Nat.ble (Nat.add off n) r.size) (cond ag (k (.agg (U5 r off n))) (k (r.get off))) .fail
 |_=>.fail
def nZ(H:Heap)(a:AV)(n:Nat)(ag:Bool)(k:AV->CR):CR:=match a with
 |.ptr b o=>rV n ag (H.t.get b) o k
 |_=>.fail
theorem qB(H:Heap)(b o n:Nat)(ag:Bool)(k:AV->CR):nZ H (.ptr b o) n ag k=rV n ag (H.t.get b) o k:=rfl
theorem yp(f:YR)(tm:TM)(H:Heap)(k:List AV->CR)(l:List (YR×Option (Nat×Bool))):Nz tm H k ((f,none)::l)=Nz tm H (λvs=>k (f tm::vs)) l:=rfl
theorem yq(f:YR)(n:Nat)(ag:Bool)(tm:TM)(H:Heap)(k:List AV->CR)(l:List (YR×Option (Nat×Bool))):Nz tm H k ((f,some (n,ag))::l)=nZ H (f tm) n ag (λv=>Nz tm H (λvs=>k (v::vs)) l):=rfl
theorem yl{n e sz:Nat}{l:List AV}{fz:Nat}{sm own ex:Bool}(hn:l.length=n)(k:AV->CR):rV n true (some (rG e sz l fz sm own ex)) 0 k=k (.agg l):=by
 subst hn
 show cond (Nat.ble (0+l.length) (XX l)) (k (.agg (U5 ⟨e,sz,XX l,T.ofList l,.unk,fz,sm,own,ex⟩ 0 l.length))) .fail=_
 rw[(Ai e sz l fz sm own ex).load (by omega),Zw,V1,XK,Zd,Z1 (Z2 _)];rfl
theorem vM(x:YR)(args:List YR)(tm:TM)(H:Heap):JG x args tm H=.oth (.defer (x tm) (evs tm args)):=rfl
theorem Aa(tm:TM)(H:Heap):Kg tm H=.oth .recov:=rfl
theorem zx(next:TM->Heap->X->VZ)(dst:Yu)(cl y rg fu)(tm:TM)(H:Heap)(x:X)(f:Nat)(a b args:List AV):OV next dst ⟨cl,y,rg,fu,false⟩ tm H x (.oth (.defer (.func f a b) args))=next (dst tm WK) H ⟨(.func f a b,args)::x.df,x.rc⟩:=rfl
theorem BB(next:TM->Heap->X->VZ)(dst:Yu)(cl y rg fu)(tm:TM)(H:Heap)(df:List (AV×List AV)):OV next dst ⟨cl,y,rg,fu,false⟩ tm H ⟨df,none⟩ (.oth .recov)=next (dst tm .nili) H ⟨df,none⟩:=rfl
theorem BC(next:TM->Heap->X->VZ)(dst:Yu)(cl y rg fu)(tm:TM)(H:Heap)(df:List (AV×List AV))(v:AV):OV next dst ⟨cl,y,rg,fu,false⟩ tm H ⟨df,some v⟩ (.oth .recov)=next (dst tm v) H ⟨df,none⟩:=rfl
theorem uj(dc:Option AV->Nat->List AV->Heap->DR)(rs:List (YR×Option (Nat×Bool)))(tm:TM)(H:Heap)(d:AV×List AV)(l:List (AV×List AV))(rc:Option AV):Ly dc rs (.ok .ret tm H ⟨d::l,rc⟩)=deferred dc rs tm (d::l) none H:=rfl
theorem uh(dc:Option AV->Nat->List AV->Heap->DR)(rs:List (YR×Option (Nat×Bool)))(v:AV)(tm:TM)(H:Heap)(d:AV×List AV)(l:List (AV×List AV))(rc:Option AV):Ly dc rs (.ok (.pan v) tm H ⟨d::l,rc⟩)=deferred dc rs tm (d::l) (some v) H:=rfl
def G6(dc:Option AV->Nat->List AV->Heap->DR)(rs:List (YR×Option (Nat×Bool)))(tm:TM)(l:List (AV×List AV))(pn:Option AV)(r:DR):CR:=match r with
 |.ret _ H rec=>deferred dc rs tm l (cond rec none pn) H
 |_=>.fail
theorem Ep(dc:Option AV->Nat->List AV->Heap->DR)(rs:List (YR×Option (Nat×Bool)))(tm:TM)(g:Nat)(a b args:List AV)(l:List (AV×List AV))(pn:Option AV)(H:Heap):deferred dc rs tm ((.func g a b,args)::l) pn H=G6 dc rs tm l pn (dc pn g (a++(args++b)) H):=by
 show(match dc pn g (a++(args++b)) H with|.ret _ H rec=>deferred dc rs tm l (cond rec none pn) H|_=>.fail)=_
 unfold G6
 cases dc pn g (a++(args++b)) H<;>rfl
theorem zo(dc:Option AV->Nat->List AV->Heap->DR)(rs:List (YR×Option (Nat×Bool)))(tm:TM)(l:List (AV×List AV))(pn:Option AV)(v:AV)(H:Heap)(rec:Bool):G6 dc rs tm l pn (.ret v H rec)=deferred dc rs tm l (cond rec none pn) H:=rfl
theorem Ch(dc:Option AV->Nat->List AV->Heap->DR)(rs:List (YR×Option (Nat×Bool)))(tm:TM)(H:Heap):deferred dc rs tm [] none H=results rs tm H:=rfl
theorem Ci(dc:Option AV->Nat->List AV->Heap->DR)(rs:List (YR×Option (Nat×Bool)))(tm:TM)(v:AV)(H:Heap):deferred dc rs tm [] (some v) H=.pan v H:=rfl
def bG{α β:Type}(o:Option α)(d:β)(k:α->β):β:=match o with|some x=>k x|none=>d
theorem ug{α β:Type}(x:α)(d:β)(k:α->β):bG (some x) d k=k x:=rfl
def yf(rc:Option AV)(x:X)(r:CR):DR:=match r with|.ret v H=>.ret v H (MK rc x)|_=>.fail
theorem qt(rc:Option AV)(x:X)(v:AV)(H:Heap):yf rc x (.ret v H)=.ret v H (MK rc x):=rfl
theorem Gg(rc:Option AV)(rs:List (YR×Option (Nat×Bool)))(tm:TM)(H:Heap)(q:Option AV):Hn rc rs (.ok .normal tm H ⟨[],q⟩)=yf rc ⟨[],q⟩ (results rs tm H):=by
 show(match([]:List (AV×List AV)),results rs tm H with|[],.ret v H=>DR.ret v H (MK rc ⟨[],q⟩)|_,_=>.fail)=_
 unfold yf
 cases results rs tm H<;>rfl
theorem qs(rc:Option AV)(rs:List (YR×Option (Nat×Bool)))(tm:TM)(H:Heap)(q:Option AV):Hn rc rs (.ok .ret tm H ⟨[],q⟩)=yf rc ⟨[],q⟩ (results rs tm H):=Gg rc rs tm H q
theorem qr(rc:Option AV)(rs:List (YR×Option (Nat×Bool)))(v:AV)(tm:TM)(H:Heap)(q:Option AV):Hn rc rs (.ok (.pan v) tm H ⟨[],q⟩)=.pan v H (MK rc ⟨[],q⟩):=rfl
theorem jO(v:AV)(l:List (AV×List AV)):MK (some v) ⟨l,none⟩=true:=rfl
theorem jN(x:X):MK none x=false:=rfl
theorem EX(k:List AV->OR)(cells:List AV):Oc k [] cells=k cells:=rfl
theorem zr(k:List AV->OR)(o n:Nat)(v:AV)(ps:List (Nat×Nat×AV))(cells:List AV):Oc k ((o,n,v)::ps) cells=YP (Nat.ble 1 n) (YP (Nat.beq (XX v.cells) n) (YP (Nat.ble (Nat.add o n) (XX cells)) (Oc k ps (NA o cells++(v.cells++OU (Nat.add o n) cells))))):=rfl
theorem rn{cells l:List AV}{o:Nat}(h:o+l.length<=cells.length):NA o cells++(l++OU (Nat.add o l.length) cells)=lay cells o l:=by
 rw[Cz cells o l h]
 have h1:NA o cells=cells.take o:=MQ ..
 have h2:OU (o+l.length) cells=cells.drop (o+l.length):=MF ..
 rw[h1]
 show _++(_++OU (o+l.length) cells)=_
 rw[h2]
theorem Fc{k:List AV->OR}{o n:Nat}{v:AV}{l:List AV}{ps:List (Nat×Nat×AV)}{cells:List AV}(hv:v.cells=l)(hl:l.length=n)(hn:1<=n)(h:o+n<=cells.length):Oc k ((o,n,v)::ps) cells=Oc k ps (lay cells o l):=by
 subst hv;subst hl
 rw[zr,Z1 hn,XK,Xt,XK,Z1 (show Nat.add o v.cells.length<=cells.length from h),rn h];rfl
theorem wD{k:List AV->OR}{o:Nat}{v:AV}{ps:List (Nat×Nat×AV)}{cells:List AV}(hv:v.cells=[v])(h:o<cells.length):Oc k ((o,1,v)::ps) cells=Oc k ps (cells.set o v):=Fc hv rfl (Z2 1) h
theorem wC{k:List AV->OR}{o n:Nat}{l:List AV}{ps:List (Nat×Nat×AV)}{cells:List AV}(hl:l.length=n)(hn:1<=n)(h:o+n<=cells.length):Oc k ((o,n,.agg l)::ps) cells=Oc k ps (lay cells o l):=Fc rfl hl hn h
theorem Bp(z:AV)(zs:List AV)(ps:List (Nat×Nat×AV))(H:Heap):LI (z::zs) ps H=Oc (λcs=>.val (.agg cs) H) ps (z::zs):=by
 show YP (Nat.ble 1 (XX (z::zs))) _=_
 rw[XK,Z1 (by simp)];rfl
theorem zd{e sz n:Nat}{zs:List AV}{ps:List (Nat×Nat×AV)}{H:Heap}(h1:1<=sz)(h2:zs.length=n*sz):ON e sz n zs ps H=Oc (λcs=>.val (.slice H.nx 0 n none) (H.newRow e sz cs true)) ps zs:=by
 show YP (Nat.ble 1 sz) (YP (Nat.beq (XX zs) (Nat.mul n sz)) _)=_
 rw[Z1 h1,XK,h2,show Nat.mul n sz=n*sz from rfl,Xt];rfl
theorem Yp:(∀(x:YR) (args:List YR) (tm:TM) (H:Heap),JG x args tm H=.oth (.defer (x tm) (evs tm args)))∧
 (∀(tm:TM) (H:Heap),Kg tm H=.oth .recov)∧
 (∀(next:TM->Heap->X->VZ) (dst:Yu) (cl y rg fu) (tm:TM) (H:Heap) (x:X) (f:Nat) (a b args:List AV),OV next dst ⟨cl,y,rg,fu,false⟩ tm H x (.oth (.defer (.func f a b) args))=next (dst tm WK) H ⟨(.func f a b,args)::x.df,x.rc⟩)∧
 (∀(next:TM->Heap->X->VZ) (dst:Yu) (cl y rg fu) (tm:TM) (H:Heap) (df:List (AV×List AV)),OV next dst ⟨cl,y,rg,fu,false⟩ tm H ⟨df,none⟩ (.oth .recov)=next (dst tm .nili) H ⟨df,none⟩)∧
 (∀(next:TM->Heap->X->VZ) (dst:Yu) (cl y rg fu) (tm:TM) (H:Heap) (df:List (AV×List AV)) (v:AV),OV next dst ⟨cl,y,rg,fu,false⟩ tm H ⟨df,some v⟩ (.oth .recov)=next (dst tm v) H ⟨df,none⟩)∧
 (∀(dc:Option AV->Nat->List AV->Heap->DR) (rs:List (YR×Option (Nat×Bool))) (tm:TM) (H:Heap) (d:AV×List AV) (l:List (AV×List AV)) (rc:Option AV),Ly dc rs (.ok .ret tm H ⟨d::l,rc⟩)=deferred dc rs tm (d::l) none H)∧
 (∀(dc:Option AV->Nat->List AV->Heap->DR) (rs:List (YR×Option (Nat×Bool))) (v:AV) (tm:TM) (H:Heap) (d:AV×List AV) (l:List (AV×List AV)) (rc:Option AV),Ly dc rs (.ok (.pan v) tm H ⟨d::l,rc⟩)=deferred dc rs tm (d::l) (some v) H)∧
 (∀(dc:Option AV->Nat->List AV->Heap->DR) (rs:List (YR×Option (Nat×Bool))) (tm:TM) (g:Nat) (a b args:List AV) (l:List (AV×List AV)) (pn:Option AV) (H:Heap),deferred dc rs tm ((.func g a b,args)::l) pn H=G6 dc rs tm l pn (dc pn g (a++(args++b)) H))∧
 (∀(dc:Option AV->Nat->List AV->Heap->DR) (rs:List (YR×Option (Nat×Bool))) (tm:TM) (l:List (AV×List AV)) (pn:Option AV) (v:AV) (H:Heap) (rec:Bool),G6 dc rs tm l pn (.ret v H rec)=deferred dc rs tm l (cond rec none pn) H)∧
 (∀(dc:Option AV->Nat->List AV->Heap->DR) (rs:List (YR×Option (Nat×Bool))) (tm:TM) (H:Heap),deferred dc rs tm [] none H=results rs tm H)∧
 (∀(dc:Option AV->Nat->List AV->Heap->DR) (rs:List (YR×Option (Nat×Bool))) (tm:TM) (v:AV) (H:Heap),deferred dc rs tm [] (some v) H=.pan v H)∧
 (∀{α β:Type} (x:α) (d:β) (k:α->β),bG (some x) d k=k x)∧
 (∀(rc:Option AV) (x:X) (v:AV) (H:Heap),yf rc x (.ret v H)=.ret v H (MK rc x))∧
 (∀(rc:Option AV) (rs:List (YR×Option (Nat×Bool))) (tm:TM) (H:Heap) (q:Option AV),Hn rc rs (.ok .normal tm H ⟨[],q⟩)=yf rc ⟨[],q⟩ (results rs tm H))∧
 (∀(rc:Option AV) (rs:List (YR×Option (Nat×Bool))) (tm:TM) (H:Heap) (q:Option AV),Hn rc rs (.ok .ret tm H ⟨[],q⟩)=yf rc ⟨[],q⟩ (results rs tm H))∧
 (∀(rc:Option AV) (rs:List (YR×Option (Nat×Bool))) (v:AV) (tm:TM) (H:Heap) (q:Option AV),Hn rc rs (.ok (.pan v) tm H ⟨[],q⟩)=.pan v H (MK rc ⟨[],q⟩))∧
 (∀(v:AV) (l:List (AV×List AV)),MK (some v) ⟨l,none⟩=true)∧
 (∀(x:X),MK none x=false)∧
 (∀{a:AV} (h:a.cells=[a]) (e:Nat) (H:Heap),zb e a H=.val (.ptr H.nx 0) (H.new (rG e 1 [a] 0 false true true)))∧
 (∀{l:List AV} (h1:1<=l.length) (e:Nat) (H:Heap),zb e (.agg l) H=.val (.ptr H.nx 0) (H.new (rG e 1 l 0 false true true)))∧
 (∀{b c:Nat} (h: ¬b=c) (H:Heap) (o:Obj),(H.put b o).t.get c=H.t.get c)∧
 (∀{H:Heap} {c:Nat} (h: ¬H.nx=c) (o:Obj),(H.new o).t.get c=H.t.get c)∧
 (∀{H:Heap} {c:Nat} (h:H.nx=c) (o:Obj),(H.new o).t.get c=some o)∧
 (∀{H:Heap} {b:Nat} (h:H.nx=b) (o o':Obj),(H.new o).put b o'=H.new o')∧
 (∀(neg b:Bool) (H:Heap),nU neg (some b) H=.val (.bool (cond neg (!b) b)) H)∧
 (∀(lit:Bool) (g:Nat->AV->AV->Option Bool) (neg:Bool) (t:Nat) (v w:AV) (H:Heap),GB (Fb lit g) neg (.iface t v) (.iface t w) H=nU neg (g t v w) H)∧
 (∀(n:Nat),Pb n []=true)∧
 (∀(n:Nat) (v:AV) (l:List AV),Pb n (v::l)=cond (VB n v) (Pb n l) false)∧
 (∀(n t:Nat) (v:AV),VB n (.iface t v)=VB n v)∧
 (∀(n:Nat) (l:List AV),VB n (.tup l)=Pb n l)∧
 (∀(b o n:Nat) (t:T Obj),TS (.val (.ptr b o) ⟨n,t,n⟩) (.ptr b o) n=true)∧
 (∀(n:Nat),VB n .nili=true)∧
 (∀(n:Nat),VB n .nils=true)∧
 (∀(n:Nat) (k:IntKind) (z:Int),VB n (.int k z)=true)∧
 (∀(k:List AV->OR) (cells:List AV),Oc k [] cells=k cells)∧
 (∀{k:List AV->OR} {o:Nat} {v:AV} {ps:List (Nat×Nat×AV)} {cells:List AV} (hv:v.cells=[v]) (h:o<cells.length),Oc k ((o,1,v)::ps) cells=Oc k ps (cells.set o v))∧
 (∀(z:AV) (zs:List AV) (ps:List (Nat×Nat×AV)) (H:Heap),LI (z::zs) ps H=Oc (λcs=>.val (.agg cs) H) ps (z::zs))∧
 (∀(e sz:Nat) (l:List AV) (fz:Nat) (sm ex:Bool),wrO (rG e sz l fz sm true ex)=true)∧
 (∀(x:YR) (e:Nat) (tm:TM) (H:Heap),Hk x e tm H=Ca e (x tm) H)∧
 (∀(e:Nat) (s:List UInt8) (H:Heap),Ca e (.str s) H=.val (.slice H.nx 0 s.length none) (H.new (rG e 1 (s.map Gq) 0 true true false)))∧
 (∀(x:YR) (t:Nat) (tm:TM) (H:Heap),Wn x t tm H=.val (.iface t (x tm)) H)∧
 (∀(f:Nat) (a b:List YR) (tm:TM) (H:Heap),Oj f a b tm H=.val (.func f (evs tm a) (evs tm b)) H)∧
 (∀(x:YR) (P:Program) (args:List YR) (tm:TM) (H:Heap),Uo x P args tm H=yZ P (x tm) (evs tm args) H)∧
 (∀(P:Program) (f:Nat) (x y args:List AV) (H:Heap),yZ P (.func f x y) args H=.oth (.call f (x++(args++y)) H))∧
 (∀(lit:Bool) (g:Nat->AV->AV->Option Bool) (neg:Bool) (t:Nat) (v:AV) (H:Heap),GB (Fb lit g) neg (.iface t v) .nili H=.val (.bool neg) H)∧
 (∀(g:Nat->AV->AV->Option Bool) (neg:Bool) (H:Heap),GB (Fb true g) neg .nili .nili H=.val (.bool (!neg)) H)∧
 (∀(x:YR) (t:Nat) (zv:AV) (ok:Bool) (tm:TM) (H:Heap),Q5 x t zv ok tm H=KH t zv ok (x tm) H)∧
 (∀(t:Nat) (zv:AV) (H:Heap),KH t zv true .nili H=.val (.tup [zv,.bool false]) H)∧
 (∀(t:Nat) (zv v:AV) (H:Heap),KH t zv true (.iface t v) H=.val (.tup [v,.bool true]) H)∧
 (∀(x:YR) (tm:TM) (H:Heap),Pd x tm H=nV (x tm) H)∧
 (∀(t:Nat) (v:AV) (H:Heap),nV (.iface t v) H=.oth (.pan (.iface t v) H))∧
 (∀(next:TM->Heap->X->VZ) (dst:Yu) (c:Ctx) (tm:TM) (H:Heap) (x:X) (v:AV) (H':Heap),OV next dst c tm H x (.oth (.pan v H'))=.ok (.pan v) tm H' x)∧
 (∀(next:TM->Heap->X->VZ) (dst:Yu) (tm:TM) (x:X) (v:AV) (H:Heap),FN next dst tm x (.pan v H)=.ok (.pan v) tm H x)∧
 (∀(v:AV) (tm:TM) (H:Heap) (x:X) (k:TM->Heap->X->VZ),Oy (.ok (.pan v) tm H x) k=.ok (.pan v) tm H x)∧
 (∀(i:Nat) (v:AV) (tm:TM) (H:Heap) (x:X),PQ i (.ok (.pan v) tm H x)=.ok (.pan v) tm H x)∧
 (∀(dc:Option AV->Nat->List AV->Heap->DR) (rs:List (YR×Option (Nat×Bool))) (v:AV) (tm:TM) (H:Heap) (rc:Option AV),Ly dc rs (.ok (.pan v) tm H ⟨[],rc⟩)=.pan v H)∧
 (∀(ds:List Yu) (p:PI) (nx:PK) (rs:List RD) (tm:TM) (x:X) (v:AV) (H:Heap),FU ds p nx rs tm x (.pan v H)=.ok (.pan v) (PF tm ds) H x)∧
 (∀(rs:List (YR×Option (Nat×Bool))) (tm:TM) (H:Heap),results rs tm H=Nz tm H (Bz H) rs)∧
 (∀(H:Heap) (v:AV),Bz H [v]=.ret v H)∧
 (∀(H:Heap),Bz H []=.ret (.tup []) H)∧
 (∀(H:Heap) (v w:AV) (l:List AV),Bz H (v::w::l)=.ret (.tup (v::w::l)) H)∧
 (∀(tm:TM) (H:Heap) (k:List AV->CR),Nz tm H k []=k [])∧
 (∀(f:YR) (tm:TM) (H:Heap) (k:List AV->CR) (l:List (YR×Option (Nat×Bool))),Nz tm H k ((f,none)::l)=Nz tm H (λvs=>k (f tm::vs)) l)∧
 (∀(f:YR) (n:Nat) (ag:Bool) (tm:TM) (H:Heap) (k:List AV->CR) (l:List (YR×Option (Nat×Bool))),Nz tm H k ((f,some (n,ag))::l)=nZ H (f tm) n ag (λv=>Nz tm H (λvs=>k (v::vs)) l))∧
 (∀(H:Heap) (b o n:Nat) (ag:Bool) (k:AV->CR),nZ H (.ptr b o) n ag k=rV n ag (H.t.get b) o k)∧
 (∀(x:YR) (tm:TM) (H:Heap),CU x tm H=bY (x tm) H):=⟨@vM, @Aa, @zx, @BB, @BC, @uj, @uh, @Ep, @zo, @Ch, @Ci, @ug, @qt, @Gg, @qs, @qr, @jO, @jN, @Bo, @Vy, @Rl, @WH, @YN, @Ty, @uf, @kr, @BT, @Dl, @zP, @BV, @zC, @vA, @vB, @rz, @EX, @wD, @Bp, @pe, @vK, @ze, @vQ, @rN, @rL, @ZM, @ku, @kw, @zW, @A6, @A7, @vU, @nW, @sE, @ql, @uL, @zK, @qu, @qD, @Am, @kB, @kA, @kC, @uy, @yp, @yq, @qB, @nG⟩
theorem Yr:(∀(e sz:Nat) (l:List AV) (fz:Nat) (sm ex:Bool),wrO (rG e sz l fz sm true ex)=true)∧
 (∀(H:Heap) (b:Nat) (o:Obj),(H.put b o).nx=H.nx)∧
 (∀(H:Heap) (o:Obj),(H.new o).nx=H.nx+1)∧
 (∀(H:Heap) (b:Nat) (o:Obj),(H.put b o).ro=H.ro)∧
 (∀(H:Heap) (o:Obj),(H.new o).ro=H.ro)∧
 (∀(b:Bool),(AV.bool b).cells=[.bool b])∧
 (∀(k:IntKind) (n:Int),(AV.int k n).cells=[.int k n])∧
 (∀(k:IntKind) (n:Nat),(nI k n).cells=[nI k n])∧
 (∀(x:UInt8),(Gq x).cells=[Gq x])∧
 (∀(s:List UInt8),(AV.str s).cells=[.str s])∧
 (AV.nilp.cells=[.nilp])∧
 (∀(b o:Nat),(AV.ptr b o).cells=[.ptr b o])∧
 (AV.nils.cells=[.nils])∧
 (∀(b o n:Nat) (c:Option Nat),(AV.slice b o n c).cells=[.slice b o n c])∧
 (∀(b:Nat),(AV.map b).cells=[.map b])∧
 (∀(f:Nat) (a b:List AV),(AV.func f a b).cells=[.func f a b])∧
 (∀(t:Nat) (v:AV),(AV.iface t v).cells=[.iface t v])∧
 (AV.nili.cells=[.nili])∧
 (∀(l:List AV),(AV.agg l).cells=l)∧
 (∀(r:Row) (o:Nat) (v:AV),(r.st o v).size=r.size)∧
 (∀(r:Row) (o:Nat) (v:AV),(r.st o v).own=r.own)∧
 (∀(r:Row) (o:Nat) (v:AV),(r.st o v).fz=r.fz)∧
 (∀(l:List AV) (o:Nat) (vs:List AV),(lay l o vs).length=l.length):=⟨@pe, @PV, @My, @C3, @rJ, @GZ, @EO, @Bs, @ES, @ER, @G2, @EQ, @G3, @HG, @EP, @G0, @HF, @G1, @EN, @Row.st_size, @Row.st_own, @Row.st_fz, @CA⟩
theorem Yq:((!true)=false)∧((!false)=true)∧(∀{α:Type} (l:List α),[]++l=l)∧(∀{α:Type} (l:List α),l++[]=l)∧(∀{α β:Type} (f:α->β),Option.map f none=none)∧(∀{α β:Type} (f:α->β) (a:α),Option.map f (some a)=some (f a))∧(∀{α β:Type} (f:α->β) (a:α) (l:List α),List.map f (a::l)=f a::List.map f l)∧(∀{α β:Type} (f:α->β),List.map f []=[])∧(∀{α:Type} (a b:α),cond true a b=a)∧(∀{α:Type} (a b:α),cond false a b=b)∧(∀(x i:Nat),x.testBit i=decide (x/2^i % 2=1))∧(∀h:Decidable True, @decide True h=true)∧(∀h:Decidable False, @decide False h=false)∧(∀n:Nat,0+n=n)∧
 (∀{α:Type} (a d:α) (l:List α),(a::l).getD 0 d=a)∧(∀{α:Type} (a d:α) (l:List α) (n:Nat),(a::l).getD (n+1) d=l.getD n d)∧(∀{α:Type} (a b:α) (l:List α),(a::l).set 0 b=b::l)∧(∀{α:Type} (a b:α) (l:List α) (n:Nat),(a::l).set (n+1) b=a::l.set n b):=
 ⟨Bool.not_true,Bool.not_false,λ_=>rfl,Zl,λ_=>rfl,λ_ _=>rfl,λ_ _ _=>rfl,λ_=>rfl,λ_ _=>rfl,λ_ _=>rfl,λ_ _=>Nat.testBit_eq_decide_div_mod_eq,λ_=>Zr trivial,λ_=>Zj id,Zd,λ_ _ _=>rfl,λ_ _ _ _=>rfl,λ_ _ _=>rfl,λ_ _ _ _=>rfl⟩
theorem Ys:(∀{α:Type} (a:α) (l:List α),(a::l).length=l.length+1)∧(∀{α:Type},([]:List α).length=0)∧(∀{α:Type} (l:List α) (n:Nat) (a:α),(l.set n a).length=l.length)∧(∀{α β:Type} (f:α->β) (l:List α),(l.map f).length=l.length):=
 ⟨λ_ _=>rfl,rfl,λ_ _ _=>TO,λ_ _=>VU ..⟩
section
variable {P:Program}
def ji(n:Nat):Obj->Prop
 |.row r=> ∀i,i<r.size->VB n (r.get i)=true
 |.map es _=> ∀x∈es,VB n x.key=true∧VB n x.val=true
 |.siter _ _=>True
 |.loop=>True
 |_=>False
theorem TN.cutX{σ:Mp}{n:Nat}{o:Obj}{l:Loc}{c:Go.Obj}(h:ji n o)(r:TN σ o l c):TN (σ.cut n) o l c:=by
 cases o with
 |row q=>
  obtain⟨cs,fr,rfl,r⟩:=r
  refine⟨cs,fr,rfl,r.sz,r.sz1,r.fits,r.room,r.exact,λi hi=>?_,r.one,r.frz,r.frs⟩
  obtain⟨v,h1,h2⟩:=r.cell i hi
  exact⟨v,h1,Y2.cut (h i hi) h2⟩
 |map es clock=>
  obtain⟨ents,e,h1,h2⟩:=r
  exact⟨ents,e,Xf.cutE h h1,h2⟩
 |siter s pos=>exact r
 |loop=>exact r
 |miter _ _ _=>exact h.elim
 |cmap _=>exact h.elim
structure Less(H H' G:Heap):Prop where
 nx:H.nx<=G.nx
 ro:G.ro=H.ro
 old: ∀b,b<H.nx->G.t.get b=H'.t.get b
 new: ∀b o,H.nx<=b->G.t.get b=some o->H.t.get b=some o∨(b<G.nx∧H'.t.get b=some o)
 low: ∀b o,G.t.get b=some o->H.t.get b=some o∨ji G.nx o
theorem Tr.less{σ σ':Mp}{H H' G:Heap}{w w':World}(hs:VP P σ H w)(t:Tr P σ H w σ' H' w')(g:Less H H' G):Tr P σ H w (σ'.cut G.nx) G w':=by
 have hex:Ext σ (σ'.cut G.nx):=λb l hb=>by
  have:=hs.dom b l hb
  rw[Mp.cut_lt (YV this g.nx)]
  exact t.ext b l hb
 have hcut: ∀{b l},σ'.cut G.nx b=some l->σ' b=some l:=λh=>(Mp.cut_some h).2
 have hin: ∀b o,G.t.get b=some o->H'.t.get b=some o:=λb o h=>by
  by_cases hb:b<H.nx
  ·rw[<-g.old b hb];exact h
  ·rcases g.new b o (by omega) h with h1|h1
   ·exact absurd (hs.low b o h1) hb
   ·exact h1.2
 have hs':VP P (σ'.cut G.nx) G w':=by
  refine⟨λb l h=>(Mp.cut_some h).1,λb o h=>?_,λb o l hb hl=>?_,λb b' o o' l l' h1 h2 h3 h4 e=>t.sim.inj b b' o o' l l' (hin _ _ h1) (hin _ _ h2) (hcut h3) (hcut h4) e,λq hq=>?_,by rw[g.ro];exact YZ hs.ro g.nx⟩
  ·by_cases hb:b<H.nx
   ·exact YV hb g.nx
   ·rcases g.new b o (by omega) h with h1|h1
    ·exact absurd (hs.low b o h1) hb
    ·exact h1.1
  ·obtain⟨c,h2,h3⟩:=t.sim.alive b o l (hin b o hb) (hcut hl)
   refine⟨c,h2,?_⟩
   rcases g.low b o hb with h5|h4
   ·cases hσ:σ b with
    |none=>
     have:=(t.pend b (hs.low b o h5) hσ).2
     rw[hcut hl] at this;cases this
    |some l0=>
     have e:=t.ext b l0 hσ
     rw[hcut hl] at e;cases e
     obtain⟨c0,_,h1⟩:=hs.alive b o l h5 hσ
     exact(h1.back t.ext h3).mono hex
   ·exact h3.cutX h4
  ·obtain⟨l,h1,h2,h3⟩:=hs.glob q hq
   exact⟨l,hex _ _ h1,h2,h3⟩
 refine⟨hex,hs',t.size,t.frame,λb l hw hl hlt=>?_,g.nx,g.ro,λb hb=>?_,t.tape,t.os,t.out,λb hb hn=>?_⟩
 ·obtain⟨h1,o,h2,h3⟩:=hw
  exact t.wr b l ⟨by rw[t.ro,<-g.ro];exact h1,o,hin b o h2,h3⟩ (hcut hl) hlt
 ·rw[g.old b (YV hb hs.ro)]
  exact t.low b hb
 ·obtain⟨h1,h2⟩:=t.pend b hb hn
  refine⟨by rw[g.old b hb,h1],?_⟩
  rw[Mp.cut_lt (YV hb g.nx)];exact h2
def mw(H:Heap):CR->CR->Prop
 |.ret v H',.ret u G=>u=v∧Less H H' G∧VB G.nx v=true
 |.pan v H',.pan u G=>u=v∧Less H H' G∧VB G.nx v=true
 |_,_=>False
theorem oZ{call:Nat->List AV->Heap->CR}(hcall:RF P call){f:FuncId}{args:List AV}{H:Heap}{r:CR}(g:mw H (call f args H) r)
  {σ:Mp}{w:World}{vs:List Value}(hs:VP P σ H w)(hv:XG σ args vs):MV P σ H w r ((callFunc f ⟨vs⟩).run P w):=by
 have hcr:=hcall f _ H σ w vs hs hv
 generalize call f args H=q at g hcr
 cases q with
 |fail=>cases r<;>exact g.elim
 |ret v H'=>
  cases r with
  |ret u G=>
   obtain⟨rfl,g,hlow⟩:=g
   refine Ends.mono (λu' w' hx=>?_) (λ_ _ hx=>hx) hcr
   obtain⟨σ2,h1,t⟩:=hx
   exact⟨σ2.cut G.nx,Y2.cut hlow h1,t.less hs g⟩
  |_=>exact g.elim
 |pan v H'=>
  cases r with
  |pan u G=>
   obtain⟨rfl,g,hlow⟩:=g
   refine Ends.mono (λ_ _ hx=>hx) (λu' w' hx=>?_) hcr
   obtain⟨σ2,h1,t⟩:=hx
   exact⟨σ2.cut G.nx,Y2.cut hlow h1,t.less hs g⟩
  |_=>exact g.elim
theorem Less.put{H:Heap}{b:Nat}{o:Obj}(hb:b<H.nx)(ho:ji H.nx o){H':Heap}(h: ∀c,c<H.nx->H'.t.get c=(H.put b o).t.get c):Less H H' (H.put b o):=by
 refine⟨Z2 _,rfl,λc hc=>(h c hc).symm,λc q hc hq=>.inl ?_,λc q hq=>?_⟩
 ·rw[Le,if_neg (by omega)] at hq;exact hq
 ·rw[Le] at hq
  split at hq
  ·cases hq;exact .inr ho
  ·exact .inl hq
theorem Less.same{H H':Heap}(h: ∀c,c<H.nx->H'.t.get c=H.t.get c):Less H H' H:=
 ⟨Z2 _,rfl,λc hc=>(h c hc).symm,λ_ _ _ hq=>.inl hq,λ_ _ hq=>.inl hq⟩
end
section
variable {P:Program}
abbrev Lib:=Nat->List AV->Heap->Option CR
def Fx(QS:Nat->Nat)(Nu:Lib)(call:Nat->List AV->Heap->CR)(lib:Lib)(k:Nat):Lib:=λf args H=>
 open Classical in if QS f=k then
  (match Nu f args H with
  |some r=>if mw H (call f args H) r then some r else lib f args H
  |none=>if ∃v H',call f args H=.ret v H'∧Yw H H' []∧VB 0 v=true then(match call f args H with|.ret v _=>some (.ret v H)|_=>none) else lib f args H)
 else lib f args H
theorem rp{QS:Nat->Nat}{Nu:Lib}{call:Nat->List AV->Heap->CR}{lib:Lib}{k:Nat}(hcall:RF P call)(hl:MD P lib):MD P (Fx QS Nu call lib k):=by
 intro f args H r h σ w vs hs hv
 unfold Fx at h
 split at h
 ·split at h
  ·split at h
   ·rename_i hc
    cases h
    exact oZ hcall hc hs hv
   ·exact hl f args H r h σ w vs hs hv
  ·split at h
   ·rename_i hc
    obtain⟨v,H',h1,h2,h3⟩:=hc
    rw[h1] at h
    cases h
    exact oR hcall h1 h2 h3 hs hv
   ·exact hl f args H r h σ w vs hs hv
 ·exact hl f args H r h σ w vs hs hv
theorem JD{QS:Nat->Nat}{Nu:Lib}{call:Nat->List AV->Heap->CR}{lib:Lib}{k f:Nat}(h:QS f≠k)(args:List AV)(H:Heap):Fx QS Nu call lib k f args H=lib f args H:=by
 unfold Fx;rw[if_neg h]
theorem zJ{QS:Nat->Nat}{Nu:Lib}{call:Nat->List AV->Heap->CR}{lib:Lib}{k f:Nat}{args:List AV}{H H':Heap}{v:AV}(h:QS f=k)(hs:Nu f args H=none)(hr:call f args H=.ret v H')(g:Yw H H' [])(hv:VB 0 v=true):Fx QS Nu call lib k f args H=some (.ret v H):=by
 unfold Fx;rw[if_pos h,hs]
 simp only
 rw[if_pos ⟨v,H',hr,g,hv⟩,hr]
def Gt(Z7:Lib)(fs:T CF)(fuel:Nat)(QS:Nat->Nat)(Nu:Lib):Nat->Lib
 |0=>Z7
 |k+1=>Fx QS Nu (Xd (Gt Z7 fs fuel QS Nu k) fs fuel 900) (Gt Z7 fs fuel QS Nu k) (k+1)
variable {Z7:Lib} {fs:T CF} {fuel:Nat} {QS:Nat->Nat} {Nu:Lib}
theorem CD(hc: ∀lib,MD P lib->RF P (Xd lib fs fuel 900))(h0:MD P Z7): ∀k,MD P (Gt Z7 fs fuel QS Nu k)
 |0=>h0
 |k+1=>rp (hc _ (CD hc h0 k)) (CD hc h0 k)
theorem BQ{f:Nat}(args:List AV)(H:Heap): ∀k,k<QS f->Gt Z7 fs fuel QS Nu k f args H=Z7 f args H
 |0,_=>rfl
 |k+1,h=>(JD (by omega) args H).trans (BQ args H k (by omega))
theorem Hh{f:Nat}(h:QS f=0)(args:List AV)(H:Heap): ∀k,Gt Z7 fs fuel QS Nu k f args H=Z7 f args H
 |0=>rfl
 |k+1=>(JD (by omega) args H).trans (Hh h args H k)
theorem o6{f r:Nat}(h:QS f=r)(args:List AV)(H:Heap): ∀k,r<=k->Gt Z7 fs fuel QS Nu k f args H=Gt Z7 fs fuel QS Nu r f args H:=by
 intro k hk
 induction k with
 |zero=>rw[Nat.le_zero.1 hk]
 |succ k ih=>
  by_cases e:r=k+1
  ·rw[e]
  ·exact(JD (by omega) args H).trans (ih (by omega))
theorem Xk{f k:Nat}(h0: ∀l H,Z7 f l H=none)(h:k<QS f∨QS f=0)(args:List AV)(H:Heap):Gt Z7 fs fuel QS Nu k f args H=none:=by
 rcases h with h|h
 ·rw[BQ args H k h,h0]
 ·rw[Hh h args H k,h0]
theorem GU{f k n:Nat}{args:List AV}{H:Heap}{r:CR}(h:QS f=0)(hr:Z7 f args H=some r):Xd (Gt Z7 fs fuel QS Nu k) fs fuel (n+1) f args H=r:=
 EM (by rw[Hh h];exact hr)
theorem Wy{f r k n:Nat}{args:List AV}{H H':Heap}{v:AV}(h:QS f=r+1)(hs:Nu f args H=none)(hr:Xd (Gt Z7 fs fuel QS Nu r) fs fuel 900 f args H=.ret v H')(g:Yw H H' [])(hv:VB 0 v=true)(hk:r+1<=k):
  Xd (Gt Z7 fs fuel QS Nu k) fs fuel (n+1) f args H=.ret v H:=
 EM (by rw[o6 h args H k hk];exact zJ h hs hr g hv)
end
end
end Go.AI
