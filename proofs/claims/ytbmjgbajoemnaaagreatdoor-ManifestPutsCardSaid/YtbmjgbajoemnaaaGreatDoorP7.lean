/- Running the interpreter's code on values that are not known: equations, proved without conditions but those that each names; what is looked up rank by rank. -/
import Derived.Test.YtbmjgbajoemnaaaGreatDoorP6
import Derived.Test.YtbmjgbajoemnaaaGreatDoorP5
set_option maxRecDepth 1000000
set_option maxHeartbeats 0
set_option linter.unusedVariables false
set_option linter.unusedSimpArgs false
namespace Go.AI
open Go
noncomputable section
section
variable {α:Type}
namespace N8
theorem g00(f:α->α)(n:N8 α):a0 (u0 f n)=f (a0 n):=rfl
theorem g01(f:α->α)(n:N8 α):a0 (u1 f n)=a0 n:=rfl
theorem g02(f:α->α)(n:N8 α):a0 (u2 f n)=a0 n:=rfl
theorem g03(f:α->α)(n:N8 α):a0 (u3 f n)=a0 n:=rfl
theorem g04(f:α->α)(n:N8 α):a0 (u4 f n)=a0 n:=rfl
theorem g05(f:α->α)(n:N8 α):a0 (u5 f n)=a0 n:=rfl
theorem g06(f:α->α)(n:N8 α):a0 (u6 f n)=a0 n:=rfl
theorem g07(f:α->α)(n:N8 α):a0 (u7 f n)=a0 n:=rfl
theorem g10(f:α->α)(n:N8 α):a1 (u0 f n)=a1 n:=rfl
theorem g11(f:α->α)(n:N8 α):a1 (u1 f n)=f (a1 n):=rfl
theorem g12(f:α->α)(n:N8 α):a1 (u2 f n)=a1 n:=rfl
theorem g13(f:α->α)(n:N8 α):a1 (u3 f n)=a1 n:=rfl
theorem g14(f:α->α)(n:N8 α):a1 (u4 f n)=a1 n:=rfl
theorem g15(f:α->α)(n:N8 α):a1 (u5 f n)=a1 n:=rfl
theorem g16(f:α->α)(n:N8 α):a1 (u6 f n)=a1 n:=rfl
theorem g17(f:α->α)(n:N8 α):a1 (u7 f n)=a1 n:=rfl
theorem g20(f:α->α)(n:N8 α):a2 (u0 f n)=a2 n:=rfl
theorem g21(f:α->α)(n:N8 α):a2 (u1 f n)=a2 n:=rfl
theorem g22(f:α->α)(n:N8 α):a2 (u2 f n)=f (a2 n):=rfl
theorem g23(f:α->α)(n:N8 α):a2 (u3 f n)=a2 n:=rfl
theorem g24(f:α->α)(n:N8 α):a2 (u4 f n)=a2 n:=rfl
theorem g25(f:α->α)(n:N8 α):a2 (u5 f n)=a2 n:=rfl
theorem g26(f:α->α)(n:N8 α):a2 (u6 f n)=a2 n:=rfl
theorem g27(f:α->α)(n:N8 α):a2 (u7 f n)=a2 n:=rfl
theorem g30(f:α->α)(n:N8 α):a3 (u0 f n)=a3 n:=rfl
theorem g31(f:α->α)(n:N8 α):a3 (u1 f n)=a3 n:=rfl
theorem g32(f:α->α)(n:N8 α):a3 (u2 f n)=a3 n:=rfl
theorem g33(f:α->α)(n:N8 α):a3 (u3 f n)=f (a3 n):=rfl
theorem g34(f:α->α)(n:N8 α):a3 (u4 f n)=a3 n:=rfl
theorem g35(f:α->α)(n:N8 α):a3 (u5 f n)=a3 n:=rfl
theorem g36(f:α->α)(n:N8 α):a3 (u6 f n)=a3 n:=rfl
theorem g37(f:α->α)(n:N8 α):a3 (u7 f n)=a3 n:=rfl
theorem g40(f:α->α)(n:N8 α):a4 (u0 f n)=a4 n:=rfl
theorem g41(f:α->α)(n:N8 α):a4 (u1 f n)=a4 n:=rfl
theorem g42(f:α->α)(n:N8 α):a4 (u2 f n)=a4 n:=rfl
theorem g43(f:α->α)(n:N8 α):a4 (u3 f n)=a4 n:=rfl
theorem g44(f:α->α)(n:N8 α):a4 (u4 f n)=f (a4 n):=rfl
theorem g45(f:α->α)(n:N8 α):a4 (u5 f n)=a4 n:=rfl
theorem g46(f:α->α)(n:N8 α):a4 (u6 f n)=a4 n:=rfl
theorem g47(f:α->α)(n:N8 α):a4 (u7 f n)=a4 n:=rfl
theorem g50(f:α->α)(n:N8 α):a5 (u0 f n)=a5 n:=rfl
theorem g51(f:α->α)(n:N8 α):a5 (u1 f n)=a5 n:=rfl
theorem g52(f:α->α)(n:N8 α):a5 (u2 f n)=a5 n:=rfl
theorem g53(f:α->α)(n:N8 α):a5 (u3 f n)=a5 n:=rfl
theorem g54(f:α->α)(n:N8 α):a5 (u4 f n)=a5 n:=rfl
theorem g55(f:α->α)(n:N8 α):a5 (u5 f n)=f (a5 n):=rfl
theorem g56(f:α->α)(n:N8 α):a5 (u6 f n)=a5 n:=rfl
theorem g57(f:α->α)(n:N8 α):a5 (u7 f n)=a5 n:=rfl
theorem g60(f:α->α)(n:N8 α):a6 (u0 f n)=a6 n:=rfl
theorem g61(f:α->α)(n:N8 α):a6 (u1 f n)=a6 n:=rfl
theorem g62(f:α->α)(n:N8 α):a6 (u2 f n)=a6 n:=rfl
theorem g63(f:α->α)(n:N8 α):a6 (u3 f n)=a6 n:=rfl
theorem g64(f:α->α)(n:N8 α):a6 (u4 f n)=a6 n:=rfl
theorem g65(f:α->α)(n:N8 α):a6 (u5 f n)=a6 n:=rfl
theorem g66(f:α->α)(n:N8 α):a6 (u6 f n)=f (a6 n):=rfl
theorem g67(f:α->α)(n:N8 α):a6 (u7 f n)=a6 n:=rfl
theorem g70(f:α->α)(n:N8 α):a7 (u0 f n)=a7 n:=rfl
theorem g71(f:α->α)(n:N8 α):a7 (u1 f n)=a7 n:=rfl
theorem g72(f:α->α)(n:N8 α):a7 (u2 f n)=a7 n:=rfl
theorem g73(f:α->α)(n:N8 α):a7 (u3 f n)=a7 n:=rfl
theorem g74(f:α->α)(n:N8 α):a7 (u4 f n)=a7 n:=rfl
theorem g75(f:α->α)(n:N8 α):a7 (u5 f n)=a7 n:=rfl
theorem g76(f:α->α)(n:N8 α):a7 (u6 f n)=a7 n:=rfl
theorem g77(f:α->α)(n:N8 α):a7 (u7 f n)=f (a7 n):=rfl
end N8
end
section
theorem fB(f:W7)(dst:ZS)(next:D)(c:Ctx)(tm:TM)(H:Heap)(x:X):Zc f dst next c tm H x=Ph (next c) dst c tm H x (f tm H):=rfl
theorem fA(g:Ye)(b:Bool)(f:W7)(dst:ZS)(next:D)(c:Ctx)(tm:TM)(H:Heap)(x:X):Ya g b f dst next c tm H x=Uz (g tm) b (Ph (next c) dst c tm H x (f tm H)) (next c (dst tm Xl) H x):=rfl
theorem o7(yes no:Wd):Uz (.bool true) true yes no=yes:=rfl
theorem oW(yes no:Wd):Uz (.bool false) false yes no=yes:=rfl
theorem oZ(yes no:Wd):Uz (.bool true) false yes no=no:=rfl
theorem oY(yes no:Wd):Uz (.bool false) true yes no=no:=rfl
theorem jw(next:TM->Heap->X->Wd)(dst:ZS)(c:Ctx)(tm:TM)(H:Heap)(x:X)(v:AV)(H':Heap):Ph next dst c tm H x (.val v H')=next (dst tm v) H' x:=rfl
theorem oS(next:TM->Heap->X->Wd)(dst:ZS)(c:Ctx)(tm:TM)(H:Heap)(x:X)(f:Nat)(args:List AV)(H':Heap):Ph next dst c tm H x (.oth (.call f args H'))=Da next dst tm x (c.call f args H'):=rfl
theorem Bg(next:TM->Heap->X->Wd)(dst:ZS)(tm:TM)(x:X)(v:AV)(H:Heap):Da next dst tm x (.ret v H)=next (dst tm v) H x:=rfl
theorem fy(a b:D)(c:Ctx)(tm:TM)(H:Heap)(x:X):Zj a b c tm H x=RC (a c tm H x) (b c):=rfl
theorem UD(tm:TM)(H:Heap)(x:X)(k:TM->Heap->X->Wd):RC (.ok .normal tm H x) k=k tm H x:=rfl
theorem lI(tm:TM)(H:Heap)(x:X)(k:TM->Heap->X->Wd):RC (.ok .ret tm H x) k=.ok .ret tm H x:=rfl
theorem rW(i:Nat)(tm:TM)(H:Heap)(x:X)(k:TM->Heap->X->Wd):RC (.ok (.exit i) tm H x) k=.ok (.exit i) tm H x:=rfl
theorem nJ(c:Ctx)(tm:TM)(H:Heap)(x:X):Zd c tm H x=.ok .normal tm H x:=rfl
theorem fe(c:Ctx)(tm:TM)(H:Heap)(x:X):Yv c tm H x=.ok .ret tm H x:=rfl
theorem oE(i:Nat)(c:Ctx)(tm:TM)(H:Heap)(x:X):We i c tm H x=.ok (.exit i) tm H x:=rfl
theorem ou(q:Ye)(a b:D)(c:Ctx)(tm:TM)(H:Heap)(x:X):Z3 q a b c tm H x=yU (q tm) λv=>Ho (a c) (b c) v tm H x:=rfl
theorem ng(b:Bool)(k:Bool->Wd):yU (.bool b) k=k b:=rfl
theorem tg(a b:TM->Heap->X->Wd)(tm:TM)(H:Heap)(x:X):Ho a b true tm H x=a tm H x:=rfl
theorem wz(a b:TM->Heap->X->Wd)(tm:TM)(H:Heap)(x:X):Ho a b false tm H x=b tm H x:=rfl
theorem uT(i:Nat)(a:D)(c:Ctx)(tm:TM)(H:Heap)(x:X):Yf i a c tm H x=QF i (a c tm H x):=rfl
theorem nB(a:D)(c:Ctx)(tm:TM)(H:Heap)(x:X):Wj a c tm H x=XQ (a c) c.fuel tm H x:=rfl
theorem Ag(i:Nat)(tm:TM)(H:Heap)(x:X):QF i (.ok .normal tm H x)=.ok .normal tm H x:=rfl
theorem Tk(i:Nat)(tm:TM)(H:Heap)(x:X):QF i (.ok (.exit i) tm H x)=.ok .normal tm H x:=by
 show @Bool.rec (λ_=>Wd) (.ok (.exit i) tm H x) (.ok .normal tm H x) (Nat.beq i i)=_
 rw[Z9]
theorem sd(i:Nat)(tm:TM)(H:Heap)(x:X):QF i (.ok .ret tm H x)=.ok .ret tm H x:=rfl
theorem Zbi(tm:TM)(v:AV):d0 tm v=tm:=rfl
theorem ZfI(v:AV)(tm:TM):k v tm=v:=rfl
theorem eX:TI []=ML:=rfl
theorem eY(a:AV):TI [a]=st0 ML a:=rfl
theorem eZ(a b:AV):TI [a,b]=st1 (st0 ML a) b:=rfl
theorem dh(a b c:AV):TI [a,b,c]=st2 (st1 (st0 ML a) b) c:=rfl
theorem di(a b c d:AV):TI [a,b,c,d]=Vk (st2 (st1 (st0 ML a) b) c) d:=rfl
theorem dP(tm:TM):evs tm []=[]:=rfl
theorem jj(tm:TM)(f:Ye)(l:List Ye):evs tm (f::l)=f tm::evs tm l:=rfl
theorem ZL{lib:Nat->List AV->Heap->Option CR}{fs:T CF}{fuel n f:Nat}{args:List AV}{H:Heap}{cf:CF}(hl:lib f args H=none)(hf:fs.get f=some cf):ZJ lib fs fuel (n+1) f args H=
  M9 (λpn g as H=>FY .fail fs g λcg=>FZ pn cg.rs (cg.body ⟨ZJ lib fs fuel n,VY,VX,fuel,false⟩ (TI as) H ⟨[],pn⟩))
   cf.rs (cf.body ⟨ZJ lib fs fuel n,VY,Lc fs fuel (ZJ lib fs fuel n),fuel,false⟩ (TI args) H ⟨[],none⟩):=by
 show pb (lib f args H) _=_
 rw[hl]
 unfold FY
 rw[hf]
 rfl
theorem gG(dc:Option AV->Nat->List AV->Heap->DR)(rs:List (Ye×Option (Nat×Bool)))(tm:TM)(H:Heap)(rc:Option AV):M9 dc rs (.ok .ret tm H ⟨[],rc⟩)=results rs tm H:=rfl
theorem vL(dc:Option AV->Nat->List AV->Heap->DR)(rs:List (Ye×Option (Nat×Bool)))(tm:TM)(H:Heap)(rc:Option AV):M9 dc rs (.ok .normal tm H ⟨[],rc⟩)=results rs tm H:=rfl
theorem vS(f:Ye)(tm:TM)(H:Heap):results [(f,none)] tm H=.ret (f tm) H:=rfl
theorem xD(tm:TM)(H:Heap):results [] tm H=.ret (.tup []) H:=rfl
theorem bz(x:Ye)(tm:TM)(H:Heap):Z0 x tm H=.val (x tm) H:=rfl
noncomputable def ba(a:AV)(H:Heap):OR:=Qq a λk a=>UP k (CV 0 a) H
noncomputable def Gb(k:IntKind)(a:AV)(H:Heap):OR:=Qq a λ_ a=>UP k a H
noncomputable def E5(a b:AV)(H:Heap):OR:=match a with
 |.int j a=>Qq b λl b=>ZX (P0 j l) (UP j (CP a b) H)
 |.str a=>Oe b λb=>ZX (Nat.ble (Nat.add (YF a) (YF b)) 4611686018427387904) (.val (.str (a++b)) H)
 |_=>.fail
noncomputable def az(a b:AV)(H:Heap):OR:=FG a b λk a b=>UP k (CV a b) H
noncomputable def cZ(a b:AV)(H:Heap):OR:=FG a b λk a b=>UP k (yT a b) H
noncomputable def mQ(a b:AV)(H:Heap):OR:=FG a b λk a b=>cond (E8 b 0) .fail (UP k (ZbY a b) H)
noncomputable def fc(a b:AV)(H:Heap):OR:=FG a b λk a b=>cond (E8 b 0) .fail (Pg (ZbZ a b) λn=>.val (.int k n) H)
noncomputable def DM(f:Nat->Nat->Nat->Nat)(a b:AV)(H:Heap):OR:=FG a b λk a b=>UP k (.ofNat (f (PS k) (Nx (PS k) a) (Nx (PS k) b))) H
noncomputable def ZcM(a b:AV)(H:Heap):OR:=Qq a λk a=>RB b λb=>UP k (yT a (.ofNat (Nat.pow 2 (cond (Nat.ble b 64) b 64)))) H
noncomputable def rx(a b:AV)(H:Heap):OR:=Qq a λk a=>RB b λb=>Pg (Zb1 a (Kw b (ql k))) λn=>.val (.int k n) H
noncomputable def ZaO(a:AV)(H:Heap):OR:=Qq a λk a=>UP k (.ofNat (Nat.sub (Nat.sub (PS k) 1) (Nx (PS k) a))) H
noncomputable def Pb(f:Int->Int->Bool)(g:List UInt8->List UInt8->Bool)(a b:AV)(H:Heap):OR:=match a with
 |.int j a=>Qq b λl b=>ZX (P0 j l) (SV (f a b) H)
 |.str a=>Oe b λb=>SV (g a b) H
 |_=>.fail
noncomputable def Fd(f:AV->AV->Option Bool)(neg:Bool)(a b:AV)(H:Heap):OR:=Tu (f a b) λb=>SV (cond neg (cond b false true) b) H
noncomputable def bh(a:AV)(H:Heap):OR:=FX a λb=>.val (.bool (cond b false true)) H
noncomputable def zu(a b c:AV)(H:Heap):OR:=FX a λt=>.val (cond t b c) H
theorem iL(x:Ye)(tm:TM)(H:Heap):iK x tm H=ba (x tm) H:=rfl
theorem iH(x:Ye)(k:IntKind)(tm:TM)(H:Heap):Qv x k tm H=Gb k (x tm) H:=rfl
theorem nL(x y:Ye)(tm:TM)(H:Heap):Yk x y tm H=E5 (x tm) (y tm) H:=rfl
theorem iU(x y:Ye)(tm:TM)(H:Heap):WX x y tm H=az (x tm) (y tm) H:=rfl
theorem iJ(x y:Ye)(tm:TM)(H:Heap):M5 x y tm H=cZ (x tm) (y tm) H:=rfl
theorem iP(x y:Ye)(tm:TM)(H:Heap):M6 x y tm H=mQ (x tm) (y tm) H:=rfl
theorem iQ(x y:Ye)(tm:TM)(H:Heap):Gu x y tm H=fc (x tm) (y tm) H:=rfl
theorem nM(x y:Ye)(f:Nat->Nat->Nat->Nat)(tm:TM)(H:Heap):TN x y f tm H=DM f (x tm) (y tm) H:=rfl
theorem iS(x y:Ye)(tm:TM)(H:Heap):FR x y tm H=ZcM (x tm) (y tm) H:=rfl
theorem iT(x y:Ye)(tm:TM)(H:Heap):Ai x y tm H=rx (x tm) (y tm) H:=rfl
theorem ma(x:Ye)(tm:TM)(H:Heap):iV x tm H=ZaO (x tm) H:=rfl
theorem iG(x y:Ye)(f:Int->Int->Bool)(g:List UInt8->List UInt8->Bool)(tm:TM)(H:Heap):YE x y f g tm H=Pb f g (x tm) (y tm) H:=rfl
theorem bp(x y:Ye)(f:AV->AV->Option Bool)(neg:Bool)(tm:TM)(H:Heap):UQ x y f neg tm H=Fd f neg (x tm) (y tm) H:=rfl
theorem iN(x:Ye)(tm:TM)(H:Heap):QY x tm H=bh (x tm) H:=rfl
theorem nZ(x y z:Ye)(tm:TM)(H:Heap):YN x y z tm H=zu (x tm) (y tm) (z tm) H:=rfl
theorem sK(f:Nat)(args:List Ye)(tm:TM)(H:Heap):ZI f args tm H=.oth (.call f (evs tm args) H):=rfl
theorem SC(b:Bool)(H:Heap):SV b H=.val (.bool b) H:=by cases b<;>rfl
theorem XY(k:IntKind)(n:Int)(H:Heap):UP k n H=.val (.int k (k.wrap n)) H:=by simp only[UP,Qn,O2]
theorem El(k:IntKind)(m n:Nat):z5 k m (.ofNat n)=.ofNat (n % m):=by
 show cond (Nat.ble m n) (Int.ofNat (Nat.mod n m)) (.ofNat n)=_
 cases h:Nat.ble m n with
 |true=>rfl
 |false=>
  have:n<m:=by
   have h2: ¬m<=n:=λhh=>by rw[Zm hh] at h;cases h
   omega
  rw[Z7 this];rfl
theorem Jt(n:Nat):IntKind.u8.wrap (.ofNat n)=.ofNat (n % 256):=by rw[<-O2];exact El .u8 256 n
theorem K6(n:Nat):IntKind.u32.wrap (.ofNat n)=.ofNat (n % 4294967296):=by rw[<-O2];exact El .u32 4294967296 n
theorem PZ(n:Nat):IntKind.u64.wrap (.ofNat n)=.ofNat (n % 18446744073709551616):=by rw[<-O2];exact El .u64 18446744073709551616 n
theorem MI{n:Nat}(h:n<9223372036854775808):IntKind.i64.wrap (.ofNat n)=.ofNat n:=by
 rw[<-O2]
 show cond (Nat.ble 9223372036854775808 n) _ (Int.ofNat n)=_
 cases h2:Nat.ble 9223372036854775808 n with
 |true=>have:=Z1 h2;omega
 |false=>rfl
theorem Km(a b:Nat):CP (.ofNat a) (.ofNat b)=.ofNat (a+b):=rfl
theorem CS(a b:Nat):yT (.ofNat a) (.ofNat b)=.ofNat (a*b):=rfl
theorem jS{a b:Nat}(h:b<=a):CV (.ofNat a) (.ofNat b)=.ofNat (a - b):=by
 show cond (Nat.ble b a) (Int.ofNat (Nat.sub a b)) (Int.ofNat a - Int.ofNat b)=_
 rw[Zm h];rfl
theorem Jc(a b:Nat):tL (.ofNat a) (.ofNat b)=decide (a<b):=by
 show Nat.ble (Nat.succ a) b=_
 cases h:Nat.ble (Nat.succ a) b with
 |true=>have:=Z1 h;exact(Ze this).symm
 |false=>
  have h2: ¬Nat.succ a<=b:=λhh=>by rw[Zm hh] at h;cases h
  exact(Zb h2).symm
theorem Om(a b:Nat):E8 (.ofNat a) (.ofNat b)=decide (a=b):=Yu a b
theorem XI(k:IntKind):P0 k k=true:=by cases k<;>rfl
def i64(n:Nat):AV:=nI .i64 n
def XM(x:UInt8):AV:=.int .u8 (.ofNat x.toNat)
def Hb(x:UInt32):AV:=.int .u32 (.ofNat x.toNat)
def aG(x:UInt64):AV:=.int .u64 (.ofNat x.toNat)
theorem YZ{a b:Nat}(h:a+b<9223372036854775808)(H:Heap):E5 (nI .i64 a) (nI .i64 b) H=.val (nI .i64 (a+b)) H:=by
 show ZX (P0 .i64 .i64) (UP .i64 (CP (.ofNat a) (.ofNat b)) H)=_
 rw[XI,XY,Km,MI h];rfl
theorem Vj{a b:Nat}(h:b<=a)(h2:a<9223372036854775808)(H:Heap):az (nI .i64 a) (nI .i64 b) H=.val (nI .i64 (a - b)) H:=by
 show ZX (P0 .i64 .i64) (UP .i64 (CV (.ofNat a) (.ofNat b)) H)=_
 rw[XI,XY,jS h,MI (by omega)];rfl
theorem Kx{a b:Nat}(h:a*b<9223372036854775808)(H:Heap):cZ (nI .i64 a) (nI .i64 b) H=.val (nI .i64 (a*b)) H:=by
 show ZX (P0 .i64 .i64) (UP .i64 (yT (.ofNat a) (.ofNat b)) H)=_
 rw[XI,XY,CS,MI h];rfl
theorem gW{a b:Nat}(h:0<b)(h2:a<9223372036854775808)(H:Heap):mQ (nI .i64 a) (nI .i64 b) H=.val (nI .i64 (a/b)) H:=by
 show ZX (P0 .i64 .i64) (cond (E8 (.ofNat b) (.ofNat 0)) .fail (UP .i64 (.ofNat (Nat.div a b)) H))=_
 rw[XI,Om,Zb (by omega),XY,show(Int.ofNat (Nat.div a b))=Int.ofNat (a/b) from rfl,MI (Tb (S1 a b) h2)];rfl
theorem ZH(k:IntKind)(a b:Nat)(H:Heap):Pb XC Yn (nI k a) (nI k b) H=.val (.bool (decide (a<b))) H:=by
 show ZX (P0 k k) (SV (tL (.ofNat a) (.ofNat b)) H)=_
 rw[XI,SC,Jc];rfl
theorem Xb(k:IntKind)(a b:Nat)(H:Heap):Pb SK Vd (nI k a) (nI k b) H=.val (.bool (decide (b<=a))) H:=by
 show ZX (P0 k k) (SV (!tL (.ofNat a) (.ofNat b)) H)=_
 rw[XI,SC,Jc]
 show OR.val (.bool (!decide (a<b))) H=_
 congr 2
 by_cases h:a<b
 ·rw[Ze h,Zb (by omega)];rfl
 ·rw[Zb h,Ze (by omega)];rfl
theorem P3(k:IntKind)(a b:Nat)(H:Heap):Fd Sn true (nI k a) (nI k b) H=.val (.bool (decide (a≠b))) H:=by
 show Tu (cond (P0 k k) (some (E8 (.ofNat a) (.ofNat b))) none) _=_
 rw[XI,Om]
 show SV (cond true (cond (decide (a=b)) false true) (decide (a=b))) H=_
 rw[SC]
 congr 2
 by_cases h:a=b
 ·rw[Ze h,Zb (by omega)];rfl
 ·rw[Zb h,Ze h];rfl
theorem YD(k:IntKind)(a b:Nat)(H:Heap):Fd Sn false (nI k a) (nI k b) H=.val (.bool (decide (a=b))) H:=by
 show Tu (cond (P0 k k) (some (E8 (.ofNat a) (.ofNat b))) none) _=_
 rw[XI,Om]
 exact SC _ _
theorem eP(a b:UInt32)(H:Heap):E5 (Hb a) (Hb b) H=.val (Hb (a+b)) H:=by
 show ZX (P0 .u32 .u32) (UP .u32 (CP (.ofNat a.toNat) (.ofNat b.toNat)) H)=_
 rw[XI,XY,Km,K6];unfold Hb;rw[UInt32.toNat_add];rfl
end
structure Cells(r:Row)(l:List AV):Prop where
 size:r.size=l.length
 get: ∀i,i<l.length->r.get i=l.getD i .unk
theorem Cells.load{r:Row}{l:List AV}(h:Cells r l){o n:Nat}(hn:o+n<=l.length):WO r o n=(l.drop o).take n:=by
 refine X4 λj=>?_
 by_cases hj:j<n
 ·rw[SB r n o j hj,Xo hj,Xd,h.get (o+j) (by omega),Za]
  rw[Zg (show o+j<l.length by omega)];rfl
 ·rw[YB (by rw[Se];omega),YB (by rw[ZP,Yr];omega)]
theorem Cells.store{r:Row}{l:List AV}(h:Cells r l){o:Nat}{vs:List AV}(ho:o+vs.length<=l.length):Cells (r.setCells (Wg r.cells o vs)) (l.take o++(vs++l.drop (o+vs.length))):=by
 have hlen:(l.take o++(vs++l.drop (o+vs.length))).length=l.length:=by
  rw[Zf,Zf,ZP,Yr];omega
 refine⟨by rw[hlen];exact h.size,λi hi=>?_⟩
 rw[hlen] at hi
 rw[Row.get_eq]
 show((Wg r.cells o vs).get i).getD r.dflt=_
 rw[Sj,Za]
 by_cases h1:o<=i∧i<o+vs.length
 ·rw[if_pos h1,Zu (by rw[ZP];omega),ZP,Vi (by omega),Yc (by omega),
   Zg (show i - o<vs.length by omega)];rfl
 ·rw[if_neg h1]
  have h2:=h.get i hi
  rw[Row.get_eq,Za] at h2
  rw[h2]
  by_cases h3:i<o
  ·rw[Yc (by rw[ZP];omega),Xo h3]
  ·rw[Zu (by rw[ZP];omega),ZP,Vi (by omega),Zu (by omega),Xd,
    show o+vs.length+(i - o - vs.length)=i by omega]
theorem Cells.new(e sz:Nat)(l:List AV)(fz:Nat)(sm own ex:Bool):Cells ⟨e,sz,YF l,T.ofList l,.unk,fz,sm,own,ex⟩ l:=by
 refine⟨Yw l,λi hi=>?_⟩
 rw[Row.get_eq]
 show((T.ofList l).get i).getD .unk=_
 rw[T.get_ofList,Za]
theorem Cells.zero(e n:Nat)(v:AV)(fz:Nat)(sm own ex:Bool):Cells ⟨e,1,n,.leaf,v,fz,sm,own,ex⟩ (List.replicate n v):=by
 refine⟨by simp,λi hi=>?_⟩
 rw[UY] at hi
 rw[Row.get_eq]
 show((T.leaf:T AV).get i).getD v=_
 rw[T.get_leaf,Za,WC,if_pos hi];rfl
structure Own(H:Heap)(b e:Nat)(l:List AV)(r:Row):Prop where
 at_:H.t.get b=some (.row r)
 elem:r.elem=e
 sz:r.sz=1
 own:r.own=true
 fz:r.fz=0
 sm:r.sm=false
 cells:Cells r l
 ro:H.ro<=b
noncomputable def OM(a:AV)(H:Heap):OR:=QL a λb o=>Xp H b λr=>ZX (Nat.ble (Nat.succ o) r.size) (.val (r.get o) H)
noncomputable def zj(n:Nat)(a:AV)(H:Heap):OR:=QL a λb o=>Xp H b λr=>ZX (Nat.ble (Nat.add o n) r.size) (.val (.agg (WO r o n)) H)
noncomputable def xJ(n:Nat)(a v:AV)(H:Heap):OR:=QL a λb o=>Xp H b λr=>
 ZX (Nat.ble 1 n)<|ZX (H.may r b) (ZX (Nat.ble (Nat.add o n) r.size) (ZX (Nat.ble r.fz o) (ZX (Nat.beq (YF v.cells) n)
  (.val Xl (H.put b (.row (r.setCells (Wg r.cells o v.cells))))))))
def bC(n:Nat)(a:AV)(H:Heap):OR:=QL a λb o=>.val (.ptr b (Nat.add o n)) H
def qU(n sz:Nat)(a i:AV)(H:Heap):OR:=RB i λi=>QL a λb o=>ZX (Nat.ble (Nat.succ i) n) (.val (.ptr b (Nat.add o (Nat.mul i sz))) H)
def EJ(sz:Nat)(a i:AV)(H:Heap):OR:=RB i λi=>U0 a .fail λb o len _=>ZX (Nat.ble (Nat.succ i) len) (.val (.ptr b (Nat.add o (Nat.mul i sz))) H)
def bc(a:AV)(H:Heap):OR:=xd a (.val a H)
noncomputable def RV(a:AV)(H:Heap):OR:=bM a (.val (.int .i64 0) H)<|U0 a (.val (.int .i64 0) H) λ_ _ n _=>S5 n λn=>.val (.int .i64 (.ofNat n)) H
theorem sL(x:Ye)(tm:TM)(H:Heap):ZM x tm H=OM (x tm) H:=rfl
theorem Y8(x:Ye)(n:Nat)(tm:TM)(H:Heap):YX x n tm H=zj n (x tm) H:=rfl
theorem sQ(x y:Ye)(n:Nat)(tm:TM)(H:Heap):YY x y n tm H=xJ n (x tm) (y tm) H:=rfl
theorem iO(x:Ye)(n:Nat)(tm:TM)(H:Heap):Yx x n tm H=bC n (x tm) H:=rfl
theorem nR(x y:Ye)(n sz:Nat)(tm:TM)(H:Heap):KD x y n sz tm H=qU n sz (x tm) (y tm) H:=rfl
theorem nS(x y:Ye)(sz:Nat)(tm:TM)(H:Heap):YM x y sz tm H=EJ sz (x tm) (y tm) H:=rfl
theorem iM(x:Ye)(tm:TM)(H:Heap):Mk x tm H=bc (x tm) H:=rfl
theorem nV(x:Ye)(tm:TM)(H:Heap):X9 x tm H=RV (x tm) H:=rfl
theorem EQ(e n:Nat)(v:AV)(tm:TM)(H:Heap):Gt e n v tm H=.val (.ptr H.nx 0) (H.new (.row ⟨e,1,n,.leaf,v,0,false,true,true⟩)):=rfl
theorem sI(e:Nat)(cs:List AV)(h:1<=YF cs)(tm:TM)(H:Heap):WK e cs tm H=.val (.ptr H.nx 0) (H.newRow e 1 cs true):=by
 show ZX (Nat.ble 1 (YF cs)) _=_
 rw[Zm h];rfl
theorem iZ(n b o:Nat)(H:Heap):bC n (.ptr b o) H=.val (.ptr b (o+n)) H:=rfl
theorem iD(b o:Nat)(H:Heap):bc (.ptr b o) H=.val (.ptr b o) H:=rfl
theorem XP(b o n:Nat)(c:Option Nat)(H:Heap):RV (.slice b o n c) H=.val (nI .i64 n) H:=by
 show S5 n (λn=>OR.val (.int .i64 (.ofNat n)) H)=_
 rw[Ou];rfl
theorem vg(H:Heap):RV .slice0 H=.val (nI .i64 0) H:=rfl
theorem OL(H:Heap):RV .nils H=.val (nI .i64 0) H:=rfl
theorem Mf{n i:Nat}(h:i<n)(b o:Nat)(k:IntKind)(H:Heap):qU n 1 (.ptr b o) (nI k i) H=.val (.ptr b (o+i)) H:=by
 show ZX (Nat.ble (Nat.succ i) n) (.val (.ptr b (o+i*1)) H)=_
 rw[Zm h,Xw];rfl
theorem Xx{n i:Nat}(h:i<n)(b o:Nat)(c:Option Nat)(k:IntKind)(H:Heap):EJ 1 (.slice b o n c) (nI k i) H=.val (.ptr b (o+i)) H:=by
 show ZX (Nat.ble (Nat.succ i) n) (.val (.ptr b (o+i*1)) H)=_
 rw[Zm h,Xw];rfl
theorem C2{H:Heap}{b o:Nat}{r:Row}{l:List AV}(hr:H.t.get b=some (.row r))(hc:Cells r l)(ho:o<l.length):OM (.ptr b o) H=.val (l.getD o .unk) H:=by
 show Xp H b _=_
 unfold Xp
 rw[hr]
 show ZX (Nat.ble (Nat.succ o) r.size) _=_
 rw[hc.size,Zm ho,hc.get o ho];rfl
theorem nA{H:Heap}{b o n:Nat}{r:Row}{l:List AV}(hr:H.t.get b=some (.row r))(hc:Cells r l)(ho:o+n<=l.length):zj n (.ptr b o) H=.val (.agg ((l.drop o).take n)) H:=by
 show Xp H b _=_
 unfold Xp
 rw[hr]
 show ZX (Nat.ble (o+n) r.size) _=_
 rw[hc.size,Zm ho,hc.load ho];rfl
theorem Lb(H:Heap)(b c:Nat)(o:Obj):(H.put b o).t.get c=if b=c then some o else H.t.get c:=T.get_set _ _ _ _
theorem Pz(H:Heap)(c:Nat)(o:Obj):(H.new o).t.get c=if H.nx=c then some o else H.t.get c:=T.get_set _ _ _ _
theorem ri(H:Heap)(b:Nat)(o:Obj):(H.put b o).nx=H.nx:=rfl
theorem gS(H:Heap)(b:Nat)(o:Obj):(H.put b o).ro=H.ro:=rfl
theorem IM(H:Heap)(o:Obj):(H.new o).nx=H.nx+1:=rfl
theorem iC(H:Heap)(o:Obj):(H.new o).ro=H.ro:=rfl
theorem Mj(H:Heap)(e sz:Nat)(l:List AV)(ex:Bool):H.newRow e sz l ex=H.new (.row ⟨e,sz,YF l,T.ofList l,.unk,0,false,true,ex⟩):=rfl
theorem tk(l:List PI)(c:Ctx)(tm:TM)(H:Heap)(x:X):Xt l c tm H x=VP (l.map (·.dst)) Kz l c [] tm H x:=rfl
theorem mJ(ds:List ZS)(fin:PK)(c:Ctx)(rs:List RD)(tm:TM)(H:Heap)(x:X):VP ds fin [] c rs tm H x=cond (still tm H rs) (fin rs tm H x) .fail:=rfl
theorem re(ds:List ZS)(fin:PK)(p:PI)(l:List PI)(c:Ctx)(rs:List RD)(tm:TM)(H:Heap)(x:X):VP ds fin (p::l) c rs tm H x=Sv ds p (VP ds fin l c) c rs tm H x:=rfl
theorem nK(rs:List RD)(tm:TM)(H:Heap)(x:X):Kz rs tm H x=.ok .normal tm H x:=rfl
section
variable (ds:List ZS) (f:W7) (os:List (ZS×Ye)) (dst:ZS) (i bef:Nat) (nx:PK) (c:Ctx) (rs:List RD) (tm:TM) (H:Heap) (x:X)
theorem rN:Sv ds ⟨f,none,os,dst,.free,i,bef⟩ nx c rs tm H x=cond (RA H.nx tm os) (L6 ⟨f,none,os,dst,.free,i,bef⟩ nx rs tm H x (f (RL tm os) ⟨H.nx,.leaf,H.nx⟩)) .fail:=rfl
theorem rO:Sv ds ⟨f,none,os,dst,.read,i,bef⟩ nx c rs tm H x=GG ⟨f,none,os,dst,.read,i,bef⟩ nx rs tm H x (f (RL tm os) ⟨H.nx,H.t,H.nx⟩):=rfl
theorem lu:Sv ds ⟨f,none,os,dst,.eff,i,bef⟩ nx c rs tm H x=cond (still tm H rs) (Hw ds ⟨f,none,os,dst,.eff,i,bef⟩ nx rs c tm x (f (RL tm os) H)) .fail:=rfl
variable (g:Option (Ye×Bool)) (kd:If) (v:AV) (H':Heap)
theorem oK:L6 ⟨f,g,os,dst,kd,i,bef⟩ nx rs tm H x (.val v ⟨H.nx,.leaf,H.nx⟩)=nx rs (dst tm v) H x:=by
 show cond (Nat.beq H.nx H.nx) (nx rs (dst tm v) H x) _=_
 rw[Z9];rfl
theorem kY:Hw ds ⟨f,g,os,dst,kd,i,bef⟩ nx rs c tm x (.val v H')=nx (Uk bef rs) (dst tm v) H' x:=rfl
theorem oC(q:Nat)(args:List AV):Hw ds ⟨f,g,os,dst,kd,i,bef⟩ nx rs c tm x (.oth (.call q args H'))=Bo ds ⟨f,g,os,dst,kd,i,bef⟩ nx rs tm x (c.call q args H'):=rfl
theorem fh:Bo ds ⟨f,g,os,dst,kd,i,bef⟩ nx rs tm x (.ret v H')=nx (Uk bef rs) (dst tm v) H' x:=rfl
theorem nm(b:Nat):Uk b []=[]:=rfl
theorem tW(b:Nat):Uk b (⟨⟨f,g,os,dst,kd,i,bef⟩,v⟩::rs)=cond (Nat.testBit b i) (Uk b rs) (⟨⟨f,g,os,dst,kd,i,bef⟩,v⟩::Uk b rs):=rfl
theorem lz:still tm H []=true:=rfl
theorem rP:still tm H (⟨⟨f,g,os,dst,kd,i,bef⟩,v⟩::rs)=cond (vO ⟨⟨f,g,os,dst,kd,i,bef⟩,v⟩ tm H) (still tm H rs) false:=rfl
noncomputable def Vv(r:OR)(w:AV)(n:Nat):Bool:=OR.rec (λv H1=>cond (Nat.beq H1.nx n) (same v w) false) (λ_=>false) r
theorem gZ:vO ⟨⟨f,g,os,dst,kd,i,bef⟩,v⟩ tm H=Vv (f (RL tm os) ⟨H.nx,H.t,H.nx⟩) v H.nx:=rfl
end
theorem Ur(v:AV)(n:Nat)(t:T Obj)(h:same v v=true):Vv (.val v ⟨n,t,n⟩) v n=true:=by
 show cond (Nat.beq n n) (same v v) false=true
 rw[Z9,h];rfl
theorem Mr(k:IntKind)(n:Int):same (.int k n) (.int k n)=true:=by
 show cond (P0 k k) (E8 n n) false=true
 rw[XI,OJ];simp
theorem fw(x:UInt32):same (Hb x) (Hb x)=true:=Mr ..
theorem xG(x:UInt8):same (XM x) (XM x)=true:=Mr ..
theorem Dw(k:IntKind)(n:Nat):same (nI k n) (nI k n)=true:=Mr ..
theorem tR(v:UInt32)(n:Nat)(t:T Obj):Vv (.val (Hb v) ⟨n,t,n⟩) (Hb v) n=true:=Ur _ _ _ (fw v)
theorem nj(v:UInt8)(n:Nat)(t:T Obj):Vv (.val (XM v) ⟨n,t,n⟩) (XM v) n=true:=Ur _ _ _ (xG v)
theorem zb(k:IntKind)(v:Nat)(n:Nat)(t:T Obj):Vv (.val (nI k v) ⟨n,t,n⟩) (nI k v) n=true:=Ur _ _ _ (Dw k v)
theorem nC(n:Nat)(tm:TM):RA n tm []=true:=rfl
theorem sq(n:Nat)(tm:TM)(s:ZS)(g:Ye)(os:List (ZS×Ye)):RA n tm ((s,g)::os)=cond (Xm n (g tm)) (RA n tm os) false:=rfl
theorem cS(n:Nat)(k:IntKind)(m:Nat):Xm n (nI k m)=true:=rfl
theorem iz(n:Nat)(x:UInt32):Xm n (Hb x)=true:=rfl
theorem cT(n:Nat)(x:UInt8):Xm n (XM x)=true:=rfl
theorem nD(n:Nat)(x:Bool):Xm n (.bool x)=true:=rfl
theorem Yp{n b:Nat}(h:b<n)(o:Nat):Xm n (.ptr b o)=true:=Zm h
theorem Xk{n b:Nat}(h:b<n)(o l:Nat)(c:Option Nat):Xm n (.slice b o l c)=true:=Zm h
theorem ak(tm:TM):RL tm []=ML:=rfl
theorem fk(tm:TM)(s:ZS)(g:Ye)(os:List (ZS×Ye)):RL tm ((s,g)::os)=s (RL tm os) (g tm):=rfl
theorem Pn(tm:TM):Ys tm=N8.a0 (N8.a0 (N8.a0 tm)):=rfl
theorem PM(tm:TM):Y2 tm=N8.a1 (N8.a0 (N8.a0 tm)):=rfl
theorem PN(tm:TM):Xy tm=N8.a2 (N8.a0 (N8.a0 tm)):=rfl
theorem Qg(tm:TM):XK tm=N8.a3 (N8.a0 (N8.a0 tm)):=rfl
theorem OI(tm:TM):Xf tm=N8.a4 (N8.a0 (N8.a0 tm)):=rfl
theorem yL(tm:TM):X5 tm=N8.a5 (N8.a0 (N8.a0 tm)):=rfl
theorem Ab(tm:TM):WN tm=N8.a6 (N8.a0 (N8.a0 tm)):=rfl
theorem CK(tm:TM):WB tm=N8.a7 (N8.a0 (N8.a0 tm)):=rfl
theorem Jw(tm:TM):Wc tm=N8.a0 (N8.a1 (N8.a0 tm)):=rfl
theorem yM(tm:TM):Wv tm=N8.a1 (N8.a1 (N8.a0 tm)):=rfl
theorem jz(tm:TM):Xg tm=N8.a2 (N8.a1 (N8.a0 tm)):=rfl
theorem qN(tm:TM):Xc tm=N8.a3 (N8.a1 (N8.a0 tm)):=rfl
theorem Zez(tm:TM):Xq tm=N8.a4 (N8.a1 (N8.a0 tm)):=rfl
theorem ZeA(tm:TM):XH tm=N8.a5 (N8.a1 (N8.a0 tm)):=rfl
theorem ZeB(tm:TM):Wk tm=N8.a6 (N8.a1 (N8.a0 tm)):=rfl
theorem ZeC(tm:TM):Wy tm=N8.a7 (N8.a1 (N8.a0 tm)):=rfl
theorem ZeD(tm:TM):Wu tm=N8.a0 (N8.a2 (N8.a0 tm)):=rfl
theorem ZeE(tm:TM):WJ tm=N8.a1 (N8.a2 (N8.a0 tm)):=rfl
theorem ZeF(tm:TM):Wx tm=N8.a2 (N8.a2 (N8.a0 tm)):=rfl
theorem ZeG(tm:TM):W5 tm=N8.a3 (N8.a2 (N8.a0 tm)):=rfl
theorem ZeH(tm:TM):W1 tm=N8.a4 (N8.a2 (N8.a0 tm)):=rfl
theorem ZeI(tm:TM):WH tm=N8.a5 (N8.a2 (N8.a0 tm)):=rfl
theorem ZeJ(tm:TM):UK tm=N8.a2 (N8.a3 (N8.a0 tm)):=rfl
theorem ZeK(tm:TM):Uh tm=N8.a3 (N8.a3 (N8.a0 tm)):=rfl
theorem ZeL(tm:TM):Uy tm=N8.a4 (N8.a3 (N8.a0 tm)):=rfl
theorem jA(tm:TM):VL tm=N8.a7 (N8.a3 (N8.a0 tm)):=rfl
theorem Zac(tm:TM):Un tm=N8.a0 (N8.a4 (N8.a0 tm)):=rfl
theorem Zad(tm:TM):UV tm=N8.a1 (N8.a4 (N8.a0 tm)):=rfl
theorem ZeM(tm:TM):TW tm=N8.a7 (N8.a4 (N8.a0 tm)):=rfl
theorem ZeN(tm:TM):Sb tm=N8.a0 (N8.a5 (N8.a0 tm)):=rfl
theorem ZeO(tm:TM):TX tm=N8.a1 (N8.a5 (N8.a0 tm)):=rfl
theorem ZeP(tm:TM):UM tm=N8.a2 (N8.a5 (N8.a0 tm)):=rfl
theorem ZeQ(tm:TM):S7 tm=N8.a3 (N8.a6 (N8.a0 tm)):=rfl
theorem ZeR(tm:TM):RH tm=N8.a4 (N8.a6 (N8.a0 tm)):=rfl
theorem ZeS(tm:TM):Pj tm=N8.a5 (N8.a6 (N8.a0 tm)):=rfl
theorem ZeT(tm:TM):O5 tm=N8.a7 (N8.a7 (N8.a0 tm)):=rfl
theorem ZeU(tm:TM):MW tm=N8.a0 (N8.a0 (N8.a1 tm)):=rfl
theorem ZeV(tm:TM):MX tm=N8.a1 (N8.a0 (N8.a1 tm)):=rfl
structure Zq(H H':Heap)(S:List Nat):Prop where
 nx:H.nx<=H'.nx
 ro:H'.ro=H.ro
 get: ∀c,c<H.nx->c∉S->H'.t.get c=H.t.get c
theorem Zq.refl(H:Heap)(S:List Nat):Zq H H S:=⟨Zl _,rfl,λ_ _ _=>rfl⟩
theorem Zq.trans{H H' H'':Heap}{S S':List Nat}(a:Zq H H' S)(b:Zq H' H'' S')(h: ∀c,c∈S'->c<H.nx->c∈S):Zq H H'' S:=
 ⟨Zn a.nx b.nx,b.ro.trans a.ro,λc hc hn=>(b.get c (ZO hc a.nx) (λhh=>hn (h c hh hc))).trans (a.get c hc hn)⟩
theorem Zq.put{H:Heap}{b:Nat}{o:Obj}{S:List Nat}(h:b<H.nx->b∈S):Zq H (H.put b o) S:=
 ⟨Zl _,rfl,λc hc hn=>by rw[Lb,if_neg (λ(e:b=c)=>hn (by rw[<-e];exact h (by omega)))]⟩
theorem Zq.new(H:Heap)(o:Obj)(S:List Nat):Zq H (H.new o) S:=
 ⟨XV _,rfl,λc hc _=>by rw[Pz,if_neg (by omega)]⟩
theorem Zq.then_put{H H':Heap}{b:Nat}{o:Obj}{S:List Nat}(k:Zq H H' S)(h:b<H.nx->b∈S):Zq H (H'.put b o) S:=
 ⟨k.nx,k.ro,λc hc hn=>by rw[Lb,if_neg (λ(e:b=c)=>hn (by rw[<-e];exact h (by omega)))];exact k.get c hc hn⟩
theorem Zq.then_new{H H':Heap}{S:List Nat}(k:Zq H H' S)(o:Obj):Zq H (H'.new o) S:=
 ⟨Nat.le_succ_of_le k.nx,k.ro,λc hc hn=>by rw[Pz,if_neg (by have:=k.nx;omega)];exact k.get c hc hn⟩
theorem Zq.trans'{H H' H'':Heap}{S':List Nat}(a:Zq H H' [])(b:Zq H' H'' S'):Zq H H'' S':=
 ⟨Zn a.nx b.nx,b.ro.trans a.ro,λc hc hn=>(b.get c (ZO hc a.nx) hn).trans (a.get c hc (by simp))⟩
structure Zkg(H:Heap)(b o:Nat)(cap:Option Nat)(l:List UInt8)(r:Row):Prop where
 at_:H.t.get b=some (.row r)
 sz:r.sz=1
 fits:o+l.length<=r.size
 get: ∀i,i<l.length->r.get (o+i)=XM (l.getD i 0)
 cap: ∀c,cap=some c->l.length<=c∧o+c<=r.size
def Ny(x:Option AV)(d top:Nat)(k:Nat->OR):OR:=match x with|none=>k d|some v=>RB v λn=>ZX (Nat.ble n top) (k n)
noncomputable def Bx(sz:Nat)(a:AV)(lo hi:Option AV)(H:Heap):OR:=
 bM a (Ny hi 0 0 λh=>Ny lo 0 h λ_=>.val .slice0 H)<|U0 a (Ny hi 0 0 λh=>Ny lo 0 h λ_=>.val .nils H) λb o len cap=>Xp H b λr=>ZX (Ha r sz cap) (Ny hi len (UT r o cap) λh=>Ny lo 0 h λl=>ZX (Nat.ble l (UT r o cap))<|
  cond (Nat.beq l (UT r o cap)) (Option.rec (.val (.slice H.nx 0 (Nat.sub h l) none) ⟨Nat.succ H.nx,H.t,H.ro⟩) (λ_=>.val (.slice b o (Nat.sub h l) (some 0)) H) cap)
   (.val (.slice b (Nat.add o (Nat.mul l sz)) (Nat.sub h l) (Option.rec none (λc=>some (Nat.sub c l)) cap)) H))
theorem Ba(sz:Nat)(x:Ye)(lo hi:Option Ye)(tm:TM)(H:Heap):FT sz x lo hi none tm H=Bx sz (x tm) (lo.map λf=>f tm) (hi.map λf=>f tm) H:=by
 cases lo<;>cases hi<;>rfl
noncomputable def Bv(n sz:Nat)(a:AV)(lo hi:Option AV)(H:Heap):OR:=QL a λb o=>Ny hi n n λh=>Ny lo 0 h λl=>
 cond (Nat.beq l n) (.val (.slice b o (Nat.sub h l) (some (Nat.sub n l))) H) (.val (.slice b (Nat.add o (Nat.mul l sz)) (Nat.sub h l) (some (Nat.sub n l))) H)
theorem sO(n sz:Nat)(x:Ye)(lo hi:Option Ye)(tm:TM)(H:Heap):FS n sz x lo hi none tm H=Bv n sz (x tm) (lo.map λf=>f tm) (hi.map λf=>f tm) H:=by
 cases lo<;>cases hi<;>rfl
theorem F9{n l:Nat}(h:l<n)(b o:Nat)(k:IntKind)(H:Heap):Bv n 1 (.ptr b o) (some (nI k l)) none H=.val (.slice b (o+l) (n - l) (some (n - l))) H:=by
 show ZX (Nat.ble l n) (cond (Nat.beq l n) _ _)=_
 rw[Zm (Nb h),Yu,Zb (by omega)]
 show OR.val (.slice b (o+l*1) (n - l) (some (n - l))) H=_
 rw[Xw]
theorem F8{n m:Nat}(h:m<=n)(h0:0<n)(b o:Nat)(k:IntKind)(H:Heap):Bv n 1 (.ptr b o) none (some (nI k m)) H=.val (.slice b o m (some n)) H:=by
 show ZX (Nat.ble m n) (ZX (Nat.ble 0 m) (cond (Nat.beq 0 n) _ _))=_
 rw[Zm h,Zm (Z8 _),Yu,Zb (by omega)]
 show OR.val (.slice b (o+0*1) (m - 0) (some (n - 0))) H=_
 rw[W3];rfl
noncomputable def kT(sz:Nat)(a v:AV)(H:Heap):OR:=y3 v λsn=>U0 a (.val (.int .i64 0) H) λb o dn _=>S5 (Kw dn sn) λn=>Vq H sz v n λnew=>
 cond (Nat.beq n 0) (.val (.int .i64 0) H) (Xp H b λr=>ZX (H.may r b) (ZX (Nat.ble r.fz o) (ZX (Nat.ble (Nat.add o (Nat.mul n sz)) r.size) (.val (.int .i64 (.ofNat n)) (H.put b (.row (r.setCells (Wg r.cells o new))))))))
theorem nO(x y:Ye)(sz:Nat)(tm:TM)(H:Heap):pq x y sz tm H=kT sz (x tm) (y tm) H:=rfl
noncomputable def Q1(k:List AV->OR)(ps:List (Nat×Nat×AV)):List AV->OR:=List.rec (λcells=>k cells) (λp _ ih cells=>
 ZX (Nat.ble 1 p.2.1)<|ZX (Nat.beq (YF p.2.2.cells) p.2.1) (ZX (Nat.ble (Nat.add p.1 p.2.1) (YF cells)) (ih (PX p.1 cells++(p.2.2.cells++Q0 (Nat.add p.1 p.2.1) cells))))) ps
theorem Fw(tm:TM)(k:List AV->OR): ∀(ps:List ya) (cells:List AV),AJ tm k ps cells=Q1 k (ps.map λp=>(p.off,p.sz,p.x tm)) cells
 |[],_=>rfl
 |p::ps,cells=>by
  show ZX (Nat.ble 1 p.sz) (ZX (Nat.beq (YF (p.x tm).cells) p.sz) (ZX (Nat.ble (Nat.add p.off p.sz) (YF cells)) (AJ tm k ps (PX p.off cells++((p.x tm).cells++Q0 (Nat.add p.off p.sz) cells)))))=_
  rw[Fw tm k ps]
  rfl
noncomputable def Qd(zs:List AV)(ps:List (Nat×Nat×AV))(H:Heap):OR:=ZX (Nat.ble 1 (YF zs))<|Q1 (λcs=>.val (.agg cs) H) ps zs
theorem Tt(zs:List AV)(ps:List ya)(tm:TM)(H:Heap):Vw zs ps tm H=Qd zs (ps.map λp=>(p.off,p.sz,p.x tm)) H:=by
 unfold Vw Qd
 rw[Fw]
noncomputable def Wa(e sz n:Nat)(zs:List AV)(ps:List (Nat×Nat×AV))(H:Heap):OR:=ZX (Nat.ble 1 sz)<|ZX (Nat.beq (YF zs) (Nat.mul n sz))<|Q1 (λcs=>.val (.slice H.nx 0 n none) (H.newRow e sz cs true)) ps zs
theorem YS(e sz n:Nat)(zs:List AV)(ps:List ya)(tm:TM)(H:Heap):X7 e sz n zs ps tm H=Wa e sz n zs (ps.map λp=>(p.off,p.sz,p.x tm)) H:=by
 unfold X7 Wa
 rw[Fw]
theorem PF(e:Nat)(z v:AV)(h:v.cells=[v])(H:Heap):Wa e 1 1 [z] [(0,1,v)] H=.val (.slice H.nx 0 1 none) (H.newRow e 1 [v] true):=by
 show ZX (Nat.beq (YF v.cells) 1) (ZX (Nat.ble 1 1) (.val _ (H.newRow e 1 (v.cells++[]) true)))=_
 rw[h];rfl
noncomputable def Vb(e sz bytes:Nat)(a v:AV)(H:Heap):OR:=ZX (Nat.ble 1 sz)<|ZX (Nat.ble 1 bytes)<|y3 v λn=>Vq H sz v n λnew=>NW a e sz bytes H n new
theorem VO(x y:Ye)(e sz bytes:Nat)(tm:TM)(H:Heap):VF x y e sz bytes tm H=Vb e sz bytes (x tm) (y tm) H:=rfl
def Src(H:Heap)(v:AV)(l:List AV):Prop:= ∀k:Nat->List AV->OR,(y3 v λn=>Vq H 1 v n λnew=>k n new)=k l.length l
theorem Src.nils(H:Heap):Src H .nils []:=λ_=>rfl
theorem Src.none(H:Heap)(b o:Nat)(c:Option Nat):Src H (.slice b o 0 c) []:=λ_=>rfl
theorem Src.row{H:Heap}{b o:Nat}{c:Option Nat}{r:Row}{l:List AV}(hr:H.t.get b=some (.row r))(hf:o+l.length<=r.size)(hg: ∀i,i<l.length->r.get (o+i)=l.getD i .unk):Src H (.slice b o l.length c) l:=by
 intro k
 show(Vq H 1 (.slice b o l.length c) l.length λnew=>k l.length new)=_
 unfold Vq
 rw[Yu]
 by_cases h0:l.length=0
 ·rw[Ze h0]
  have:l=[]:=YW.1 h0
  subst this;rfl
 ·rw[Zb h0]
  unfold Xp
  simp only[hr,cond_false,Xw]
  show ZX (Nat.ble (o+l.length*1) r.size) (k l.length (WO r o (l.length*1)))=_
  rw[Xw,Zm hf]
  have:WO r o l.length=l:=by
   refine X4 λj=>?_
   by_cases hj:j<l.length
   ·rw[SB r _ o j hj,hg j hj,Za,Zg hj];rfl
   ·rw[YB (by rw[Se];omega),YB (by omega)]
  rw[this];rfl
theorem Qm{H:Heap}{e bytes:Nat}{a v:AV}{l:List AV}(hb:1<=bytes)(h:Src H v l):Vb e 1 bytes a v H=NW a e 1 bytes H l.length l:=by
 show ZX (Nat.ble 1 1) (ZX (Nat.ble 1 bytes) _)=_
 rw[Zm hb]
 exact h λn new=>NW a e 1 bytes H n new
theorem x9{e:Nat}{H:Heap}{l:List AV}(h0:0<l.length)(hl:l.length<=140737488355328):NW .nils e 1 1 H l.length l=.val (.slice H.nx 0 l.length none) (H.newRow e 1 l false):=by
 show cond (Nat.beq l.length 0) _ (ZX (Nat.ble (l.length*1) 140737488355328) _)=_
 rw[Yu,Zb (by omega),Xw,Zm hl];rfl
structure kb(H:Heap)(b e:Nat)(l:List AV)(r:Row):Prop extends Own H b e l r where
 exact_:r.exact=false
 low:b<H.nx
theorem Ct{H:Heap}{e:Nat}{l:List AV}(hro:H.ro<=H.nx):kb (H.newRow e 1 l false) H.nx e l ⟨e,1,YF l,T.ofList l,.unk,0,false,true,false⟩:=
 ⟨⟨by rw[Mj,Pz,if_pos rfl],rfl,rfl,rfl,rfl,rfl,Cells.new ..,hro⟩,rfl,Yo _⟩
theorem Ar{H:Heap}{b e:Nat}{l m:List AV}{r:Row}(g:kb H b e l r)(hm:0<m.length)(hl:l.length+m.length<=140737488355328):
  ∃H' r',NW (.slice b 0 l.length none) e 1 1 H m.length m=.val (.slice H.nx 0 (l.length+m.length) none) H'∧kb H' H.nx e (l++m) r'∧Zq H H' [b]∧H'.nx=H.nx+1:=by
 have hsz:r.size=l.length:=g.cells.size
 have hcap:UT r 0 none=l.length:=by
  show cond (Nat.beq r.sz 1) (r.size - 0) _=_
  rw[g.sz,hsz];rfl
 have RI:H.may r b=true:=by unfold Heap.may;rw[g.own,Zm g.ro];rfl
 refine⟨⟨Nat.succ H.nx,(H.t.del b).set H.nx (.row ⟨r.elem,1,(l.length+m.length)*1,Wg r.cells (l.length*1) m,r.dflt,r.fz,r.sm,true,false⟩),H.ro⟩,⟨r.elem,1,(l.length+m.length)*1,Wg r.cells (l.length*1) m,r.dflt,r.fz,r.sm,true,false⟩,?_,⟨⟨by rw[T.get_set,if_pos rfl],g.elem,rfl,rfl,g.fz,g.sm,?_,Zn g.ro (Nb g.low)⟩,rfl,Yo _⟩,⟨XV _,rfl,λc hc hn=>?_⟩,rfl⟩
 ·show Xp H b (λr=>ZX (Ha r 1 none) (cond (Nat.ble (Nat.add l.length m.length) (UT r 0 none)) (DJ H _ b 0 l.length m.length 1 none r m) (LS H e b 0 l.length m.length 1 1 none r m)))=_
  unfold Xp
  simp only[g.at_]
  have h1:Ha r 1 none=true:=by show Nat.beq r.sz 1=true;rw[g.sz];rfl
  have h2:Nat.ble (Nat.add l.length m.length) (UT r 0 none)=false:=by
   rw[hcap]
   cases h:Nat.ble (Nat.add l.length m.length) l.length with
   |false=>rfl
   |true=>have:=Z1 h;have:l.length+m.length<=l.length:=this;omega
  rw[h1,h2]
  show ZX (Nat.ble ((l.length+m.length)*1) 140737488355328) (ZX (Nat.ble (0+l.length*1) r.size) (cond r.exact _ (Ih H e b 0 l.length m.length 1 r m)))=_
  rw[Xw,Zm hl,hsz,Xw,Zs,Zm (Zl _),g.exact_]
  show ZX (Nat.beq r.elem e) (ZX (H.may r b) (ZX (Nat.ble r.fz (l.length*1)) (ZX (Nat.beq (l.length*1) r.size) (ZX (Nat.beq 0 0) _))))=_
  rw[g.elem,Z9,RI,g.fz,Zm (Z8 _),hsz,Xw,Z9]
  show OR.val (.slice H.nx 0 (l.length+m.length) none) ⟨Nat.succ H.nx,(H.t.del b).set H.nx (.row ⟨e,1,(l.length+m.length)*1,Wg r.cells (l.length*1) m,r.dflt,0,r.sm,true,false⟩),H.ro⟩=_
  rw[Xw,Xw]
 ·refine⟨by show(l.length+m.length)*1=_;rw[Zf];omega,λi hi=>?_⟩
  rw[Zf] at hi
  rw[Row.get_eq]
  show((Wg r.cells (l.length*1) m).get i).getD r.dflt=_
  rw[Xw,Sj,Za]
  by_cases h1:l.length<=i
  ·rw[if_pos ⟨h1,by omega⟩,Zu h1,Zg (show i - l.length<m.length by omega)];rfl
  ·rw[if_neg (by omega),Yc (by omega)]
   have:=g.cells.get i (by omega)
   rw[Row.get_eq,Za] at this
   exact this
 ·show((H.t.del b).set H.nx _).get c=_
  rw[T.get_set,if_neg (by omega),T.get_del,if_neg (λe=>hn (by simp[e]))]
section
variable {P:Program}
theorem KQ: ∀l:List UInt8,XB (l.map XM) (l.map XM)=true
 |[]=>by simp[XB]
 |x::l=>by
  show XB (XM x::l.map XM) (XM x::l.map XM)=true
  unfold XB
  rw[xG,KQ l];rfl
theorem Jq: ∀{a b:List AV},XB a a=true->XB b b=true->XB (a++b) (a++b)=true
 |[],b,_,h=>h
 |x::a,b,h1,h2=>by
  unfold XB at h1
  obtain⟨h3,h4⟩:=ZV h1
  show XB (x::(a++b)) (x::(a++b))=true
  unfold XB
  rw[h3,Jq h4 h2];rfl
theorem VE{l:List AV}(h:XB l l=true)(n:Nat)(t:T Obj):Vv (.val (.agg l) ⟨n,t,n⟩) (.agg l) n=true:=Ur _ _ _ (by unfold same;exact h)
theorem QR(s:List UInt8):same (.str s) (.str s)=true:=by
 unfold same;rw[Sw];simp
theorem tQ(s:List UInt8)(n:Nat)(t:T Obj):Vv (.val (.str s) ⟨n,t,n⟩) (.str s) n=true:=Ur _ _ _ (QR s)
theorem Sd(b o n:Nat)(c:Option Nat)(k:Nat)(t:T Obj):Vv (.val (.slice b o n c) ⟨k,t,k⟩) (.slice b o n c) k=true:=Ur _ _ _ (by
 unfold same
 rw[Z9,Z9,Z9]
 cases c with
 |none=>rfl
 |some x=>show Nat.beq x x=true;exact Z9 x)
theorem PP(n:Nat)(t:T Obj):Vv (.val .nils ⟨n,t,n⟩) .nils n=true:=Ur _ _ _ (by unfold same;rfl)
variable (ds:List ZS) (f:W7) (e:Ye) (b:Bool) (os:List (ZS×Ye)) (dst:ZS) (i bef:Nat) (nx:PK) (c:Ctx) (rs:List RD) (tm:TM) (H:Heap) (x:X)
theorem ul:Sv ds ⟨f,some (e,b),os,dst,.free,i,bef⟩ nx c rs tm H x=Uz (e tm) b (cond (RA H.nx tm os) (L6 ⟨f,some (e,b),os,dst,.free,i,bef⟩ nx rs tm H x (f (RL tm os) ⟨H.nx,.leaf,H.nx⟩)) .fail) (nx rs (dst tm Xl) H x):=rfl
theorem um:Sv ds ⟨f,some (e,b),os,dst,.read,i,bef⟩ nx c rs tm H x=Uz (e tm) b (GG ⟨f,some (e,b),os,dst,.read,i,bef⟩ nx rs tm H x (f (RL tm os) ⟨H.nx,H.t,H.nx⟩)) (nx rs (dst tm Xl) H x):=rfl
theorem rM:Sv ds ⟨f,some (e,b),os,dst,.eff,i,bef⟩ nx c rs tm H x=cond (still tm H rs) (Uz (e tm) b (Hw ds ⟨f,some (e,b),os,dst,.eff,i,bef⟩ nx rs c tm x (f (RL tm os) H)) (nx (Uk bef rs) (dst tm Xl) H x)) .fail:=rfl
theorem oJ(g:Option (Ye×Bool))(kd:If)(v:AV)(o:Obj)(hw:wrO o=true):L6 ⟨f,g,os,dst,kd,i,bef⟩ nx rs tm H x (.val v ((⟨H.nx,.leaf,H.nx⟩:Heap).new o))=nx rs (dst tm v) (H.new o) x:=by
 show cond (Nat.beq (H.nx+1) H.nx) _ (cond (Nat.beq (H.nx+1) (Nat.succ H.nx)) (gj (((T.leaf:T Obj).set H.nx o).get H.nx) λo=>nx rs (dst tm v) (H.new o) x) .fail)=_
 rw[Yu,Zb (by omega),Yu,Ze rfl,T.get_set,if_pos rfl]
 show cond (wrO o) _ _=_
 rw[hw];rfl
end
theorem Az{lib:Nat->List AV->Heap->Option CR}{fs:T CF}{fuel n f:Nat}{args:List AV}{H:Heap}{r:CR}(h:lib f args H=some r):ZJ lib fs fuel (n+1) f args H=r:=by
 show pb (lib f args H) _=_
 rw[h];rfl
section
variable {P:Program}
theorem cI{call:Nat->List AV->Heap->CR}(hcall:SD P call){f:FuncId}{args:List AV}{H H':Heap}{v:AV}(hrun:call f args H=.ret v H')(k:Zq H H' [])(hlow:Xm 0 v=true)
  {σ:Mp}{w:World}{vs:List Value}(hs:Ww P σ H w)(hv:YO σ args vs):LR P σ H w (.ret v H) ((callFunc f ⟨vs⟩).run P w):=by
 have hcr:=hcall f _ H σ w vs hs hv
 rw[hrun] at hcr
 refine Ends.mono (λu' w' hx=>?_) (λ_ _ hx=>hx) hcr
 obtain⟨σ2,h1,t⟩:=hx
 refine⟨σ,?_,t.drop hs λb hb=>k.get b hb (by simp)⟩
 exact(Yt.cut hlow h1).mono λy _ hy=>by have:=(Mp.cut_some hy).1;omega
end
noncomputable def q8(a:AV)(H:Heap):OR:=Oe a λs=>S5 (YF s) λn=>.val (.int .i64 (.ofNat n)) H
theorem nW(x:Ye)(tm:TM)(H:Heap):TO x tm H=q8 (x tm) H:=rfl
theorem Y7(s:List UInt8)(H:Heap):q8 (.str s) H=.val (nI .i64 s.length) H:=by
 show S5 (YF s) (λn=>OR.val (.int .i64 (.ofNat n)) H)=_
 rw[Ou,Yw];rfl
noncomputable def R5(a i:AV)(H:Heap):OR:=RB i λi=>Oe a λs=>Tu (vA s i) λb=>S5 b.toNat λn=>.val (.int .u8 (.ofNat n)) H
theorem vE(x y:Ye)(tm:TM)(H:Heap):Y9 x y tm H=R5 (x tm) (y tm) H:=rfl
theorem II{s:List UInt8}{i:Nat}(h:i<s.length)(k:IntKind)(H:Heap):R5 (.str s) (nI k i) H=.val (XM (s.getD i 0)) H:=by
 show Tu (vA s i) _=_
 rw[xf,Zg h]
 show S5 s[i].toNat (λn=>OR.val (.int .u8 (.ofNat n)) H)=_
 rw[Ou,Za,Zg h];rfl
noncomputable def Lh(a:AV)(lo hi:Option AV)(H:Heap):OR:=Oe a λs=>Ny hi (YF s) (YF s) λh=>Ny lo 0 h λl=>.val (.str (JK l (LL h s))) H
theorem sP(x:Ye)(lo hi:Option Ye)(tm:TM)(H:Heap):UA x lo hi none tm H=Lh (x tm) (lo.map λf=>f tm) (hi.map λf=>f tm) H:=by
 cases lo<;>cases hi<;>rfl
theorem rz{s:List UInt8}{n:Nat}(h:n<=s.length)(k:IntKind)(H:Heap):Lh (.str s) none (some (nI k n)) H=.val (.str (s.take n)) H:=by
 show ZX (Nat.ble n (YF s)) (OR.val (.str (JK 0 (LL n s))) H)=_
 rw[Yw,Zm h,OZ];rfl
theorem YI{a b:List UInt8}(h:a.length+b.length<=4611686018427387904)(H:Heap):E5 (.str a) (.str b) H=.val (.str (a++b)) H:=by
 show ZX (Nat.ble (Nat.add (YF a) (YF b)) 4611686018427387904) _=_
 rw[Yw,Yw,Zm (show Nat.add a.length b.length<=_ from h)];rfl
theorem Tq(a b:List UInt8)(H:Heap):Fd Nc false (.str a) (.str b) H=.val (.bool (decide (a=b))) H:=by
 show SV (LJ a b) H=_
 rw[SC,Sw]
 congr 2
 by_cases h:a=b<;>simp[h]
theorem VV(a b:List UInt8)(H:Heap):Fd Nc true (.str a) (.str b) H=.val (.bool (!decide (a=b))) H:=by
 show SV (cond (LJ a b) false true) H=_
 rw[SC,Sw]
 congr 2
 by_cases h:a=b<;>simp[h]
structure Below(n:Nat)(H H':Heap):Prop where
 nx:H.nx<=H'.nx
 ro:H'.ro=H.ro
 get: ∀c,c<n->c<H.nx->H'.t.get c=H.t.get c
theorem Below.refl(n:Nat)(H:Heap):Below n H H:=⟨Zl _,rfl,λ_ _ _=>rfl⟩
theorem Below.trans{n:Nat}{H H' H'':Heap}(a:Below n H H')(b:Below n H' H''):Below n H H'':=
 ⟨Zn a.nx b.nx,b.ro.trans a.ro,λc h1 h2=>(b.get c h1 (ZO h2 a.nx)).trans (a.get c h1 h2)⟩
theorem Below.put{n b:Nat}{H:Heap}{o:Obj}(h:n<=b):Below n H (H.put b o):=⟨Zl _,rfl,λc h1 _=>by rw[Lb,if_neg (by omega)]⟩
theorem Below.new(n:Nat)(H:Heap)(o:Obj):Below n H (H.new o):=⟨XV _,rfl,λc _ h2=>by rw[Pz,if_neg (by omega)]⟩
theorem Below.mono{n m:Nat}{H H':Heap}(a:Below n H H')(h:m<=n):Below m H H':=⟨a.nx,a.ro,λc h1 h2=>a.get c (by omega) h2⟩
theorem Zq.below{H0 H H':Heap}{n:Nat}(k:Zq H0 H [])(b:Below n H H')(h:H0.nx<=n):Zq H0 H' []:=
 ⟨Zn k.nx b.nx,b.ro.trans k.ro,λc h1 h2=>(b.get c (by omega) (ZO h1 k.nx)).trans (k.get c h1 h2)⟩
def Zh2(H:Heap)(v:AV)(l:List UInt8)(lo:Nat):Prop:= ∃b r,v=.slice b 0 l.length none∧kb H b 5 (l.map XM) r∧lo<=b
def Buf(H:Heap)(v:AV)(l:List UInt8)(lo:Nat):Prop:=(l=[]∧v=.nils)∨(l≠[]∧Zh2 H v l lo)
theorem kx{H:Heap}{v:AV}{l:List UInt8}{lo:Nat}(h:Buf H v l lo)(hl:l.length<140737488355328)(hro:H.ro<=H.nx)(hlo:lo<=H.nx)(x:UInt8):
  ∃v' H',Vb 5 1 1 v (.slice H.nx 0 1 none) (H.newRow 5 1 [XM x] true)=.val v' H'∧Buf H' v' (l++[x]) lo∧Below lo H H':=by
 generalize hH1:H.newRow 5 1 [XM x] true=H1
 have U2:H1.nx=H.nx+1:=by rw[<-hH1];rfl
 have k1:Zq H H1 []:=by rw[<-hH1];exact Zq.new H _ []
 have b1:Below lo H H1:=by rw[<-hH1];exact Below.new lo H _
 have gx:H1.t.get H.nx=some (.row ⟨5,1,1,T.ofList [XM x],.unk,0,false,true,true⟩):=by rw[<-hH1,Mj,Pz,if_pos rfl];rfl
 have src:Src H1 (.slice H.nx 0 1 none) [XM x]:=Src.row (l:=[XM x]) gx (Zl _) (λi hi=>by
  have:i=0:=by simp at hi;exact hi
  subst this
  rfl)
 rw[Qm (Zl 1) src]
 rcases h with⟨rfl,rfl⟩|⟨hne,b,r,rfl,g,hb⟩
 ·have g:=Ct (H:=H1) (e:=5) (l:=[XM x]) (by rw[k1.ro];omega)
  exact⟨_,_,x9 (l:=[XM x]) (by simp) (by simp),.inr ⟨by simp,_,_,rfl,g,by omega⟩,b1.trans (Below.new lo H1 _)⟩
 ·have g1:kb H1 b 5 (l.map XM) r:=⟨⟨by rw[k1.get b g.low (by simp)];exact g.at_,g.elem,g.sz,g.own,g.fz,g.sm,g.cells,by rw[k1.ro];exact g.ro⟩,g.exact_,by have:=g.low;omega⟩
  obtain⟨H',r',e,g',k',nx'⟩:=Ar (m:=[XM x]) g1 (by simp) (by rw[Zi];simp;omega)
  rw[Zi] at e
  refine⟨_,H',e,.inr ⟨by simp,H1.nx,r',by rw[Zf];rfl,by rw[Xe];exact g',by omega⟩,b1.trans ⟨by omega,k'.ro,λc h1 h2=>k'.get c h2 (by simp;omega)⟩⟩
theorem Buf.below{H H':Heap}{v:AV}{l:List UInt8}{lo:Nat}(h:Buf H v l lo)(hp: ∀c,lo<=c->c<H.nx->H'.t.get c=H.t.get c)(hro:H'.ro=H.ro)(hnx:H.nx<=H'.nx):Buf H' v l lo:=by
 rcases h with h|⟨hne,b,r,rfl,g,hb⟩
 ·exact .inl h
 ·exact .inr ⟨hne,b,r,rfl,⟨⟨by rw[hp b hb g.low];exact g.at_,g.elem,g.sz,g.own,g.fz,g.sm,g.cells,by rw[hro];exact g.ro⟩,g.exact_,ZO g.low hnx⟩,hb⟩
theorem Yi(k:IntKind)(a b:Nat)(H:Heap):Pb Sq VS (nI k a) (nI k b) H=.val (.bool (decide (b<a))) H:=by
 show ZX (P0 k k) (SV (tL (.ofNat b) (.ofNat a)) H)=_
 rw[XI,SC,Jc];rfl
theorem X6(k:IntKind)(a b:Nat)(H:Heap):Pb Jz Og (nI k a) (nI k b) H=.val (.bool (decide (a<=b))) H:=by
 show ZX (P0 k k) (SV (!tL (.ofNat b) (.ofNat a)) H)=_
 rw[XI,SC,Jc]
 show OR.val (.bool (!decide (b<a))) H=_
 congr 2
 by_cases h:b<a
 ·rw[Ze h,Zb (by omega)];rfl
 ·rw[Zb h,Ze (by omega)];rfl
theorem bV(b c:AV)(H:Heap):zu (.bool true) b c H=.val b H:=rfl
theorem bU(b c:AV)(H:Heap):zu (.bool false) b c H=.val c H:=rfl
theorem Rc(b:Bool)(H:Heap):bh (.bool b) H=.val (.bool (cond b false true)) H:=rfl
theorem it(n:Nat)(l:List AV):Xm n (.agg l)=U7 n l:=rfl
theorem sy(n:Nat):Xm n Xl=true:=rfl
theorem Gi(n:Nat)(s:List UInt8):Xm n (.str s)=true:=rfl
noncomputable def Zce(mx:Bool)(l:List AV)(H:Heap):OR:=match l with
 |.int k a::l=>min2 mx k a H l
 |_=>.fail
theorem KE(mx:Bool)(args:List Ye)(tm:TM)(H:Heap):QJ mx args tm H=Zce mx (evs tm args) H:=rfl
theorem vq(a b:Nat)(H:Heap):Zce false [nI .i64 a,nI .i64 b] H=.val (nI .i64 (min a b)) H:=by
 show ZX (P0 .i64 .i64) (min2 false .i64 (cond (cond false (tL (.ofNat a) (.ofNat b)) (tL (.ofNat b) (.ofNat a))) (.ofNat b) (.ofNat a)) H [])=_
 rw[XI,Jc,Jc]
 show OR.val (.int .i64 (cond (decide (b<a)) (.ofNat b) (.ofNat a))) H=_
 by_cases h:b<a
 ·rw[Ze h,Sm (by omega)];rfl
 ·rw[Zb h,Vi (by omega)];rfl
noncomputable def Ez(i:Nat)(a:AV)(H:Heap):OR:=py a λvs=>Tu (Gp vs i) λv=>.val v H
theorem nQ(x:Ye)(i:Nat)(tm:TM)(H:Heap):XR x i tm H=Ez i (x tm) H:=rfl
theorem dQ(a:AV)(l:List AV)(H:Heap):Ez 0 (.tup (a::l)) H=.val a H:=rfl
theorem dR(a b:AV)(l:List AV)(H:Heap):Ez 1 (.tup (a::b::l)) H=.val b H:=rfl
theorem dS(a b c:AV)(l:List AV)(H:Heap):Ez 2 (.tup (a::b::c::l)) H=.val c H:=rfl
theorem qx(a b:Bool)(H:Heap):Fd uJ false (.bool a) (.bool b) H=.val (.bool (decide (a=b))) H:=by cases a<;>cases b<;>rfl
theorem ON(a:TM->Heap->X->Wd)(n:Nat)(tm:TM)(H:Heap)(x:X):XQ a (n+1) tm H x=RC (a tm H x) (XQ a n):=rfl
theorem dO(b o:Nat)(H:Heap):Fd lX false (.ptr b o) .nilp H=.val (.bool false) H:=rfl
theorem tp(H:Heap):Fd lX false .nilp .nilp H=.val (.bool true) H:=rfl
theorem jg(b o:Nat)(H:Heap):Fd lX true (.ptr b o) (.ptr b o) H=.val (.bool false) H:=by
 show Tu (cond (Nat.beq b b) (some (Nat.beq o o)) none) (λb=>SV (cond true (cond b false true) b) H)=_
 rw[Z9,Z9];rfl
noncomputable def gL(a:AV)(H:Heap):OR:=match a with
 |.nilp=>.val .nilp H
 |.ptr b o=>Xp H b λr=>ZX (Nat.ble (Nat.succ o) r.size) (.val (.ptr b o) H)
 |_=>.fail
theorem zp(x:Ye)(tm:TM)(H:Heap):zo x tm H=gL (x tm) H:=rfl
noncomputable def gK(u n:Nat)(a:AV)(H:Heap):OR:=match a with
 |.nilp=>.val .nilp H
 |.ptr b o=>Xp H b λr=>ZX r.exact (ZX (Nat.beq r.elem u) (ZX (Nat.beq o 0) (ZX (Nat.ble n r.size) (.val (.ptr b o) H))))
 |_=>.fail
theorem zn(x:Ye)(u n:Nat)(tm:TM)(H:Heap):zm x u n tm H=gK u n (x tm) H:=rfl
noncomputable def DB(a:AV)(H:Heap):OR:=U0 a (.val .nilp H) λb o _ cap=>Option.rec (Xp H b λr=>ZX (Nat.ble (Nat.succ o) r.size) (.val (.ptr b o) H)) (λc=>ZX (Nat.ble 1 c) (.val (.ptr b o) H)) cap
theorem KG(x:Ye)(tm:TM)(H:Heap):Ds x tm H=DB (x tm) H:=rfl
noncomputable def pW(e:Nat)(a n:AV)(H:Heap):OR:=RB n λn=>cond (Nat.beq n 0) (match a with|.nilp=>.val (.str []) H|.ptr .. =>.val (.str []) H|_=>.fail)
 (ZX (Nat.ble n 140737488355328)<|QL a λb o=>Xp H b λr=>ZX (Nat.beq r.elem e)<|ZX (cond r.sm false (H.may r b)) (ZX (Nat.ble (Nat.add o n) r.size) (R7 (λs=>.val (.str s)
  (H.put b (.row ⟨r.elem,r.sz,r.size,r.cells,r.dflt,cond (Nat.ble r.fz (Nat.add o n)) (Nat.add o n) r.fz,r.sm,r.own,r.exact⟩))) (WO r o n))))
theorem FU(x y:Ye)(e:Nat)(tm:TM)(H:Heap):pu x y e tm H=pW e (x tm) (y tm) H:=rfl
theorem Lq: ∀(l:List UInt8) (k:List UInt8->OR),R7 k (l.map XM)=k l
 |[],k=>rfl
 |x::l,k=>by
  show R7 (λs=>k (UInt8.ofNat x.toNat::s)) (l.map XM)=_
  rw[Lq l]
  simp
theorem rZ{H:Heap}{v:AV}{l:List UInt8}{lo:Nat}(h:Buf H v l lo)(hl:l.length<=140737488355328): ∃p,(∀G:Heap,G.t=H.t->DB v G=.val p G)∧(∃H',pW 5 p (nI .i64 l.length) H=.val (.str l) H'∧Below lo H H')∧(∀n,H.nx<=n->Xm n p=true)∧(∀n t,Vv (.val p ⟨n,t,n⟩) p n=true)∧(∀n,H.nx<=n->Xm n v=true)∧(∀n t,Vv (.val v ⟨n,t,n⟩) v n=true)∧ ∀G,RV v G=.val (nI .i64 l.length) G:=by
 rcases h with⟨rfl,rfl⟩|⟨hne,b,r,rfl,g,hb⟩
 ·exact⟨.nilp,λ_ _=>rfl,⟨H,rfl,Below.refl _ _⟩,λ_ _=>rfl,λn t=>Ur _ _ _ (by unfold same;rfl),λ_ _=>rfl,λn t=>PP n t,λG=>OL G⟩
 ·have hp:0<l.length:=Ws.2 hne
  have hsz:r.size=l.length:=by rw[g.cells.size,Zi]
  refine⟨.ptr b 0,λG e=>?_,?_,λn hn=>Yp (ZO g.low hn) 0,λn t=>Ur _ _ _ (by unfold same;rw[Z9,Z9];rfl),λn hn=>Xk (ZO g.low hn) _ _ _,λn t=>Sd _ _ _ _ _ _,λG=>XP ..⟩
  ·show Xp G b _=_
   unfold Xp
   rw[e,g.at_]
   show ZX (Nat.ble 1 r.size) _=_
   rw[Zm (by omega)];rfl
  ·refine⟨H.put b (.row ⟨r.elem,r.sz,r.size,r.cells,r.dflt,cond (Nat.ble r.fz (Nat.add 0 l.length)) (Nat.add 0 l.length) r.fz,r.sm,r.own,r.exact⟩),?_,Below.put hb⟩
   show cond (Nat.beq l.length 0) _ (ZX (Nat.ble l.length 140737488355328) (Xp H b _))=_
   rw[Yu,Zb (by omega),Zm hl]
   unfold Xp
   rw[g.at_]
   show ZX (Nat.beq r.elem 5) (ZX (cond r.sm false (H.may r b)) (ZX (Nat.ble (0+l.length) r.size) (R7 _ (WO r 0 l.length))))=_
   have RI:H.may r b=true:=by unfold Heap.may;rw[g.own,Zm g.ro];rfl
   rw[g.elem,g.sm,RI,Zm (by omega),g.cells.load (by rw[Zi];omega),Z6,ZB (by rw[Zi];omega),Lq]
   rfl
namespace T
variable {α:Type}
theorem F6(x:α)(l:T α)(v:Option α)(r:T α)(bs:List Bool):setB x (node l v r) (true::bs)=node (setB x l bs) v r:=rfl
theorem F4(x:α)(l:T α)(v:Option α)(r:T α)(bs:List Bool):setB x (node l v r) (false::bs)=node l v (setB x r bs):=rfl
theorem zQ(x:α)(bs:List Bool):setB x leaf bs=single x bs:=rfl
theorem v8(x:α)(bs:List Bool):single x (true::bs)=node (single x bs) none leaf:=rfl
theorem v7(x:α)(bs:List Bool):single x (false::bs)=node leaf none (single x bs):=rfl
theorem KS(x y:α): ∀bs:List Bool,setB y (single x bs) bs=single y bs
 |[]=>rfl
 |true::bs=>by rw[v8,F6,KS x y bs,v8]
 |false::bs=>by rw[v7,F4,KS x y bs,v7]
theorem F5(x y:α): ∀(t:T α) (bs:List Bool),setB y (setB x t bs) bs=setB y t bs
 |leaf,bs=>by rw[zQ,KS,zQ]
 |node l v r,[]=>rfl
 |node l v r,true::bs=>by rw[F6,F6,F6,F5 x y l bs]
 |node l v r,false::bs=>by rw[F4,F4,F4,F5 x y r bs]
theorem set_set(t:T α)(n:Nat)(x y:α):(t.set n x).set n y=t.set n y:=F5 x y t (bits n)
theorem OQ(a b:α)(l:List α):SL (a::b::l)=a::SL l:=by simp[SL]
theorem Bc: ∀(l:List α) (i:Nat) (v:α),SL (l.set (2*i) v)=(SL l).set i v
 |[],_,_=>by simp[SL]
 |[a],0,_=>by simp[SL]
 |[a],i+1,v=>by
  rw[show 2*(i+1)=2*i+1+1 by omega];simp[SL]
 |a::b::l,0,v=>by simp[SL]
 |a::b::l,i+1,v=>by
  rw[show 2*(i+1)=2*i+1+1 by omega,XU,XU,OQ,OQ,Bc l i v,XU]
theorem M7: ∀(l:List α) (i:Nat) (v:α),SL (l.set (2*i+1) v)=SL l
 |[],_,_=>by simp[SL]
 |[a],i,_=>by simp[SL]
 |a::b::l,0,v=>by simp[SL]
 |a::b::l,i+1,v=>by
  rw[show 2*(i+1)+1=(2*i+1)+1+1 by omega,XU,XU,OQ,OQ,M7 l i v]
theorem uw(l:List α)(i:Nat)(v:α):(l.set (i+1) v).tail=l.tail.set i v:=by cases l<;>rfl
theorem lG(l:List α)(v:α):(l.set 0 v).tail=l.tail:=by cases l<;>rfl
theorem Gw(l:List α):(SL l).length=(l.length+1)/2:=by
 have: ∀(n:Nat) (l:List α),l.length<=n->(SL l).length=(l.length+1)/2:=by
  intro n
  induction n with
  |zero=>intro l h;cases l with|nil=>simp[SL]|cons=>simp at h
  |succ n ih=>
   intro l h
   match l,h with
   |[],_=>simp[SL]
   |[a],_=>simp[SL]
   |a::b::l,h=>
    rw[OQ,Zh,ih l (by simp at h;omega)]
    simp only[Zh];omega
 exact this _ l (Zl _)
theorem Gx(f:Nat)(x:α)(l:List α):Rt (f+1) (x::l)=node (Rt f (SL l)) (some x) (Rt f (SL l.tail)):=rfl
theorem v4: ∀(f:Nat) (l:List α) (i:Nat) (v:α),l.length<=f->i<l.length->(Rt f l).set i v=Rt f (l.set i v):=by
 intro f
 induction f with
 |zero=>intro l i v h hi;omega
 |succ f ih=>
  intro l i v h hi
  cases l with
  |nil=>cases hi
  |cons x l=>
   rw[Gx]
   by_cases h0:i=0
   ·subst h0;rfl
   ·obtain⟨j,rfl⟩: ∃j,i=j+1:=⟨i - 1,by omega⟩
    rw[XU,Gx]
    simp only[Zh] at h hi
    unfold set
    by_cases h1:(j+1) % 2=1
    ·obtain⟨m,rfl⟩: ∃m,j=2*m:=⟨j/2,by omega⟩
     rw[we h1,F6,show(2*m+1)/2=m by omega]
     have:=ih (SL l) m v (by rw[Gw];omega) (by rw[Gw];omega)
     unfold set at this
     rw[this,Bc]
     cases m with
     |zero=>rw[lG]
     |succ m=>rw[show 2*(m+1)=2*m+1+1 by omega,uw,M7]
    ·obtain⟨m,rfl⟩: ∃m,j=2*m+1:=⟨j/2,by omega⟩
     rw[Au (by omega) (by omega),F4,show(2*m+1+1)/2 - 1=m by omega]
     have:=ih (SL l.tail) m v (by rw[Gw,List.length_tail];omega) (by rw[Gw,List.length_tail];omega)
     unfold set at this
     rw[this,M7,uw,Bc]
theorem set_ofList{l:List α}{i:Nat}(v:α)(h:i<l.length):(ofList l).set i v=ofList (l.set i v):=by
 unfold ofList
 rw[y4,y4,Xv]
 exact v4 _ l i v (Zl _) h
end T
def lay(l:List AV):Nat->List AV->List AV
 |_,[]=>l
 |o,v::vs=>lay (l.set o v) (o+1) vs
theorem yZ: ∀(l:List AV) (o:Nat) (vs:List AV),(lay l o vs).length=l.length
 |_,_,[]=>rfl
 |l,o,v::vs=>by
  show(lay (l.set o v) (o+1) vs).length=_
  rw[yZ,Xv]
theorem BP: ∀(l:List AV) (o:Nat) (vs:List AV),o+vs.length<=l.length->Wg (T.ofList l) o vs=T.ofList (lay l o vs)
 |_,_,[],_=>rfl
 |l,o,v::vs,h=>by
  simp only[Zh] at h
  show Wg ((T.ofList l).set o v) (o+1) vs=T.ofList (lay (l.set o v) (o+1) vs)
  rw[T.set_ofList v (by omega),BP (l.set o v) (o+1) vs (by rw[Xv];omega)]
theorem CX: ∀(l:List AV) (o:Nat) (vs:List AV),o+vs.length<=l.length->lay l o vs=l.take o++(vs++l.drop (o+vs.length))
 |l,o,[],h=>by show l=_;simp
 |l,o,v::vs,h=>by
  simp only[Zh] at h
  show lay (l.set o v) (o+1) vs=_
  rw[CX (l.set o v) (o+1) vs (by rw[Xv];omega),List.set_eq_take_append_cons_drop,if_pos (by omega)]
  have e1:(l.take o++v::l.drop (o+1)).take (o+1)=l.take o++[v]:=by
   rw[List.take_append,ZB (by rw[ZP];omega),ZP,Vi (by omega),show o+1 - o=1 by omega];rfl
  have e2:(l.take o++v::l.drop (o+1)).drop (o+1+vs.length)=l.drop (o+(v::vs).length):=by
   rw[List.drop_append,Uu (by rw[ZP];omega),Xs,ZP,Vi (by omega),show o+1+vs.length - o=vs.length+1 by omega,WS,SZ,Zh]
   congr 1;omega
  rw[e1,e2];simp
section
def rG(e sz:Nat)(l:List AV)(fz:Nat)(sm own ex:Bool):Obj:=.row ⟨e,sz,YF l,T.ofList l,.unk,fz,sm,own,ex⟩
theorem IQ(e sz:Nat)(l:List AV)(fz:Nat)(sm own ex:Bool)(i:Nat):Row.get ⟨e,sz,YF l,T.ofList l,.unk,fz,sm,own,ex⟩ i=l.getD i .unk:=by
 rw[Row.get_eq]
 show((T.ofList l).get i).getD .unk=_
 rw[T.get_ofList,Za]
theorem vN(e sz:Nat)(l:List AV)(fz:Nat)(sm own ex:Bool):Cells ⟨e,sz,YF l,T.ofList l,.unk,fz,sm,own,ex⟩ l:=Cells.new ..
def ld1(x:Option Obj)(o:Nat)(H:Heap):OR:=match x with|some (.row r)=>ZX (Nat.ble (Nat.succ o) r.size) (.val (r.get o) H)|_=>.fail
theorem Mh(b o:Nat)(H:Heap):OM (.ptr b o) H=ld1 (H.t.get b) o H:=rfl
theorem Z2{o:Nat}{l:List AV}(h:o<l.length)(e sz fz:Nat)(sm own ex:Bool)(H:Heap):ld1 (some (rG e sz l fz sm own ex)) o H=.val (l.getD o .unk) H:=by
 show ZX (Nat.ble (Nat.succ o) (YF l)) (.val (Row.get ⟨e,sz,YF l,T.ofList l,.unk,fz,sm,own,ex⟩ o) H)=_
 rw[Yw,Zm (show Nat.succ o<=l.length from h)]
 show OR.val (Row.get ⟨e,sz,l.length,T.ofList l,.unk,fz,sm,own,ex⟩ o) H=_
 rw[<-Yw,IQ]
def ldN(n:Nat)(x:Option Obj)(o:Nat)(H:Heap):OR:=match x with|some (.row r)=>ZX (Nat.ble (Nat.add o n) r.size) (.val (.agg (WO r o n)) H)|_=>.fail
theorem il(n b o:Nat)(H:Heap):zj n (.ptr b o) H=ldN n (H.t.get b) o H:=rfl
theorem X8{n o:Nat}{l:List AV}(h:o+n<=l.length)(e sz fz:Nat)(sm own ex:Bool)(H:Heap):ldN n (some (rG e sz l fz sm own ex)) o H=.val (.agg ((l.drop o).take n)) H:=by
 show ZX (Nat.ble (o+n) (YF l)) (.val (.agg (WO ⟨e,sz,YF l,T.ofList l,.unk,fz,sm,own,ex⟩ o n)) H)=_
 rw[(vN e sz l fz sm own ex).load h,Yw,Zm h];rfl
def rK(n:Nat)(x:Option Obj)(b o:Nat)(v:AV)(H:Heap):OR:=match x with
 |some (.row r)=>ZX (Nat.ble 1 n)<|ZX (H.may r b) (ZX (Nat.ble (Nat.add o n) r.size) (ZX (Nat.ble r.fz o) (ZX (Nat.beq (YF v.cells) n) (.val Xl (H.put b (.row (r.setCells (Wg r.cells o v.cells))))))))
 |_=>.fail
theorem lB(n b o:Nat)(v:AV)(H:Heap):xJ n (.ptr b o) v H=rK n (H.t.get b) b o v H:=rfl
theorem rL{n b o:Nat}{l:List AV}{v:AV}{H:Heap}{fz:Nat}(hn:1<=n)(hv:v.cells.length=n)(ho:o+n<=l.length)(hro:H.ro<=b)(hfz:fz<=o)(e sz:Nat)(sm ex:Bool):
  rK n (some (rG e sz l fz sm true ex)) b o v H=.val Xl (H.put b (rG e sz (lay l o v.cells) fz sm true ex)):=by
 show ZX (Nat.ble 1 n) (ZX (cond true (Nat.ble H.ro b) false) (ZX (Nat.ble (o+n) (YF l)) (ZX (Nat.ble fz o) (ZX (Nat.beq (YF v.cells) n) (.val Xl (H.put b (.row ⟨e,sz,YF l,Wg (T.ofList l) o v.cells,.unk,fz,sm,true,ex⟩)))))))=_
 rw[Zm hn,Zm hro,Yw,Zm ho,Zm hfz,Yw,hv,Z9,BP l o v.cells (by omega)]
 unfold rG
 rw[Yw,yZ];rfl
theorem Lk{b o:Nat}{l:List AV}{v:AV}{H:Heap}{fz:Nat}(hv:v.cells=[v])(ho:o<l.length)(hro:H.ro<=b)(hfz:fz<=o)(e sz:Nat)(sm ex:Bool):
  rK 1 (some (rG e sz l fz sm true ex)) b o v H=.val Xl (H.put b (rG e sz (l.set o v) fz sm true ex)):=by
 rw[rL (Zl 1) (by rw[hv];rfl) ho hro hfz,hv];rfl
theorem Y1(H:Heap)(b:Nat)(o:Obj):(H.put b o).t.get b=some o:=by rw[Lb,if_pos rfl]
theorem YT{b c:Nat}(h: ¬b=c)(H:Heap)(o:Obj):(H.put b o).t.get c=H.t.get c:=by rw[Lb,if_neg h]
theorem Zx{H:Heap}{c:Nat}(h:H.nx=c)(o:Obj):(H.new o).t.get c=some o:=by rw[Pz,if_pos h]
theorem YV{H:Heap}{c:Nat}(h: ¬H.nx=c)(o:Obj):(H.new o).t.get c=H.t.get c:=by rw[Pz,if_neg h]
theorem xw(H:Heap)(b:Nat)(o o':Obj):(H.put b o).put b o'=H.put b o':=by
 unfold Heap.put;simp only[T.set_set]
theorem SU{H:Heap}{b:Nat}(h:H.nx=b)(o o':Obj):(H.new o).put b o'=H.new o':=by
 subst h;unfold Heap.put Heap.new;simp only[T.set_set]
theorem UN(H:Heap)(e sz:Nat)(l:List AV)(ex:Bool):H.newRow e sz l ex=H.new (rG e sz l 0 false true ex):=rfl
theorem TZ(e:Nat)(c:AV)(cs:List AV)(tm:TM)(H:Heap):WK e (c::cs) tm H=.val (.ptr H.nx 0) (H.new (rG e 1 (c::cs) 0 false true true)):=by
 rw[sI _ _ (by rw[Yw];simp)];rfl
def Fk(e:Nat)(a:AV)(H:Heap):OR:=ZX (Nat.ble 1 (YF a.cells))<|.val (.ptr H.nx 0) (H.newRow e 1 a.cells true)
theorem WP(x:Ye)(e:Nat)(tm:TM)(H:Heap):U3 x e tm H=Fk e (x tm) H:=rfl
theorem qr{a:AV}{l:List AV}(h:a.cells=l)(h1:1<=l.length)(e:Nat)(H:Heap):Fk e a H=.val (.ptr H.nx 0) (H.new (rG e 1 l 0 false true true)):=by
 subst h
 show ZX (Nat.ble 1 (YF a.cells)) _=_
 rw[Yw,Zm h1];rfl
theorem D5(l:List AV):(AV.agg l).cells=l:=rfl
theorem YU{l:List AV}(h1:1<=l.length)(e:Nat)(H:Heap):Fk e (.agg l) H=.val (.ptr H.nx 0) (H.new (rG e 1 l 0 false true true)):=qr (D5 l) h1 e H
theorem DO{a:AV}(h:a.cells=[a])(e:Nat)(H:Heap):Fk e a H=.val (.ptr H.nx 0) (H.new (rG e 1 [a] 0 false true true)):=qr h (Zl 1) e H
theorem D6(b:Bool):(AV.bool b).cells=[.bool b]:=rfl
theorem Fv(k:IntKind)(n:Int):(AV.int k n).cells=[.int k n]:=rfl
theorem wq(k:IntKind)(n:Nat):(nI k n).cells=[nI k n]:=rfl
theorem AE(x:UInt8):(XM x).cells=[XM x]:=rfl
theorem NY(s:List UInt8):(AV.str s).cells=[.str s]:=rfl
theorem D9:AV.nilp.cells=[.nilp]:=rfl
theorem AD(b o:Nat):(AV.ptr b o).cells=[.ptr b o]:=rfl
theorem Ca:AV.nils.cells=[.nils]:=rfl
theorem Es(b o n:Nat)(c:Option Nat):(AV.slice b o n c).cells=[.slice b o n c]:=rfl
theorem AC(b:Nat):(AV.map b).cells=[.map b]:=rfl
theorem D7(f:Nat)(a b:List AV):(AV.func f a b).cells=[.func f a b]:=rfl
theorem Er(t:Nat)(v:AV):(AV.iface t v).cells=[.iface t v]:=rfl
theorem D8:AV.nili.cells=[.nili]:=rfl
theorem AB(l:List AV):(AV.agg l).cells=l:=rfl
theorem YK{a:TM->Heap->X->Wd}{x:X}(I:Nat->TM->Heap->Prop)(Q:Out->TM->Heap->Prop)
  (step: ∀m tm H,I m tm H-> ∃o tm' H',a tm H x=.ok o tm' H' x∧((o=.normal∧ ∃k,k<m∧I k tm' H')∨(o≠.normal∧Q o tm' H'))):
  ∀(F m:Nat) (tm:TM) (H:Heap),m<F->I m tm H-> ∃o tm' H',XQ a F tm H x=.ok o tm' H' x∧o≠.normal∧Q o tm' H'
 |0,m,_,_,h,_=>by omega
 |F+1,m,tm,H,h,hi=>by
  obtain⟨o,tm',H',h1,h2⟩:=step m tm H hi
  rcases h2 with⟨rfl,k,hk,h3⟩|⟨h2,h3⟩
  ·obtain⟨o2,fL,H2,e,h4,h5⟩:=YK I Q step F k tm' H' (by omega) h3
   refine⟨o2,fL,H2,?_,h4,h5⟩
   show RC (a tm H x) (XQ a F)=_
   rw[h1];exact e
  ·refine⟨o,tm',H',?_,h2,h3⟩
   show RC (a tm H x) (XQ a F)=_
   rw[h1]
   cases o with
   |normal=>exact absurd rfl h2
   |_=>rfl
theorem YA{a:TM->Heap->X->Wd}{F:Nat}{H:Heap}{x:X}{L:Wd}{P:TM->Prop}{Q:Out->TM->Heap->Prop}(lp: ∀T,P T-> ∃o tm' H',XQ a F T H x=.ok o tm' H' x∧o≠.normal∧Q o tm' H'){T:TM}(hL:XQ a F T H x=L)(hi:P T):
  ∃o tm' H',L=.ok o tm' H' x∧o≠.normal∧Q o tm' H':=by
 obtain⟨o,b,c,e,j⟩:=lp T hi
 exact⟨o,b,c,hL.symm.trans e,j⟩
end
theorem ZC:(∀(f:W7) (dst:ZS) (next:D) (c:Ctx) (tm:TM) (H:Heap) (x:X),Zc f dst next c tm H x=Ph (next c) dst c tm H x (f tm H))∧(∀(next:TM->Heap->X->Wd) (dst:ZS) (c:Ctx) (tm:TM) (H:Heap) (x:X) (v:AV) (H':Heap),Ph next dst c tm H x (.val v H')=next (dst tm v) H' x)∧(∀(next:TM->Heap->X->Wd) (dst:ZS) (c:Ctx) (tm:TM) (H:Heap) (x:X) (f:Nat) (args:List AV) (H':Heap),Ph next dst c tm H x (.oth (.call f args H'))=Da next dst tm x (c.call f args H'))∧(∀(next:TM->Heap->X->Wd) (dst:ZS) (tm:TM) (x:X) (v:AV) (H:Heap),Da next dst tm x (.ret v H)=next (dst tm v) H x)∧(∀(a b:D) (c:Ctx) (tm:TM) (H:Heap) (x:X),Zj a b c tm H x=RC (a c tm H x) (b c))∧(∀(tm:TM) (H:Heap) (x:X) (k:TM->Heap->X->Wd),RC (.ok .normal tm H x) k=k tm H x)∧(∀(tm:TM) (H:Heap) (x:X) (k:TM->Heap->X->Wd),RC (.ok .ret tm H x) k=.ok .ret tm H x)∧(∀(i:Nat) (tm:TM) (H:Heap) (x:X) (k:TM->Heap->X->Wd),RC (.ok (.exit i) tm H x) k=.ok (.exit i) tm H x)∧(∀(c:Ctx) (tm:TM) (H:Heap) (x:X),Zd c tm H x=.ok .normal tm H x)∧(∀(c:Ctx) (tm:TM) (H:Heap) (x:X),Yv c tm H x=.ok .ret tm H x)∧(∀(i:Nat) (c:Ctx) (tm:TM) (H:Heap) (x:X),We i c tm H x=.ok (.exit i) tm H x)∧(∀(q:Ye) (a b:D) (c:Ctx) (tm:TM) (H:Heap) (x:X),Z3 q a b c tm H x=yU (q tm) λv=>Ho (a c) (b c) v tm H x)∧(∀(b:Bool) (k:Bool->Wd),yU (.bool b) k=k b)∧(∀(a b:TM->Heap->X->Wd) (tm:TM) (H:Heap) (x:X),Ho a b true tm H x=a tm H x)∧(∀(a b:TM->Heap->X->Wd) (tm:TM) (H:Heap) (x:X),Ho a b false tm H x=b tm H x)∧(∀(i:Nat) (a:D) (c:Ctx) (tm:TM) (H:Heap) (x:X),Yf i a c tm H x=QF i (a c tm H x))∧(∀(a:D) (c:Ctx) (tm:TM) (H:Heap) (x:X),Wj a c tm H x=XQ (a c) c.fuel tm H x)∧(∀(i:Nat) (tm:TM) (H:Heap) (x:X),QF i (.ok .normal tm H x)=.ok .normal tm H x)∧(∀(i:Nat) (tm:TM) (H:Heap) (x:X),QF i (.ok (.exit i) tm H x)=.ok .normal tm H x)∧(∀(i:Nat) (tm:TM) (H:Heap) (x:X),QF i (.ok .ret tm H x)=.ok .ret tm H x)∧(∀(tm:TM) (v:AV),d0 tm v=tm)∧(∀(v:AV) (tm:TM),k v tm=v)∧(∀(tm:TM),evs tm []=[])∧(∀(tm:TM) (f:Ye) (l:List Ye),evs tm (f::l)=f tm::evs tm l)∧(∀(x:Ye) (tm:TM) (H:Heap),Z0 x tm H=.val (x tm) H)∧(∀(x:Ye) (tm:TM) (H:Heap),iK x tm H=ba (x tm) H)∧(∀(x:Ye) (k:IntKind) (tm:TM) (H:Heap),Qv x k tm H=Gb k (x tm) H)∧(∀(x y:Ye) (tm:TM) (H:Heap),Yk x y tm H=E5 (x tm) (y tm) H)∧(∀(x y:Ye) (tm:TM) (H:Heap),WX x y tm H=az (x tm) (y tm) H)∧(∀(x y:Ye) (tm:TM) (H:Heap),M5 x y tm H=cZ (x tm) (y tm) H)∧(∀(x y:Ye) (tm:TM) (H:Heap),M6 x y tm H=mQ (x tm) (y tm) H)∧(∀(x y:Ye) (tm:TM) (H:Heap),Gu x y tm H=fc (x tm) (y tm) H)∧(∀(x y:Ye) (f:Nat->Nat->Nat->Nat) (tm:TM) (H:Heap),TN x y f tm H=DM f (x tm) (y tm) H)∧(∀(x y:Ye) (tm:TM) (H:Heap),FR x y tm H=ZcM (x tm) (y tm) H)∧(∀(x y:Ye) (tm:TM) (H:Heap),Ai x y tm H=rx (x tm) (y tm) H)∧(∀(x:Ye) (tm:TM) (H:Heap),iV x tm H=ZaO (x tm) H)∧(∀(x y:Ye) (f:Int->Int->Bool) (g:List UInt8->List UInt8->Bool) (tm:TM) (H:Heap),YE x y f g tm H=Pb f g (x tm) (y tm) H)∧(∀(x y:Ye) (f:AV->AV->Option Bool) (neg:Bool) (tm:TM) (H:Heap),UQ x y f neg tm H=Fd f neg (x tm) (y tm) H)∧(∀(x:Ye) (tm:TM) (H:Heap),QY x tm H=bh (x tm) H)∧(∀(x y z:Ye) (tm:TM) (H:Heap),YN x y z tm H=zu (x tm) (y tm) (z tm) H)∧(∀(f:Nat) (args:List Ye) (tm:TM) (H:Heap),ZI f args tm H=.oth (.call f (evs tm args) H))∧(∀(yes no:Wd),Uz (.bool true) true yes no=yes)∧(∀(yes no:Wd),Uz (.bool false) true yes no=no)∧(∀(yes no:Wd),Uz (.bool false) false yes no=yes)∧(∀(yes no:Wd),Uz (.bool true) false yes no=no)∧(∀(g:Ye) (b:Bool) (f:W7) (dst:ZS) (next:D) (c:Ctx) (tm:TM) (H:Heap) (x:X),Ya g b f dst next c tm H x=Uz (g tm) b (Ph (next c) dst c tm H x (f tm H)) (next c (dst tm Xl) H x))∧(∀(n:Nat) (l:List AV),Xm n (.agg l)=U7 n l)∧(∀(n:Nat),Xm n Xl=true)∧(∀(n:Nat) (s:List UInt8),Xm n (.str s)=true)∧(∀(n:Nat) (k:IntKind) (m:Nat),Xm n (nI k m)=true)∧(∀(n:Nat) (x:UInt32),Xm n (Hb x)=true)∧(∀(n:Nat) (x:UInt8),Xm n (XM x)=true)∧(∀(n:Nat) (x:Bool),Xm n (.bool x)=true)∧(∀(sz:Nat) (x:Ye) (lo hi:Option Ye) (tm:TM) (H:Heap),FT sz x lo hi none tm H=Bx sz (x tm) (lo.map λf=>f tm) (hi.map λf=>f tm) H)∧(∀(mx:Bool) (args:List Ye) (tm:TM) (H:Heap),QJ mx args tm H=Zce mx (evs tm args) H)∧(∀(zs:List AV) (ps:List ya) (tm:TM) (H:Heap),Vw zs ps tm H=Qd zs (ps.map λp=>(p.off,p.sz,p.x tm)) H)∧(∀(e sz n:Nat) (zs:List AV) (ps:List ya) (tm:TM) (H:Heap),X7 e sz n zs ps tm H=Wa e sz n zs (ps.map λp=>(p.off,p.sz,p.x tm)) H)∧(∀(x y:Ye) (e sz bytes:Nat) (tm:TM) (H:Heap),VF x y e sz bytes tm H=Vb e sz bytes (x tm) (y tm) H)∧(∀(x y:Ye) (sz:Nat) (tm:TM) (H:Heap),pq x y sz tm H=kT sz (x tm) (y tm) H)∧(∀(n sz:Nat) (x:Ye) (lo hi:Option Ye) (tm:TM) (H:Heap),FS n sz x lo hi none tm H=Bv n sz (x tm) (lo.map λf=>f tm) (hi.map λf=>f tm) H)∧(∀(x:Ye) (tm:TM) (H:Heap),TO x tm H=q8 (x tm) H)∧(∀(x y:Ye) (tm:TM) (H:Heap),Y9 x y tm H=R5 (x tm) (y tm) H)∧(∀(x:Ye) (lo hi:Option Ye) (tm:TM) (H:Heap),UA x lo hi none tm H=Lh (x tm) (lo.map λf=>f tm) (hi.map λf=>f tm) H)∧(∀(x:Ye) (i:Nat) (tm:TM) (H:Heap),XR x i tm H=Ez i (x tm) H)∧(∀(b c:AV) (H:Heap),zu (.bool true) b c H=.val b H)∧(∀(b c:AV) (H:Heap),zu (.bool false) b c H=.val c H)∧(∀(b:Bool) (H:Heap),bh (.bool b) H=.val (.bool (cond b false true)) H)∧(∀(x:Ye) (tm:TM) (H:Heap),ZM x tm H=OM (x tm) H)∧(∀(x:Ye) (n:Nat) (tm:TM) (H:Heap),YX x n tm H=zj n (x tm) H)∧(∀(x y:Ye) (n:Nat) (tm:TM) (H:Heap),YY x y n tm H=xJ n (x tm) (y tm) H)∧(∀(x:Ye) (n:Nat) (tm:TM) (H:Heap),Yx x n tm H=bC n (x tm) H)∧(∀(x y:Ye) (n sz:Nat) (tm:TM) (H:Heap),KD x y n sz tm H=qU n sz (x tm) (y tm) H)∧(∀(x y:Ye) (sz:Nat) (tm:TM) (H:Heap),YM x y sz tm H=EJ sz (x tm) (y tm) H)∧(∀(x:Ye) (tm:TM) (H:Heap),Mk x tm H=bc (x tm) H)∧(∀(x:Ye) (tm:TM) (H:Heap),X9 x tm H=RV (x tm) H)∧(∀(e n:Nat) (v:AV) (tm:TM) (H:Heap),Gt e n v tm H=.val (.ptr H.nx 0) (H.new (.row ⟨e,1,n,.leaf,v,0,false,true,true⟩)))∧(∀(x:Ye) (e:Nat) (tm:TM) (H:Heap),U3 x e tm H=Fk e (x tm) H)∧(∀(e:Nat) (c:AV) (cs:List AV) (tm:TM) (H:Heap),WK e (c::cs) tm H=.val (.ptr H.nx 0) (H.new (rG e 1 (c::cs) 0 false true true)))∧(∀(n b o:Nat) (H:Heap),bC n (.ptr b o) H=.val (.ptr b (o+n)) H)∧(∀(b o:Nat) (H:Heap),bc (.ptr b o) H=.val (.ptr b o) H)∧(∀(b o n:Nat) (c:Option Nat) (H:Heap),RV (.slice b o n c) H=.val (nI .i64 n) H)∧(∀(H:Heap),RV .slice0 H=.val (nI .i64 0) H)∧(∀(H:Heap),RV .nils H=.val (nI .i64 0) H)∧(∀(H:Heap) (b:Nat) (o:Obj),(H.put b o).nx=H.nx)∧(∀(H:Heap) (b:Nat) (o:Obj),(H.put b o).ro=H.ro)∧(∀(H:Heap) (o:Obj),(H.new o).nx=H.nx+1)∧(∀(H:Heap) (o:Obj),(H.new o).ro=H.ro)∧(∀(H:Heap) (b:Nat) (o:Obj),(H.put b o).t.get b=some o)∧(∀(H:Heap) (b:Nat) (o o':Obj),(H.put b o).put b o'=H.put b o')∧(∀(H:Heap) (e sz:Nat) (l:List AV) (ex:Bool),H.newRow e sz l ex=H.new (rG e sz l 0 false true ex))∧(∀(b o:Nat) (H:Heap),OM (.ptr b o) H=ld1 (H.t.get b) o H)∧(∀(n b o:Nat) (H:Heap),zj n (.ptr b o) H=ldN n (H.t.get b) o H)∧(∀(n b o:Nat) (v:AV) (H:Heap),xJ n (.ptr b o) v H=rK n (H.t.get b) b o v H)∧(∀(b:Bool),(AV.bool b).cells=[.bool b])∧(∀(k:IntKind) (n:Int),(AV.int k n).cells=[.int k n])∧(∀(k:IntKind) (n:Nat),(nI k n).cells=[nI k n])∧(∀(x:UInt8),(XM x).cells=[XM x])∧(∀(s:List UInt8),(AV.str s).cells=[.str s])∧(AV.nilp.cells=[.nilp])∧(∀(b o:Nat),(AV.ptr b o).cells=[.ptr b o])∧(AV.nils.cells=[.nils])∧(∀(b o n:Nat) (c:Option Nat),(AV.slice b o n c).cells=[.slice b o n c])∧(∀(b:Nat),(AV.map b).cells=[.map b])∧(∀(f:Nat) (a b:List AV),(AV.func f a b).cells=[.func f a b])∧(∀(t:Nat) (v:AV),(AV.iface t v).cells=[.iface t v])∧(AV.nili.cells=[.nili])∧(∀(l:List AV),(AV.agg l).cells=l)∧(∀(l:List PI) (c:Ctx) (tm:TM) (H:Heap) (x:X),Xt l c tm H x=VP (l.map (·.dst)) Kz l c [] tm H x)∧(∀(ds:List ZS) (fin:PK) (c:Ctx) (rs:List RD) (tm:TM) (H:Heap) (x:X),VP ds fin [] c rs tm H x=cond (still tm H rs) (fin rs tm H x) .fail)∧(∀(ds:List ZS) (fin:PK) (p:PI) (l:List PI) (c:Ctx) (rs:List RD) (tm:TM) (H:Heap) (x:X),VP ds fin (p::l) c rs tm H x=Sv ds p (VP ds fin l c) c rs tm H x)∧(∀(rs:List RD) (tm:TM) (H:Heap) (x:X),Kz rs tm H x=.ok .normal tm H x)∧(∀(ds:List ZS) (f:W7) (os:List (ZS×Ye)) (dst:ZS) (i bef:Nat) (nx:PK) (c:Ctx) (rs:List RD) (tm:TM) (H:Heap) (x:X),Sv ds ⟨f,none,os,dst,.free,i,bef⟩ nx c rs tm H x=cond (RA H.nx tm os) (L6 ⟨f,none,os,dst,.free,i,bef⟩ nx rs tm H x (f (RL tm os) ⟨H.nx,.leaf,H.nx⟩)) .fail)∧(∀(ds:List ZS) (f:W7) (os:List (ZS×Ye)) (dst:ZS) (i bef:Nat) (nx:PK) (c:Ctx) (rs:List RD) (tm:TM) (H:Heap) (x:X),Sv ds ⟨f,none,os,dst,.read,i,bef⟩ nx c rs tm H x=GG ⟨f,none,os,dst,.read,i,bef⟩ nx rs tm H x (f (RL tm os) ⟨H.nx,H.t,H.nx⟩))∧(∀(ds:List ZS) (f:W7) (os:List (ZS×Ye)) (dst:ZS) (i bef:Nat) (nx:PK) (c:Ctx) (rs:List RD) (tm:TM) (H:Heap) (x:X),Sv ds ⟨f,none,os,dst,.eff,i,bef⟩ nx c rs tm H x=cond (still tm H rs) (Hw ds ⟨f,none,os,dst,.eff,i,bef⟩ nx rs c tm x (f (RL tm os) H)) .fail)∧(∀(ds:List ZS) (f:W7) (e:Ye) (b:Bool) (os:List (ZS×Ye)) (dst:ZS) (i bef:Nat) (nx:PK) (c:Ctx) (rs:List RD) (tm:TM) (H:Heap) (x:X),Sv ds ⟨f,some (e,b),os,dst,.free,i,bef⟩ nx c rs tm H x=Uz (e tm) b (cond (RA H.nx tm os) (L6 ⟨f,some (e,b),os,dst,.free,i,bef⟩ nx rs tm H x (f (RL tm os) ⟨H.nx,.leaf,H.nx⟩)) .fail) (nx rs (dst tm Xl) H x))∧(∀(ds:List ZS) (f:W7) (e:Ye) (b:Bool) (os:List (ZS×Ye)) (dst:ZS) (i bef:Nat) (nx:PK) (c:Ctx) (rs:List RD) (tm:TM) (H:Heap) (x:X),Sv ds ⟨f,some (e,b),os,dst,.read,i,bef⟩ nx c rs tm H x=Uz (e tm) b (GG ⟨f,some (e,b),os,dst,.read,i,bef⟩ nx rs tm H x (f (RL tm os) ⟨H.nx,H.t,H.nx⟩)) (nx rs (dst tm Xl) H x))∧(∀(ds:List ZS) (f:W7) (e:Ye) (b:Bool) (os:List (ZS×Ye)) (dst:ZS) (i bef:Nat) (nx:PK) (c:Ctx) (rs:List RD) (tm:TM) (H:Heap) (x:X),Sv ds ⟨f,some (e,b),os,dst,.eff,i,bef⟩ nx c rs tm H x=cond (still tm H rs) (Uz (e tm) b (Hw ds ⟨f,some (e,b),os,dst,.eff,i,bef⟩ nx rs c tm x (f (RL tm os) H)) (nx (Uk bef rs) (dst tm Xl) H x)) .fail)∧(∀(ds:List ZS) (f:W7) (os:List (ZS×Ye)) (dst:ZS) (i bef:Nat) (nx:PK) (c:Ctx) (rs:List RD) (tm:TM) (x:X) (g:Option (Ye×Bool)) (kd:If) (v:AV) (H':Heap),Hw ds ⟨f,g,os,dst,kd,i,bef⟩ nx rs c tm x (.val v H')=nx (Uk bef rs) (dst tm v) H' x)∧(∀(ds:List ZS) (f:W7) (os:List (ZS×Ye)) (dst:ZS) (i bef:Nat) (nx:PK) (c:Ctx) (rs:List RD) (tm:TM) (x:X) (g:Option (Ye×Bool)) (kd:If) (H':Heap) (q:Nat) (args:List AV),Hw ds ⟨f,g,os,dst,kd,i,bef⟩ nx rs c tm x (.oth (.call q args H'))=Bo ds ⟨f,g,os,dst,kd,i,bef⟩ nx rs tm x (c.call q args H'))∧(∀(ds:List ZS) (f:W7) (os:List (ZS×Ye)) (dst:ZS) (i bef:Nat) (nx:PK) (rs:List RD) (tm:TM) (x:X) (g:Option (Ye×Bool)) (kd:If) (v:AV) (H':Heap),Bo ds ⟨f,g,os,dst,kd,i,bef⟩ nx rs tm x (.ret v H')=nx (Uk bef rs) (dst tm v) H' x)∧(∀(b:Nat),Uk b []=[])∧(∀(f:W7) (os:List (ZS×Ye)) (dst:ZS) (i bef:Nat) (rs:List RD) (g:Option (Ye×Bool)) (kd:If) (v:AV) (b:Nat),Uk b (⟨⟨f,g,os,dst,kd,i,bef⟩,v⟩::rs)=cond (Nat.testBit b i) (Uk b rs) (⟨⟨f,g,os,dst,kd,i,bef⟩,v⟩::Uk b rs))∧(∀(tm:TM) (H:Heap),still tm H []=true)∧(∀(f:W7) (os:List (ZS×Ye)) (dst:ZS) (i bef:Nat) (rs:List RD) (tm:TM) (H:Heap) (g:Option (Ye×Bool)) (kd:If) (v:AV),still tm H (⟨⟨f,g,os,dst,kd,i,bef⟩,v⟩::rs)=cond (vO ⟨⟨f,g,os,dst,kd,i,bef⟩,v⟩ tm H) (still tm H rs) false)∧(∀(f:W7) (os:List (ZS×Ye)) (dst:ZS) (i bef:Nat) (tm:TM) (H:Heap) (g:Option (Ye×Bool)) (kd:If) (v:AV),vO ⟨⟨f,g,os,dst,kd,i,bef⟩,v⟩ tm H=Vv (f (RL tm os) ⟨H.nx,H.t,H.nx⟩) v H.nx)∧(∀(v:UInt32) (n:Nat) (t:T Obj),Vv (.val (Hb v) ⟨n,t,n⟩) (Hb v) n=true)∧(∀(v:UInt8) (n:Nat) (t:T Obj),Vv (.val (XM v) ⟨n,t,n⟩) (XM v) n=true)∧(∀(k:IntKind) (v:Nat) (n:Nat) (t:T Obj),Vv (.val (nI k v) ⟨n,t,n⟩) (nI k v) n=true)∧(∀(s:List UInt8) (n:Nat) (t:T Obj),Vv (.val (.str s) ⟨n,t,n⟩) (.str s) n=true)∧(∀(n:Nat) (t:T Obj),Vv (.val .nils ⟨n,t,n⟩) .nils n=true)∧(∀(b o n:Nat) (c:Option Nat) (k:Nat) (t:T Obj),Vv (.val (.slice b o n c) ⟨k,t,k⟩) (.slice b o n c) k=true)∧(∀(n:Nat) (tm:TM),RA n tm []=true)∧(∀(n:Nat) (tm:TM) (s:ZS) (g:Ye) (os:List (ZS×Ye)),RA n tm ((s,g)::os)=cond (Xm n (g tm)) (RA n tm os) false)∧(∀(tm:TM),RL tm []=ML)∧(∀(tm:TM) (s:ZS) (g:Ye) (os:List (ZS×Ye)),RL tm ((s,g)::os)=s (RL tm os) (g tm))∧(∀(a:AV) (l:List AV) (H:Heap),Ez 0 (.tup (a::l)) H=.val a H)∧(∀(a b:AV) (l:List AV) (H:Heap),Ez 1 (.tup (a::b::l)) H=.val b H)∧(∀(a b c:AV) (l:List AV) (H:Heap),Ez 2 (.tup (a::b::c::l)) H=.val c H)∧(∀(dc:Option AV->Nat->List AV->Heap->DR) (rs:List (Ye×Option (Nat×Bool))) (tm:TM) (H:Heap) (rc:Option AV),M9 dc rs (.ok .ret tm H ⟨[],rc⟩)=results rs tm H)∧(∀(dc:Option AV->Nat->List AV->Heap->DR) (rs:List (Ye×Option (Nat×Bool))) (tm:TM) (H:Heap) (rc:Option AV),M9 dc rs (.ok .normal tm H ⟨[],rc⟩)=results rs tm H)∧(∀(f:Ye) (tm:TM) (H:Heap),results [(f,none)] tm H=.ret (f tm) H)∧(∀(tm:TM) (H:Heap),results [] tm H=.ret (.tup []) H)∧(∀(a b:UInt32) (H:Heap),E5 (Hb a) (Hb b) H=.val (Hb (a+b)) H)∧(TI []=ML)∧(∀(a:AV),TI [a]=st0 ML a)∧(∀(a b:AV),TI [a,b]=st1 (st0 ML a) b)∧(∀(a b c:AV),TI [a,b,c]=st2 (st1 (st0 ML a) b) c)∧(∀(a b c d:AV),TI [a,b,c,d]=Vk (st2 (st1 (st0 ML a) b) c) d)∧(∀(a b:List UInt8) (H:Heap),Fd Nc false (.str a) (.str b) H=.val (.bool (decide (a=b))) H)∧(∀(a b:List UInt8) (H:Heap),Fd Nc true (.str a) (.str b) H=.val (.bool (!decide (a=b))) H)∧(∀(a b:Bool) (H:Heap),Fd uJ false (.bool a) (.bool b) H=.val (.bool (decide (a=b))) H)∧(∀(k:IntKind) (a b:Nat) (H:Heap),Pb XC Yn (nI k a) (nI k b) H=.val (.bool (decide (a<b))) H)∧(∀(k:IntKind) (a b:Nat) (H:Heap),Pb SK Vd (nI k a) (nI k b) H=.val (.bool (decide (b<=a))) H)∧(∀(k:IntKind) (a b:Nat) (H:Heap),Pb Sq VS (nI k a) (nI k b) H=.val (.bool (decide (b<a))) H)∧(∀(k:IntKind) (a b:Nat) (H:Heap),Pb Jz Og (nI k a) (nI k b) H=.val (.bool (decide (a<=b))) H)∧(∀(k:IntKind) (a b:Nat) (H:Heap),Fd Sn false (nI k a) (nI k b) H=.val (.bool (decide (a=b))) H)∧(∀(k:IntKind) (a b:Nat) (H:Heap),Fd Sn true (nI k a) (nI k b) H=.val (.bool (decide (a≠b))) H)∧(∀(s:List UInt8) (H:Heap),q8 (.str s) H=.val (nI .i64 s.length) H)∧(∀(x:Ye) (tm:TM) (H:Heap),zo x tm H=gL (x tm) H)∧(∀(x:Ye) (u n:Nat) (tm:TM) (H:Heap),zm x u n tm H=gK u n (x tm) H)∧(∀(x:Ye) (tm:TM) (H:Heap),Ds x tm H=DB (x tm) H)∧(∀(x y:Ye) (e:Nat) (tm:TM) (H:Heap),pu x y e tm H=pW e (x tm) (y tm) H):=⟨@fB, @jw, @oS, @Bg, @fy, @UD, @lI, @rW, @nJ, @fe, @oE, @ou, @ng, @tg, @wz, @uT, @nB, @Ag, @Tk, @sd, @Zbi, @ZfI, @dP, @jj, @bz, @iL, @iH, @nL, @iU, @iJ, @iP, @iQ, @nM, @iS, @iT, @ma, @iG, @bp, @iN, @nZ, @sK, @o7, @oY, @oW, @oZ, @fA, @it, @sy, @Gi, @cS, @iz, @cT, @nD, @Ba, @KE, @Tt, @YS, @VO, @nO, @sO, @nW, @vE, @sP, @nQ, @bV, @bU, @Rc, @sL, @Y8, @sQ, @iO, @nR, @nS, @iM, @nV, @EQ, @WP, @TZ, @iZ, @iD, @XP, @vg, @OL, @ri, @gS, @IM, @iC, @Y1, @xw, @UN, @Mh, @il, @lB, @D6, @Fv, @wq, @AE, @NY, @D9, @AD, @Ca, @Es, @AC, @D7, @Er, @D8, @AB, @tk, @mJ, @re, @nK, @rN, @rO, @lu, @ul, @um, @rM, @kY, @oC, @fh, @nm, @tW, @lz, @rP, @gZ, @tR, @nj, @zb, @tQ, @PP, @Sd, @nC, @sq, @ak, @fk, @dQ, @dR, @dS, @gG, @vL, @vS, @xD, @eP, @eX, @eY, @eZ, @dh, @di, @Tq, @VV, @qx, @ZH, @Xb, @Yi, @X6, @YD, @P3, @Y7, @zp, @zn, @KG, @FU⟩
theorem ZY:(∀{α:Type} (f:α->α) (n:N8 α),N8.a0 (N8.u0 f n)=f (N8.a0 n))∧(∀{α:Type} (f:α->α) (n:N8 α),N8.a0 (N8.u1 f n)=N8.a0 n)∧(∀{α:Type} (f:α->α) (n:N8 α),N8.a0 (N8.u2 f n)=N8.a0 n)∧(∀{α:Type} (f:α->α) (n:N8 α),N8.a0 (N8.u3 f n)=N8.a0 n)∧(∀{α:Type} (f:α->α) (n:N8 α),N8.a0 (N8.u4 f n)=N8.a0 n)∧(∀{α:Type} (f:α->α) (n:N8 α),N8.a0 (N8.u5 f n)=N8.a0 n)∧(∀{α:Type} (f:α->α) (n:N8 α),N8.a0 (N8.u6 f n)=N8.a0 n)∧(∀{α:Type} (f:α->α) (n:N8 α),N8.a0 (N8.u7 f n)=N8.a0 n)∧(∀{α:Type} (f:α->α) (n:N8 α),N8.a1 (N8.u0 f n)=N8.a1 n)∧(∀{α:Type} (f:α->α) (n:N8 α),N8.a1 (N8.u1 f n)=f (N8.a1 n))∧(∀{α:Type} (f:α->α) (n:N8 α),N8.a1 (N8.u2 f n)=N8.a1 n)∧(∀{α:Type} (f:α->α) (n:N8 α),N8.a1 (N8.u3 f n)=N8.a1 n)∧(∀{α:Type} (f:α->α) (n:N8 α),N8.a1 (N8.u4 f n)=N8.a1 n)∧(∀{α:Type} (f:α->α) (n:N8 α),N8.a1 (N8.u5 f n)=N8.a1 n)∧(∀{α:Type} (f:α->α) (n:N8 α),N8.a1 (N8.u6 f n)=N8.a1 n)∧(∀{α:Type} (f:α->α) (n:N8 α),N8.a1 (N8.u7 f n)=N8.a1 n)∧(∀{α:Type} (f:α->α) (n:N8 α),N8.a2 (N8.u0 f n)=N8.a2 n)∧(∀{α:Type} (f:α->α) (n:N8 α),N8.a2 (N8.u1 f n)=N8.a2 n)∧(∀{α:Type} (f:α->α) (n:N8 α),N8.a2 (N8.u2 f n)=f (N8.a2 n))∧(∀{α:Type} (f:α->α) (n:N8 α),N8.a2 (N8.u3 f n)=N8.a2 n)∧(∀{α:Type} (f:α->α) (n:N8 α),N8.a2 (N8.u4 f n)=N8.a2 n)∧(∀{α:Type} (f:α->α) (n:N8 α),N8.a2 (N8.u5 f n)=N8.a2 n)∧(∀{α:Type} (f:α->α) (n:N8 α),N8.a2 (N8.u6 f n)=N8.a2 n)∧(∀{α:Type} (f:α->α) (n:N8 α),N8.a2 (N8.u7 f n)=N8.a2 n)∧(∀{α:Type} (f:α->α) (n:N8 α),N8.a3 (N8.u0 f n)=N8.a3 n)∧(∀{α:Type} (f:α->α) (n:N8 α),N8.a3 (N8.u1 f n)=N8.a3 n)∧(∀{α:Type} (f:α->α) (n:N8 α),N8.a3 (N8.u2 f n)=N8.a3 n)∧(∀{α:Type} (f:α->α) (n:N8 α),N8.a3 (N8.u3 f n)=f (N8.a3 n))∧(∀{α:Type} (f:α->α) (n:N8 α),N8.a3 (N8.u4 f n)=N8.a3 n)∧(∀{α:Type} (f:α->α) (n:N8 α),N8.a3 (N8.u5 f n)=N8.a3 n)∧(∀{α:Type} (f:α->α) (n:N8 α),N8.a3 (N8.u6 f n)=N8.a3 n)∧(∀{α:Type} (f:α->α) (n:N8 α),N8.a3 (N8.u7 f n)=N8.a3 n)∧(∀{α:Type} (f:α->α) (n:N8 α),N8.a4 (N8.u0 f n)=N8.a4 n)∧(∀{α:Type} (f:α->α) (n:N8 α),N8.a4 (N8.u1 f n)=N8.a4 n)∧(∀{α:Type} (f:α->α) (n:N8 α),N8.a4 (N8.u2 f n)=N8.a4 n)∧(∀{α:Type} (f:α->α) (n:N8 α),N8.a4 (N8.u3 f n)=N8.a4 n)∧(∀{α:Type} (f:α->α) (n:N8 α),N8.a4 (N8.u4 f n)=f (N8.a4 n))∧(∀{α:Type} (f:α->α) (n:N8 α),N8.a4 (N8.u5 f n)=N8.a4 n)∧(∀{α:Type} (f:α->α) (n:N8 α),N8.a4 (N8.u6 f n)=N8.a4 n)∧(∀{α:Type} (f:α->α) (n:N8 α),N8.a4 (N8.u7 f n)=N8.a4 n)∧(∀{α:Type} (f:α->α) (n:N8 α),N8.a5 (N8.u0 f n)=N8.a5 n)∧(∀{α:Type} (f:α->α) (n:N8 α),N8.a5 (N8.u1 f n)=N8.a5 n)∧(∀{α:Type} (f:α->α) (n:N8 α),N8.a5 (N8.u2 f n)=N8.a5 n)∧(∀{α:Type} (f:α->α) (n:N8 α),N8.a5 (N8.u3 f n)=N8.a5 n)∧(∀{α:Type} (f:α->α) (n:N8 α),N8.a5 (N8.u4 f n)=N8.a5 n)∧(∀{α:Type} (f:α->α) (n:N8 α),N8.a5 (N8.u5 f n)=f (N8.a5 n))∧(∀{α:Type} (f:α->α) (n:N8 α),N8.a5 (N8.u6 f n)=N8.a5 n)∧(∀{α:Type} (f:α->α) (n:N8 α),N8.a5 (N8.u7 f n)=N8.a5 n)∧(∀{α:Type} (f:α->α) (n:N8 α),N8.a6 (N8.u0 f n)=N8.a6 n)∧(∀{α:Type} (f:α->α) (n:N8 α),N8.a6 (N8.u1 f n)=N8.a6 n)∧(∀{α:Type} (f:α->α) (n:N8 α),N8.a6 (N8.u2 f n)=N8.a6 n)∧(∀{α:Type} (f:α->α) (n:N8 α),N8.a6 (N8.u3 f n)=N8.a6 n)∧(∀{α:Type} (f:α->α) (n:N8 α),N8.a6 (N8.u4 f n)=N8.a6 n)∧(∀{α:Type} (f:α->α) (n:N8 α),N8.a6 (N8.u5 f n)=N8.a6 n)∧(∀{α:Type} (f:α->α) (n:N8 α),N8.a6 (N8.u6 f n)=f (N8.a6 n))∧(∀{α:Type} (f:α->α) (n:N8 α),N8.a6 (N8.u7 f n)=N8.a6 n)∧(∀{α:Type} (f:α->α) (n:N8 α),N8.a7 (N8.u0 f n)=N8.a7 n)∧(∀{α:Type} (f:α->α) (n:N8 α),N8.a7 (N8.u1 f n)=N8.a7 n)∧(∀{α:Type} (f:α->α) (n:N8 α),N8.a7 (N8.u2 f n)=N8.a7 n)∧(∀{α:Type} (f:α->α) (n:N8 α),N8.a7 (N8.u3 f n)=N8.a7 n)∧(∀{α:Type} (f:α->α) (n:N8 α),N8.a7 (N8.u4 f n)=N8.a7 n)∧(∀{α:Type} (f:α->α) (n:N8 α),N8.a7 (N8.u5 f n)=N8.a7 n)∧(∀{α:Type} (f:α->α) (n:N8 α),N8.a7 (N8.u6 f n)=N8.a7 n)∧(∀{α:Type} (f:α->α) (n:N8 α),N8.a7 (N8.u7 f n)=f (N8.a7 n)):=⟨@N8.g00, @N8.g01, @N8.g02, @N8.g03, @N8.g04, @N8.g05, @N8.g06, @N8.g07, @N8.g10, @N8.g11, @N8.g12, @N8.g13, @N8.g14, @N8.g15, @N8.g16, @N8.g17, @N8.g20, @N8.g21, @N8.g22, @N8.g23, @N8.g24, @N8.g25, @N8.g26, @N8.g27, @N8.g30, @N8.g31, @N8.g32, @N8.g33, @N8.g34, @N8.g35, @N8.g36, @N8.g37, @N8.g40, @N8.g41, @N8.g42, @N8.g43, @N8.g44, @N8.g45, @N8.g46, @N8.g47, @N8.g50, @N8.g51, @N8.g52, @N8.g53, @N8.g54, @N8.g55, @N8.g56, @N8.g57, @N8.g60, @N8.g61, @N8.g62, @N8.g63, @N8.g64, @N8.g65, @N8.g66, @N8.g67, @N8.g70, @N8.g71, @N8.g72, @N8.g73, @N8.g74, @N8.g75, @N8.g76, @N8.g77⟩
theorem ZcV(x:UInt8):XM x=nI .u8 x.toNat:=rfl
theorem PO{j:IntKind}{a:Nat}(h:a<9223372036854775808)(H:Heap):Gb .i64 (nI j a) H=.val (nI .i64 a) H:=by
 show UP .i64 (.ofNat a) H=_
 rw[XY,MI h];rfl
theorem lh{j:IntKind}{a b:Nat}(h:b<64)(H:Heap):rx (nI .i64 a) (nI j b) H=.val (nI .i64 (a/2^b)) H:=by
 show Pg (.ofNat (Nat.div a (Nat.pow 2 (Kw b 64)))) (λn=>OR.val (.int .i64 n) H)=_
 have:Kw b 64=b:=by unfold Kw;rw[Zm (by omega)];rfl
 rw[Qn,this];rfl
theorem x7{a b:Nat}(h:a+b<18446744073709551616)(H:Heap):E5 (nI .u64 a) (nI .u64 b) H=.val (nI .u64 (a+b)) H:=by
 show ZX (P0 .u64 .u64) (UP .u64 (CP (.ofNat a) (.ofNat b)) H)=_
 rw[XI,XY,Km,PZ,Z7 h];rfl
theorem Re{a b:Nat}(h:0<b)(h2:a<18446744073709551616)(H:Heap):mQ (nI .u64 a) (nI .u64 b) H=.val (nI .u64 (a/b)) H:=by
 show ZX (P0 .u64 .u64) (cond (E8 (.ofNat b) (.ofNat 0)) .fail (UP .u64 (.ofNat (Nat.div a b)) H))=_
 rw[XI,Om,Zb (by omega),XY,show(Int.ofNat (Nat.div a b))=Int.ofNat (a/b) from rfl,PZ,Z7 (Tb (S1 a b) h2)];rfl
theorem Rg{a b:Nat}(h:0<b)(H:Heap):fc (nI .u64 a) (nI .u64 b) H=.val (nI .u64 (a % b)) H:=by
 show ZX (P0 .u64 .u64) (cond (E8 (.ofNat b) (.ofNat 0)) .fail (Pg (.ofNat (Nat.mod a b)) λn=>.val (.int .u64 n) H))=_
 rw[XI,Om,Zb (by omega),Qn];rfl
theorem CU{j:IntKind}{a:Nat}(h:a<18446744073709551616)(H:Heap):Gb .u64 (nI j a) H=.val (nI .u64 a) H:=by
 show UP .u64 (.ofNat a) H=_
 rw[XY,PZ,Z7 h];rfl
theorem Pv{j:IntKind}{a b:Nat}(h:b<64)(H:Heap):rx (nI .u64 a) (nI j b) H=.val (nI .u64 (a/2^b)) H:=by
 show Pg (.ofNat (Nat.div a (Nat.pow 2 (Kw b 64)))) (λn=>OR.val (.int .u64 n) H)=_
 have:Kw b 64=b:=by unfold Kw;rw[Zm (by omega)];rfl
 rw[Qn,this];rfl
theorem m9{j:IntKind}{a b:Nat}(h:b<=64)(H:Heap):ZcM (nI .u64 a) (nI j b) H=.val (nI .u64 (a*2^b % 18446744073709551616)) H:=by
 show UP .u64 (yT (.ofNat a) (.ofNat (Nat.pow 2 (cond (Nat.ble b 64) b 64)))) H=_
 rw[XY,CS,PZ,Zm h];rfl
theorem V0{a b:Nat}(h:a+b<4294967296)(H:Heap):E5 (nI .u32 a) (nI .u32 b) H=.val (nI .u32 (a+b)) H:=by
 show ZX (P0 .u32 .u32) (UP .u32 (CP (.ofNat a) (.ofNat b)) H)=_
 rw[XI,XY,Km,K6,Z7 h];rfl
theorem RX{a b:Nat}(h:a*b<4294967296)(H:Heap):cZ (nI .u32 a) (nI .u32 b) H=.val (nI .u32 (a*b)) H:=by
 show ZX (P0 .u32 .u32) (UP .u32 (yT (.ofNat a) (.ofNat b)) H)=_
 rw[XI,XY,CS,K6,Z7 h];rfl
theorem RY{a b:Nat}(h:0<b)(h2:a<4294967296)(H:Heap):mQ (nI .u32 a) (nI .u32 b) H=.val (nI .u32 (a/b)) H:=by
 show ZX (P0 .u32 .u32) (cond (E8 (.ofNat b) (.ofNat 0)) .fail (UP .u32 (.ofNat (Nat.div a b)) H))=_
 rw[XI,Om,Zb (by omega),XY,show(Int.ofNat (Nat.div a b))=Int.ofNat (a/b) from rfl,K6,Z7 (Tb (S1 a b) h2)];rfl
theorem RZ{a b:Nat}(h:0<b)(H:Heap):fc (nI .u32 a) (nI .u32 b) H=.val (nI .u32 (a % b)) H:=by
 show ZX (P0 .u32 .u32) (cond (E8 (.ofNat b) (.ofNat 0)) .fail (Pg (.ofNat (Nat.mod a b)) λn=>.val (.int .u32 n) H))=_
 rw[XI,Om,Zb (by omega),Qn];rfl
theorem RU{j:IntKind}{a:Nat}(h:a<4294967296)(H:Heap):Gb .u32 (nI j a) H=.val (nI .u32 a) H:=by
 show UP .u32 (.ofNat a) H=_
 rw[XY,K6,Z7 h];rfl
theorem yg{a b:Nat}(h:a+b<256)(H:Heap):E5 (nI .u8 a) (nI .u8 b) H=.val (nI .u8 (a+b)) H:=by
 show ZX (P0 .u8 .u8) (UP .u8 (CP (.ofNat a) (.ofNat b)) H)=_
 rw[XI,XY,Km,Jt,Z7 h];rfl
theorem pB{a b:Nat}(h:0<b)(h2:a<256)(H:Heap):mQ (nI .u8 a) (nI .u8 b) H=.val (nI .u8 (a/b)) H:=by
 show ZX (P0 .u8 .u8) (cond (E8 (.ofNat b) (.ofNat 0)) .fail (UP .u8 (.ofNat (Nat.div a b)) H))=_
 rw[XI,Om,Zb (by omega),XY,show(Int.ofNat (Nat.div a b))=Int.ofNat (a/b) from rfl,Jt,Z7 (Tb (S1 a b) h2)];rfl
theorem pC{a b:Nat}(h:0<b)(H:Heap):fc (nI .u8 a) (nI .u8 b) H=.val (nI .u8 (a % b)) H:=by
 show ZX (P0 .u8 .u8) (cond (E8 (.ofNat b) (.ofNat 0)) .fail (Pg (.ofNat (Nat.mod a b)) λn=>.val (.int .u8 n) H))=_
 rw[XI,Om,Zb (by omega),Qn];rfl
theorem QD{j:IntKind}{a:Nat}(h:a<256)(H:Heap):Gb .u8 (nI j a) H=.val (nI .u8 a) H:=by
 show UP .u8 (.ofNat a) H=_
 rw[XY,Jt,Z7 h];rfl
theorem v5{j:IntKind}{a b:Nat}(h:b<8)(H:Heap):rx (nI .u8 a) (nI j b) H=.val (nI .u8 (a/2^b)) H:=by
 show Pg (.ofNat (Nat.div a (Nat.pow 2 (Kw b 8)))) (λn=>OR.val (.int .u8 n) H)=_
 have:Kw b 8=b:=by unfold Kw;rw[Zm (by omega)];rfl
 rw[Qn,this];rfl
theorem Nj(j:IntKind)(a:Nat)(H:Heap):Gb .u8 (nI j a) H=.val (nI .u8 (a % 256)) H:=by
 show UP .u8 (.ofNat a) H=_
 rw[XY,Jt];rfl
theorem Do(k:IntKind)(m b:Nat)(H:Heap):Pb XC Yn (.int k (.negSucc m)) (nI k b) H=.val (.bool true) H:=by
 show ZX (P0 k k) (SV true H)=_
 rw[XI];rfl
theorem y2(k:IntKind)(m b:Nat)(H:Heap):Pb Jz Og (nI k b) (.int k (.negSucc m)) H=.val (.bool false) H:=by
 show ZX (P0 k k) (SV (!tL (.negSucc m) (.ofNat b)) H)=_
 rw[XI];rfl
theorem Zbs(k:IntKind)(a b:Int)(H:Heap):Fd Sn false (.int k a) (.int k b) H=.val (.bool (decide (a=b))) H:=by
 show Tu (cond (P0 k k) (some (E8 a b)) none) (λb=>SV (cond false (cond b false true) b) H)=_
 rw[XI,OJ]
 exact SC _ _
theorem z7(n:Int):IntKind.u64.wrap n=n % 18446744073709551616:=by
 unfold IntKind.wrap
 simp[IntKind.bits,IntKind.signed]
theorem z6{z:Int}(h1: -9223372036854775808<=z)(h2:z<9223372036854775808):IntKind.i64.wrap z=z:=by
 unfold IntKind.wrap
 simp[IntKind.bits,IntKind.signed]
 omega
theorem Gc(k j:IntKind)(n:Int)(H:Heap):Gb k (.int j n) H=UP k n H:=rfl
theorem IJ{m:Nat}(h:m<9223372036854775808)(H:Heap):Gb .u64 (.int .i64 (.negSucc m)) H=.val (nI .u64 (18446744073709551615 - m)) H:=by
 have e1:IntKind.u64.wrap (.negSucc m)=Int.ofNat (18446744073709551615 - m):=by
  rw[Int.negSucc_eq,z7,Yy]
  omega
 rw[Gc,XY,e1];unfold nI;rfl
theorem C5{u:Nat}(h0:0<u)(h:u<18446744073709551616)(H:Heap):ba (nI .u64 u) H=.val (nI .u64 (18446744073709551616 - u)) H:=by
 show UP .u64 (CV 0 (.ofNat u)) H=_
 rw[XY]
 congr 2
 have e:CV 0 (.ofNat u)= -(u:Int):=by
  show cond (Nat.ble u 0) (Int.ofNat (Nat.sub 0 u)) (Int.ofNat 0 - Int.ofNat u)=_
  cases hb:Nat.ble u 0 with
  |true=>have:=Z1 hb;omega
  |false=>show(0:Int) - u=_;omega
 rw[e,z7,Yy]
 omega
theorem Ox{s:List UInt8}{p q:Nat}(h1:p<=q)(h2:q<=s.length)(k j:IntKind)(H:Heap):Lh (.str s) (some (nI k p)) (some (nI j q)) H=.val (.str ((s.take q).drop p)) H:=by
 show ZX (Nat.ble q (YF s)) (ZX (Nat.ble p q) (OR.val (.str (JK p (LL q s))) H))=_
 rw[Yw,Zm h2,Zm h1,OZ,Hu];rfl
theorem Tv{s:List UInt8}{p:Nat}(h1:p<=s.length)(k:IntKind)(H:Heap):Lh (.str s) (some (nI k p)) none H=.val (.str (s.drop p)) H:=by
 show ZX (Nat.ble p (YF s)) (OR.val (.str (JK p (LL (YF s) s))) H)=_
 rw[Yw,Zm h1,OZ,Hu,UJ];rfl
theorem TK{s:List UInt8}{i:Nat}(h:i<s.length)(k:IntKind)(H:Heap):R5 (.str s) (nI k i) H=.val (nI .u8 (s.getD i 0).toNat) H:=II h k H
section
variable (f:W7) (os:List (ZS×Ye)) (dst:ZS) (i bef:Nat) (nx:PK) (rs:List RD) (tm:TM) (H:Heap) (x:X) (g:Option (Ye×Bool)) (kd:If) (v:AV)
theorem Zr{m:Nat}(h:H.nx=m):L6 ⟨f,g,os,dst,kd,i,bef⟩ nx rs tm H x (.val v ⟨m,.leaf,m⟩)=nx rs (dst tm v) H x:=by subst h;exact oK ..
theorem Zt{m:Nat}(h:H.nx=m)(t:T Obj)(k:Nat):GG ⟨f,g,os,dst,kd,i,bef⟩ nx rs tm H x (.val v ⟨m,t,k⟩)=nx (⟨⟨f,g,os,dst,kd,i,bef⟩,v⟩::rs) (dst tm v) H x:=by
 subst h
 show cond (Nat.beq H.nx H.nx) _ _=_
 rw[Z9];rfl
theorem ZA{m:Nat}(h:H.nx=m)(o:Obj)(hw:wrO o=true):L6 ⟨f,g,os,dst,kd,i,bef⟩ nx rs tm H x (.val v ((⟨m,.leaf,m⟩:Heap).new o))=nx rs (dst tm v) (H.new o) x:=by subst h;exact oJ _ _ _ _ _ _ _ _ _ _ _ _ _ _ hw
end
theorem fZ(e sz:Nat)(l:List AV)(fz:Nat)(sm ex:Bool):wrO (rG e sz l fz sm true ex)=true:=rfl
def Row.st(r:Row)(o:Nat)(v:AV):Row:=r.setCells (r.cells.set o v)
theorem Row.st_size(r:Row)(o:Nat)(v:AV):(r.st o v).size=r.size:=rfl
theorem Row.st_own(r:Row)(o:Nat)(v:AV):(r.st o v).own=r.own:=rfl
theorem Row.st_fz(r:Row)(o:Nat)(v:AV):(r.st o v).fz=r.fz:=rfl
theorem Row.st_get(r:Row)(o:Nat)(v:AV)(i:Nat):(r.st o v).get i=if o=i then v else r.get i:=by
 rw[Row.get_eq,Row.get_eq]
 show((r.cells.set o v).get i).getD r.dflt=_
 rw[T.get_set]
 split<;>rfl
theorem M2{r:Row}{o:Nat}(h:o<r.size)(H:Heap):ld1 (some (.row r)) o H=.val (r.get o) H:=by
 show ZX (Nat.ble (Nat.succ o) r.size) (.val (r.get o) H)=_
 rw[Zm (show Nat.succ o<=r.size from h)];rfl
theorem Rx{r:Row}{b o:Nat}{v:AV}{H:Heap}(hv:v.cells=[v])(ho:o<r.size)(how:r.own=true)(hro:H.ro<=b)(hfz:r.fz<=o):rK 1 (some (.row r)) b o v H=.val Xl (H.put b (.row (r.st o v))):=by
 show ZX (Nat.ble 1 1) (ZX (cond r.own (Nat.ble H.ro b) false) (ZX (Nat.ble (o+1) r.size) (ZX (Nat.ble r.fz o) (ZX (Nat.beq (YF v.cells) 1) (.val Xl (H.put b (.row (r.setCells (Wg r.cells o v.cells)))))))))=_
 rw[how,cond_true,Zm hro,Zm (show o+1<=r.size from ho),Zm hfz,hv];rfl
def Ry(a:AV)(H:Heap):OR:=bM a (.val (.str []) H)<|U0 a (.val (.str []) H) λb o n _=>cond (Nat.beq n 0) (.val (.str []) H) (Xp H b λr=>ZX (Nat.ble (Nat.add o n) r.size) (R7 (λs=>.val (.str s) H) (WO r o n)))
theorem Gv(x:Ye)(tm:TM)(H:Heap):KF x tm H=Ry (x tm) H:=rfl
theorem K2{H:Heap}{b o n:Nat}{c:Option Nat}{r:Row}{l:List UInt8}(hr:H.t.get b=some (.row r))(hl:l.length=n)(hf:o+n<=r.size)(hg: ∀i,i<n->r.get (o+i)=XM (l.getD i 0)):Ry (.slice b o n c) H=.val (.str l) H:=by
 subst hl
 by_cases h0:l.length=0
 ·have:l=[]:=YW.1 h0
  subst this;rfl
 ·show cond (Nat.beq l.length 0) _ (Xp H b _)=_
  rw[Yu,Zb h0]
  show Xp H b _=_
  unfold Xp
  rw[hr]
  show ZX (Nat.ble (o+l.length) r.size) (R7 _ (WO r o l.length))=_
  have:WO r o l.length=l.map XM:=by
   refine X4 λi=>?_
   by_cases hi:i<l.length
   ·rw[SB r l.length o i hi,hg i hi,Yh,Zg hi,Za,Zg hi];rfl
   ·rw[YB (by rw[Se];omega),YB (by rw[Zi];omega)]
  rw[Zm hf,this,Lq];rfl
def yp(e:Nat)(a:AV)(H:Heap):OR:=Oe a λs=>.val (.slice H.nx 0 (YF s) none) (H.new (.row ⟨e,1,YF s,T.ofList (Gj s),.unk,0,true,true,false⟩))
theorem nN(x:Ye)(e:Nat)(tm:TM)(H:Heap):KC x e tm H=yp e (x tm) H:=rfl
theorem Q8(e:Nat)(s:List UInt8)(H:Heap):yp e (.str s) H=.val (.slice H.nx 0 s.length none) (H.new (rG e 1 (s.map XM) 0 true true false)):=by
 show OR.val (.slice H.nx 0 (YF s) none) (H.new (.row ⟨e,1,YF s,T.ofList (Gj s),.unk,0,true,true,false⟩))=_
 have:Gj s=s.map XM:=by rw[Dp];rfl
 unfold rG
 rw[this,Yw,Yw,Zi]
theorem nU(x:Ye)(t:Nat)(tm:TM)(H:Heap):UX x t tm H=.val (.iface t (x tm)) H:=rfl
theorem PT(f:Nat)(a b:List Ye)(tm:TM)(H:Heap):LC f a b tm H=.val (.func f (evs tm a) (evs tm b)) H:=rfl
def wo(P:Program)(a:AV)(args:List AV)(H:Heap):OR:=match a with
 |.func f x y=>.oth (.call f (x++(args++y)) H)
 |.meth n r=>QK r .fail λu v=>Gm P n u λg=>.oth (.call g (v::args) H)
 |.yield b=>.oth (.yield b args H)
 |_=>.fail
theorem iF(x:Ye)(P:Program)(args:List Ye)(tm:TM)(H:Heap):Q4 x P args tm H=wo P (x tm) (evs tm args) H:=rfl
theorem Pa(P:Program)(f:Nat)(x y args:List AV)(H:Heap):wo P (.func f x y) args H=.oth (.call f (x++(args++y)) H):=rfl
theorem Zbo(lit:Bool)(g:Nat->AV->AV->Option Bool)(neg:Bool)(t:Nat)(v:AV)(H:Heap):Fd (oD lit g) neg (.iface t v) .nili H=.val (.bool neg) H:=by cases neg<;>rfl
theorem Zbp(g:Nat->AV->AV->Option Bool)(neg:Bool)(H:Heap):Fd (oD true g) neg .nili .nili H=.val (.bool (!neg)) H:=by cases neg<;>rfl
def bN(neg:Bool)(r:Option Bool)(H:Heap):OR:=match r with|some b=>.val (.bool (cond neg (!b) b)) H|none=>.fail
theorem mA(neg b:Bool)(H:Heap):bN neg (some b) H=.val (.bool (cond neg (!b) b)) H:=rfl
theorem Zbn(lit:Bool)(g:Nat->AV->AV->Option Bool)(neg:Bool)(t:Nat)(v w:AV)(H:Heap):Fd (oD lit g) neg (.iface t v) (.iface t w) H=bN neg (g t v w) H:=by
 show Tu (cond (Nat.beq t t) (g t v w) (some false)) _=_
 rw[Z9,cond_true]
 cases g t v w with
 |none=>rfl
 |some b=>
  show SV (cond neg (cond b false true) b) H=_
  rw[SC];cases neg<;>cases b<;>rfl
theorem iq(n:Nat):U7 n []=true:=rfl
theorem W4(n:Nat)(v:AV)(l:List AV):U7 n (v::l)=cond (Xm n v) (U7 n l) false:=rfl
theorem su(n t:Nat)(v:AV):Xm n (.iface t v)=Xm n v:=rfl
theorem iy(n:Nat)(l:List AV):Xm n (.tup l)=U7 n l:=rfl
theorem tP(b o n:Nat)(t:T Obj):Vv (.val (.ptr b o) ⟨n,t,n⟩) (.ptr b o) n=true:=Ur _ _ _ (by unfold same;rw[Z9,Z9];rfl)
theorem nE(n:Nat):Xm n .nili=true:=rfl
theorem nF(n:Nat):Xm n .nils=true:=rfl
theorem iv(n:Nat)(k:IntKind)(z:Int):Xm n (.int k z)=true:=rfl
def MO(t:Nat)(zv:AV)(ok:Bool)(a:AV)(H:Heap):OR:=QK a (RP zv ok H none) λu v=>RP zv ok H (cond (Nat.beq u t) (some v) none)
theorem sJ(x:Ye)(t:Nat)(zv:AV)(ok:Bool)(tm:TM)(H:Heap):PA x t zv ok tm H=MO t zv ok (x tm) H:=rfl
theorem uP(t:Nat)(zv:AV)(H:Heap):MO t zv true .nili H=.val (.tup [zv,.bool false]) H:=rfl
theorem uQ(t:Nat)(zv v:AV)(H:Heap):MO t zv true (.iface t v) H=.val (.tup [v,.bool true]) H:=by
 show RP zv true H (cond (Nat.beq t t) (some v) none)=_
 rw[Z9];rfl
def bO(a:AV)(H:Heap):OR:=QK a .fail λ_ _=>.oth (.pan a H)
theorem nY(x:Ye)(tm:TM)(H:Heap):IN x tm H=bO (x tm) H:=rfl
theorem bP(t:Nat)(v:AV)(H:Heap):bO (.iface t v) H=.oth (.pan (.iface t v) H):=rfl
theorem jv(next:TM->Heap->X->Wd)(dst:ZS)(c:Ctx)(tm:TM)(H:Heap)(x:X)(v:AV)(H':Heap):Ph next dst c tm H x (.oth (.pan v H'))=.ok (.pan v) tm H' x:=rfl
theorem gi(next:TM->Heap->X->Wd)(dst:ZS)(tm:TM)(x:X)(v:AV)(H:Heap):Da next dst tm x (.pan v H)=.ok (.pan v) tm H x:=rfl
theorem lH(v:AV)(tm:TM)(H:Heap)(x:X)(k:TM->Heap->X->Wd):RC (.ok (.pan v) tm H x) k=.ok (.pan v) tm H x:=rfl
theorem tZ(i:Nat)(v:AV)(tm:TM)(H:Heap)(x:X):QF i (.ok (.pan v) tm H x)=.ok (.pan v) tm H x:=rfl
theorem gE(dc:Option AV->Nat->List AV->Heap->DR)(rs:List (Ye×Option (Nat×Bool)))(v:AV)(tm:TM)(H:Heap)(rc:Option AV):M9 dc rs (.ok (.pan v) tm H ⟨[],rc⟩)=.pan v H:=rfl
theorem ff(ds:List ZS)(p:PI)(nx:PK)(rs:List RD)(tm:TM)(x:X)(v:AV)(H:Heap):Bo ds p nx rs tm x (.pan v H)=.ok (.pan v) (Qz tm ds) H x:=rfl
def wF(H:Heap)(vs:List AV):CR:=match vs with|[v]=>.ret v H|vs=>.ret (.tup vs) H
theorem vR(rs:List (Ye×Option (Nat×Bool)))(tm:TM)(H:Heap):results rs tm H=Of tm H (wF H) rs:=rfl
theorem Zbv(H:Heap)(v:AV):wF H [v]=.ret v H:=rfl
theorem Zbu(H:Heap):wF H []=.ret (.tup []) H:=rfl
theorem Zbw(H:Heap)(v w:AV)(l:List AV):wF H (v::w::l)=.ret (.tup (v::w::l)) H:=rfl
theorem mV(tm:TM)(H:Heap)(k:List AV->CR):Of tm H k []=k []:=rfl
def rV(n:Nat)(ag:Bool)(o:Option Obj)(off:Nat)(k:AV->CR):CR:=match o with
 |some (.row r)=>cond (Nat.ble (Nat.add off n) r.size) (cond ag (k (.agg (WO r off n))) (k (r.get off))) .fail
 |_=>.fail
def b9(H:Heap)(a:AV)(n:Nat)(ag:Bool)(k:AV->CR):CR:=match a with
 |.ptr b o=>rV n ag (H.t.get b) o k
 |_=>.fail
theorem fd(H:Heap)(b o n:Nat)(ag:Bool)(k:AV->CR):b9 H (.ptr b o) n ag k=rV n ag (H.t.get b) o k:=rfl
theorem rp(f:Ye)(tm:TM)(H:Heap)(k:List AV->CR)(l:List (Ye×Option (Nat×Bool))):Of tm H k ((f,none)::l)=Of tm H (λvs=>k (f tm::vs)) l:=rfl
theorem rq(f:Ye)(n:Nat)(ag:Bool)(tm:TM)(H:Heap)(k:List AV->CR)(l:List (Ye×Option (Nat×Bool))):Of tm H k ((f,some (n,ag))::l)=b9 H (f tm) n ag (λv=>Of tm H (λvs=>k (v::vs)) l):=rfl
theorem Pr{n e sz:Nat}{l:List AV}{fz:Nat}{sm own ex:Bool}(hn:l.length=n)(k:AV->CR):rV n true (some (rG e sz l fz sm own ex)) 0 k=k (.agg l):=by
 subst hn
 show cond (Nat.ble (0+l.length) (YF l)) (k (.agg (WO ⟨e,sz,YF l,T.ofList l,.unk,fz,sm,own,ex⟩ 0 l.length))) .fail=_
 rw[(vN e sz l fz sm own ex).load (by omega),Z6,UJ,Yw,Zs,Zm (Zl _)];rfl
theorem nP(x:Ye)(args:List Ye)(tm:TM)(H:Heap):C7 x args tm H=.oth (.defer (x tm) (evs tm args)):=rfl
theorem vF(tm:TM)(H:Heap):C9 tm H=.oth .recov:=rfl
theorem tE(next:TM->Heap->X->Wd)(dst:ZS)(cl y rg fu)(tm:TM)(H:Heap)(x:X)(f:Nat)(a b args:List AV):Ph next dst ⟨cl,y,rg,fu,false⟩ tm H x (.oth (.defer (.func f a b) args))=next (dst tm Xl) H ⟨(.func f a b,args)::x.df,x.rc⟩:=rfl
theorem wJ(next:TM->Heap->X->Wd)(dst:ZS)(cl y rg fu)(tm:TM)(H:Heap)(df:List (AV×List AV)):Ph next dst ⟨cl,y,rg,fu,false⟩ tm H ⟨df,none⟩ (.oth .recov)=next (dst tm .nili) H ⟨df,none⟩:=rfl
theorem wK(next:TM->Heap->X->Wd)(dst:ZS)(cl y rg fu)(tm:TM)(H:Heap)(df:List (AV×List AV))(v:AV):Ph next dst ⟨cl,y,rg,fu,false⟩ tm H ⟨df,some v⟩ (.oth .recov)=next (dst tm v) H ⟨df,none⟩:=rfl
theorem mE(dc:Option AV->Nat->List AV->Heap->DR)(rs:List (Ye×Option (Nat×Bool)))(tm:TM)(H:Heap)(d:AV×List AV)(l:List (AV×List AV))(rc:Option AV):M9 dc rs (.ok .ret tm H ⟨d::l,rc⟩)=deferred dc rs tm (d::l) none H:=rfl
theorem mD(dc:Option AV->Nat->List AV->Heap->DR)(rs:List (Ye×Option (Nat×Bool)))(v:AV)(tm:TM)(H:Heap)(d:AV×List AV)(l:List (AV×List AV))(rc:Option AV):M9 dc rs (.ok (.pan v) tm H ⟨d::l,rc⟩)=deferred dc rs tm (d::l) (some v) H:=rfl
def Cg(dc:Option AV->Nat->List AV->Heap->DR)(rs:List (Ye×Option (Nat×Bool)))(tm:TM)(l:List (AV×List AV))(pn:Option AV)(r:DR):CR:=match r with
 |.ret _ H rec=>deferred dc rs tm l (cond rec none pn) H
 |_=>.fail
theorem B8(dc:Option AV->Nat->List AV->Heap->DR)(rs:List (Ye×Option (Nat×Bool)))(tm:TM)(g:Nat)(a b args:List AV)(l:List (AV×List AV))(pn:Option AV)(H:Heap):deferred dc rs tm ((.func g a b,args)::l) pn H=Cg dc rs tm l pn (dc pn g (a++(args++b)) H):=by
 show(match dc pn g (a++(args++b)) H with|.ret _ H rec=>deferred dc rs tm l (cond rec none pn) H|_=>.fail)=_
 unfold Cg
 cases dc pn g (a++(args++b)) H<;>rfl
theorem tj(dc:Option AV->Nat->List AV->Heap->DR)(rs:List (Ye×Option (Nat×Bool)))(tm:TM)(l:List (AV×List AV))(pn:Option AV)(v:AV)(H:Heap)(rec:Bool):Cg dc rs tm l pn (.ret v H rec)=deferred dc rs tm l (cond rec none pn) H:=rfl
theorem yA(dc:Option AV->Nat->List AV->Heap->DR)(rs:List (Ye×Option (Nat×Bool)))(tm:TM)(H:Heap):deferred dc rs tm [] none H=results rs tm H:=rfl
theorem yB(dc:Option AV->Nat->List AV->Heap->DR)(rs:List (Ye×Option (Nat×Bool)))(tm:TM)(v:AV)(H:Heap):deferred dc rs tm [] (some v) H=.pan v H:=rfl
def ZfY{α β:Type}(o:Option α)(d:β)(k:α->β):β:=match o with|some x=>k x|none=>d
theorem mB{α β:Type}(x:α)(d:β)(k:α->β):ZfY (some x) d k=k x:=rfl
def s7(rc:Option AV)(x:X)(r:CR):DR:=match r with|.ret v H=>.ret v H (Ml rc x)|_=>.fail
theorem gD(rc:Option AV)(x:X)(v:AV)(H:Heap):s7 rc x (.ret v H)=.ret v H (Ml rc x):=rfl
theorem ET(rc:Option AV)(rs:List (Ye×Option (Nat×Bool)))(tm:TM)(H:Heap)(q:Option AV):FZ rc rs (.ok .normal tm H ⟨[],q⟩)=s7 rc ⟨[],q⟩ (results rs tm H):=by
 show(match([]:List (AV×List AV)),results rs tm H with|[],.ret v H=>DR.ret v H (Ml rc ⟨[],q⟩)|_,_=>.fail)=_
 unfold s7
 cases results rs tm H<;>rfl
theorem gC(rc:Option AV)(rs:List (Ye×Option (Nat×Bool)))(tm:TM)(H:Heap)(q:Option AV):FZ rc rs (.ok .ret tm H ⟨[],q⟩)=s7 rc ⟨[],q⟩ (results rs tm H):=ET rc rs tm H q
theorem gy(rc:Option AV)(rs:List (Ye×Option (Nat×Bool)))(v:AV)(tm:TM)(H:Heap)(q:Option AV):FZ rc rs (.ok (.pan v) tm H ⟨[],q⟩)=.pan v H (Ml rc ⟨[],q⟩):=rfl
theorem ZcF(v:AV)(l:List (AV×List AV)):Ml (some v) ⟨l,none⟩=true:=rfl
theorem ZcE(x:X):Ml none x=false:=rfl
theorem MN(a b c d e:AV):TI [a,b,c,d,e]=Xz (Vk (st2 (st1 (st0 ML a) b) c) d) e:=rfl
theorem oG(k:List AV->OR)(cells:List AV):Q1 k [] cells=k cells:=rfl
theorem Ck(k:List AV->OR)(o n:Nat)(v:AV)(ps:List (Nat×Nat×AV))(cells:List AV):Q1 k ((o,n,v)::ps) cells=ZX (Nat.ble 1 n) (ZX (Nat.beq (YF v.cells) n) (ZX (Nat.ble (Nat.add o n) (YF cells)) (Q1 k ps (PX o cells++(v.cells++Q0 (Nat.add o n) cells))))):=rfl
theorem ie{cells l:List AV}{o:Nat}(h:o+l.length<=cells.length):PX o cells++(l++Q0 (Nat.add o l.length) cells)=lay cells o l:=by
 rw[CX cells o l h]
 have h1:PX o cells=cells.take o:=O0 ..
 have h2:Q0 (o+l.length) cells=cells.drop (o+l.length):=OE ..
 rw[h1]
 show _++(_++Q0 (o+l.length) cells)=_
 rw[h2]
theorem Cl{k:List AV->OR}{o n:Nat}{v:AV}{l:List AV}{ps:List (Nat×Nat×AV)}{cells:List AV}(hv:v.cells=l)(hl:l.length=n)(hn:1<=n)(h:o+n<=cells.length):Q1 k ((o,n,v)::ps) cells=Q1 k ps (lay cells o l):=by
 subst hv;subst hl
 rw[Ck,Zm hn,Yw,Z9,Yw,Zm (show Nat.add o v.cells.length<=cells.length from h),ie h];rfl
theorem Rr{k:List AV->OR}{o:Nat}{v:AV}{ps:List (Nat×Nat×AV)}{cells:List AV}(hv:v.cells=[v])(h:o<cells.length):Q1 k ((o,1,v)::ps) cells=Q1 k ps (cells.set o v):=Cl hv rfl (Zl 1) h
theorem AK{k:List AV->OR}{o n:Nat}{l:List AV}{ps:List (Nat×Nat×AV)}{cells:List AV}(hl:l.length=n)(hn:1<=n)(h:o+n<=cells.length):Q1 k ((o,n,.agg l)::ps) cells=Q1 k ps (lay cells o l):=Cl rfl hl hn h
theorem cL(l:List AV)(o:Nat):lay l o []=l:=rfl
theorem ic(l:List AV)(o:Nat)(v:AV)(vs:List AV):lay l o (v::vs)=lay (l.set o v) (o+1) vs:=rfl
theorem PG(z:AV)(zs:List AV)(ps:List (Nat×Nat×AV))(H:Heap):Qd (z::zs) ps H=Q1 (λcs=>.val (.agg cs) H) ps (z::zs):=by
 show ZX (Nat.ble 1 (YF (z::zs))) _=_
 rw[Yw,Zm (by simp)];rfl
theorem uU{e sz n:Nat}{zs:List AV}{ps:List (Nat×Nat×AV)}{H:Heap}(h1:1<=sz)(h2:zs.length=n*sz):Wa e sz n zs ps H=Q1 (λcs=>.val (.slice H.nx 0 n none) (H.newRow e sz cs true)) ps zs:=by
 show ZX (Nat.ble 1 sz) (ZX (Nat.beq (YF zs) (Nat.mul n sz)) _)=_
 rw[Zm h1,Yw,h2,show Nat.mul n sz=n*sz from rfl,Z9];rfl
theorem Zz:(∀(x:Ye) (args:List Ye) (tm:TM) (H:Heap),C7 x args tm H=.oth (.defer (x tm) (evs tm args)))∧
 (∀(tm:TM) (H:Heap),C9 tm H=.oth .recov)∧
 (∀(next:TM->Heap->X->Wd) (dst:ZS) (cl y rg fu) (tm:TM) (H:Heap) (x:X) (f:Nat) (a b args:List AV),Ph next dst ⟨cl,y,rg,fu,false⟩ tm H x (.oth (.defer (.func f a b) args))=next (dst tm Xl) H ⟨(.func f a b,args)::x.df,x.rc⟩)∧
 (∀(next:TM->Heap->X->Wd) (dst:ZS) (cl y rg fu) (tm:TM) (H:Heap) (df:List (AV×List AV)),Ph next dst ⟨cl,y,rg,fu,false⟩ tm H ⟨df,none⟩ (.oth .recov)=next (dst tm .nili) H ⟨df,none⟩)∧
 (∀(next:TM->Heap->X->Wd) (dst:ZS) (cl y rg fu) (tm:TM) (H:Heap) (df:List (AV×List AV)) (v:AV),Ph next dst ⟨cl,y,rg,fu,false⟩ tm H ⟨df,some v⟩ (.oth .recov)=next (dst tm v) H ⟨df,none⟩)∧
 (∀(dc:Option AV->Nat->List AV->Heap->DR) (rs:List (Ye×Option (Nat×Bool))) (tm:TM) (H:Heap) (d:AV×List AV) (l:List (AV×List AV)) (rc:Option AV),M9 dc rs (.ok .ret tm H ⟨d::l,rc⟩)=deferred dc rs tm (d::l) none H)∧
 (∀(dc:Option AV->Nat->List AV->Heap->DR) (rs:List (Ye×Option (Nat×Bool))) (v:AV) (tm:TM) (H:Heap) (d:AV×List AV) (l:List (AV×List AV)) (rc:Option AV),M9 dc rs (.ok (.pan v) tm H ⟨d::l,rc⟩)=deferred dc rs tm (d::l) (some v) H)∧
 (∀(dc:Option AV->Nat->List AV->Heap->DR) (rs:List (Ye×Option (Nat×Bool))) (tm:TM) (g:Nat) (a b args:List AV) (l:List (AV×List AV)) (pn:Option AV) (H:Heap),deferred dc rs tm ((.func g a b,args)::l) pn H=Cg dc rs tm l pn (dc pn g (a++(args++b)) H))∧
 (∀(dc:Option AV->Nat->List AV->Heap->DR) (rs:List (Ye×Option (Nat×Bool))) (tm:TM) (l:List (AV×List AV)) (pn:Option AV) (v:AV) (H:Heap) (rec:Bool),Cg dc rs tm l pn (.ret v H rec)=deferred dc rs tm l (cond rec none pn) H)∧
 (∀(dc:Option AV->Nat->List AV->Heap->DR) (rs:List (Ye×Option (Nat×Bool))) (tm:TM) (H:Heap),deferred dc rs tm [] none H=results rs tm H)∧
 (∀(dc:Option AV->Nat->List AV->Heap->DR) (rs:List (Ye×Option (Nat×Bool))) (tm:TM) (v:AV) (H:Heap),deferred dc rs tm [] (some v) H=.pan v H)∧
 (∀{α β:Type} (x:α) (d:β) (k:α->β),ZfY (some x) d k=k x)∧
 (∀(rc:Option AV) (x:X) (v:AV) (H:Heap),s7 rc x (.ret v H)=.ret v H (Ml rc x))∧
 (∀(rc:Option AV) (rs:List (Ye×Option (Nat×Bool))) (tm:TM) (H:Heap) (q:Option AV),FZ rc rs (.ok .normal tm H ⟨[],q⟩)=s7 rc ⟨[],q⟩ (results rs tm H))∧
 (∀(rc:Option AV) (rs:List (Ye×Option (Nat×Bool))) (tm:TM) (H:Heap) (q:Option AV),FZ rc rs (.ok .ret tm H ⟨[],q⟩)=s7 rc ⟨[],q⟩ (results rs tm H))∧
 (∀(rc:Option AV) (rs:List (Ye×Option (Nat×Bool))) (v:AV) (tm:TM) (H:Heap) (q:Option AV),FZ rc rs (.ok (.pan v) tm H ⟨[],q⟩)=.pan v H (Ml rc ⟨[],q⟩))∧
 (∀(v:AV) (l:List (AV×List AV)),Ml (some v) ⟨l,none⟩=true)∧
 (∀(x:X),Ml none x=false)∧
 (∀{a:AV} (h:a.cells=[a]) (e:Nat) (H:Heap),Fk e a H=.val (.ptr H.nx 0) (H.new (rG e 1 [a] 0 false true true)))∧
 (∀{l:List AV} (h1:1<=l.length) (e:Nat) (H:Heap),Fk e (.agg l) H=.val (.ptr H.nx 0) (H.new (rG e 1 l 0 false true true)))∧
 (∀{b c:Nat} (h: ¬b=c) (H:Heap) (o:Obj),(H.put b o).t.get c=H.t.get c)∧
 (∀{H:Heap} {c:Nat} (h: ¬H.nx=c) (o:Obj),(H.new o).t.get c=H.t.get c)∧
 (∀{H:Heap} {c:Nat} (h:H.nx=c) (o:Obj),(H.new o).t.get c=some o)∧
 (∀{H:Heap} {b:Nat} (h:H.nx=b) (o o':Obj),(H.new o).put b o'=H.new o')∧
 (∀(neg b:Bool) (H:Heap),bN neg (some b) H=.val (.bool (cond neg (!b) b)) H)∧
 (∀(lit:Bool) (g:Nat->AV->AV->Option Bool) (neg:Bool) (t:Nat) (v w:AV) (H:Heap),Fd (oD lit g) neg (.iface t v) (.iface t w) H=bN neg (g t v w) H)∧
 (∀(n:Nat),U7 n []=true)∧
 (∀(n:Nat) (v:AV) (l:List AV),U7 n (v::l)=cond (Xm n v) (U7 n l) false)∧
 (∀(n t:Nat) (v:AV),Xm n (.iface t v)=Xm n v)∧
 (∀(n:Nat) (l:List AV),Xm n (.tup l)=U7 n l)∧
 (∀(b o n:Nat) (t:T Obj),Vv (.val (.ptr b o) ⟨n,t,n⟩) (.ptr b o) n=true)∧
 (∀(n:Nat),Xm n .nili=true)∧
 (∀(n:Nat),Xm n .nils=true)∧
 (∀(n:Nat) (k:IntKind) (z:Int),Xm n (.int k z)=true)∧
 (∀(k:List AV->OR) (cells:List AV),Q1 k [] cells=k cells)∧
 (∀{k:List AV->OR} {o:Nat} {v:AV} {ps:List (Nat×Nat×AV)} {cells:List AV} (hv:v.cells=[v]) (h:o<cells.length),Q1 k ((o,1,v)::ps) cells=Q1 k ps (cells.set o v))∧
 (∀(z:AV) (zs:List AV) (ps:List (Nat×Nat×AV)) (H:Heap),Qd (z::zs) ps H=Q1 (λcs=>.val (.agg cs) H) ps (z::zs))∧
 (∀(e sz:Nat) (l:List AV) (fz:Nat) (sm ex:Bool),wrO (rG e sz l fz sm true ex)=true)∧
 (∀(x:Ye) (e:Nat) (tm:TM) (H:Heap),KC x e tm H=yp e (x tm) H)∧
 (∀(e:Nat) (s:List UInt8) (H:Heap),yp e (.str s) H=.val (.slice H.nx 0 s.length none) (H.new (rG e 1 (s.map XM) 0 true true false)))∧
 (∀(x:Ye) (t:Nat) (tm:TM) (H:Heap),UX x t tm H=.val (.iface t (x tm)) H)∧
 (∀(f:Nat) (a b:List Ye) (tm:TM) (H:Heap),LC f a b tm H=.val (.func f (evs tm a) (evs tm b)) H)∧
 (∀(x:Ye) (P:Program) (args:List Ye) (tm:TM) (H:Heap),Q4 x P args tm H=wo P (x tm) (evs tm args) H)∧
 (∀(P:Program) (f:Nat) (x y args:List AV) (H:Heap),wo P (.func f x y) args H=.oth (.call f (x++(args++y)) H))∧
 (∀(lit:Bool) (g:Nat->AV->AV->Option Bool) (neg:Bool) (t:Nat) (v:AV) (H:Heap),Fd (oD lit g) neg (.iface t v) .nili H=.val (.bool neg) H)∧
 (∀(g:Nat->AV->AV->Option Bool) (neg:Bool) (H:Heap),Fd (oD true g) neg .nili .nili H=.val (.bool (!neg)) H)∧
 (∀(x:Ye) (t:Nat) (zv:AV) (ok:Bool) (tm:TM) (H:Heap),PA x t zv ok tm H=MO t zv ok (x tm) H)∧
 (∀(t:Nat) (zv:AV) (H:Heap),MO t zv true .nili H=.val (.tup [zv,.bool false]) H)∧
 (∀(t:Nat) (zv v:AV) (H:Heap),MO t zv true (.iface t v) H=.val (.tup [v,.bool true]) H)∧
 (∀(x:Ye) (tm:TM) (H:Heap),IN x tm H=bO (x tm) H)∧
 (∀(t:Nat) (v:AV) (H:Heap),bO (.iface t v) H=.oth (.pan (.iface t v) H))∧
 (∀(next:TM->Heap->X->Wd) (dst:ZS) (c:Ctx) (tm:TM) (H:Heap) (x:X) (v:AV) (H':Heap),Ph next dst c tm H x (.oth (.pan v H'))=.ok (.pan v) tm H' x)∧
 (∀(next:TM->Heap->X->Wd) (dst:ZS) (tm:TM) (x:X) (v:AV) (H:Heap),Da next dst tm x (.pan v H)=.ok (.pan v) tm H x)∧
 (∀(v:AV) (tm:TM) (H:Heap) (x:X) (k:TM->Heap->X->Wd),RC (.ok (.pan v) tm H x) k=.ok (.pan v) tm H x)∧
 (∀(i:Nat) (v:AV) (tm:TM) (H:Heap) (x:X),QF i (.ok (.pan v) tm H x)=.ok (.pan v) tm H x)∧
 (∀(dc:Option AV->Nat->List AV->Heap->DR) (rs:List (Ye×Option (Nat×Bool))) (v:AV) (tm:TM) (H:Heap) (rc:Option AV),M9 dc rs (.ok (.pan v) tm H ⟨[],rc⟩)=.pan v H)∧
 (∀(ds:List ZS) (p:PI) (nx:PK) (rs:List RD) (tm:TM) (x:X) (v:AV) (H:Heap),Bo ds p nx rs tm x (.pan v H)=.ok (.pan v) (Qz tm ds) H x)∧
 (∀(rs:List (Ye×Option (Nat×Bool))) (tm:TM) (H:Heap),results rs tm H=Of tm H (wF H) rs)∧
 (∀(H:Heap) (v:AV),wF H [v]=.ret v H)∧
 (∀(H:Heap),wF H []=.ret (.tup []) H)∧
 (∀(H:Heap) (v w:AV) (l:List AV),wF H (v::w::l)=.ret (.tup (v::w::l)) H)∧
 (∀(tm:TM) (H:Heap) (k:List AV->CR),Of tm H k []=k [])∧
 (∀(f:Ye) (tm:TM) (H:Heap) (k:List AV->CR) (l:List (Ye×Option (Nat×Bool))),Of tm H k ((f,none)::l)=Of tm H (λvs=>k (f tm::vs)) l)∧
 (∀(f:Ye) (n:Nat) (ag:Bool) (tm:TM) (H:Heap) (k:List AV->CR) (l:List (Ye×Option (Nat×Bool))),Of tm H k ((f,some (n,ag))::l)=b9 H (f tm) n ag (λv=>Of tm H (λvs=>k (v::vs)) l))∧
 (∀(H:Heap) (b o n:Nat) (ag:Bool) (k:AV->CR),b9 H (.ptr b o) n ag k=rV n ag (H.t.get b) o k)∧
 (∀(x:Ye) (tm:TM) (H:Heap),KF x tm H=Ry (x tm) H):=⟨@nP, @vF, @tE, @wJ, @wK, @mE, @mD, @B8, @tj, @yA, @yB, @mB, @gD, @ET, @gC, @gy, @ZcF, @ZcE, @DO, @YU, @YT, @YV, @Zx, @SU, @mA, @Zbn, @iq, @W4, @su, @iy, @tP, @nE, @nF, @iv, @oG, @Rr, @PG, @fZ, @nN, @Q8, @nU, @PT, @iF, @Pa, @Zbo, @Zbp, @sJ, @uP, @uQ, @nY, @bP, @jv, @gi, @lH, @tZ, @gE, @ff, @vR, @Zbv, @Zbu, @Zbw, @mV, @rp, @rq, @fd, @Gv⟩
theorem ZQ:(∀(e sz:Nat) (l:List AV) (fz:Nat) (sm ex:Bool),wrO (rG e sz l fz sm true ex)=true)∧
 (∀(H:Heap) (b:Nat) (o:Obj),(H.put b o).nx=H.nx)∧
 (∀(H:Heap) (o:Obj),(H.new o).nx=H.nx+1)∧
 (∀(H:Heap) (b:Nat) (o:Obj),(H.put b o).ro=H.ro)∧
 (∀(H:Heap) (o:Obj),(H.new o).ro=H.ro)∧
 (∀(b:Bool),(AV.bool b).cells=[.bool b])∧
 (∀(k:IntKind) (n:Int),(AV.int k n).cells=[.int k n])∧
 (∀(k:IntKind) (n:Nat),(nI k n).cells=[nI k n])∧
 (∀(x:UInt8),(XM x).cells=[XM x])∧
 (∀(s:List UInt8),(AV.str s).cells=[.str s])∧
 (AV.nilp.cells=[.nilp])∧
 (∀(b o:Nat),(AV.ptr b o).cells=[.ptr b o])∧
 (AV.nils.cells=[.nils])∧
 (∀(b o n:Nat) (c:Option Nat),(AV.slice b o n c).cells=[.slice b o n c])∧
 (∀(b:Nat),(AV.map b).cells=[.map b])∧
 (∀(f:Nat) (a b:List AV),(AV.func f a b).cells=[.func f a b])∧
 (∀(t:Nat) (v:AV),(AV.iface t v).cells=[.iface t v])∧
 (AV.nili.cells=[.nili])∧
 (∀(l:List AV),(AV.agg l).cells=l)∧
 (∀(r:Row) (o:Nat) (v:AV),(r.st o v).size=r.size)∧
 (∀(r:Row) (o:Nat) (v:AV),(r.st o v).own=r.own)∧
 (∀(r:Row) (o:Nat) (v:AV),(r.st o v).fz=r.fz)∧
 (∀(l:List AV) (o:Nat) (vs:List AV),(lay l o vs).length=l.length):=⟨@fZ, @ri, @IM, @gS, @iC, @D6, @Fv, @wq, @AE, @NY, @D9, @AD, @Ca, @Es, @AC, @D7, @Er, @D8, @AB, @Row.st_size, @Row.st_own, @Row.st_fz, @yZ⟩
theorem Zw:((!true)=false)∧((!false)=true)∧(∀{α:Type} (l:List α),[]++l=l)∧(∀{α:Type} (l:List α),l++[]=l)∧(∀{α β:Type} (f:α->β),Option.map f none=none)∧(∀{α β:Type} (f:α->β) (a:α),Option.map f (some a)=some (f a))∧(∀{α β:Type} (f:α->β) (a:α) (l:List α),List.map f (a::l)=f a::List.map f l)∧(∀{α β:Type} (f:α->β),List.map f []=[])∧(∀{α:Type} (a b:α),cond true a b=a)∧(∀{α:Type} (a b:α),cond false a b=b)∧(∀(x i:Nat),x.testBit i=decide (x/2^i % 2=1))∧(∀h:Decidable True, @decide True h=true)∧(∀h:Decidable False, @decide False h=false)∧(∀n:Nat,0+n=n)∧
 (∀{α:Type} (a d:α) (l:List α),(a::l).getD 0 d=a)∧(∀{α:Type} (a d:α) (l:List α) (n:Nat),(a::l).getD (n+1) d=l.getD n d)∧(∀{α:Type} (a b:α) (l:List α),(a::l).set 0 b=b::l)∧(∀{α:Type} (a b:α) (l:List α) (n:Nat),(a::l).set (n+1) b=a::l.set n b):=
 ⟨Xn,Xi,λ_=>rfl,Yl,λ_=>rfl,λ_ _=>rfl,λ_ _ _=>rfl,λ_=>rfl,λ_ _=>rfl,λ_ _=>rfl,λ_ _=>Nat.testBit_eq_decide_div_mod_eq,λ_=>Ze trivial,λ_=>Zb id,Zs,λ_ _ _=>rfl,λ_ _ _ _=>rfl,λ_ _ _=>rfl,λ_ _ _ _=>rfl⟩
theorem ZR:(∀{α:Type} (a:α) (l:List α),(a::l).length=l.length+1)∧(∀{α:Type},([]:List α).length=0)∧(∀{α:Type} (l:List α) (n:Nat) (a:α),(l.set n a).length=l.length)∧(∀{α β:Type} (f:α->β) (l:List α),(l.map f).length=l.length):=
 ⟨λ_ _=>rfl,rfl,λ_ _ _=>Xv,λ_ _=>Zi ..⟩
section
variable {P:Program}
def Zcc(n:Nat):Obj->Prop
 |.row r=> ∀i,i<r.size->Xm n (r.get i)=true
 |.map es _=> ∀x∈es,Xm n x.key=true∧Xm n x.val=true
 |.siter _ _=>True
 |.loop=>True
 |_=>False
theorem Uo.cutX{σ:Mp}{n:Nat}{o:Obj}{l:Loc}{c:Go.Obj}(h:Zcc n o)(r:Uo σ o l c):Uo (σ.cut n) o l c:=by
 cases o with
 |row q=>
  obtain⟨cs,fr,rfl,r⟩:=r
  refine⟨cs,fr,rfl,r.sz,r.sz1,r.fits,r.room,r.exact,λi hi=>?_,r.one,r.frz,r.frs⟩
  obtain⟨v,h1,h2⟩:=r.cell i hi
  exact⟨v,h1,Yt.cut (h i hi) h2⟩
 |map es clock=>
  obtain⟨ents,e,h1,h2⟩:=r
  exact⟨ents,e,YG.cutE h h1,h2⟩
 |siter s pos=>exact r
 |loop=>exact r
 |miter _ _ _=>exact h.elim
 |cmap _=>exact h.elim
structure Less(H H' G:Heap):Prop where
 nx:H.nx<=G.nx
 ro:G.ro=H.ro
 old: ∀b,b<H.nx->G.t.get b=H'.t.get b
 new: ∀b o,H.nx<=b->G.t.get b=some o->H.t.get b=some o∨(b<G.nx∧H'.t.get b=some o)
 low: ∀b o,G.t.get b=some o->H.t.get b=some o∨Zcc G.nx o
theorem Tr.less{σ σ':Mp}{H H' G:Heap}{w w':World}(hs:Ww P σ H w)(t:Tr P σ H w σ' H' w')(g:Less H H' G):Tr P σ H w (σ'.cut G.nx) G w':=by
 have hex:Ext σ (σ'.cut G.nx):=λb l hb=>by
  have:=hs.dom b l hb
  rw[Mp.cut_lt (ZO this g.nx)]
  exact t.ext b l hb
 have hcut: ∀{b l},σ'.cut G.nx b=some l->σ' b=some l:=λh=>(Mp.cut_some h).2
 have hin: ∀b o,G.t.get b=some o->H'.t.get b=some o:=λb o h=>by
  by_cases hb:b<H.nx
  ·rw[<-g.old b hb];exact h
  ·rcases g.new b o (by omega) h with h1|h1
   ·exact absurd (hs.low b o h1) hb
   ·exact h1.2
 have hs':Ww P (σ'.cut G.nx) G w':=by
  refine⟨λb l h=>(Mp.cut_some h).1,λb o h=>?_,λb o l hb hl=>?_,λb b' o o' l l' h1 h2 h3 h4 e=>t.sim.inj b b' o o' l l' (hin _ _ h1) (hin _ _ h2) (hcut h3) (hcut h4) e,λq hq=>?_,by rw[g.ro];exact Zn hs.ro g.nx⟩
  ·by_cases hb:b<H.nx
   ·exact ZO hb g.nx
   ·rcases g.new b o (by omega) h with h1|h1
    ·exact absurd (hs.low b o h1) hb
    ·exact h1.1
  ·obtain⟨c,h2,h3⟩:=t.sim.alive b o l (hin b o hb) (hcut hl)
   refine⟨c,h2,?_⟩
   rcases g.low b o hb with h5|h4
   ·cases hσ:σ b with
    |none=>
     have:=(t.pend b (hs.low b o h5) hσ).2
     rw[hcut hl] at this;cases this
    |some l0=>
     have e:=t.ext b l0 hσ
     rw[hcut hl] at e;cases e
     obtain⟨c0,_,h1⟩:=hs.alive b o l h5 hσ
     exact(h1.back t.ext h3).mono hex
   ·exact h3.cutX h4
  ·obtain⟨l,h1,h2,h3⟩:=hs.glob q hq
   exact⟨l,hex _ _ h1,h2,h3⟩
 refine⟨hex,hs',t.size,t.frame,λb l hw hl hlt=>?_,g.nx,g.ro,λb hb=>?_,t.tape,t.os,t.out,λb hb hn=>?_⟩
 ·obtain⟨h1,o,h2,h3⟩:=hw
  exact t.wr b l ⟨by rw[t.ro,<-g.ro];exact h1,o,hin b o h2,h3⟩ (hcut hl) hlt
 ·rw[g.old b (ZO hb hs.ro)]
  exact t.low b hb
 ·obtain⟨h1,h2⟩:=t.pend b hb hn
  refine⟨by rw[g.old b hb,h1],?_⟩
  rw[Mp.cut_lt (ZO hb g.nx)];exact h2
def aP(H:Heap):CR->CR->Prop
 |.ret v H',.ret u G=>u=v∧Less H H' G∧Xm G.nx v=true
 |.pan v H',.pan u G=>u=v∧Less H H' G∧Xm G.nx v=true
 |_,_=>False
theorem cO{call:Nat->List AV->Heap->CR}(hcall:SD P call){f:FuncId}{args:List AV}{H:Heap}{r:CR}(g:aP H (call f args H) r)
  {σ:Mp}{w:World}{vs:List Value}(hs:Ww P σ H w)(hv:YO σ args vs):LR P σ H w r ((callFunc f ⟨vs⟩).run P w):=by
 have hcr:=hcall f _ H σ w vs hs hv
 generalize call f args H=q at g hcr
 cases q with
 |fail=>cases r<;>exact g.elim
 |ret v H'=>
  cases r with
  |ret u G=>
   obtain⟨rfl,g,hlow⟩:=g
   refine Ends.mono (λu' w' hx=>?_) (λ_ _ hx=>hx) hcr
   obtain⟨σ2,h1,t⟩:=hx
   exact⟨σ2.cut G.nx,Yt.cut hlow h1,t.less hs g⟩
  |_=>exact g.elim
 |pan v H'=>
  cases r with
  |pan u G=>
   obtain⟨rfl,g,hlow⟩:=g
   refine Ends.mono (λ_ _ hx=>hx) (λu' w' hx=>?_) hcr
   obtain⟨σ2,h1,t⟩:=hx
   exact⟨σ2.cut G.nx,Yt.cut hlow h1,t.less hs g⟩
  |_=>exact g.elim
theorem Less.put{H:Heap}{b:Nat}{o:Obj}(hb:b<H.nx)(ho:Zcc H.nx o){H':Heap}(h: ∀c,c<H.nx->H'.t.get c=(H.put b o).t.get c):Less H H' (H.put b o):=by
 refine⟨Zl _,rfl,λc hc=>(h c hc).symm,λc q hc hq=>.inl ?_,λc q hq=>?_⟩
 ·rw[Lb,if_neg (by omega)] at hq;exact hq
 ·rw[Lb] at hq
  split at hq
  ·cases hq;exact .inr ho
  ·exact .inl hq
theorem Less.same{H H':Heap}(h: ∀c,c<H.nx->H'.t.get c=H.t.get c):Less H H' H:=
 ⟨Zl _,rfl,λc hc=>(h c hc).symm,λ_ _ _ hq=>.inl hq,λ_ _ hq=>.inl hq⟩
end
section
variable {P:Program}
abbrev Lib:=Nat->List AV->Heap->Option CR
def Gd(TP:Nat->Nat)(RM:Lib)(call:Nat->List AV->Heap->CR)(lib:Lib)(k:Nat):Lib:=λf args H=>
 open Classical in if TP f=k then
  (match RM f args H with
  |some r=>if aP H (call f args H) r then some r else lib f args H
  |none=>if ∃v H',call f args H=.ret v H'∧Zq H H' []∧Xm 0 v=true then(match call f args H with|.ret v _=>some (.ret v H)|_=>none) else lib f args H)
 else lib f args H
theorem ig{TP:Nat->Nat}{RM:Lib}{call:Nat->List AV->Heap->CR}{lib:Lib}{k:Nat}(hcall:SD P call)(hl:NU P lib):NU P (Gd TP RM call lib k):=by
 intro f args H r h σ w vs hs hv
 unfold Gd at h
 split at h
 ·split at h
  ·split at h
   ·rename_i hc
    cases h
    exact cO hcall hc hs hv
   ·exact hl f args H r h σ w vs hs hv
  ·split at h
   ·rename_i hc
    obtain⟨v,H',h1,h2,h3⟩:=hc
    rw[h1] at h
    cases h
    exact cI hcall h1 h2 h3 hs hv
   ·exact hl f args H r h σ w vs hs hv
 ·exact hl f args H r h σ w vs hs hv
theorem IK{TP:Nat->Nat}{RM:Lib}{call:Nat->List AV->Heap->CR}{lib:Lib}{k f:Nat}(h:TP f≠k)(args:List AV)(H:Heap):Gd TP RM call lib k f args H=lib f args H:=by
 unfold Gd;rw[if_neg h]
theorem tY{TP:Nat->Nat}{RM:Lib}{call:Nat->List AV->Heap->CR}{lib:Lib}{k f:Nat}{args:List AV}{H H':Heap}{v:AV}(h:TP f=k)(hs:RM f args H=none)(hr:call f args H=.ret v H')(g:Zq H H' [])(hv:Xm 0 v=true):Gd TP RM call lib k f args H=some (.ret v H):=by
 unfold Gd;rw[if_pos h,hs]
 simp only
 rw[if_pos ⟨v,H',hr,g,hv⟩,hr]
def Gf(Zp:Lib)(fs:T CF)(fuel:Nat)(TP:Nat->Nat)(RM:Lib):Nat->Lib
 |0=>Zp
 |k+1=>Gd TP RM (ZJ (Gf Zp fs fuel TP RM k) fs fuel 900) (Gf Zp fs fuel TP RM k) (k+1)
variable {Zp:Lib} {fs:T CF} {fuel:Nat} {TP:Nat->Nat} {RM:Lib}
theorem y5(hc: ∀lib,NU P lib->SD P (ZJ lib fs fuel 900))(h0:NU P Zp): ∀k,NU P (Gf Zp fs fuel TP RM k)
 |0=>h0
 |k+1=>ig (hc _ (y5 hc h0 k)) (y5 hc h0 k)
theorem vh{f:Nat}(args:List AV)(H:Heap): ∀k,k<TP f->Gf Zp fs fuel TP RM k f args H=Zp f args H
 |0,_=>rfl
 |k+1,h=>(IK (by omega) args H).trans (vh args H k (by omega))
theorem FN{f:Nat}(h:TP f=0)(args:List AV)(H:Heap): ∀k,Gf Zp fs fuel TP RM k f args H=Zp f args H
 |0=>rfl
 |k+1=>(IK (by omega) args H).trans (FN h args H k)
theorem pa{f r:Nat}(h:TP f=r)(args:List AV)(H:Heap): ∀k,r<=k->Gf Zp fs fuel TP RM k f args H=Gf Zp fs fuel TP RM r f args H:=by
 intro k hk
 induction k with
 |zero=>rw[Nat.le_zero.1 hk]
 |succ k ih=>
  by_cases e:r=k+1
  ·rw[e]
  ·exact(IK (by omega) args H).trans (ih (by omega))
theorem ZF{f k:Nat}(h0: ∀l H,Zp f l H=none)(h:k<TP f∨TP f=0)(args:List AV)(H:Heap):Gf Zp fs fuel TP RM k f args H=none:=by
 rcases h with h|h
 ·rw[vh args H k h,h0]
 ·rw[FN h args H k,h0]
theorem DL{f k n:Nat}{args:List AV}{H:Heap}{r:CR}(h:TP f=0)(hr:Zp f args H=some r):ZJ (Gf Zp fs fuel TP RM k) fs fuel (n+1) f args H=r:=
 Az (by rw[FN h];exact hr)
theorem Wn{f r k n:Nat}{args:List AV}{H H':Heap}{v:AV}(h:TP f=r+1)(hs:RM f args H=none)(hr:ZJ (Gf Zp fs fuel TP RM r) fs fuel 900 f args H=.ret v H')(g:Zq H H' [])(hv:Xm 0 v=true)(hk:r+1<=k):
  ZJ (Gf Zp fs fuel TP RM k) fs fuel (n+1) f args H=.ret v H:=
 Az (by rw[pa h args H k hk];exact tY h hs hr g hv)
end
end
end Go.AI
