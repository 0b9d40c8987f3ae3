/- Running the interpreter's code on values that are not known: equations, proved without conditions but those that each names; what is looked up rank by rank. -/
import Derived.Test.YtlaambpobnkkbaaGreatDoorP6
import Derived.Test.YtlaambpobnkkbaaGreatDoorP5
set_option maxRecDepth 1000000
set_option maxHeartbeats 0
set_option linter.unusedVariables false
set_option linter.unusedSimpArgs false
namespace Go.AI
open Go
noncomputable section
section
variable {α:Type}
namespace N8
theorem g00(f:α->α)(n:N8 α):a0 (u0 f n)=f (a0 n):=rfl
theorem g01(f:α->α)(n:N8 α):a0 (u1 f n)=a0 n:=rfl
theorem g02(f:α->α)(n:N8 α):a0 (u2 f n)=a0 n:=rfl
theorem g03(f:α->α)(n:N8 α):a0 (u3 f n)=a0 n:=rfl
theorem g04(f:α->α)(n:N8 α):a0 (u4 f n)=a0 n:=rfl
theorem g05(f:α->α)(n:N8 α):a0 (u5 f n)=a0 n:=rfl
theorem g06(f:α->α)(n:N8 α):a0 (u6 f n)=a0 n:=rfl
theorem g07(f:α->α)(n:N8 α):a0 (u7 f n)=a0 n:=rfl
theorem g10(f:α->α)(n:N8 α):a1 (u0 f n)=a1 n:=rfl
theorem g11(f:α->α)(n:N8 α):a1 (u1 f n)=f (a1 n):=rfl
theorem g12(f:α->α)(n:N8 α):a1 (u2 f n)=a1 n:=rfl
theorem g13(f:α->α)(n:N8 α):a1 (u3 f n)=a1 n:=rfl
theorem g14(f:α->α)(n:N8 α):a1 (u4 f n)=a1 n:=rfl
theorem g15(f:α->α)(n:N8 α):a1 (u5 f n)=a1 n:=rfl
theorem g16(f:α->α)(n:N8 α):a1 (u6 f n)=a1 n:=rfl
theorem g17(f:α->α)(n:N8 α):a1 (u7 f n)=a1 n:=rfl
theorem g20(f:α->α)(n:N8 α):a2 (u0 f n)=a2 n:=rfl
theorem g21(f:α->α)(n:N8 α):a2 (u1 f n)=a2 n:=rfl
theorem g22(f:α->α)(n:N8 α):a2 (u2 f n)=f (a2 n):=rfl
theorem g23(f:α->α)(n:N8 α):a2 (u3 f n)=a2 n:=rfl
theorem g24(f:α->α)(n:N8 α):a2 (u4 f n)=a2 n:=rfl
theorem g25(f:α->α)(n:N8 α):a2 (u5 f n)=a2 n:=rfl
theorem g26(f:α->α)(n:N8 α):a2 (u6 f n)=a2 n:=rfl
theorem g27(f:α->α)(n:N8 α):a2 (u7 f n)=a2 n:=rfl
theorem g30(f:α->α)(n:N8 α):a3 (u0 f n)=a3 n:=rfl
theorem g31(f:α->α)(n:N8 α):a3 (u1 f n)=a3 n:=rfl
theorem g32(f:α->α)(n:N8 α):a3 (u2 f n)=a3 n:=rfl
theorem g33(f:α->α)(n:N8 α):a3 (u3 f n)=f (a3 n):=rfl
theorem g34(f:α->α)(n:N8 α):a3 (u4 f n)=a3 n:=rfl
theorem g35(f:α->α)(n:N8 α):a3 (u5 f n)=a3 n:=rfl
theorem g36(f:α->α)(n:N8 α):a3 (u6 f n)=a3 n:=rfl
theorem g37(f:α->α)(n:N8 α):a3 (u7 f n)=a3 n:=rfl
theorem g40(f:α->α)(n:N8 α):a4 (u0 f n)=a4 n:=rfl
theorem g41(f:α->α)(n:N8 α):a4 (u1 f n)=a4 n:=rfl
theorem g42(f:α->α)(n:N8 α):a4 (u2 f n)=a4 n:=rfl
theorem g43(f:α->α)(n:N8 α):a4 (u3 f n)=a4 n:=rfl
theorem g44(f:α->α)(n:N8 α):a4 (u4 f n)=f (a4 n):=rfl
theorem g45(f:α->α)(n:N8 α):a4 (u5 f n)=a4 n:=rfl
theorem g46(f:α->α)(n:N8 α):a4 (u6 f n)=a4 n:=rfl
theorem g47(f:α->α)(n:N8 α):a4 (u7 f n)=a4 n:=rfl
theorem g50(f:α->α)(n:N8 α):a5 (u0 f n)=a5 n:=rfl
theorem g51(f:α->α)(n:N8 α):a5 (u1 f n)=a5 n:=rfl
theorem g52(f:α->α)(n:N8 α):a5 (u2 f n)=a5 n:=rfl
theorem g53(f:α->α)(n:N8 α):a5 (u3 f n)=a5 n:=rfl
theorem g54(f:α->α)(n:N8 α):a5 (u4 f n)=a5 n:=rfl
theorem g55(f:α->α)(n:N8 α):a5 (u5 f n)=f (a5 n):=rfl
theorem g56(f:α->α)(n:N8 α):a5 (u6 f n)=a5 n:=rfl
theorem g57(f:α->α)(n:N8 α):a5 (u7 f n)=a5 n:=rfl
theorem g60(f:α->α)(n:N8 α):a6 (u0 f n)=a6 n:=rfl
theorem g61(f:α->α)(n:N8 α):a6 (u1 f n)=a6 n:=rfl
theorem g62(f:α->α)(n:N8 α):a6 (u2 f n)=a6 n:=rfl
theorem g63(f:α->α)(n:N8 α):a6 (u3 f n)=a6 n:=rfl
theorem g64(f:α->α)(n:N8 α):a6 (u4 f n)=a6 n:=rfl
theorem g65(f:α->α)(n:N8 α):a6 (u5 f n)=a6 n:=rfl
theorem g66(f:α->α)(n:N8 α):a6 (u6 f n)=f (a6 n):=rfl
theorem g67(f:α->α)(n:N8 α):a6 (u7 f n)=a6 n:=rfl
theorem g70(f:α->α)(n:N8 α):a7 (u0 f n)=a7 n:=rfl
theorem g71(f:α->α)(n:N8 α):a7 (u1 f n)=a7 n:=rfl
theorem g72(f:α->α)(n:N8 α):a7 (u2 f n)=a7 n:=rfl
theorem g73(f:α->α)(n:N8 α):a7 (u3 f n)=a7 n:=rfl
theorem g74(f:α->α)(n:N8 α):a7 (u4 f n)=a7 n:=rfl
theorem g75(f:α->α)(n:N8 α):a7 (u5 f n)=a7 n:=rfl
theorem g76(f:α->α)(n:N8 α):a7 (u6 f n)=a7 n:=rfl
theorem g77(f:α->α)(n:N8 α):a7 (u7 f n)=f (a7 n):=rfl
end N8
end
section
theorem Xy(f:VG)(dst:ZK)(next:D)(c:Ctx)(tm:TM)(H:Heap)(x:X):Za f dst next c tm H x=OO (next c) dst c tm H x (f tm H):=rfl
theorem uy(g:Z2)(b:Bool)(f:VG)(dst:ZK)(next:D)(c:Ctx)(tm:TM)(H:Heap)(x:X):Zx g b f dst next c tm H x=Tp (g tm) b (OO (next c) dst c tm H x (f tm H)) (next c (dst tm YS) H x):=rfl
theorem nX(yes no:WC):Tp (.bool true) true yes no=yes:=rfl
theorem zq(yes no:WC):Tp (.bool false) false yes no=yes:=rfl
theorem nU(yes no:WC):Tp (.bool true) false yes no=no:=rfl
theorem nT(yes no:WC):Tp (.bool false) true yes no=no:=rfl
theorem Xw(next:TM->Heap->X->WC)(dst:ZK)(c:Ctx)(tm:TM)(H:Heap)(x:X)(v:AV)(H':Heap):OO next dst c tm H x (.val v H')=next (dst tm v) H' x:=rfl
theorem Rq(next:TM->Heap->X->WC)(dst:ZK)(c:Ctx)(tm:TM)(H:Heap)(x:X)(f:Nat)(args:List AV)(H':Heap):OO next dst c tm H x (.oth (.call f args H'))=Bk next dst tm x (c.call f args H'):=rfl
theorem QW(next:TM->Heap->X->WC)(dst:ZK)(tm:TM)(x:X)(v:AV)(H:Heap):Bk next dst tm x (.ret v H)=next (dst tm v) H x:=rfl
theorem XE(a b:D)(c:Ctx)(tm:TM)(H:Heap)(x:X):Zg a b c tm H x=Q7 (a c tm H x) (b c):=rfl
theorem Yq(tm:TM)(H:Heap)(x:X)(k:TM->Heap->X->WC):Q7 (.ok .normal tm H x) k=k tm H x:=rfl
theorem ky(tm:TM)(H:Heap)(x:X)(k:TM->Heap->X->WC):Q7 (.ok .ret tm H x) k=.ok .ret tm H x:=rfl
theorem TT(i:Nat)(tm:TM)(H:Heap)(x:X)(k:TM->Heap->X->WC):Q7 (.ok (.exit i) tm H x) k=.ok (.exit i) tm H x:=rfl
theorem Xb(c:Ctx)(tm:TM)(H:Heap)(x:X):Zc c tm H x=.ok .normal tm H x:=rfl
theorem Qa(c:Ctx)(tm:TM)(H:Heap)(x:X):Z8 c tm H x=.ok .ret tm H x:=rfl
theorem SK(i:Nat)(c:Ctx)(tm:TM)(H:Heap)(x:X):XG i c tm H x=.ok (.exit i) tm H x:=rfl
theorem WT(q:Z2)(a b:D)(c:Ctx)(tm:TM)(H:Heap)(x:X):ZL q a b c tm H x=xf (q tm) λv=>Hq (a c) (b c) v tm H x:=rfl
theorem WW(b:Bool)(k:Bool->WC):xf (.bool b) k=k b:=rfl
theorem TH(a b:TM->Heap->X->WC)(tm:TM)(H:Heap)(x:X):Hq a b true tm H x=a tm H x:=rfl
theorem VU(a b:TM->Heap->X->WC)(tm:TM)(H:Heap)(x:X):Hq a b false tm H x=b tm H x:=rfl
theorem W1(i:Nat)(a:D)(c:Ctx)(tm:TM)(H:Heap)(x:X):ZY i a c tm H x=PZ i (a c tm H x):=rfl
theorem Rt(a:D)(c:Ctx)(tm:TM)(H:Heap)(x:X):XS a c tm H x=XD (a c) c.fuel tm H x:=rfl
theorem V6(i:Nat)(tm:TM)(H:Heap)(x:X):PZ i (.ok .normal tm H x)=.ok .normal tm H x:=rfl
theorem Tv(i:Nat)(tm:TM)(H:Heap)(x:X):PZ i (.ok (.exit i) tm H x)=.ok .normal tm H x:=by
 show @Bool.rec (λ_=>WC) (.ok (.exit i) tm H x) (.ok .normal tm H x) (Nat.beq i i)=_
 rw[Ys]
theorem s0(i:Nat)(tm:TM)(H:Heap)(x:X):PZ i (.ok .ret tm H x)=.ok .ret tm H x:=rfl
theorem Ni(tm:TM)(v:AV):d0 tm v=tm:=rfl
theorem TL(v:AV)(tm:TM):k v tm=v:=rfl
theorem qK:RC []=Nr:=rfl
theorem Jv(a:AV):RC [a]=st0 Nr a:=rfl
theorem Jw(a b:AV):RC [a,b]=st1 (st0 Nr a) b:=rfl
theorem an(a b c:AV):RC [a,b,c]=st2 (st1 (st0 Nr a) b) c:=rfl
theorem aq(a b c d:AV):RC [a,b,c,d]=VM (st2 (st1 (st0 Nr a) b) c) d:=rfl
theorem PV(tm:TM):evs tm []=[]:=rfl
theorem RS(tm:TM)(f:Z2)(l:List Z2):evs tm (f::l)=f tm::evs tm l:=rfl
theorem Z4{lib:Nat->List AV->Heap->Option CR}{fs:T CF}{fuel n f:Nat}{args:List AV}{H:Heap}{cf:CF}(hl:lib f args H=none)(hf:fs.get f=some cf):ZU lib fs fuel (n+1) f args H=
  KA (λpn g as H=>Bj .fail fs g λcg=>FT pn cg.rs (cg.body ⟨ZU lib fs fuel n,U2,Tq,fuel,false⟩ (RC as) H ⟨[],pn⟩))
   cf.rs (cf.body ⟨ZU lib fs fuel n,U2,FU fs fuel (ZU lib fs fuel n),fuel,false⟩ (RC args) H ⟨[],none⟩):=by
 show pO (lib f args H) _=_
 rw[hl]
 unfold Bj
 rw[hf]
 rfl
theorem QX(dc:Option AV->Nat->List AV->Heap->DR)(rs:List (Z2×Option (Nat×Bool)))(tm:TM)(H:Heap)(rc:Option AV):KA dc rs (.ok .ret tm H ⟨[],rc⟩)=results rs tm H:=rfl
theorem EW(dc:Option AV->Nat->List AV->Heap->DR)(rs:List (Z2×Option (Nat×Bool)))(tm:TM)(H:Heap)(rc:Option AV):KA dc rs (.ok .normal tm H ⟨[],rc⟩)=results rs tm H:=rfl
theorem PA(f:Z2)(tm:TM)(H:Heap):results [(f,none)] tm H=.ret (f tm) H:=rfl
theorem GB(tm:TM)(H:Heap):results [] tm H=.ret (.tup []) H:=rfl
theorem Re{a:TM->Heap->X->WC}{x:X}{i:Nat}(inv:Nat->TM->Heap->Prop)(fin:TM->Heap->Prop)(n:Nat)
  (step: ∀k tm H,k<n->inv k tm H-> ∃tm' H',a tm H x=.ok .normal tm' H' x∧inv (k+1) tm' H')
  (last: ∀tm H,inv n tm H-> ∃tm' H',a tm H x=.ok (.exit i) tm' H' x∧fin tm' H'): ∀(j k:Nat) (F:Nat) (tm:TM) (H:Heap),k+j=n->j<F->inv k tm H-> ∃tm' H',XD a F tm H x=.ok (.exit i) tm' H' x∧fin tm' H'
 |0,k,F,tm,H,hk,hF,h=>by
  obtain⟨F,rfl⟩: ∃G,F=G+1:=⟨F - 1,by omega⟩
  obtain rfl:k=n:=by omega
  obtain⟨tm',H',h1,h2⟩:=last tm H h
  refine⟨tm',H',?_,h2⟩
  show Q7 (a tm H x) (XD a F)=_
  rw[h1];rfl
 |j+1,k,F,tm,H,hk,hF,h=>by
  obtain⟨F,rfl⟩: ∃G,F=G+1:=⟨F - 1,by omega⟩
  obtain⟨tm',H',h1,h2⟩:=step k tm H (by omega) h
  obtain⟨tC,H2,h3,h4⟩:=Re inv fin n step last j (k+1) F tm' H' (by omega) (by omega) h2
  refine⟨tC,H2,?_,h4⟩
  show Q7 (a tm H x) (XD a F)=_
  rw[h1]
  exact h3
theorem W8(x:Z2)(tm:TM)(H:Heap):Zi x tm H=.val (x tm) H:=rfl
noncomputable def fR(a:AV)(H:Heap):OR:=Pz a λk a=>TU k (IK 0 a) H
noncomputable def Ga(k:IntKind)(a:AV)(H:Heap):OR:=Pz a λ_ a=>TU k a H
noncomputable def DP(a b:AV)(H:Heap):OR:=match a with
 |.int j a=>Pz b λl b=>ZP (Nl j l) (TU j (sK a b) H)
 |.str a=>O3 b λb=>ZP (Nat.ble (Nat.add (YL a) (YL b)) 4611686018427387904) (.val (.str (a++b)) H)
 |_=>.fail
noncomputable def Di(a b:AV)(H:Heap):OR:=FH a b λk a b=>TU k (IK a b) H
noncomputable def fP(a b:AV)(H:Heap):OR:=FH a b λk a b=>TU k (Ai a b) H
noncomputable def eV(a b:AV)(H:Heap):OR:=FH a b λk a b=>cond (Fc b 0) .fail (TU k (Zff a b) H)
noncomputable def lP(a b:AV)(H:Heap):OR:=FH a b λk a b=>cond (Fc b 0) .fail (Nj (Zfg a b) λn=>.val (.int k n) H)
noncomputable def Hi(f:Nat->Nat->Nat->Nat)(a b:AV)(H:Heap):OR:=FH a b λk a b=>TU k (.ofNat (f (R4 k) (T1 (R4 k) a) (T1 (R4 k) b))) H
noncomputable def dF(a b:AV)(H:Heap):OR:=Pz a λk a=>R6 b λb=>TU k (Ai a (.ofNat (Nat.pow 2 (cond (Nat.ble b 64) b 64)))) H
noncomputable def l4(a b:AV)(H:Heap):OR:=Pz a λk a=>R6 b λb=>Nj (Zfj a (K5 b (qN k))) λn=>.val (.int k n) H
noncomputable def bT(a:AV)(H:Heap):OR:=Pz a λk a=>TU k (.ofNat (Nat.sub (Nat.sub (R4 k) 1) (T1 (R4 k) a))) H
noncomputable def OM(f:Int->Int->Bool)(g:List UInt8->List UInt8->Bool)(a b:AV)(H:Heap):OR:=match a with
 |.int j a=>Pz b λl b=>ZP (Nl j l) (So (f a b) H)
 |.str a=>O3 b λb=>So (g a b) H
 |_=>.fail
noncomputable def Iz(f:AV->AV->Option Bool)(neg:Bool)(a b:AV)(H:Heap):OR:=UU (f a b) λb=>So (cond neg (cond b false true) b) H
noncomputable def fU(a:AV)(H:Heap):OR:=FS a λb=>.val (.bool (cond b false true)) H
noncomputable def Bp(a b c:AV)(H:Heap):OR:=FS a λt=>.val (cond t b c) H
theorem Gk(x:Z2)(tm:TM)(H:Heap):xG x tm H=fR (x tm) H:=rfl
theorem Lc(x:Z2)(k:IntKind)(tm:TM)(H:Heap):SQ x k tm H=Ga k (x tm) H:=rfl
theorem Ru(x y:Z2)(tm:TM)(H:Heap):Yc x y tm H=DP (x tm) (y tm) H:=rfl
theorem Jb(x y:Z2)(tm:TM)(H:Heap):VZ x y tm H=Di (x tm) (y tm) H:=rfl
theorem Gj(x y:Z2)(tm:TM)(H:Heap):Nm x y tm H=fP (x tm) (y tm) H:=rfl
theorem vV(x y:Z2)(tm:TM)(H:Heap):xH x y tm H=eV (x tm) (y tm) H:=rfl
theorem Gl(x y:Z2)(tm:TM)(H:Heap):vX x y tm H=lP (x tm) (y tm) H:=rfl
theorem OB(x y:Z2)(f:Nat->Nat->Nat->Nat)(tm:TM)(H:Heap):WP x y f tm H=Hi f (x tm) (y tm) H:=rfl
theorem Gm(x y:Z2)(tm:TM)(H:Heap):Al x y tm H=dF (x tm) (y tm) H:=rfl
theorem Ja(x y:Z2)(tm:TM)(H:Heap):Md x y tm H=l4 (x tm) (y tm) H:=rfl
theorem zG(x:Z2)(tm:TM)(H:Heap):p9 x tm H=bT (x tm) H:=rfl
theorem UT(x y:Z2)(f:Int->Int->Bool)(g:List UInt8->List UInt8->Bool)(tm:TM)(H:Heap):Yj x y f g tm H=OM f g (x tm) (y tm) H:=rfl
theorem Dv(x y:Z2)(f:AV->AV->Option Bool)(neg:Bool)(tm:TM)(H:Heap):Vu x y f neg tm H=Iz f neg (x tm) (y tm) H:=rfl
theorem vU(x:Z2)(tm:TM)(H:Heap):PH x tm H=fU (x tm) H:=rfl
theorem zD(x y z:Z2)(tm:TM)(H:Heap):Yg x y z tm H=Bp (x tm) (y tm) (z tm) H:=rfl
theorem Sv(f:Nat)(args:List Z2)(tm:TM)(H:Heap):ZB f args tm H=.oth (.call f (evs tm args) H):=rfl
theorem TE(b:Bool)(H:Heap):So b H=.val (.bool b) H:=by cases b<;>rfl
theorem Wy(k:IntKind)(n:Int)(H:Heap):TU k n H=.val (.int k (k.wrap n)) H:=by simp only[TU,Oo,N9]
theorem El(k:IntKind)(m n:Nat):yz k m (.ofNat n)=.ofNat (n % m):=by
 show cond (Nat.ble m n) (Int.ofNat (Nat.mod n m)) (.ofNat n)=_
 cases h:Nat.ble m n with
 |true=>rfl
 |false=>
  have:n<m:=by
   have h2: ¬m<=n:=λhh=>by rw[Zl hh] at h;cases h
   omega
  rw[Yx this];rfl
theorem DK(n:Nat):IntKind.u8.wrap (.ofNat n)=.ofNat (n % 256):=by rw[<-N9];exact El .u8 256 n
theorem Lu(n:Nat):IntKind.u32.wrap (.ofNat n)=.ofNat (n % 4294967296):=by rw[<-N9];exact El .u32 4294967296 n
theorem Nc(n:Nat):IntKind.u64.wrap (.ofNat n)=.ofNat (n % 18446744073709551616):=by rw[<-N9];exact El .u64 18446744073709551616 n
theorem Fa{n:Nat}(h:n<9223372036854775808):IntKind.i64.wrap (.ofNat n)=.ofNat n:=by
 rw[<-N9]
 show cond (Nat.ble 9223372036854775808 n) _ (Int.ofNat n)=_
 cases h2:Nat.ble 9223372036854775808 n with
 |true=>have:=ZT h2;omega
 |false=>rfl
theorem CT(a b:Nat):sK (.ofNat a) (.ofNat b)=.ofNat (a+b):=rfl
theorem HZ(a b:Nat):Ai (.ofNat a) (.ofNat b)=.ofNat (a*b):=rfl
theorem CW{a b:Nat}(h:b<=a):IK (.ofNat a) (.ofNat b)=.ofNat (a - b):=by
 show cond (Nat.ble b a) (Int.ofNat (Nat.sub a b)) (Int.ofNat a - Int.ofNat b)=_
 rw[Zl h];rfl
theorem In(m n:Nat):T1 m (.ofNat n)=n % m:=rfl
theorem JA(a b:Nat):vx (.ofNat a) (.ofNat b)=decide (a<b):=by
 show Nat.ble (Nat.succ a) b=_
 cases h:Nat.ble (Nat.succ a) b with
 |true=>have:=ZT h;exact(Zd this).symm
 |false=>
  have h2: ¬Nat.succ a<=b:=λhh=>by rw[Zl hh] at h;cases h
  exact(Zb h2).symm
theorem Mn(a b:Nat):Fc (.ofNat a) (.ofNat b)=decide (a=b):=Yp a b
theorem X3(k:IntKind):Nl k k=true:=by cases k<;>rfl
def i64(n:Nat):AV:=nI .i64 n
def XP(x:UInt8):AV:=.int .u8 (.ofNat x.toNat)
def ZN(x:UInt32):AV:=.int .u32 (.ofNat x.toNat)
theorem YU{a b:Nat}(h:a+b<9223372036854775808)(H:Heap):DP (nI .i64 a) (nI .i64 b) H=.val (nI .i64 (a+b)) H:=by
 show ZP (Nl .i64 .i64) (TU .i64 (sK (.ofNat a) (.ofNat b)) H)=_
 rw[X3,Wy,CT,Fa h];rfl
theorem Vp{a b:Nat}(h:b<=a)(h2:a<9223372036854775808)(H:Heap):Di (nI .i64 a) (nI .i64 b) H=.val (nI .i64 (a - b)) H:=by
 show ZP (Nl .i64 .i64) (TU .i64 (IK (.ofNat a) (.ofNat b)) H)=_
 rw[X3,Wy,CW h,Fa (by omega)];rfl
theorem FN{a b:Nat}(h:a*b<9223372036854775808)(H:Heap):fP (nI .i64 a) (nI .i64 b) H=.val (nI .i64 (a*b)) H:=by
 show ZP (Nl .i64 .i64) (TU .i64 (Ai (.ofNat a) (.ofNat b)) H)=_
 rw[X3,Wy,HZ,Fa h];rfl
theorem rZ{a b:Nat}(h:0<b)(H:Heap):lP (nI .i64 a) (nI .i64 b) H=.val (nI .i64 (a % b)) H:=by
 show ZP (Nl .i64 .i64) (cond (Fc (.ofNat b) (.ofNat 0)) .fail (Nj (.ofNat (Nat.mod a b)) λn=>.val (.int .i64 n) H))=_
 rw[X3,Mn,Zb (by omega),Oo];rfl
theorem Zf1{a b:Nat}(h:0<b)(h2:a<9223372036854775808)(H:Heap):eV (nI .i64 a) (nI .i64 b) H=.val (nI .i64 (a/b)) H:=by
 show ZP (Nl .i64 .i64) (cond (Fc (.ofNat b) (.ofNat 0)) .fail (TU .i64 (.ofNat (Nat.div a b)) H))=_
 rw[X3,Mn,Zb (by omega),Wy,show(Int.ofNat (Nat.div a b))=Int.ofNat (a/b) from rfl,Fa (Xz (X2 a b) h2)];rfl
theorem Zv(k:IntKind)(a b:Nat)(H:Heap):OM X1 YK (nI k a) (nI k b) H=.val (.bool (decide (a<b))) H:=by
 show ZP (Nl k k) (So (vx (.ofNat a) (.ofNat b)) H)=_
 rw[X3,TE,JA];rfl
theorem Wh(k:IntKind)(a b:Nat)(H:Heap):OM SA Wx (nI k a) (nI k b) H=.val (.bool (decide (b<=a))) H:=by
 show ZP (Nl k k) (So (!vx (.ofNat a) (.ofNat b)) H)=_
 rw[X3,TE,JA]
 show OR.val (.bool (!decide (a<b))) H=_
 congr 2
 by_cases h:a<b
 ·rw[Zd h,Zb (by omega)];rfl
 ·rw[Zb h,Zd (by omega)];rfl
theorem VQ(k:IntKind)(a b:Nat)(H:Heap):Iz Uk true (nI k a) (nI k b) H=.val (.bool (decide (a≠b))) H:=by
 show UU (cond (Nl k k) (some (Fc (.ofNat a) (.ofNat b))) none) _=_
 rw[X3,Mn]
 show So (cond true (cond (decide (a=b)) false true) (decide (a=b))) H=_
 rw[TE]
 congr 2
 by_cases h:a=b
 ·rw[Zd h,Zb (by omega)];rfl
 ·rw[Zb h,Zd h];rfl
theorem YW(k:IntKind)(a b:Nat)(H:Heap):Iz Uk false (nI k a) (nI k b) H=.val (.bool (decide (a=b))) H:=by
 show UU (cond (Nl k k) (some (Fc (.ofNat a) (.ofNat b))) none) _=_
 rw[X3,Mn]
 exact TE _ _
theorem Mg(a b:UInt32)(H:Heap):DP (ZN a) (ZN b) H=.val (ZN (a+b)) H:=by
 show ZP (Nl .u32 .u32) (TU .u32 (sK (.ofNat a.toNat) (.ofNat b.toNat)) H)=_
 rw[X3,Wy,CT,Lu];unfold ZN;rw[UInt32.toNat_add];rfl
theorem fJ(a:UInt32):a.toNat<4294967296:=a.toNat_lt
theorem yN{f:Nat->Nat->Nat->Nat}{a b c:UInt32}(h:f 4294967296 a.toNat b.toNat=c.toNat)(H:Heap):Hi f (ZN a) (ZN b) H=.val (ZN c) H:=by
 show ZP (Nl .u32 .u32) (TU .u32 (.ofNat (f 4294967296 (T1 4294967296 (.ofNat a.toNat)) (T1 4294967296 (.ofNat b.toNat)))) H)=_
 rw[X3,Wy,In,In,Yx (fJ a),Yx (fJ b),h,Lu,Yx (fJ c)];rfl
theorem qI(a b:UInt32)(H:Heap):Hi TZ (ZN a) (ZN b) H=.val (ZN (a&&&b)) H:=yN (UInt32.toNat_and a b).symm H
theorem xM(a b:UInt32)(H:Heap):Hi Dc (ZN a) (ZN b) H=.val (ZN (a|||b)) H:=yN (UInt32.toNat_or a b).symm H
theorem DL(a b:UInt32)(H:Heap):Hi Nt (ZN a) (ZN b) H=.val (ZN (a^^^b)) H:=yN (UInt32.toNat_xor a b).symm H
theorem Zbp(a:UInt32)(H:Heap):bT (ZN a) H=.val (ZN (~~~a)) H:=by
 show TU .u32 (.ofNat (Nat.sub (Nat.sub 4294967296 1) (T1 4294967296 (.ofNat a.toNat)))) H=_
 rw[Wy,In,Yx (fJ a),Lu]
 unfold ZN
 rw[UInt32.toNat_not]
 have:=fJ a
 congr 3
 show(4294967296 - 1 - a.toNat) % 4294967296=4294967296 - 1 - a.toNat
 omega
theorem GJ(a:UInt32){n:Nat}(h:n<32)(H:Heap):l4 (ZN a) (nI .u64 n) H=.val (ZN (a>>>UInt32.ofNat n)) H:=by
 show Nj (.ofNat (Nat.div a.toNat (Nat.pow 2 (K5 n 32)))) (λn=>OR.val (.int .u32 n) H)=_
 rw[Oo]
 unfold ZN
 rw[UInt32.toNat_shiftRight,UInt32.toNat_ofNat_of_lt' (show n<UInt32.size from Nat.lt_trans h (by decide)),Yx h,Nat.shiftRight_eq_div_pow]
 have:K5 n 32=n:=by unfold K5;rw[Zl (by omega)];rfl
 rw[this];rfl
theorem DF(a:UInt32){n:Nat}(h:n<32)(H:Heap):dF (ZN a) (nI .u64 n) H=.val (ZN (a<<<UInt32.ofNat n)) H:=by
 show TU .u32 (Ai (.ofNat a.toNat) (.ofNat (Nat.pow 2 (cond (Nat.ble n 64) n 64)))) H=_
 rw[Wy,HZ,Lu,Zl (show n<=64 by omega)]
 unfold ZN
 rw[UInt32.toNat_shiftLeft,UInt32.toNat_ofNat_of_lt' (show n<UInt32.size from Nat.lt_trans h (by decide)),Yx h,Nat.shiftLeft_eq]
 rfl
end
structure Cells(r:Row)(l:List AV):Prop where
 size:r.size=l.length
 get: ∀i,i<l.length->r.get i=l.getD i .unk
theorem Cells.load{r:Row}{l:List AV}(h:Cells r l){o n:Nat}(hn:o+n<=l.length):VB r o n=(l.drop o).take n:=by
 refine WS λj=>?_
 by_cases hj:j<n
 ·rw[Qp r n o j hj,XK hj,Xl,h.get (o+j) (by omega),Ze]
  rw[Zk (show o+j<l.length by omega)];rfl
 ·rw[YP (by rw[Qq];omega),YP (by rw[ZW,Ya];omega)]
theorem Cells.store{r:Row}{l:List AV}(h:Cells r l){o:Nat}{vs:List AV}(ho:o+vs.length<=l.length):Cells (r.setCells (YQ r.cells o vs)) (l.take o++(vs++l.drop (o+vs.length))):=by
 have hlen:(l.take o++(vs++l.drop (o+vs.length))).length=l.length:=by
  rw[ZE,ZE,ZW,Ya];omega
 refine⟨by rw[hlen];exact h.size,λi hi=>?_⟩
 rw[hlen] at hi
 rw[Row.get_eq]
 show((YQ r.cells o vs).get i).getD r.dflt=_
 rw[OG,Ze]
 by_cases h1:o<=i∧i<o+vs.length
 ·rw[if_pos h1,Z5 (by rw[ZW];omega),ZW,Wb (by omega),Z1 (by omega),
   Zk (show i - o<vs.length by omega)];rfl
 ·rw[if_neg h1]
  have h2:=h.get i hi
  rw[Row.get_eq,Ze] at h2
  rw[h2]
  by_cases h3:i<o
  ·rw[Z1 (by rw[ZW];omega),XK h3]
  ·rw[Z5 (by rw[ZW];omega),ZW,Wb (by omega),Z5 (by omega),Xl,
    show o+vs.length+(i - o - vs.length)=i by omega]
theorem Cells.store1{r:Row}{l:List AV}(h:Cells r l){o:Nat}{v:AV}(ho:o<l.length):Cells (r.setCells (YQ r.cells o [v])) (l.set o v):=by
 have:=h.store (o:=o) (vs:=[v]) (by simp;omega)
 rw[List.set_eq_take_append_cons_drop,if_pos ho]
 exact this
theorem Cells.new(e sz:Nat)(l:List AV)(fz:Nat)(sm own ex:Bool):Cells ⟨e,sz,YL l,T.ofList l,.unk,fz,sm,own,ex⟩ l:=by
 refine⟨Yz l,λi hi=>?_⟩
 rw[Row.get_eq]
 show((T.ofList l).get i).getD .unk=_
 rw[T.get_ofList,Ze]
theorem Cells.zero(e n:Nat)(v:AV)(fz:Nat)(sm own ex:Bool):Cells ⟨e,1,n,.leaf,v,fz,sm,own,ex⟩ (List.replicate n v):=by
 refine⟨by simp,λi hi=>?_⟩
 rw[Y5] at hi
 rw[Row.get_eq]
 show((T.leaf:T AV).get i).getD v=_
 rw[T.get_leaf,Ze,Vr,if_pos hi];rfl
structure Own(H:Heap)(b e:Nat)(l:List AV)(r:Row):Prop where
 at_:H.t.get b=some (.row r)
 elem:r.elem=e
 sz:r.sz=1
 own:r.own=true
 fz:r.fz=0
 sm:r.sm=false
 cells:Cells r l
 ro:H.ro<=b
noncomputable def T5(a:AV)(H:Heap):OR:=QC a λb o=>XB H b λr=>ZP (Nat.ble (Nat.succ o) r.size) (.val (r.get o) H)
noncomputable def K2(n:Nat)(a:AV)(H:Heap):OR:=QC a λb o=>XB H b λr=>ZP (Nat.ble (Nat.add o n) r.size) (.val (.agg (VB r o n)) H)
noncomputable def RB(n:Nat)(a v:AV)(H:Heap):OR:=QC a λb o=>XB H b λr=>
 ZP (Nat.ble 1 n)<|ZP (H.may r b) (ZP (Nat.ble (Nat.add o n) r.size) (ZP (Nat.ble r.fz o) (ZP (Nat.beq (YL v.cells) n)
  (.val YS (H.put b (.row (r.setCells (YQ r.cells o v.cells))))))))
def Zby(n:Nat)(a:AV)(H:Heap):OR:=QC a λb o=>.val (.ptr b (Nat.add o n)) H
def EN(n sz:Nat)(a i:AV)(H:Heap):OR:=R6 i λi=>QC a λb o=>ZP (Nat.ble (Nat.succ i) n) (.val (.ptr b (Nat.add o (Nat.mul i sz))) H)
def HY(sz:Nat)(a i:AV)(H:Heap):OR:=R6 i λi=>Sm a .fail λb o len _=>ZP (Nat.ble (Nat.succ i) len) (.val (.ptr b (Nat.add o (Nat.mul i sz))) H)
def Zbl(a:AV)(H:Heap):OR:=xC a (.val a H)
noncomputable def Oy(a:AV)(H:Heap):OR:=onZ a (.val (.int .i64 0) H)<|Sm a (.val (.int .i64 0) H) λ_ _ n _=>Rv n λn=>.val (.int .i64 (.ofNat n)) H
theorem TP(x:Z2)(tm:TM)(H:Heap):Zu x tm H=T5 (x tm) H:=rfl
theorem NL(x:Z2)(n:Nat)(tm:TM)(H:Heap):Wk x n tm H=K2 n (x tm) H:=rfl
theorem Tc(x y:Z2)(n:Nat)(tm:TM)(H:Heap):YC x y n tm H=RB n (x tm) (y tm) H:=rfl
theorem O1(x:Z2)(n:Nat)(tm:TM)(H:Heap):Z7 x n tm H=Zby n (x tm) H:=rfl
theorem NK(x y:Z2)(n sz:Nat)(tm:TM)(H:Heap):XI x y n sz tm H=EN n sz (x tm) (y tm) H:=rfl
theorem FQ(x y:Z2)(sz:Nat)(tm:TM)(H:Heap):WJ x y sz tm H=HY sz (x tm) (y tm) H:=rfl
theorem O0(x:Z2)(tm:TM)(H:Heap):TD x tm H=Zbl (x tm) H:=rfl
theorem Py(x:Z2)(tm:TM)(H:Heap):Xe x tm H=Oy (x tm) H:=rfl
theorem R5(e n:Nat)(v:AV)(tm:TM)(H:Heap):TV e n v tm H=.val (.ptr H.nx 0) (H.new (.row ⟨e,1,n,.leaf,v,0,false,true,true⟩)):=rfl
theorem C9(e:Nat)(cs:List AV)(h:1<=YL cs)(tm:TM)(H:Heap):WF e cs tm H=.val (.ptr H.nx 0) (H.newRow e 1 cs true):=by
 show ZP (Nat.ble 1 (YL cs)) _=_
 rw[Zl h];rfl
theorem O2(n b o:Nat)(H:Heap):Zby n (.ptr b o) H=.val (.ptr b (o+n)) H:=rfl
theorem OX(b o:Nat)(H:Heap):Zbl (.ptr b o) H=.val (.ptr b o) H:=rfl
theorem Vz(b o n:Nat)(c:Option Nat)(H:Heap):Oy (.slice b o n c) H=.val (nI .i64 n) H:=by
 show Rv n (λn=>OR.val (.int .i64 (.ofNat n)) H)=_
 rw[Oq];rfl
theorem ER(H:Heap):Oy .slice0 H=.val (nI .i64 0) H:=rfl
theorem CZ(H:Heap):Oy .nils H=.val (nI .i64 0) H:=rfl
theorem UE{n i:Nat}(h:i<n)(b o:Nat)(k:IntKind)(H:Heap):EN n 1 (.ptr b o) (nI k i) H=.val (.ptr b (o+i)) H:=by
 show ZP (Nat.ble (Nat.succ i) n) (.val (.ptr b (o+i*1)) H)=_
 rw[Zl h,Xr];rfl
theorem RY{n i:Nat}(h:i<n)(b o:Nat)(c:Option Nat)(k:IntKind)(H:Heap):HY 1 (.slice b o n c) (nI k i) H=.val (.ptr b (o+i)) H:=by
 show ZP (Nat.ble (Nat.succ i) n) (.val (.ptr b (o+i*1)) H)=_
 rw[Zl h,Xr];rfl
theorem TN{H:Heap}{b o:Nat}{r:Row}{l:List AV}(hr:H.t.get b=some (.row r))(hc:Cells r l)(ho:o<l.length):T5 (.ptr b o) H=.val (l.getD o .unk) H:=by
 show XB H b _=_
 unfold XB
 rw[hr]
 show ZP (Nat.ble (Nat.succ o) r.size) _=_
 rw[hc.size,Zl ho,hc.get o ho];rfl
theorem NJ{H:Heap}{b o n:Nat}{r:Row}{l:List AV}(hr:H.t.get b=some (.row r))(hc:Cells r l)(ho:o+n<=l.length):K2 n (.ptr b o) H=.val (.agg ((l.drop o).take n)) H:=by
 show XB H b _=_
 unfold XB
 rw[hr]
 show ZP (Nat.ble (o+n) r.size) _=_
 rw[hc.size,Zl ho,hc.load ho];rfl
theorem UH{H:Heap}{b o n:Nat}{r:Row}{l:List AV}{v:AV}(hr:H.t.get b=some (.row r))(hc:Cells r l)(how:r.own=true)(hro:H.ro<=b)(hfz:r.fz=0)(hn:1<=n)(hv:v.cells.length=n)(ho:o+n<=l.length):
  RB n (.ptr b o) v H=.val YS (H.put b (.row (r.setCells (YQ r.cells o v.cells)))):=by
 show XB H b _=_
 unfold XB
 rw[hr]
 show ZP (Nat.ble 1 n) (ZP (H.may r b) (ZP (Nat.ble (o+n) r.size) (ZP (Nat.ble r.fz o) (ZP (Nat.beq (YL v.cells) n) _))))=_
 have h1:H.may r b=true:=by unfold Heap.may;rw[how,Zl hro];rfl
 rw[Zl hn,h1,hc.size,Zl ho,hfz,Zl (Ym _),Yz,hv,Ys];rfl
theorem U3(H:Heap)(b c:Nat)(o:Obj):(H.put b o).t.get c=if b=c then some o else H.t.get c:=T.get_set _ _ _ _
theorem VL(H:Heap)(c:Nat)(o:Obj):(H.new o).t.get c=if H.nx=c then some o else H.t.get c:=T.get_set _ _ _ _
theorem Nn(H:Heap)(b:Nat)(o:Obj):(H.put b o).nx=H.nx:=rfl
theorem xT(H:Heap)(b:Nat)(o:Obj):(H.put b o).ro=H.ro:=rfl
theorem MM(H:Heap)(o:Obj):(H.new o).nx=H.nx+1:=rfl
theorem fT(H:Heap)(o:Obj):(H.new o).ro=H.ro:=rfl
theorem TC(H:Heap)(e sz:Nat)(l:List AV)(ex:Bool):H.newRow e sz l ex=H.new (.row ⟨e,sz,YL l,T.ofList l,.unk,0,false,true,ex⟩):=rfl
theorem LG(l:List PI)(c:Ctx)(tm:TM)(H:Heap)(x:X):WE l c tm H x=Ux (l.map (·.dst)) K8 l c [] tm H x:=rfl
theorem JI(ds:List ZK)(fin:PK)(c:Ctx)(rs:List RD)(tm:TM)(H:Heap)(x:X):Ux ds fin [] c rs tm H x=cond (still tm H rs) (fin rs tm H x) .fail:=rfl
theorem LY(ds:List ZK)(fin:PK)(p:PI)(l:List PI)(c:Ctx)(rs:List RD)(tm:TM)(H:Heap)(x:X):Ux ds fin (p::l) c rs tm H x=Rp ds p (Ux ds fin l c) c rs tm H x:=rfl
theorem JG(rs:List RD)(tm:TM)(H:Heap)(x:X):K8 rs tm H x=.ok .normal tm H x:=rfl
section
variable (ds:List ZK) (f:VG) (os:List (ZK×Z2)) (dst:ZK) (i bef:Nat) (nx:PK) (c:Ctx) (rs:List RD) (tm:TM) (H:Heap) (x:X)
theorem Kc:Rp ds ⟨f,none,os,dst,.free,i,bef⟩ nx c rs tm H x=cond (QB H.nx tm os) (KQ ⟨f,none,os,dst,.free,i,bef⟩ nx rs tm H x (f (Po tm os) ⟨H.nx,.leaf,H.nx⟩)) .fail:=rfl
theorem Kd:Rp ds ⟨f,none,os,dst,.read,i,bef⟩ nx c rs tm H x=Ie ⟨f,none,os,dst,.read,i,bef⟩ nx rs tm H x (f (Po tm os) ⟨H.nx,H.t,H.nx⟩):=rfl
theorem JN:Rp ds ⟨f,none,os,dst,.eff,i,bef⟩ nx c rs tm H x=cond (still tm H rs) (Hw ds ⟨f,none,os,dst,.eff,i,bef⟩ nx rs c tm x (f (Po tm os) H)) .fail:=rfl
variable (g:Option (Z2×Bool)) (kd:I5) (v:AV) (H':Heap)
theorem Jz:KQ ⟨f,g,os,dst,kd,i,bef⟩ nx rs tm H x (.val v ⟨H.nx,.leaf,H.nx⟩)=nx rs (dst tm v) H x:=by
 show cond (Nat.beq H.nx H.nx) (nx rs (dst tm v) H x) _=_
 rw[Ys];rfl
theorem FV:Ie ⟨f,g,os,dst,kd,i,bef⟩ nx rs tm H x (.val v ⟨H.nx,H.t,H.nx⟩)=nx (⟨⟨f,g,os,dst,kd,i,bef⟩,v⟩::rs) (dst tm v) H x:=by
 show cond (Nat.beq H.nx H.nx) _ _=_
 rw[Ys];rfl
theorem Hz:Hw ds ⟨f,g,os,dst,kd,i,bef⟩ nx rs c tm x (.val v H')=nx (Tg bef rs) (dst tm v) H' x:=rfl
theorem AL(q:Nat)(args:List AV):Hw ds ⟨f,g,os,dst,kd,i,bef⟩ nx rs c tm x (.oth (.call q args H'))=Bt ds ⟨f,g,os,dst,kd,i,bef⟩ nx rs tm x (c.call q args H'):=rfl
theorem ul:Bt ds ⟨f,g,os,dst,kd,i,bef⟩ nx rs tm x (.ret v H')=nx (Tg bef rs) (dst tm v) H' x:=rfl
theorem JB(b:Nat):Tg b []=[]:=rfl
theorem LP(b:Nat):Tg b (⟨⟨f,g,os,dst,kd,i,bef⟩,v⟩::rs)=cond (Nat.testBit b i) (Tg b rs) (⟨⟨f,g,os,dst,kd,i,bef⟩,v⟩::Tg b rs):=rfl
theorem JO:still tm H []=true:=rfl
theorem Ke:still tm H (⟨⟨f,g,os,dst,kd,i,bef⟩,v⟩::rs)=cond (ug ⟨⟨f,g,os,dst,kd,i,bef⟩,v⟩ tm H) (still tm H rs) false:=rfl
noncomputable def VS(r:OR)(w:AV)(n:Nat):Bool:=OR.rec (λv H1=>cond (Nat.beq H1.nx n) (same v w) false) (λ_=>false) r
theorem Gy:ug ⟨⟨f,g,os,dst,kd,i,bef⟩,v⟩ tm H=VS (f (Po tm os) ⟨H.nx,H.t,H.nx⟩) v H.nx:=rfl
end
theorem TK(v:AV)(n:Nat)(t:T Obj)(h:same v v=true):VS (.val v ⟨n,t,n⟩) v n=true:=by
 show cond (Nat.beq n n) (same v v) false=true
 rw[Ys,h];rfl
theorem Rn(k:IntKind)(n:Int):same (.int k n) (.int k n)=true:=by
 show cond (Nl k k) (Fc n n) false=true
 rw[X3,Pj];simp
theorem ux(x:UInt32):same (ZN x) (ZN x)=true:=Rn ..
theorem Zb0(x:UInt8):same (XP x) (XP x)=true:=Rn ..
theorem ZbZ(k:IntKind)(n:Nat):same (nI k n) (nI k n)=true:=Rn ..
theorem Pk(v:UInt32)(n:Nat)(t:T Obj):VS (.val (ZN v) ⟨n,t,n⟩) (ZN v) n=true:=TK _ _ _ (ux v)
theorem zu(v:UInt8)(n:Nat)(t:T Obj):VS (.val (XP v) ⟨n,t,n⟩) (XP v) n=true:=TK _ _ _ (Zb0 v)
theorem mi(k:IntKind)(v:Nat)(n:Nat)(t:T Obj):VS (.val (nI k v) ⟨n,t,n⟩) (nI k v) n=true:=TK _ _ _ (ZbZ k v)
theorem JC(n:Nat)(tm:TM):QB n tm []=true:=rfl
theorem LR(n:Nat)(tm:TM)(s:ZK)(g:Z2)(os:List (ZK×Z2)):QB n tm ((s,g)::os)=cond (Wl n (g tm)) (QB n tm os) false:=rfl
theorem Dt(n:Nat)(k:IntKind)(m:Nat):Wl n (nI k m)=true:=rfl
theorem Gb(n:Nat)(x:UInt32):Wl n (ZN x)=true:=rfl
theorem Zbd(n:Nat)(x:UInt8):Wl n (XP x)=true:=rfl
theorem mF(n:Nat)(x:Bool):Wl n (.bool x)=true:=rfl
theorem Wj{n b:Nat}(h:b<n)(o:Nat):Wl n (.ptr b o)=true:=Zl h
theorem TO{n b:Nat}(h:b<n)(o l:Nat)(c:Option Nat):Wl n (.slice b o l c)=true:=Zl h
theorem DE(tm:TM):Po tm []=Nr:=rfl
theorem GF(tm:TM)(s:ZK)(g:Z2)(os:List (ZK×Z2)):Po tm ((s,g)::os)=s (Po tm os) (g tm):=rfl
theorem VF(tm:TM):Yu tm=N8.a0 (N8.a0 (N8.a0 tm)):=rfl
theorem Ef(tm:TM)(v:AV):st0 tm v=N8.u0 (N8.u0 (N8.u0 λ_=>v)) tm:=rfl
theorem Ov(tm:TM):XR tm=N8.a1 (N8.a0 (N8.a0 tm)):=rfl
theorem kl(tm:TM)(v:AV):st1 tm v=N8.u0 (N8.u0 (N8.u1 λ_=>v)) tm:=rfl
theorem Sk(tm:TM):Vt tm=N8.a2 (N8.a0 (N8.a0 tm)):=rfl
theorem km(tm:TM)(v:AV):st2 tm v=N8.u0 (N8.u0 (N8.u2 λ_=>v)) tm:=rfl
theorem UN(tm:TM):Xx tm=N8.a3 (N8.a0 (N8.a0 tm)):=rfl
theorem qo(tm:TM)(v:AV):VM tm v=N8.u0 (N8.u0 (N8.u3 λ_=>v)) tm:=rfl
theorem Tb(tm:TM):Xu tm=N8.a4 (N8.a0 (N8.a0 tm)):=rfl
theorem Eg(tm:TM)(v:AV):Xi tm v=N8.u0 (N8.u0 (N8.u4 λ_=>v)) tm:=rfl
theorem Ss(tm:TM):YT tm=N8.a5 (N8.a0 (N8.a0 tm)):=rfl
theorem Eh(tm:TM)(v:AV):WZ tm v=N8.u0 (N8.u0 (N8.u5 λ_=>v)) tm:=rfl
theorem NA(tm:TM):Wm tm=N8.a6 (N8.a0 (N8.a0 tm)):=rfl
theorem BX(tm:TM)(v:AV):Vv tm v=N8.u0 (N8.u0 (N8.u6 λ_=>v)) tm:=rfl
theorem LN(tm:TM):XY tm=N8.a7 (N8.a0 (N8.a0 tm)):=rfl
theorem Ar(tm:TM)(v:AV):Vw tm v=N8.u0 (N8.u0 (N8.u7 λ_=>v)) tm:=rfl
theorem MI(tm:TM):Xt tm=N8.a0 (N8.a1 (N8.a0 tm)):=rfl
theorem xZ(tm:TM)(v:AV):Vc tm v=N8.u0 (N8.u1 (N8.u0 λ_=>v)) tm:=rfl
theorem FF(tm:TM):WO tm=N8.a1 (N8.a1 (N8.a0 tm)):=rfl
theorem tx(tm:TM)(v:AV):Uh tm v=N8.u0 (N8.u1 (N8.u1 λ_=>v)) tm:=rfl
theorem Mm(tm:TM):YB tm=N8.a2 (N8.a1 (N8.a0 tm)):=rfl
theorem BU(tm:TM)(v:AV):XJ tm v=N8.u0 (N8.u1 (N8.u2 λ_=>v)) tm:=rfl
theorem Sy(tm:TM):YN tm=N8.a3 (N8.a1 (N8.a0 tm)):=rfl
theorem Ih(tm:TM)(v:AV):XF tm v=N8.u0 (N8.u1 (N8.u3 λ_=>v)) tm:=rfl
theorem OW(tm:TM):Xj tm=N8.a4 (N8.a1 (N8.a0 tm)):=rfl
theorem G2(tm:TM)(v:AV):X7 tm v=N8.u0 (N8.u1 (N8.u4 λ_=>v)) tm:=rfl
theorem Km(tm:TM):Y6 tm=N8.a5 (N8.a1 (N8.a0 tm)):=rfl
theorem E5(tm:TM)(v:AV):X5 tm v=N8.u0 (N8.u1 (N8.u5 λ_=>v)) tm:=rfl
theorem J7(tm:TM):XQ tm=N8.a6 (N8.a1 (N8.a0 tm)):=rfl
theorem E6(tm:TM)(v:AV):WK tm v=N8.u0 (N8.u1 (N8.u6 λ_=>v)) tm:=rfl
theorem EJ(tm:TM):XW tm=N8.a7 (N8.a1 (N8.a0 tm)):=rfl
theorem BW(tm:TM)(v:AV):WA tm v=N8.u0 (N8.u1 (N8.u7 λ_=>v)) tm:=rfl
theorem EK(tm:TM):X6 tm=N8.a0 (N8.a2 (N8.a0 tm)):=rfl
theorem yo(tm:TM)(v:AV):WB tm v=N8.u0 (N8.u2 (N8.u0 λ_=>v)) tm:=rfl
theorem CL(tm:TM):Wt tm=N8.a1 (N8.a2 (N8.a0 tm)):=rfl
theorem tk(tm:TM)(v:AV):WX tm v=N8.u0 (N8.u2 (N8.u1 λ_=>v)) tm:=rfl
theorem J8(tm:TM):Wd tm=N8.a2 (N8.a2 (N8.a0 tm)):=rfl
theorem yp(tm:TM)(v:AV):WY tm v=N8.u0 (N8.u2 (N8.u2 λ_=>v)) tm:=rfl
theorem zm(tm:TM):XO tm=N8.a3 (N8.a2 (N8.a0 tm)):=rfl
theorem tp(tm:TM)(v:AV):Vo tm v=N8.u0 (N8.u2 (N8.u3 λ_=>v)) tm:=rfl
theorem pg(tm:TM):Vg tm=N8.a4 (N8.a2 (N8.a0 tm)):=rfl
theorem oA(tm:TM)(v:AV):VA tm v=N8.u0 (N8.u2 (N8.u4 λ_=>v)) tm:=rfl
theorem ph(tm:TM):WU tm=N8.a5 (N8.a2 (N8.a0 tm)):=rfl
theorem oB(tm:TM)(v:AV):V1 tm v=N8.u0 (N8.u2 (N8.u5 λ_=>v)) tm:=rfl
theorem CM(tm:TM):WV tm=N8.a6 (N8.a2 (N8.a0 tm)):=rfl
theorem oC(tm:TM)(v:AV):V2 tm v=N8.u0 (N8.u2 (N8.u6 λ_=>v)) tm:=rfl
theorem CN(tm:TM):Va tm=N8.a7 (N8.a2 (N8.a0 tm)):=rfl
theorem oD(tm:TM)(v:AV):V5 tm v=N8.u0 (N8.u2 (N8.u7 λ_=>v)) tm:=rfl
theorem HV(tm:TM):Wz tm=N8.a0 (N8.a3 (N8.a0 tm)):=rfl
theorem yq(tm:TM)(v:AV):V3 tm v=N8.u0 (N8.u3 (N8.u0 λ_=>v)) tm:=rfl
theorem CO(tm:TM):VX tm=N8.a1 (N8.a3 (N8.a0 tm)):=rfl
theorem yr(tm:TM)(v:AV):Uf tm v=N8.u0 (N8.u3 (N8.u1 λ_=>v)) tm:=rfl
theorem zn(tm:TM):VD tm=N8.a2 (N8.a3 (N8.a0 tm)):=rfl
theorem tq(tm:TM)(v:AV):Ug tm v=N8.u0 (N8.u3 (N8.u2 λ_=>v)) tm:=rfl
theorem vm(tm:TM):VR tm=N8.a3 (N8.a3 (N8.a0 tm)):=rfl
theorem tu(tm:TM)(v:AV):Ul tm v=N8.u0 (N8.u3 (N8.u3 λ_=>v)) tm:=rfl
theorem pi(tm:TM):VE tm=N8.a4 (N8.a3 (N8.a0 tm)):=rfl
theorem oE(tm:TM)(v:AV):Uq tm v=N8.u0 (N8.u3 (N8.u4 λ_=>v)) tm:=rfl
theorem pj(tm:TM):Vq tm=N8.a5 (N8.a3 (N8.a0 tm)):=rfl
theorem oF(tm:TM)(v:AV):UP tm v=N8.u0 (N8.u3 (N8.u5 λ_=>v)) tm:=rfl
theorem pk(tm:TM):UX tm=N8.a6 (N8.a3 (N8.a0 tm)):=rfl
theorem oG(tm:TM)(v:AV):UV tm v=N8.u0 (N8.u3 (N8.u6 λ_=>v)) tm:=rfl
theorem vp(tm:TM):UM tm=N8.a7 (N8.a3 (N8.a0 tm)):=rfl
theorem tw(tm:TM)(v:AV):Th tm v=N8.u0 (N8.u3 (N8.u7 λ_=>v)) tm:=rfl
theorem pm(tm:TM):UY tm=N8.a0 (N8.a4 (N8.a0 tm)):=rfl
theorem oH(tm:TM)(v:AV):TS tm v=N8.u0 (N8.u4 (N8.u0 λ_=>v)) tm:=rfl
theorem iP(tm:TM):Tl tm=N8.a1 (N8.a4 (N8.a0 tm)):=rfl
theorem cD(tm:TM)(v:AV):T7 tm v=N8.u0 (N8.u4 (N8.u1 λ_=>v)) tm:=rfl
theorem iQ(tm:TM):UR tm=N8.a2 (N8.a4 (N8.a0 tm)):=rfl
theorem cE(tm:TM)(v:AV):Sw tm v=N8.u0 (N8.u4 (N8.u2 λ_=>v)) tm:=rfl
theorem iR(tm:TM):Tm tm=N8.a3 (N8.a4 (N8.a0 tm)):=rfl
theorem cF(tm:TM)(v:AV):SB tm v=N8.u0 (N8.u4 (N8.u3 λ_=>v)) tm:=rfl
theorem iS(tm:TM):T3 tm=N8.a4 (N8.a4 (N8.a0 tm)):=rfl
theorem cG(tm:TM)(v:AV):SU tm v=N8.u0 (N8.u4 (N8.u4 λ_=>v)) tm:=rfl
theorem iT(tm:TM):SM tm=N8.a5 (N8.a4 (N8.a0 tm)):=rfl
theorem cH(tm:TM)(v:AV):SV tm v=N8.u0 (N8.u4 (N8.u5 λ_=>v)) tm:=rfl
theorem iU(tm:TM):TX tm=N8.a6 (N8.a4 (N8.a0 tm)):=rfl
theorem cI(tm:TM)(v:AV):SC tm v=N8.u0 (N8.u4 (N8.u6 λ_=>v)) tm:=rfl
theorem iV(tm:TM):Sj tm=N8.a7 (N8.a4 (N8.a0 tm)):=rfl
theorem cJ(tm:TM)(v:AV):S1 tm v=N8.u0 (N8.u4 (N8.u7 λ_=>v)) tm:=rfl
theorem iW(tm:TM):T4 tm=N8.a0 (N8.a5 (N8.a0 tm)):=rfl
theorem cL(tm:TM)(v:AV):Rh tm v=N8.u0 (N8.u5 (N8.u0 λ_=>v)) tm:=rfl
theorem iX(tm:TM):SX tm=N8.a1 (N8.a5 (N8.a0 tm)):=rfl
theorem cM(tm:TM)(v:AV):Ri tm v=N8.u0 (N8.u5 (N8.u1 λ_=>v)) tm:=rfl
theorem iY(tm:TM):Sq tm=N8.a2 (N8.a5 (N8.a0 tm)):=rfl
theorem cN(tm:TM)(v:AV):Ro tm v=N8.u0 (N8.u5 (N8.u2 λ_=>v)) tm:=rfl
theorem iZ(tm:TM):Rb tm=N8.a3 (N8.a5 (N8.a0 tm)):=rfl
theorem cO(tm:TM)(v:AV):SW tm v=N8.u0 (N8.u5 (N8.u3 λ_=>v)) tm:=rfl
theorem i7(tm:TM):To tm=N8.a4 (N8.a5 (N8.a0 tm)):=rfl
theorem cP(tm:TM)(v:AV):RA tm v=N8.u0 (N8.u5 (N8.u4 λ_=>v)) tm:=rfl
theorem pp(tm:TM):SN tm=N8.a5 (N8.a5 (N8.a0 tm)):=rfl
theorem cQ(tm:TM)(v:AV):Qe tm v=N8.u0 (N8.u5 (N8.u5 λ_=>v)) tm:=rfl
theorem hJ(tm:TM):RH tm=N8.a6 (N8.a5 (N8.a0 tm)):=rfl
theorem cS(tm:TM)(v:AV):Qw tm v=N8.u0 (N8.u5 (N8.u6 λ_=>v)) tm:=rfl
theorem pq(tm:TM):TY tm=N8.a7 (N8.a5 (N8.a0 tm)):=rfl
theorem cT(tm:TM)(v:AV):Qx tm v=N8.u0 (N8.u5 (N8.u7 λ_=>v)) tm:=rfl
theorem pr(tm:TM):QD tm=N8.a0 (N8.a6 (N8.a0 tm)):=rfl
theorem cU(tm:TM)(v:AV):QK tm v=N8.u0 (N8.u6 (N8.u0 λ_=>v)) tm:=rfl
theorem pu(tm:TM):SY tm=N8.a1 (N8.a6 (N8.a0 tm)):=rfl
theorem cX(tm:TM)(v:AV):QL tm v=N8.u0 (N8.u6 (N8.u1 λ_=>v)) tm:=rfl
theorem ZcU(tm:TM):QE tm=N8.a2 (N8.a6 (N8.a0 tm)):=rfl
theorem cY(tm:TM)(v:AV):Q1 tm v=N8.u0 (N8.u6 (N8.u2 λ_=>v)) tm:=rfl
theorem zo(tm:TM):Sr tm=N8.a3 (N8.a6 (N8.a0 tm)):=rfl
theorem oI(tm:TM)(v:AV):Q2 tm v=N8.u0 (N8.u6 (N8.u3 λ_=>v)) tm:=rfl
theorem pw(tm:TM):QF tm=N8.a4 (N8.a6 (N8.a0 tm)):=rfl
theorem oJ(tm:TM)(v:AV):Q3 tm v=N8.u0 (N8.u6 (N8.u4 λ_=>v)) tm:=rfl
theorem hM(tm:TM):QV tm=N8.a5 (N8.a6 (N8.a0 tm)):=rfl
theorem cZ(tm:TM)(v:AV):QM tm v=N8.u0 (N8.u6 (N8.u5 λ_=>v)) tm:=rfl
theorem px(tm:TM):Te tm=N8.a6 (N8.a6 (N8.a0 tm)):=rfl
theorem ba(tm:TM)(v:AV):Qy tm v=N8.u0 (N8.u6 (N8.u6 λ_=>v)) tm:=rfl
theorem py(tm:TM):Qo tm=N8.a7 (N8.a6 (N8.a0 tm)):=rfl
theorem be(tm:TM)(v:AV):QN tm v=N8.u0 (N8.u6 (N8.u7 λ_=>v)) tm:=rfl
theorem pz(tm:TM):SZ tm=N8.a0 (N8.a7 (N8.a0 tm)):=rfl
theorem bf(tm:TM)(v:AV):Qz tm v=N8.u0 (N8.u7 (N8.u0 λ_=>v)) tm:=rfl
theorem hO(tm:TM):QG tm=N8.a1 (N8.a7 (N8.a0 tm)):=rfl
theorem bg(tm:TM)(v:AV):QO tm v=N8.u0 (N8.u7 (N8.u1 λ_=>v)) tm:=rfl
theorem pA(tm:TM):S0 tm=N8.a2 (N8.a7 (N8.a0 tm)):=rfl
theorem bh(tm:TM)(v:AV):Q4 tm v=N8.u0 (N8.u7 (N8.u2 λ_=>v)) tm:=rfl
theorem pB(tm:TM):RV tm=N8.a3 (N8.a7 (N8.a0 tm)):=rfl
theorem bi(tm:TM)(v:AV):Q5 tm v=N8.u0 (N8.u7 (N8.u3 λ_=>v)) tm:=rfl
theorem pC(tm:TM):Rx tm=N8.a4 (N8.a7 (N8.a0 tm)):=rfl
theorem bj(tm:TM)(v:AV):QA tm v=N8.u0 (N8.u7 (N8.u4 λ_=>v)) tm:=rfl
theorem hU(tm:TM):RI tm=N8.a5 (N8.a7 (N8.a0 tm)):=rfl
theorem bm(tm:TM)(v:AV):Pr tm v=N8.u0 (N8.u7 (N8.u5 λ_=>v)) tm:=rfl
theorem hX(tm:TM):RW tm=N8.a6 (N8.a7 (N8.a0 tm)):=rfl
theorem bn(tm:TM)(v:AV):Q6 tm v=N8.u0 (N8.u7 (N8.u6 λ_=>v)) tm:=rfl
theorem hY(tm:TM):RX tm=N8.a7 (N8.a7 (N8.a0 tm)):=rfl
theorem bo(tm:TM)(v:AV):QP tm v=N8.u0 (N8.u7 (N8.u7 λ_=>v)) tm:=rfl
theorem gc(tm:TM):Ph tm=N8.a0 (N8.a0 (N8.a1 tm)):=rfl
theorem bp(tm:TM)(v:AV):Ps tm v=N8.u1 (N8.u0 (N8.u0 λ_=>v)) tm:=rfl
theorem gf(tm:TM):PF tm=N8.a1 (N8.a0 (N8.a1 tm)):=rfl
theorem bq(tm:TM)(v:AV):PJ tm v=N8.u1 (N8.u0 (N8.u1 λ_=>v)) tm:=rfl
theorem gg(tm:TM):PG tm=N8.a2 (N8.a0 (N8.a1 tm)):=rfl
theorem br(tm:TM)(v:AV):Od tm v=N8.u1 (N8.u0 (N8.u2 λ_=>v)) tm:=rfl
theorem gj(tm:TM):P9 tm=N8.a3 (N8.a0 (N8.a1 tm)):=rfl
theorem bt(tm:TM)(v:AV):Na tm v=N8.u1 (N8.u0 (N8.u3 λ_=>v)) tm:=rfl
theorem gt(tm:TM):Ot tm=N8.a4 (N8.a0 (N8.a1 tm)):=rfl
theorem bu(tm:TM)(v:AV):NE tm v=N8.u1 (N8.u0 (N8.u4 λ_=>v)) tm:=rfl
theorem gu(tm:TM):Ma tm=N8.a5 (N8.a0 (N8.a1 tm)):=rfl
theorem bz(tm:TM)(v:AV):Me tm v=N8.u1 (N8.u0 (N8.u5 λ_=>v)) tm:=rfl
theorem gy(tm:TM):Ou tm=N8.a6 (N8.a0 (N8.a1 tm)):=rfl
theorem bA(tm:TM)(v:AV):Mf tm v=N8.u1 (N8.u0 (N8.u6 λ_=>v)) tm:=rfl
theorem ZcV(tm:TM):MG tm=N8.a7 (N8.a0 (N8.a1 tm)):=rfl
theorem ZdW(tm:TM)(v:AV):MQ tm v=N8.u1 (N8.u0 (N8.u7 λ_=>v)) tm:=rfl
theorem ZcW(tm:TM):PX tm=N8.a0 (N8.a1 (N8.a1 tm)):=rfl
theorem ZdX(tm:TM)(v:AV):Lo tm v=N8.u1 (N8.u1 (N8.u0 λ_=>v)) tm:=rfl
theorem ZcX(tm:TM):QH tm=N8.a1 (N8.a1 (N8.a1 tm)):=rfl
theorem ZdY(tm:TM)(v:AV):MR tm v=N8.u1 (N8.u1 (N8.u1 λ_=>v)) tm:=rfl
theorem ZcY(tm:TM):MH tm=N8.a2 (N8.a1 (N8.a1 tm)):=rfl
theorem ZdZ(tm:TM)(v:AV):MT tm v=N8.u1 (N8.u1 (N8.u2 λ_=>v)) tm:=rfl
theorem ZcZ(tm:TM):OV tm=N8.a3 (N8.a1 (N8.a1 tm)):=rfl
theorem Zd0(tm:TM)(v:AV):MU tm v=N8.u1 (N8.u1 (N8.u3 λ_=>v)) tm:=rfl
theorem Zc0(tm:TM):M5 tm=N8.a4 (N8.a1 (N8.a1 tm)):=rfl
theorem Zd1(tm:TM)(v:AV):Lq tm v=N8.u1 (N8.u1 (N8.u4 λ_=>v)) tm:=rfl
theorem gC(tm:TM):Kw tm=N8.a5 (N8.a1 (N8.a1 tm)):=rfl
theorem bB(tm:TM)(v:AV):KB tm v=N8.u1 (N8.u1 (N8.u5 λ_=>v)) tm:=rfl
theorem Zc1(tm:TM):Mb tm=N8.a6 (N8.a1 (N8.a1 tm)):=rfl
theorem Zd2(tm:TM)(v:AV):KC tm v=N8.u1 (N8.u1 (N8.u6 λ_=>v)) tm:=rfl
theorem Zh1(tm:TM):Nk tm=N8.a7 (N8.a1 (N8.a1 tm)):=rfl
theorem ZjF(tm:TM)(v:AV):KD tm v=N8.u1 (N8.u1 (N8.u7 λ_=>v)) tm:=rfl
theorem Zh2(tm:TM):Kx tm=N8.a0 (N8.a2 (N8.a1 tm)):=rfl
theorem ZjG(tm:TM)(v:AV):KE tm v=N8.u1 (N8.u2 (N8.u0 λ_=>v)) tm:=rfl
theorem ZjH(tm:TM)(v:AV):Jp tm v=N8.u1 (N8.u2 (N8.u1 λ_=>v)) tm:=rfl
theorem Zh3(tm:TM):JT tm=N8.a2 (N8.a2 (N8.a1 tm)):=rfl
theorem ZjI(tm:TM)(v:AV):JW tm v=N8.u1 (N8.u2 (N8.u2 λ_=>v)) tm:=rfl
theorem Zh4(tm:TM):JU tm=N8.a3 (N8.a2 (N8.a1 tm)):=rfl
theorem ZjJ(tm:TM)(v:AV):JX tm v=N8.u1 (N8.u2 (N8.u3 λ_=>v)) tm:=rfl
theorem Zh5(tm:TM):Oa tm=N8.a4 (N8.a2 (N8.a1 tm)):=rfl
theorem ZjK(tm:TM)(v:AV):JY tm v=N8.u1 (N8.u2 (N8.u4 λ_=>v)) tm:=rfl
theorem Zh6(tm:TM):Ky tm=N8.a5 (N8.a2 (N8.a1 tm)):=rfl
theorem ZjL(tm:TM)(v:AV):GX tm v=N8.u1 (N8.u2 (N8.u5 λ_=>v)) tm:=rfl
theorem Zh7(tm:TM):HU tm=N8.a6 (N8.a2 (N8.a1 tm)):=rfl
theorem ZjM(tm:TM)(v:AV):GY tm v=N8.u1 (N8.u2 (N8.u6 λ_=>v)) tm:=rfl
theorem Zh8(tm:TM):M6 tm=N8.a7 (N8.a2 (N8.a1 tm)):=rfl
theorem ZjN(tm:TM)(v:AV):F5 tm v=N8.u1 (N8.u2 (N8.u7 λ_=>v)) tm:=rfl
theorem Zh9(tm:TM):IG tm=N8.a0 (N8.a3 (N8.a1 tm)):=rfl
theorem ZjO(tm:TM)(v:AV):F6 tm v=N8.u1 (N8.u3 (N8.u0 λ_=>v)) tm:=rfl
theorem Zia(tm:TM):FC tm=N8.a1 (N8.a3 (N8.a1 tm)):=rfl
theorem ZjP(tm:TM)(v:AV):F7 tm v=N8.u1 (N8.u3 (N8.u1 λ_=>v)) tm:=rfl
theorem Zib(tm:TM):FD tm=N8.a2 (N8.a3 (N8.a1 tm)):=rfl
theorem ZjQ(tm:TM)(v:AV):F8 tm v=N8.u1 (N8.u3 (N8.u2 λ_=>v)) tm:=rfl
theorem Zic(tm:TM):KX tm=N8.a3 (N8.a3 (N8.a1 tm)):=rfl
theorem ZjR(tm:TM)(v:AV):F9 tm v=N8.u1 (N8.u3 (N8.u3 λ_=>v)) tm:=rfl
theorem pD(tm:TM):Kz tm=N8.a4 (N8.a3 (N8.a1 tm)):=rfl
theorem Zd3(tm:TM)(v:AV):Ea tm v=N8.u1 (N8.u3 (N8.u4 λ_=>v)) tm:=rfl
theorem Zc2(tm:TM):E8 tm=N8.a5 (N8.a3 (N8.a1 tm)):=rfl
theorem Zd4(tm:TM)(v:AV):Dg tm v=N8.u1 (N8.u3 (N8.u5 λ_=>v)) tm:=rfl
theorem Zid(tm:TM):E9 tm=N8.a6 (N8.a3 (N8.a1 tm)):=rfl
theorem ZjS(tm:TM)(v:AV):Dh tm v=N8.u1 (N8.u3 (N8.u6 λ_=>v)) tm:=rfl
theorem Zie(tm:TM):IH tm=N8.a7 (N8.a3 (N8.a1 tm)):=rfl
theorem ZjT(tm:TM)(v:AV):GZ tm v=N8.u1 (N8.u3 (N8.u7 λ_=>v)) tm:=rfl
theorem Zif(tm:TM):II tm=N8.a0 (N8.a4 (N8.a1 tm)):=rfl
theorem ZjU(tm:TM)(v:AV):G0 tm v=N8.u1 (N8.u4 (N8.u0 λ_=>v)) tm:=rfl
theorem Zig(tm:TM):JV tm=N8.a1 (N8.a4 (N8.a1 tm)):=rfl
theorem ZjV(tm:TM)(v:AV):Eb tm v=N8.u1 (N8.u4 (N8.u1 λ_=>v)) tm:=rfl
theorem Zih(tm:TM):Da tm=N8.a2 (N8.a4 (N8.a1 tm)):=rfl
theorem ZjW(tm:TM)(v:AV):Ec tm v=N8.u1 (N8.u4 (N8.u2 λ_=>v)) tm:=rfl
theorem Zii(tm:TM):FE tm=N8.a3 (N8.a4 (N8.a1 tm)):=rfl
theorem ZjX(tm:TM)(v:AV):Ed tm v=N8.u1 (N8.u4 (N8.u3 λ_=>v)) tm:=rfl
theorem ZeK(tm:TM):M0 tm=N8.a4 (N8.a4 (N8.a1 tm)):=rfl
theorem Zgc(tm:TM)(v:AV):Lk tm v=N8.u1 (N8.u4 (N8.u4 λ_=>v)) tm:=rfl
theorem ZeL(tm:TM):M1 tm=N8.a5 (N8.a4 (N8.a1 tm)):=rfl
theorem Zgd(tm:TM)(v:AV):Ll tm v=N8.u1 (N8.u4 (N8.u5 λ_=>v)) tm:=rfl
theorem ZeM(tm:TM):Nv tm=N8.a6 (N8.a4 (N8.a1 tm)):=rfl
theorem Zge(tm:TM)(v:AV):Kq tm v=N8.u1 (N8.u4 (N8.u6 λ_=>v)) tm:=rfl
theorem ZeN(tm:TM):Nw tm=N8.a7 (N8.a4 (N8.a1 tm)):=rfl
theorem Zgf(tm:TM)(v:AV):Kr tm v=N8.u1 (N8.u4 (N8.u7 λ_=>v)) tm:=rfl
theorem ZeO(tm:TM):Ki tm=N8.a0 (N8.a5 (N8.a1 tm)):=rfl
theorem Zgg(tm:TM)(v:AV):Ks tm v=N8.u1 (N8.u5 (N8.u0 λ_=>v)) tm:=rfl
theorem ZeP(tm:TM):M2 tm=N8.a1 (N8.a5 (N8.a1 tm)):=rfl
theorem Zgh(tm:TM)(v:AV):Kt tm v=N8.u1 (N8.u5 (N8.u1 λ_=>v)) tm:=rfl
theorem ZeQ(tm:TM):Kj tm=N8.a2 (N8.a5 (N8.a1 tm)):=rfl
theorem Zgi(tm:TM)(v:AV):Ku tm v=N8.u1 (N8.u5 (N8.u2 λ_=>v)) tm:=rfl
theorem ZeR(tm:TM):OS tm=N8.a3 (N8.a5 (N8.a1 tm)):=rfl
theorem Zgj(tm:TM)(v:AV):Ln tm v=N8.u1 (N8.u5 (N8.u3 λ_=>v)) tm:=rfl
theorem ZeS(tm:TM):M3 tm=N8.a4 (N8.a5 (N8.a1 tm)):=rfl
theorem Zgk(tm:TM)(v:AV):Jo tm v=N8.u1 (N8.u5 (N8.u4 λ_=>v)) tm:=rfl
theorem ZeT(tm:TM):vk tm=N8.a7 (N8.a5 (N8.a2 tm)):=rfl
structure Zw(H H':Heap)(S:List Nat):Prop where
 nx:H.nx<=H'.nx
 ro:H'.ro=H.ro
 get: ∀c,c<H.nx->c∉S->H'.t.get c=H.t.get c
theorem Zw.refl(H:Heap)(S:List Nat):Zw H H S:=⟨Zo _,rfl,λ_ _ _=>rfl⟩
theorem Zw.trans{H H' H'':Heap}{S S':List Nat}(a:Zw H H' S)(b:Zw H' H'' S')(h: ∀c,c∈S'->c<H.nx->c∈S):Zw H H'' S:=
 ⟨ZX a.nx b.nx,b.ro.trans a.ro,λc hc hn=>(b.get c (ZF hc a.nx) (λhh=>hn (h c hh hc))).trans (a.get c hc hn)⟩
theorem Zw.put{H:Heap}{b:Nat}{o:Obj}{S:List Nat}(h:b<H.nx->b∈S):Zw H (H.put b o) S:=
 ⟨Zo _,rfl,λc hc hn=>by rw[U3,if_neg (λ(e:b=c)=>hn (by rw[<-e];exact h (by omega)))]⟩
theorem Zw.new(H:Heap)(o:Obj)(S:List Nat):Zw H (H.new o) S:=
 ⟨Vj _,rfl,λc hc _=>by rw[VL,if_neg (by omega)]⟩
theorem Zw.then_put{H H':Heap}{b:Nat}{o:Obj}{S:List Nat}(k:Zw H H' S)(h:b<H.nx->b∈S):Zw H (H'.put b o) S:=
 ⟨k.nx,k.ro,λc hc hn=>by rw[U3,if_neg (λ(e:b=c)=>hn (by rw[<-e];exact h (by omega)))];exact k.get c hc hn⟩
theorem Zw.then_new{H H':Heap}{S:List Nat}(k:Zw H H' S)(o:Obj):Zw H (H'.new o) S:=
 ⟨Nat.le_succ_of_le k.nx,k.ro,λc hc hn=>by rw[VL,if_neg (by have:=k.nx;omega)];exact k.get c hc hn⟩
theorem Zw.trans'{H H' H'':Heap}{S':List Nat}(a:Zw H H' [])(b:Zw H' H'' S'):Zw H H'' S':=
 ⟨ZX a.nx b.nx,b.ro.trans a.ro,λc hc hn=>(b.get c (ZF hc a.nx) hn).trans (a.get c hc (by simp))⟩
structure Bytes(H:Heap)(b o:Nat)(cap:Option Nat)(l:List UInt8)(r:Row):Prop where
 at_:H.t.get b=some (.row r)
 sz:r.sz=1
 fits:o+l.length<=r.size
 get: ∀i,i<l.length->r.get (o+i)=XP (l.getD i 0)
 cap: ∀c,cap=some c->l.length<=c∧o+c<=r.size
def Nf(x:Option AV)(d top:Nat)(k:Nat->OR):OR:=match x with|none=>k d|some v=>R6 v λn=>ZP (Nat.ble n top) (k n)
noncomputable def Pp(sz:Nat)(a:AV)(lo hi:Option AV)(H:Heap):OR:=
 onZ a (Nf hi 0 0 λh=>Nf lo 0 h λ_=>.val .slice0 H)<|Sm a (Nf hi 0 0 λh=>Nf lo 0 h λ_=>.val .nils H) λb o len cap=>XB H b λr=>ZP (Js r sz cap) (Nf hi len (VI r o cap) λh=>Nf lo 0 h λl=>ZP (Nat.ble l (VI r o cap))<|
  cond (Nat.beq l (VI r o cap)) (Option.rec (.val (.slice H.nx 0 (Nat.sub h l) none) ⟨Nat.succ H.nx,H.t,H.ro⟩) (λ_=>.val (.slice b o (Nat.sub h l) (some 0)) H) cap)
   (.val (.slice b (Nat.add o (Nat.mul l sz)) (Nat.sub h l) (Option.rec none (λc=>some (Nat.sub c l)) cap)) H))
theorem LV(sz:Nat)(x:Z2)(lo hi:Option Z2)(tm:TM)(H:Heap):TQ sz x lo hi none tm H=Pp sz (x tm) (lo.map λf=>f tm) (hi.map λf=>f tm) H:=by
 cases lo<;>cases hi<;>rfl
def VJ(cap:Option Nat)(l:Nat):Option Nat:=cap.map λc=>c - l
theorem zZ{H:Heap}{b o len l h:Nat}{cap:Option Nat}{r:Row}(hr:H.t.get b=some (.row r))(hsz:r.sz=1)(hlo:l<h)(hhi:o+h<=r.size)(hcap: ∀c,cap=some c->h<=c)(k j:IntKind):
  Pp 1 (.slice b o len cap) (some (nI k l)) (some (nI j h)) H=.val (.slice b (o+l) (h - l) (VJ cap l)) H:=by
 have hc:h<=VI r o cap:=by
  cases cap with
  |none=>
   show h<=cond (Nat.beq r.sz 1) (r.size - o) _
   rw[hsz];show h<=r.size - o;omega
  |some c=>exact hcap c rfl
 have hs:Js r 1 cap=true:=by
  cases cap with
  |none=>show Nat.beq r.sz 1=true;rw[hsz];rfl
  |some c=>rfl
 show XB H b _=_
 unfold XB
 rw[hr]
 show ZP (Js r 1 cap) (ZP (Nat.ble h (VI r o cap)) (ZP (Nat.ble l h) (ZP (Nat.ble l (VI r o cap)) (cond (Nat.beq l (VI r o cap)) _ _))))=_
 rw[hs,Zl hc,Zl (Pt hlo),Zl (show l<=VI r o cap by omega),Yp,Zb (by omega)]
 show OR.val (.slice b (o+l*1) (h - l) _) H=_
 rw[Xr]
 cases cap<;>rfl
theorem Ms{f:Z2}{n b:Nat}{tm:TM}{H:Heap}{r:Row}{l:List AV}(hf:f tm=.ptr b 0)(hr:H.t.get b=some (.row r))(hc:Cells r l)(hn:l.length=n):results [(f,some (n,true))] tm H=.ret (.agg l) H:=by
 subst hn
 have e:VB r 0 l.length=l:=by rw[hc.load (by omega),Zz,Xg]
 have h2:Nat.ble (Nat.add 0 l.length) r.size=true:=by
  rw[hc.size];exact Zl (by show 0+l.length<=l.length;omega)
 unfold results O8 ZbU
 simp only[hf,hr,h2,cond_true,e]
 rfl
theorem CV(c:UInt8)(H:Heap):Ga .u32 (XP c) H=.val (ZN c.toUInt32) H:=by
 show TU .u32 (.ofNat c.toNat) H=_
 rw[Wy,Lu]
 unfold ZN
 rw[Sf,Yx (Nat.lt_trans c.toNat_lt (by decide))]
noncomputable def BF(n sz:Nat)(a:AV)(lo hi:Option AV)(H:Heap):OR:=QC a λb o=>Nf hi n n λh=>Nf lo 0 h λl=>
 cond (Nat.beq l n) (.val (.slice b o (Nat.sub h l) (some (Nat.sub n l))) H) (.val (.slice b (Nat.add o (Nat.mul l sz)) (Nat.sub h l) (some (Nat.sub n l))) H)
theorem IP(n sz:Nat)(x:Z2)(lo hi:Option Z2)(tm:TM)(H:Heap):Pm n sz x lo hi none tm H=BF n sz (x tm) (lo.map λf=>f tm) (hi.map λf=>f tm) H:=by
 cases lo<;>cases hi<;>rfl
theorem kh{n l:Nat}(h:l<n)(b o:Nat)(k:IntKind)(H:Heap):BF n 1 (.ptr b o) (some (nI k l)) none H=.val (.slice b (o+l) (n - l) (some (n - l))) H:=by
 show ZP (Nat.ble l n) (cond (Nat.beq l n) _ _)=_
 rw[Zl (Pt h),Yp,Zb (by omega)]
 show OR.val (.slice b (o+l*1) (n - l) (some (n - l))) H=_
 rw[Xr]
theorem kg{n m:Nat}(h:m<=n)(h0:0<n)(b o:Nat)(k:IntKind)(H:Heap):BF n 1 (.ptr b o) none (some (nI k m)) H=.val (.slice b o m (some n)) H:=by
 show ZP (Nat.ble m n) (ZP (Nat.ble 0 m) (cond (Nat.beq 0 n) _ _))=_
 rw[Zl h,Zl (Ym _),Yp,Zb (by omega)]
 show OR.val (.slice b (o+0*1) (m - 0) (some (n - 0))) H=_
 rw[W4];rfl
noncomputable def qS(sz:Nat)(a v:AV)(H:Heap):OR:=xm v λsn=>Sm a (.val (.int .i64 0) H) λb o dn _=>Rv (K5 dn sn) λn=>VV H sz v n λnew=>
 cond (Nat.beq n 0) (.val (.int .i64 0) H) (XB H b λr=>ZP (H.may r b) (ZP (Nat.ble r.fz o) (ZP (Nat.ble (Nat.add o (Nat.mul n sz)) r.size) (.val (.int .i64 (.ofNat n)) (H.put b (.row (r.setCells (YQ r.cells o new))))))))
theorem zB(x y:Z2)(sz:Nat)(tm:TM)(H:Heap):EU x y sz tm H=qS sz (x tm) (y tm) H:=rfl
theorem jG{H:Heap}{b o c q n:Nat}{e1 e2:Option Nat}{r s:Row}{l m:List AV}(hr:H.t.get b=some (.row r))(hc:Cells r l)(how:r.own=true)(hro:H.ro<=b)(hfz:r.fz=0)(ho:o+n<=l.length)(hn:0<n)
  (hs:H.t.get c=some (.row s))(hm:Cells s m)(hq:q+n<=m.length):
  qS 1 (.slice b o n e1) (.slice c q n e2) H=.val (nI .i64 n) (H.put b (.row (r.setCells (YQ r.cells o ((m.drop q).take n))))):=by
 show Rv (K5 n n) (λn=>VV H 1 (.slice c q _ e2) n λnew=>cond (Nat.beq n 0) (.val (.int .i64 0) H) (XB H b λr=>ZP (H.may r b) (ZP (Nat.ble r.fz o) (ZP (Nat.ble (o+n*1) r.size) (.val (.int .i64 (.ofNat n)) (H.put b (.row (r.setCells (YQ r.cells o new)))))))))=_
 have e:K5 n n=n:=by unfold K5;rw[Zl (Zo _)];rfl
 have e2:Nat.beq n 0=false:=by rw[Yp];exact Zb (by omega)
 have h1:H.may r b=true:=by unfold Heap.may;rw[how,Zl hro];rfl
 rw[Oq,e]
 unfold VV
 rw[e2]
 simp only[cond_false]
 unfold XB
 rw[hs,hr]
 simp only[Xr]
 show ZP (Nat.ble (q+n*1) s.size) _=_
 rw[Xr,hm.size,Zl hq,show Nat.mul n 1=n from Xr n,hm.load hq,h1,hfz,Zl (Ym _),hc.size,Zl ho]
 rfl
noncomputable def Of(k:List AV->OR)(ps:List (Nat×Nat×AV)):List AV->OR:=List.rec (λcells=>k cells) (λp _ ih cells=>
 ZP (Nat.ble 1 p.2.1)<|ZP (Nat.beq (YL p.2.2.cells) p.2.1) (ZP (Nat.ble (Nat.add p.1 p.2.1) (YL cells)) (ih (Nx p.1 cells++(p.2.2.cells++ON (Nat.add p.1 p.2.1) cells))))) ps
theorem Fw(tm:TM)(k:List AV->OR): ∀(ps:List yF) (cells:List AV),AN tm k ps cells=Of k (ps.map λp=>(p.off,p.sz,p.x tm)) cells
 |[],_=>rfl
 |p::ps,cells=>by
  show ZP (Nat.ble 1 p.sz) (ZP (Nat.beq (YL (p.x tm).cells) p.sz) (ZP (Nat.ble (Nat.add p.off p.sz) (YL cells)) (AN tm k ps (Nx p.off cells++((p.x tm).cells++ON (Nat.add p.off p.sz) cells)))))=_
  rw[Fw tm k ps]
  rfl
noncomputable def PT(zs:List AV)(ps:List (Nat×Nat×AV))(H:Heap):OR:=ZP (Nat.ble 1 (YL zs))<|Of (λcs=>.val (.agg cs) H) ps zs
theorem Vl(zs:List AV)(ps:List yF)(tm:TM)(H:Heap):UF zs ps tm H=PT zs (ps.map λp=>(p.off,p.sz,p.x tm)) H:=by
 unfold UF PT
 rw[Fw]
noncomputable def S9(e sz n:Nat)(zs:List AV)(ps:List (Nat×Nat×AV))(H:Heap):OR:=ZP (Nat.ble 1 sz)<|ZP (Nat.beq (YL zs) (Nat.mul n sz))<|Of (λcs=>.val (.slice H.nx 0 n none) (H.newRow e sz cs true)) ps zs
theorem Z9(e sz n:Nat)(zs:List AV)(ps:List yF)(tm:TM)(H:Heap):We e sz n zs ps tm H=S9 e sz n zs (ps.map λp=>(p.off,p.sz,p.x tm)) H:=by
 unfold We S9
 rw[Fw]
theorem Sg(e:Nat)(z v:AV)(h:v.cells=[v])(H:Heap):S9 e 1 1 [z] [(0,1,v)] H=.val (.slice H.nx 0 1 none) (H.newRow e 1 [v] true):=by
 show ZP (Nat.beq (YL v.cells) 1) (ZP (Nat.ble 1 1) (.val _ (H.newRow e 1 (v.cells++[]) true)))=_
 rw[h];rfl
noncomputable def U0(e sz bytes:Nat)(a v:AV)(H:Heap):OR:=ZP (Nat.ble 1 sz)<|ZP (Nat.ble 1 bytes)<|xm v λn=>VV H sz v n λnew=>MW a e sz bytes H n new
theorem Wn(x y:Z2)(e sz bytes:Nat)(tm:TM)(H:Heap):W7 x y e sz bytes tm H=U0 e sz bytes (x tm) (y tm) H:=rfl
def Src(H:Heap)(v:AV)(l:List AV):Prop:= ∀k:Nat->List AV->OR,(xm v λn=>VV H 1 v n λnew=>k n new)=k l.length l
theorem Src.nils(H:Heap):Src H .nils []:=λ_=>rfl
theorem Src.none(H:Heap)(b o:Nat)(c:Option Nat):Src H (.slice b o 0 c) []:=λ_=>rfl
theorem Src.row{H:Heap}{b o:Nat}{c:Option Nat}{r:Row}{l:List AV}(hr:H.t.get b=some (.row r))(hf:o+l.length<=r.size)(hg: ∀i,i<l.length->r.get (o+i)=l.getD i .unk):Src H (.slice b o l.length c) l:=by
 intro k
 show(VV H 1 (.slice b o l.length c) l.length λnew=>k l.length new)=_
 unfold VV
 rw[Yp]
 by_cases h0:l.length=0
 ·rw[Zd h0]
  have:l=[]:=YR.1 h0
  subst this;rfl
 ·rw[Zb h0]
  unfold XB
  simp only[hr,cond_false,Xr]
  show ZP (Nat.ble (o+l.length*1) r.size) (k l.length (VB r o (l.length*1)))=_
  rw[Xr,Zl hf]
  have:VB r o l.length=l:=by
   refine WS λj=>?_
   by_cases hj:j<l.length
   ·rw[Qp r _ o j hj,hg j hj,Ze,Zk hj];rfl
   ·rw[YP (by rw[Qq];omega),YP (by omega)]
  rw[this];rfl
theorem Pu{H:Heap}{e bytes:Nat}{a v:AV}{l:List AV}(hb:1<=bytes)(h:Src H v l):U0 e 1 bytes a v H=MW a e 1 bytes H l.length l:=by
 show ZP (Nat.ble 1 1) (ZP (Nat.ble 1 bytes) _)=_
 rw[Zl hb]
 exact h λn new=>MW a e 1 bytes H n new
theorem Au(e bytes:Nat)(H:Heap):MW .nils e 1 bytes H 0 []=.val .nils H:=rfl
theorem KK{e:Nat}{H:Heap}{l:List AV}(h0:0<l.length)(hl:l.length<=140737488355328):MW .nils e 1 1 H l.length l=.val (.slice H.nx 0 l.length none) (H.newRow e 1 l false):=by
 show cond (Nat.beq l.length 0) _ (ZP (Nat.ble (l.length*1) 140737488355328) _)=_
 rw[Yp,Zb (by omega),Xr,Zl hl];rfl
structure tJ(H:Heap)(b e:Nat)(l:List AV)(r:Row):Prop extends Own H b e l r where
 exact_:r.exact=false
 low:b<H.nx
theorem KU{H:Heap}{e:Nat}{l:List AV}(hro:H.ro<=H.nx):tJ (H.newRow e 1 l false) H.nx e l ⟨e,1,YL l,T.ofList l,.unk,0,false,true,false⟩:=
 ⟨⟨by rw[TC,VL,if_pos rfl],rfl,rfl,rfl,rfl,rfl,Cells.new ..,hro⟩,rfl,Yo _⟩
theorem Fe{H:Heap}{b e:Nat}{l m:List AV}{r:Row}(g:tJ H b e l r)(hm:0<m.length)(hl:l.length+m.length<=140737488355328):
  ∃H' r',MW (.slice b 0 l.length none) e 1 1 H m.length m=.val (.slice H.nx 0 (l.length+m.length) none) H'∧tJ H' H.nx e (l++m) r'∧Zw H H' [b]∧H'.nx=H.nx+1:=by
 have hsz:r.size=l.length:=g.cells.size
 have hcap:VI r 0 none=l.length:=by
  show cond (Nat.beq r.sz 1) (r.size - 0) _=_
  rw[g.sz,hsz];rfl
 have NX:H.may r b=true:=by unfold Heap.may;rw[g.own,Zl g.ro];rfl
 refine⟨⟨Nat.succ H.nx,(H.t.del b).set H.nx (.row ⟨r.elem,1,(l.length+m.length)*1,YQ r.cells (l.length*1) m,r.dflt,r.fz,r.sm,true,false⟩),H.ro⟩,⟨r.elem,1,(l.length+m.length)*1,YQ r.cells (l.length*1) m,r.dflt,r.fz,r.sm,true,false⟩,?_,⟨⟨by rw[T.get_set,if_pos rfl],g.elem,rfl,rfl,g.fz,g.sm,?_,ZX g.ro (Pt g.low)⟩,rfl,Yo _⟩,⟨Vj _,rfl,λc hc hn=>?_⟩,rfl⟩
 ·show XB H b (λr=>ZP (Js r 1 none) (cond (Nat.ble (Nat.add l.length m.length) (VI r 0 none)) (DX H _ b 0 l.length m.length 1 none r m) (Lz H e b 0 l.length m.length 1 1 none r m)))=_
  unfold XB
  simp only[g.at_]
  have h1:Js r 1 none=true:=by show Nat.beq r.sz 1=true;rw[g.sz];rfl
  have h2:Nat.ble (Nat.add l.length m.length) (VI r 0 none)=false:=by
   rw[hcap]
   cases h:Nat.ble (Nat.add l.length m.length) l.length with
   |false=>rfl
   |true=>have:=ZT h;have:l.length+m.length<=l.length:=this;omega
  rw[h1,h2]
  show ZP (Nat.ble ((l.length+m.length)*1) 140737488355328) (ZP (Nat.ble (0+l.length*1) r.size) (cond r.exact _ (Ij H e b 0 l.length m.length 1 r m)))=_
  rw[Xr,Zl hl,hsz,Xr,Zf,Zl (Zo _),g.exact_]
  show ZP (Nat.beq r.elem e) (ZP (H.may r b) (ZP (Nat.ble r.fz (l.length*1)) (ZP (Nat.beq (l.length*1) r.size) (ZP (Nat.beq 0 0) _))))=_
  rw[g.elem,Ys,NX,g.fz,Zl (Ym _),hsz,Xr,Ys]
  show OR.val (.slice H.nx 0 (l.length+m.length) none) ⟨Nat.succ H.nx,(H.t.del b).set H.nx (.row ⟨e,1,(l.length+m.length)*1,YQ r.cells (l.length*1) m,r.dflt,0,r.sm,true,false⟩),H.ro⟩=_
  rw[Xr,Xr]
 ·refine⟨by show(l.length+m.length)*1=_;rw[ZE];omega,λi hi=>?_⟩
  rw[ZE] at hi
  rw[Row.get_eq]
  show((YQ r.cells (l.length*1) m).get i).getD r.dflt=_
  rw[Xr,OG,Ze]
  by_cases h1:l.length<=i
  ·rw[if_pos ⟨h1,by omega⟩,Z5 h1,Zk (show i - l.length<m.length by omega)];rfl
  ·rw[if_neg (by omega),Z1 (by omega)]
   have:=g.cells.get i (by omega)
   rw[Row.get_eq,Ze] at this
   exact this
 ·show((H.t.del b).set H.nx _).get c=_
  rw[T.get_set,if_neg (by omega),T.get_del,if_neg (λe=>hn (by simp[e]))]
section
variable {P:Program}
theorem ZeA(x y:UInt8):Uk (XP x) (XP y)=some (decide (x=y)):=by
 show cond (Nl .u8 .u8) (some (Fc (.ofNat x.toNat) (.ofNat y.toNat))) none=_
 rw[X3,Mn]
 show some _=some _
 congr 1
 by_cases h:x=y
 ·subst h;rw[Zd rfl,Zd rfl]
 ·rw[Zb h,Zb (λe=>h (U9.1 e))]
theorem zK{t:Nat}(hi: ∃i,P.info? t=some i)(ha:oT P t=some false)(cs:List AV)(off:Nat)(k:AV->Option Bool):Je P t cs off k=match De cs off with|some v=>k v|none=>none:=by
 obtain⟨i,hi⟩:=hi
 unfold Je
 rw[hi,ha]
 rfl
theorem Cp{t:Nat}(hi: ∃i,P.info? t=some i)(ha:oT P t=some false){f:AV->AV->Option Bool}(hf: ∀x y:UInt8,f (XP x) (XP y)=some (decide (x=y)))(l m:List UInt8)(hlm:l.length=m.length):
  ∀c s,s+c=l.length->QS P f t 1 (l.map XP) (m.map XP) (List.range' s c)=some (decide (l.drop s=m.drop s))
 |0,s,h=>by
  rw[X8 (by omega),X8 (by omega)]
  rfl
 |c+1,s,h=>by
  rw[TB]
  show Je P t (l.map XP) (s*1) (λa=>Je P t (m.map XP) (s*1) λb=>tM (f a b) (QS P f t 1 (l.map XP) (m.map XP) (List.range' (s+1) c)))=_
  have h1:s<l.length:=by omega
  have h2:s<m.length:=by omega
  rw[zK hi ha,Xr,LU,ZZ,Zk h1]
  show Je P t (m.map XP) s (λb=>tM (f (XP l[s]) b) (QS P f t 1 (l.map XP) (m.map XP) (List.range' (s+1) c)))=_
  rw[zK hi ha,LU,ZZ,Zk h2]
  show tM (f (XP l[s]) (XP m[s])) _=_
  rw[hf,Cp hi ha hf l m hlm c (s+1) (by omega)]
  rw[Ws h1,Ws h2]
  by_cases e:l[s]=m[s]
  ·rw[Zd e]
   show some _=some _
   congr 1
   by_cases e2:l.drop (s+1)=m.drop (s+1)
   ·rw[Zd e2,Zd (by rw[e,e2])]
   ·rw[Zb e2,Zb (λh=>e2 (List.cons.inj h).2)]
  ·rw[Zb e,Zb (λh=>e (List.cons.inj h).1)];rfl
theorem AM{t e n d:Nat}{i:TypeInfo}(ht:P.underlying t=some (.array n e))(he:P.underlying e=some (.int .u8))(hi:P.info? e=some i)(hs:i.size=1)(l m:List UInt8)(hl:l.length=n)(hm:m.length=n)(H:Heap):
  Iz (Ag P (d+2) t) false (.agg (l.map XP)) (.agg (m.map XP)) H=.val (.bool (decide (l=m))) H:=by
 have h1:Ag P (d+2) t (.agg (l.map XP)) (.agg (m.map XP))=some (decide (l=m)):=by
  unfold Ag
  rw[ht]
  show wo (.agg (l.map XP)) (.agg (m.map XP)) (λl m=>match P.info? e with|some i=>QS P (Ag P (d+1) e) e i.size l m (List.range n)|none=>none)=_
  show(match P.info? e with|some i=>QS P (Ag P (d+1) e) e i.size (l.map XP) (m.map XP) (List.range n)|none=>none)=_
  rw[hi]
  show QS P (Ag P (d+1) e) e i.size (l.map XP) (m.map XP) (List.range n)=_
  rw[hs,SD,Cp ⟨i,hi⟩ (by unfold oT;rw[he]) (λx y=>by unfold Ag;rw[he];exact ZeA x y) l m (by omega) n 0 (by omega)]
  rfl
 show UU (Ag P (d+2) t (.agg (l.map XP)) (.agg (m.map XP))) _=_
 rw[h1]
 exact TE _ _
theorem RZ{l:List AV}(h:sameL l l=true)(n:Nat)(t:T Obj):VS (.val (.agg l) ⟨n,t,n⟩) (.agg l) n=true:=TK _ _ _ (by unfold same;exact h)
theorem Bz(s:List UInt8):same (.str s) (.str s)=true:=by
 unfold same;rw[Qh];simp
theorem sR(s:List UInt8)(n:Nat)(t:T Obj):VS (.val (.str s) ⟨n,t,n⟩) (.str s) n=true:=TK _ _ _ (Bz s)
theorem Ua(b o n:Nat)(c:Option Nat)(k:Nat)(t:T Obj):VS (.val (.slice b o n c) ⟨k,t,k⟩) (.slice b o n c) k=true:=TK _ _ _ (by
 unfold same
 rw[Ys,Ys,Ys]
 cases c with
 |none=>rfl
 |some x=>show Nat.beq x x=true;exact Ys x)
theorem Mo(n:Nat)(t:T Obj):VS (.val .nils ⟨n,t,n⟩) .nils n=true:=TK _ _ _ (by unfold same;rfl)
variable (ds:List ZK) (f:VG) (e:Z2) (b:Bool) (os:List (ZK×Z2)) (dst:ZK) (i bef:Nat) (nx:PK) (c:Ctx) (rs:List RD) (tm:TM) (H:Heap) (x:X)
theorem ta:Rp ds ⟨f,some (e,b),os,dst,.free,i,bef⟩ nx c rs tm H x=Tp (e tm) b (cond (QB H.nx tm os) (KQ ⟨f,some (e,b),os,dst,.free,i,bef⟩ nx rs tm H x (f (Po tm os) ⟨H.nx,.leaf,H.nx⟩)) .fail) (nx rs (dst tm YS) H x):=rfl
theorem tc:Rp ds ⟨f,some (e,b),os,dst,.read,i,bef⟩ nx c rs tm H x=Tp (e tm) b (Ie ⟨f,some (e,b),os,dst,.read,i,bef⟩ nx rs tm H x (f (Po tm os) ⟨H.nx,H.t,H.nx⟩)) (nx rs (dst tm YS) H x):=rfl
theorem ql:Rp ds ⟨f,some (e,b),os,dst,.eff,i,bef⟩ nx c rs tm H x=cond (still tm H rs) (Tp (e tm) b (Hw ds ⟨f,some (e,b),os,dst,.eff,i,bef⟩ nx rs c tm x (f (Po tm os) H)) (nx (Tg bef rs) (dst tm YS) H x)) .fail:=rfl
theorem nH(g:Option (Z2×Bool))(kd:I5)(v:AV)(o:Obj)(hw:wrO o=true):KQ ⟨f,g,os,dst,kd,i,bef⟩ nx rs tm H x (.val v ((⟨H.nx,.leaf,H.nx⟩:Heap).new o))=nx rs (dst tm v) (H.new o) x:=by
 show cond (Nat.beq (H.nx+1) H.nx) _ (cond (Nat.beq (H.nx+1) (Nat.succ H.nx)) (eC (((T.leaf:T Obj).set H.nx o).get H.nx) λo=>nx rs (dst tm v) (H.new o) x) .fail)=_
 rw[Yp,Zb (by omega),Yp,Zd rfl,T.get_set,if_pos rfl]
 show cond (wrO o) _ _=_
 rw[hw];rfl
end
theorem AA{lib:Nat->List AV->Heap->Option CR}{fs:T CF}{fuel n f:Nat}{args:List AV}{H:Heap}{r:CR}(h:lib f args H=some r):ZU lib fs fuel (n+1) f args H=r:=by
 show pO (lib f args H) _=_
 rw[h];rfl
section
variable {P:Program}
theorem pM{call:Nat->List AV->Heap->CR}(hcall:SE P call){f:FuncId}{args:List AV}{H H':Heap}{v:AV}(hrun:call f args H=.ret v H')(k:Zw H H' [])(hlow:Wl 0 v=true)
  {σ:Mp}{w:World}{vs:List Value}(hs:WM P σ H w)(hv:YE σ args vs):Lw P σ H w (.ret v H) ((callFunc f ⟨vs⟩).run P w):=by
 have hcr:=hcall f _ H σ w vs hs hv
 rw[hrun] at hcr
 refine Ends.mono (λu' w' hx=>?_) (λ_ _ hx=>hx) hcr
 obtain⟨σ2,h1,t⟩:=hx
 refine⟨σ,?_,t.drop hs λb hb=>k.get b hb (by simp)⟩
 exact(Yk.cut hlow h1).mono λy _ hy=>by have:=(Mp.cut_some hy).1;omega
end
noncomputable def pN(a:AV)(H:Heap):OR:=O3 a λs=>Rv (YL s) λn=>.val (.int .i64 (.ofNat n)) H
theorem mU(x:Z2)(tm:TM)(H:Heap):XN x tm H=pN (x tm) H:=rfl
theorem Z0(s:List UInt8)(H:Heap):pN (.str s) H=.val (nI .i64 s.length) H:=by
 show Rv (YL s) (λn=>OR.val (.int .i64 (.ofNat n)) H)=_
 rw[Oq,Yz];rfl
noncomputable def Dr(a i:AV)(H:Heap):OR:=R6 i λi=>O3 a λs=>UU (vN s i) λb=>Rv b.toNat λn=>.val (.int .u8 (.ofNat n)) H
theorem vR(x y:Z2)(tm:TM)(H:Heap):Wp x y tm H=Dr (x tm) (y tm) H:=rfl
theorem sL{s:List UInt8}{i:Nat}(h:i<s.length)(k:IntKind)(H:Heap):Dr (.str s) (nI k i) H=.val (XP (s.getD i 0)) H:=by
 show UU (vN s i) _=_
 rw[xF,Zk h]
 show Rv s[i].toNat (λn=>OR.val (.int .u8 (.ofNat n)) H)=_
 rw[Oq,Ze,Zk h];rfl
noncomputable def F4(a:AV)(lo hi:Option AV)(H:Heap):OR:=O3 a λs=>Nf hi (YL s) (YL s) λh=>Nf lo 0 h λl=>.val (.str (J3 l (Jt h s))) H
theorem ry(x:Z2)(lo hi:Option Z2)(tm:TM)(H:Heap):Vm x lo hi none tm H=F4 (x tm) (lo.map λf=>f tm) (hi.map λf=>f tm) H:=by
 cases lo<;>cases hi<;>rfl
theorem N4{s:List UInt8}{n:Nat}(h:n<=s.length)(k:IntKind)(H:Heap):F4 (.str s) none (some (nI k n)) H=.val (.str (s.take n)) H:=by
 show ZP (Nat.ble n (YL s)) (OR.val (.str (J3 0 (Jt n s))) H)=_
 rw[Yz,Zl h,Lr];rfl
theorem KH{a b:List UInt8}(h:a.length+b.length<=4611686018427387904)(H:Heap):DP (.str a) (.str b) H=.val (.str (a++b)) H:=by
 show ZP (Nat.ble (Nat.add (YL a) (YL b)) 4611686018427387904) _=_
 rw[Yz,Yz,Zl (show Nat.add a.length b.length<=_ from h)];rfl
theorem Xc(a b:List UInt8)(H:Heap):Iz Mj false (.str a) (.str b) H=.val (.bool (decide (a=b))) H:=by
 show So (Jq a b) H=_
 rw[TE,Qh]
 congr 2
 by_cases h:a=b<;>simp[h]
theorem T2(a b:List UInt8)(H:Heap):Iz Mj true (.str a) (.str b) H=.val (.bool (!decide (a=b))) H:=by
 show So (cond (Jq a b) false true) H=_
 rw[TE,Qh]
 congr 2
 by_cases h:a=b<;>simp[h]
structure Below(n:Nat)(H H':Heap):Prop where
 nx:H.nx<=H'.nx
 ro:H'.ro=H.ro
 get: ∀c,c<n->c<H.nx->H'.t.get c=H.t.get c
theorem Below.refl(n:Nat)(H:Heap):Below n H H:=⟨Zo _,rfl,λ_ _ _=>rfl⟩
theorem Below.trans{n:Nat}{H H' H'':Heap}(a:Below n H H')(b:Below n H' H''):Below n H H'':=
 ⟨ZX a.nx b.nx,b.ro.trans a.ro,λc h1 h2=>(b.get c h1 (ZF h2 a.nx)).trans (a.get c h1 h2)⟩
theorem Below.put{n b:Nat}{H:Heap}{o:Obj}(h:n<=b):Below n H (H.put b o):=⟨Zo _,rfl,λc h1 _=>by rw[U3,if_neg (by omega)]⟩
theorem Below.new(n:Nat)(H:Heap)(o:Obj):Below n H (H.new o):=⟨Vj _,rfl,λc _ h2=>by rw[VL,if_neg (by omega)]⟩
theorem Below.mono{n m:Nat}{H H':Heap}(a:Below n H H')(h:m<=n):Below m H H':=⟨a.nx,a.ro,λc h1 h2=>a.get c (by omega) h2⟩
theorem Zw.below{H0 H H':Heap}{n:Nat}(k:Zw H0 H [])(b:Below n H H')(h:H0.nx<=n):Zw H0 H' []:=
 ⟨ZX k.nx b.nx,b.ro.trans k.ro,λc h1 h2=>(b.get c (by omega) (ZF h1 k.nx)).trans (k.get c h1 h2)⟩
def Zll(H:Heap)(v:AV)(l:List UInt8)(lo:Nat):Prop:= ∃b r,v=.slice b 0 l.length none∧tJ H b 5 (l.map XP) r∧lo<=b
def Buf(H:Heap)(v:AV)(l:List UInt8)(lo:Nat):Prop:=(l=[]∧v=.nils)∨(l≠[]∧Zll H v l lo)
theorem wz{H:Heap}{v:AV}{l:List UInt8}{lo:Nat}(h:Buf H v l lo)(hl:l.length<140737488355328)(hro:H.ro<=H.nx)(hlo:lo<=H.nx)(x:UInt8):
  ∃v' H',U0 5 1 1 v (.slice H.nx 0 1 none) (H.newRow 5 1 [XP x] true)=.val v' H'∧Buf H' v' (l++[x]) lo∧Below lo H H':=by
 generalize hH1:H.newRow 5 1 [XP x] true=H1
 have Lb:H1.nx=H.nx+1:=by rw[<-hH1];rfl
 have k1:Zw H H1 []:=by rw[<-hH1];exact Zw.new H _ []
 have b1:Below lo H H1:=by rw[<-hH1];exact Below.new lo H _
 have gx:H1.t.get H.nx=some (.row ⟨5,1,1,T.ofList [XP x],.unk,0,false,true,true⟩):=by rw[<-hH1,TC,VL,if_pos rfl];rfl
 have src:Src H1 (.slice H.nx 0 1 none) [XP x]:=Src.row (l:=[XP x]) gx (Zo _) (λi hi=>by
  have:i=0:=by simp at hi;exact hi
  subst this
  rfl)
 rw[Pu (Zo 1) src]
 rcases h with⟨rfl,rfl⟩|⟨hne,b,r,rfl,g,hb⟩
 ·have g:=KU (H:=H1) (e:=5) (l:=[XP x]) (by rw[k1.ro];omega)
  exact⟨_,_,KK (l:=[XP x]) (by simp) (by simp),.inr ⟨by simp,_,_,rfl,g,by omega⟩,b1.trans (Below.new lo H1 _)⟩
 ·have g1:tJ H1 b 5 (l.map XP) r:=⟨⟨by rw[k1.get b g.low (by simp)];exact g.at_,g.elem,g.sz,g.own,g.fz,g.sm,g.cells,by rw[k1.ro];exact g.ro⟩,g.exact_,by have:=g.low;omega⟩
  obtain⟨H',r',e,g',k',nx'⟩:=Fe (m:=[XP x]) g1 (by simp) (by rw[Zp];simp;omega)
  rw[Zp] at e
  refine⟨_,H',e,.inr ⟨by simp,H1.nx,r',by rw[ZE];rfl,by rw[YA];exact g',by omega⟩,b1.trans ⟨by omega,k'.ro,λc h1 h2=>k'.get c h2 (by simp;omega)⟩⟩
theorem Buf.below{H H':Heap}{v:AV}{l:List UInt8}{lo:Nat}(h:Buf H v l lo)(hp: ∀c,lo<=c->c<H.nx->H'.t.get c=H.t.get c)(hro:H'.ro=H.ro)(hnx:H.nx<=H'.nx):Buf H' v l lo:=by
 rcases h with h|⟨hne,b,r,rfl,g,hb⟩
 ·exact .inl h
 ·exact .inr ⟨hne,b,r,rfl,⟨⟨by rw[hp b hb g.low];exact g.at_,g.elem,g.sz,g.own,g.fz,g.sm,g.cells,by rw[hro];exact g.ro⟩,g.exact_,ZF g.low hnx⟩,hb⟩
theorem Yy(k:IntKind)(a b:Nat)(H:Heap):OM Tf W0 (nI k a) (nI k b) H=.val (.bool (decide (b<a))) H:=by
 show ZP (Nl k k) (So (vx (.ofNat b) (.ofNat a)) H)=_
 rw[X3,TE,JA];rfl
theorem Xh(k:IntKind)(a b:Nat)(H:Heap):OM Rm Uo (nI k a) (nI k b) H=.val (.bool (decide (a<=b))) H:=by
 show ZP (Nl k k) (So (!vx (.ofNat b) (.ofNat a)) H)=_
 rw[X3,TE,JA]
 show OR.val (.bool (!decide (b<a))) H=_
 congr 2
 by_cases h:b<a
 ·rw[Zd h,Zb (by omega)];rfl
 ·rw[Zb h,Zd (by omega)];rfl
theorem ZbP(b c:AV)(H:Heap):Bp (.bool true) b c H=.val b H:=rfl
theorem ZbO(b c:AV)(H:Heap):Bp (.bool false) b c H=.val c H:=rfl
theorem ZfE(b:Bool)(H:Heap):fU (.bool b) H=.val (.bool (cond b false true)) H:=rfl
theorem fF(n:Nat)(l:List AV):Wl n (.agg l)=RJ n l:=rfl
theorem rh(n:Nat):Wl n YS=true:=rfl
theorem fH(n:Nat)(s:List UInt8):Wl n (.str s)=true:=rfl
noncomputable def ZfB(mx:Bool)(l:List AV)(H:Heap):OR:=match l with
 |.int k a::l=>min2 mx k a H l
 |_=>.fail
theorem vS(mx:Bool)(args:List Z2)(tm:TM)(H:Heap):TW mx args tm H=ZfB mx (evs tm args) H:=rfl
theorem Ge(a b:Nat)(H:Heap):ZfB false [nI .i64 a,nI .i64 b] H=.val (nI .i64 (min a b)) H:=by
 show ZP (Nl .i64 .i64) (min2 false .i64 (cond (cond false (vx (.ofNat a) (.ofNat b)) (vx (.ofNat b) (.ofNat a))) (.ofNat b) (.ofNat a)) H [])=_
 rw[X3,JA,JA]
 show OR.val (.int .i64 (cond (decide (b<a)) (.ofNat b) (.ofNat a))) H=_
 by_cases h:b<a
 ·rw[Zd h,U8 (by omega)];rfl
 ·rw[Zb h,Wb (by omega)];rfl
noncomputable def Ey(i:Nat)(a:AV)(H:Heap):OR:=oe a λvs=>UU (De vs i) λv=>.val v H
theorem mS(x:Z2)(i:Nat)(tm:TM)(H:Heap):Wf x i tm H=Ey i (x tm) H:=rfl
theorem Zah(a:AV)(l:List AV)(H:Heap):Ey 0 (.tup (a::l)) H=.val a H:=rfl
theorem Zai(a b:AV)(l:List AV)(H:Heap):Ey 1 (.tup (a::b::l)) H=.val b H:=rfl
theorem Zaj(a b c:AV)(l:List AV)(H:Heap):Ey 2 (.tup (a::b::c::l)) H=.val c H:=rfl
theorem Zaf(a b:Bool)(H:Heap):Iz kR false (.bool a) (.bool b) H=.val (.bool (decide (a=b))) H:=by cases a<;>cases b<;>rfl
theorem IM(a:TM->Heap->X->WC)(n:Nat)(tm:TM)(H:Heap)(x:X):XD a (n+1) tm H x=Q7 (a tm H x) (XD a n):=rfl
noncomputable def Zdq(a:AV)(H:Heap):OR:=match a with
 |.nilp=>.val .nilp H
 |.ptr b o=>XB H b λr=>ZP (Nat.ble (Nat.succ o) r.size) (.val (.ptr b o) H)
 |_=>.fail
theorem mX(x:Z2)(tm:TM)(H:Heap):zF x tm H=Zdq (x tm) H:=rfl
noncomputable def Zdp(u n:Nat)(a:AV)(H:Heap):OR:=match a with
 |.nilp=>.val .nilp H
 |.ptr b o=>XB H b λr=>ZP r.exact (ZP (Nat.beq r.elem u) (ZP (Nat.beq o 0) (ZP (Nat.ble n r.size) (.val (.ptr b o) H))))
 |_=>.fail
theorem mW(x:Z2)(u n:Nat)(tm:TM)(H:Heap):zE x u n tm H=Zdp u n (x tm) H:=rfl
noncomputable def oP(a:AV)(H:Heap):OR:=Sm a (.val .nilp H) λb o _ cap=>Option.rec (XB H b λr=>ZP (Nat.ble (Nat.succ o) r.size) (.val (.ptr b o) H)) (λc=>ZP (Nat.ble 1 c) (.val (.ptr b o) H)) cap
theorem v7(x:Z2)(tm:TM)(H:Heap):Dy x tm H=oP (x tm) H:=rfl
noncomputable def Zd7(e:Nat)(a n:AV)(H:Heap):OR:=R6 n λn=>cond (Nat.beq n 0) (match a with|.nilp=>.val (.str []) H|.ptr .. =>.val (.str []) H|_=>.fail)
 (ZP (Nat.ble n 140737488355328)<|QC a λb o=>XB H b λr=>ZP (Nat.beq r.elem e)<|ZP (cond r.sm false (H.may r b)) (ZP (Nat.ble (Nat.add o n) r.size) (OI (λs=>.val (.str s)
  (H.put b (.row ⟨r.elem,r.sz,r.size,r.cells,r.dflt,cond (Nat.ble r.fz (Nat.add o n)) (Nat.add o n) r.fz,r.sm,r.own,r.exact⟩))) (VB r o n))))
theorem mY(x y:Z2)(e:Nat)(tm:TM)(H:Heap):p8 x y e tm H=Zd7 e (x tm) (y tm) H:=rfl
theorem B3: ∀(l:List UInt8) (k:List UInt8->OR),OI k (l.map XP)=k l
 |[],k=>rfl
 |x::l,k=>by
  show OI (λs=>k (UInt8.ofNat x.toNat::s)) (l.map XP)=_
  rw[B3 l]
  simp
namespace T
variable {α:Type}
theorem BC(x:α)(l:T α)(v:Option α)(r:T α)(bs:List Bool):setB x (node l v r) (true::bs)=node (setB x l bs) v r:=rfl
theorem BB(x:α)(l:T α)(v:Option α)(r:T α)(bs:List Bool):setB x (node l v r) (false::bs)=node l v (setB x r bs):=rfl
theorem zX(x:α)(bs:List Bool):setB x leaf bs=single x bs:=rfl
theorem uE(x:α)(bs:List Bool):single x (true::bs)=node (single x bs) none leaf:=rfl
theorem uD(x:α)(bs:List Bool):single x (false::bs)=node leaf none (single x bs):=rfl
theorem Jm(x y:α): ∀bs:List Bool,setB y (single x bs) bs=single y bs
 |[]=>rfl
 |true::bs=>by rw[uE,BC,Jm x y bs,uE]
 |false::bs=>by rw[uD,BB,Jm x y bs,uD]
theorem F2(x y:α): ∀(t:T α) (bs:List Bool),setB y (setB x t bs) bs=setB y t bs
 |leaf,bs=>by rw[zX,Jm,zX]
 |node l v r,[]=>rfl
 |node l v r,true::bs=>by rw[BC,BC,BC,F2 x y l bs]
 |node l v r,false::bs=>by rw[BB,BB,BB,F2 x y r bs]
theorem set_set(t:T α)(n:Nat)(x y:α):(t.set n x).set n y=t.set n y:=F2 x y t (bits n)
theorem NZ(a b:α)(l:List α):Rz (a::b::l)=a::Rz l:=by simp[Rz]
theorem Bg: ∀(l:List α) (i:Nat) (v:α),Rz (l.set (2*i) v)=(Rz l).set i v
 |[],_,_=>by simp[Rz]
 |[a],0,_=>by simp[Rz]
 |[a],i+1,v=>by
  rw[show 2*(i+1)=2*i+1+1 by omega];simp[Rz]
 |a::b::l,0,v=>by simp[Rz]
 |a::b::l,i+1,v=>by
  rw[show 2*(i+1)=2*i+1+1 by omega,UZ,UZ,NZ,NZ,Bg l i v,UZ]
theorem LW: ∀(l:List α) (i:Nat) (v:α),Rz (l.set (2*i+1) v)=Rz l
 |[],_,_=>by simp[Rz]
 |[a],i,_=>by simp[Rz]
 |a::b::l,0,v=>by simp[Rz]
 |a::b::l,i+1,v=>by
  rw[show 2*(i+1)+1=(2*i+1)+1+1 by omega,UZ,UZ,NZ,NZ,LW l i v]
theorem tB(l:List α)(i:Nat)(v:α):(l.set (i+1) v).tail=l.tail.set i v:=by cases l<;>rfl
theorem ku(l:List α)(v:α):(l.set 0 v).tail=l.tail:=by cases l<;>rfl
theorem Gn(l:List α):(Rz l).length=(l.length+1)/2:=by
 have: ∀(n:Nat) (l:List α),l.length<=n->(Rz l).length=(l.length+1)/2:=by
  intro n
  induction n with
  |zero=>intro l h;cases l with|nil=>simp[Rz]|cons=>simp at h
  |succ n ih=>
   intro l h
   match l,h with
   |[],_=>simp[Rz]
   |[a],_=>simp[Rz]
   |a::b::l,h=>
    rw[NZ,Ye,ih l (by simp at h;omega)]
    simp only[Ye];omega
 exact this _ l (Zo _)
theorem Gp(f:Nat)(x:α)(l:List α):Qs (f+1) (x::l)=node (Qs f (Rz l)) (some x) (Qs f (Rz l.tail)):=rfl
theorem uz: ∀(f:Nat) (l:List α) (i:Nat) (v:α),l.length<=f->i<l.length->(Qs f l).set i v=Qs f (l.set i v):=by
 intro f
 induction f with
 |zero=>intro l i v h hi;omega
 |succ f ih=>
  intro l i v h hi
  cases l with
  |nil=>cases hi
  |cons x l=>
   rw[Gp]
   by_cases h0:i=0
   ·subst h0;rfl
   ·obtain⟨j,rfl⟩: ∃j,i=j+1:=⟨i - 1,by omega⟩
    rw[UZ,Gp]
    simp only[Ye] at h hi
    unfold set
    by_cases h1:(j+1) % 2=1
    ·obtain⟨m,rfl⟩: ∃m,j=2*m:=⟨j/2,by omega⟩
     rw[wx h1,BC,show(2*m+1)/2=m by omega]
     have:=ih (Rz l) m v (by rw[Gn];omega) (by rw[Gn];omega)
     unfold set at this
     rw[this,Bg]
     cases m with
     |zero=>rw[ku]
     |succ m=>rw[show 2*(m+1)=2*m+1+1 by omega,tB,LW]
    ·obtain⟨m,rfl⟩: ∃m,j=2*m+1:=⟨j/2,by omega⟩
     rw[Ax (by omega) (by omega),BB,show(2*m+1+1)/2 - 1=m by omega]
     have:=ih (Rz l.tail) m v (by rw[Gn,List.length_tail];omega) (by rw[Gn,List.length_tail];omega)
     unfold set at this
     rw[this,LW,tB,Bg]
theorem set_ofList{l:List α}{i:Nat}(v:α)(h:i<l.length):(ofList l).set i v=ofList (l.set i v):=by
 unfold ofList
 rw[xn,xn,Um]
 exact uz _ l i v (Zo _) h
end T
def lay(l:List AV):Nat->List AV->List AV
 |_,[]=>l
 |o,v::vs=>lay (l.set o v) (o+1) vs
theorem xi: ∀(l:List AV) (o:Nat) (vs:List AV),(lay l o vs).length=l.length
 |_,_,[]=>rfl
 |l,o,v::vs=>by
  show(lay (l.set o v) (o+1) vs).length=_
  rw[xi,Um]
theorem BT: ∀(l:List AV) (o:Nat) (vs:List AV),o+vs.length<=l.length->YQ (T.ofList l) o vs=T.ofList (lay l o vs)
 |_,_,[],_=>rfl
 |l,o,v::vs,h=>by
  simp only[Ye] at h
  show YQ ((T.ofList l).set o v) (o+1) vs=T.ofList (lay (l.set o v) (o+1) vs)
  rw[T.set_ofList v (by omega),BT (l.set o v) (o+1) vs (by rw[Um];omega)]
theorem CX: ∀(l:List AV) (o:Nat) (vs:List AV),o+vs.length<=l.length->lay l o vs=l.take o++(vs++l.drop (o+vs.length))
 |l,o,[],h=>by show l=_;simp
 |l,o,v::vs,h=>by
  simp only[Ye] at h
  show lay (l.set o v) (o+1) vs=_
  rw[CX (l.set o v) (o+1) vs (by rw[Um];omega),List.set_eq_take_append_cons_drop,if_pos (by omega)]
  have e1:(l.take o++v::l.drop (o+1)).take (o+1)=l.take o++[v]:=by
   rw[List.take_append,Xq (by rw[ZW];omega),ZW,Wb (by omega),show o+1 - o=1 by omega];rfl
  have e2:(l.take o++v::l.drop (o+1)).drop (o+1+vs.length)=l.drop (o+(v::vs).length):=by
   rw[List.drop_append,X8 (by rw[ZW];omega),ZQ,ZW,Wb (by omega),show o+1+vs.length - o=vs.length+1 by omega,Y2,SG,Ye]
   congr 1;omega
  rw[e1,e2];simp
section
def rG(e sz:Nat)(l:List AV)(fz:Nat)(sm own ex:Bool):Obj:=.row ⟨e,sz,YL l,T.ofList l,.unk,fz,sm,own,ex⟩
theorem rS(e sz:Nat)(l:List AV)(fz:Nat)(sm own ex:Bool)(i:Nat):Row.get ⟨e,sz,YL l,T.ofList l,.unk,fz,sm,own,ex⟩ i=l.getD i .unk:=by
 rw[Row.get_eq]
 show((T.ofList l).get i).getD .unk=_
 rw[T.get_ofList,Ze]
theorem uf(e sz:Nat)(l:List AV)(fz:Nat)(sm own ex:Bool):Cells ⟨e,sz,YL l,T.ofList l,.unk,fz,sm,own,ex⟩ l:=Cells.new ..
def ld1(x:Option Obj)(o:Nat)(H:Heap):OR:=match x with|some (.row r)=>ZP (Nat.ble (Nat.succ o) r.size) (.val (r.get o) H)|_=>.fail
theorem mD(b o:Nat)(H:Heap):T5 (.ptr b o) H=ld1 (H.t.get b) o H:=rfl
theorem Yf{o:Nat}{l:List AV}(h:o<l.length)(e sz fz:Nat)(sm own ex:Bool)(H:Heap):ld1 (some (rG e sz l fz sm own ex)) o H=.val (l.getD o .unk) H:=by
 show ZP (Nat.ble (Nat.succ o) (YL l)) (.val (Row.get ⟨e,sz,YL l,T.ofList l,.unk,fz,sm,own,ex⟩ o) H)=_
 rw[Yz,Zl (show Nat.succ o<=l.length from h)]
 show OR.val (Row.get ⟨e,sz,l.length,T.ofList l,.unk,fz,sm,own,ex⟩ o) H=_
 rw[<-Yz,rS]
def wh(n:Nat)(x:Option Obj)(o:Nat)(H:Heap):OR:=match x with|some (.row r)=>ZP (Nat.ble (Nat.add o n) r.size) (.val (.agg (VB r o n)) H)|_=>.fail
theorem fC(n b o:Nat)(H:Heap):K2 n (.ptr b o) H=wh n (H.t.get b) o H:=rfl
theorem Xo{n o:Nat}{l:List AV}(h:o+n<=l.length)(e sz fz:Nat)(sm own ex:Bool)(H:Heap):wh n (some (rG e sz l fz sm own ex)) o H=.val (.agg ((l.drop o).take n)) H:=by
 show ZP (Nat.ble (o+n) (YL l)) (.val (.agg (VB ⟨e,sz,YL l,T.ofList l,.unk,fz,sm,own,ex⟩ o n)) H)=_
 rw[(uf e sz l fz sm own ex).load h,Yz,Zl h];rfl
def tI(n:Nat)(x:Option Obj)(b o:Nat)(v:AV)(H:Heap):OR:=match x with
 |some (.row r)=>ZP (Nat.ble 1 n)<|ZP (H.may r b) (ZP (Nat.ble (Nat.add o n) r.size) (ZP (Nat.ble r.fz o) (ZP (Nat.beq (YL v.cells) n) (.val YS (H.put b (.row (r.setCells (YQ r.cells o v.cells))))))))
 |_=>.fail
theorem kj(n b o:Nat)(v:AV)(H:Heap):RB n (.ptr b o) v H=tI n (H.t.get b) b o v H:=rfl
theorem qk{n b o:Nat}{l:List AV}{v:AV}{H:Heap}{fz:Nat}(hn:1<=n)(hv:v.cells.length=n)(ho:o+n<=l.length)(hro:H.ro<=b)(hfz:fz<=o)(e sz:Nat)(sm ex:Bool):
  tI n (some (rG e sz l fz sm true ex)) b o v H=.val YS (H.put b (rG e sz (lay l o v.cells) fz sm true ex)):=by
 show ZP (Nat.ble 1 n) (ZP (cond true (Nat.ble H.ro b) false) (ZP (Nat.ble (o+n) (YL l)) (ZP (Nat.ble fz o) (ZP (Nat.beq (YL v.cells) n) (.val YS (H.put b (.row ⟨e,sz,YL l,YQ (T.ofList l) o v.cells,.unk,fz,sm,true,ex⟩)))))))=_
 rw[Zl hn,Zl hro,Yz,Zl ho,Zl hfz,Yz,hv,Ys,BT l o v.cells (by omega)]
 unfold rG
 rw[Yz,xi];rfl
theorem NF{b o:Nat}{l:List AV}{v:AV}{H:Heap}{fz:Nat}(hv:v.cells=[v])(ho:o<l.length)(hro:H.ro<=b)(hfz:fz<=o)(e sz:Nat)(sm ex:Bool):
  tI 1 (some (rG e sz l fz sm true ex)) b o v H=.val YS (H.put b (rG e sz (l.set o v) fz sm true ex)):=by
 rw[qk (Zo 1) (by rw[hv];rfl) ho hro hfz,hv];rfl
theorem X9(H:Heap)(b:Nat)(o:Obj):(H.put b o).t.get b=some o:=by rw[U3,if_pos rfl]
theorem RU{b c:Nat}(h: ¬b=c)(H:Heap)(o:Obj):(H.put b o).t.get c=H.t.get c:=by rw[U3,if_neg h]
theorem Yi{H:Heap}{c:Nat}(h:H.nx=c)(o:Obj):(H.new o).t.get c=some o:=by rw[VL,if_pos h]
theorem NU{H:Heap}{c:Nat}(h: ¬H.nx=c)(o:Obj):(H.new o).t.get c=H.t.get c:=by rw[VL,if_neg h]
theorem xS(H:Heap)(b:Nat)(o o':Obj):(H.put b o).put b o'=H.put b o':=by
 unfold Heap.put;simp only[T.set_set]
theorem Us{H:Heap}{b:Nat}(h:H.nx=b)(o o':Obj):(H.new o).put b o'=H.new o':=by
 subst h;unfold Heap.put Heap.new;simp only[T.set_set]
theorem Qr(H:Heap)(e sz:Nat)(l:List AV)(ex:Bool):H.newRow e sz l ex=H.new (rG e sz l 0 false true ex):=rfl
theorem OY(e:Nat)(c:AV)(cs:List AV)(tm:TM)(H:Heap):WF e (c::cs) tm H=.val (.ptr H.nx 0) (H.new (rG e 1 (c::cs) 0 false true true)):=by
 rw[C9 _ _ (by rw[Yz];simp)];rfl
def Ac(e:Nat)(a:AV)(H:Heap):OR:=ZP (Nat.ble 1 (YL a.cells))<|.val (.ptr H.nx 0) (H.newRow e 1 a.cells true)
theorem Zbr(x:Z2)(e:Nat)(tm:TM)(H:Heap):Mc x e tm H=Ac e (x tm) H:=rfl
theorem qP{a:AV}{l:List AV}(h:a.cells=l)(h1:1<=l.length)(e:Nat)(H:Heap):Ac e a H=.val (.ptr H.nx 0) (H.new (rG e 1 l 0 false true true)):=by
 subst h
 show ZP (Nat.ble 1 (YL a.cells)) _=_
 rw[Yz,Zl h1];rfl
theorem tW(l:List AV):(AV.agg l).cells=l:=rfl
theorem XU{l:List AV}(h1:1<=l.length)(e:Nat)(H:Heap):Ac e (.agg l) H=.val (.ptr H.nx 0) (H.new (rG e 1 l 0 false true true)):=qP (tW l) h1 e H
theorem jn{a:AV}(h:a.cells=[a])(e:Nat)(H:Heap):Ac e a H=.val (.ptr H.nx 0) (H.new (rG e 1 [a] 0 false true true)):=qP h (Zo 1) e H
theorem Cd(b:Bool):(AV.bool b).cells=[.bool b]:=rfl
theorem AC(k:IntKind)(n:Int):(AV.int k n).cells=[.int k n]:=rfl
theorem Cf(k:IntKind)(n:Nat):(nI k n).cells=[nI k n]:=rfl
theorem AG(x:UInt8):(XP x).cells=[XP x]:=rfl
theorem AF(s:List UInt8):(AV.str s).cells=[.str s]:=rfl
theorem Ch:AV.nilp.cells=[.nilp]:=rfl
theorem AE(b o:Nat):(AV.ptr b o).cells=[.ptr b o]:=rfl
theorem Ci:AV.nils.cells=[.nils]:=rfl
theorem Es(b o n:Nat)(c:Option Nat):(AV.slice b o n c).cells=[.slice b o n c]:=rfl
theorem AD(b:Nat):(AV.map b).cells=[.map b]:=rfl
theorem Ce(f:Nat)(a b:List AV):(AV.func f a b).cells=[.func f a b]:=rfl
theorem Er(t:Nat)(v:AV):(AV.iface t v).cells=[.iface t v]:=rfl
theorem Cg:AV.nili.cells=[.nili]:=rfl
theorem AB(l:List AV):(AV.agg l).cells=l:=rfl
theorem YX{a:TM->Heap->X->WC}{x:X}(I:Nat->TM->Heap->Prop)(Q:Out->TM->Heap->Prop)
  (step: ∀m tm H,I m tm H-> ∃o tm' H',a tm H x=.ok o tm' H' x∧((o=.normal∧ ∃k,k<m∧I k tm' H')∨(o≠.normal∧Q o tm' H'))):
  ∀(F m:Nat) (tm:TM) (H:Heap),m<F->I m tm H-> ∃o tm' H',XD a F tm H x=.ok o tm' H' x∧o≠.normal∧Q o tm' H'
 |0,m,_,_,h,_=>by omega
 |F+1,m,tm,H,h,hi=>by
  obtain⟨o,tm',H',h1,h2⟩:=step m tm H hi
  rcases h2 with⟨rfl,k,hk,h3⟩|⟨h2,h3⟩
  ·obtain⟨o2,tC,H2,e,h4,h5⟩:=YX I Q step F k tm' H' (by omega) h3
   refine⟨o2,tC,H2,?_,h4,h5⟩
   show Q7 (a tm H x) (XD a F)=_
   rw[h1];exact e
  ·refine⟨o,tm',H',?_,h2,h3⟩
   show Q7 (a tm H x) (XD a F)=_
   rw[h1]
   cases o with
   |normal=>exact absurd rfl h2
   |_=>rfl
theorem YG{a:TM->Heap->X->WC}{F:Nat}{H:Heap}{x:X}{L:WC}{P:TM->Prop}{Q:Out->TM->Heap->Prop}(lp: ∀T,P T-> ∃o tm' H',XD a F T H x=.ok o tm' H' x∧o≠.normal∧Q o tm' H'){T:TM}(hL:XD a F T H x=L)(hi:P T):
  ∃o tm' H',L=.ok o tm' H' x∧o≠.normal∧Q o tm' H':=by
 obtain⟨o,b,c,e,j⟩:=lp T hi
 exact⟨o,b,c,hL.symm.trans e,j⟩
end
theorem ZI:(∀(f:VG) (dst:ZK) (next:D) (c:Ctx) (tm:TM) (H:Heap) (x:X),Za f dst next c tm H x=OO (next c) dst c tm H x (f tm H))∧(∀(next:TM->Heap->X->WC) (dst:ZK) (c:Ctx) (tm:TM) (H:Heap) (x:X) (v:AV) (H':Heap),OO next dst c tm H x (.val v H')=next (dst tm v) H' x)∧(∀(next:TM->Heap->X->WC) (dst:ZK) (c:Ctx) (tm:TM) (H:Heap) (x:X) (f:Nat) (args:List AV) (H':Heap),OO next dst c tm H x (.oth (.call f args H'))=Bk next dst tm x (c.call f args H'))∧(∀(next:TM->Heap->X->WC) (dst:ZK) (tm:TM) (x:X) (v:AV) (H:Heap),Bk next dst tm x (.ret v H)=next (dst tm v) H x)∧(∀(a b:D) (c:Ctx) (tm:TM) (H:Heap) (x:X),Zg a b c tm H x=Q7 (a c tm H x) (b c))∧(∀(tm:TM) (H:Heap) (x:X) (k:TM->Heap->X->WC),Q7 (.ok .normal tm H x) k=k tm H x)∧(∀(tm:TM) (H:Heap) (x:X) (k:TM->Heap->X->WC),Q7 (.ok .ret tm H x) k=.ok .ret tm H x)∧(∀(i:Nat) (tm:TM) (H:Heap) (x:X) (k:TM->Heap->X->WC),Q7 (.ok (.exit i) tm H x) k=.ok (.exit i) tm H x)∧(∀(c:Ctx) (tm:TM) (H:Heap) (x:X),Zc c tm H x=.ok .normal tm H x)∧(∀(c:Ctx) (tm:TM) (H:Heap) (x:X),Z8 c tm H x=.ok .ret tm H x)∧(∀(i:Nat) (c:Ctx) (tm:TM) (H:Heap) (x:X),XG i c tm H x=.ok (.exit i) tm H x)∧(∀(q:Z2) (a b:D) (c:Ctx) (tm:TM) (H:Heap) (x:X),ZL q a b c tm H x=xf (q tm) λv=>Hq (a c) (b c) v tm H x)∧(∀(b:Bool) (k:Bool->WC),xf (.bool b) k=k b)∧(∀(a b:TM->Heap->X->WC) (tm:TM) (H:Heap) (x:X),Hq a b true tm H x=a tm H x)∧(∀(a b:TM->Heap->X->WC) (tm:TM) (H:Heap) (x:X),Hq a b false tm H x=b tm H x)∧(∀(i:Nat) (a:D) (c:Ctx) (tm:TM) (H:Heap) (x:X),ZY i a c tm H x=PZ i (a c tm H x))∧(∀(a:D) (c:Ctx) (tm:TM) (H:Heap) (x:X),XS a c tm H x=XD (a c) c.fuel tm H x)∧(∀(i:Nat) (tm:TM) (H:Heap) (x:X),PZ i (.ok .normal tm H x)=.ok .normal tm H x)∧(∀(i:Nat) (tm:TM) (H:Heap) (x:X),PZ i (.ok (.exit i) tm H x)=.ok .normal tm H x)∧(∀(i:Nat) (tm:TM) (H:Heap) (x:X),PZ i (.ok .ret tm H x)=.ok .ret tm H x)∧(∀(tm:TM) (v:AV),d0 tm v=tm)∧(∀(v:AV) (tm:TM),k v tm=v)∧(∀(tm:TM),evs tm []=[])∧(∀(tm:TM) (f:Z2) (l:List Z2),evs tm (f::l)=f tm::evs tm l)∧(∀(x:Z2) (tm:TM) (H:Heap),Zi x tm H=.val (x tm) H)∧(∀(x:Z2) (tm:TM) (H:Heap),xG x tm H=fR (x tm) H)∧(∀(x:Z2) (k:IntKind) (tm:TM) (H:Heap),SQ x k tm H=Ga k (x tm) H)∧(∀(x y:Z2) (tm:TM) (H:Heap),Yc x y tm H=DP (x tm) (y tm) H)∧(∀(x y:Z2) (tm:TM) (H:Heap),VZ x y tm H=Di (x tm) (y tm) H)∧(∀(x y:Z2) (tm:TM) (H:Heap),Nm x y tm H=fP (x tm) (y tm) H)∧(∀(x y:Z2) (tm:TM) (H:Heap),xH x y tm H=eV (x tm) (y tm) H)∧(∀(x y:Z2) (tm:TM) (H:Heap),vX x y tm H=lP (x tm) (y tm) H)∧(∀(x y:Z2) (f:Nat->Nat->Nat->Nat) (tm:TM) (H:Heap),WP x y f tm H=Hi f (x tm) (y tm) H)∧(∀(x y:Z2) (tm:TM) (H:Heap),Al x y tm H=dF (x tm) (y tm) H)∧(∀(x y:Z2) (tm:TM) (H:Heap),Md x y tm H=l4 (x tm) (y tm) H)∧(∀(x:Z2) (tm:TM) (H:Heap),p9 x tm H=bT (x tm) H)∧(∀(x y:Z2) (f:Int->Int->Bool) (g:List UInt8->List UInt8->Bool) (tm:TM) (H:Heap),Yj x y f g tm H=OM f g (x tm) (y tm) H)∧(∀(x y:Z2) (f:AV->AV->Option Bool) (neg:Bool) (tm:TM) (H:Heap),Vu x y f neg tm H=Iz f neg (x tm) (y tm) H)∧(∀(x:Z2) (tm:TM) (H:Heap),PH x tm H=fU (x tm) H)∧(∀(x y z:Z2) (tm:TM) (H:Heap),Yg x y z tm H=Bp (x tm) (y tm) (z tm) H)∧(∀(f:Nat) (args:List Z2) (tm:TM) (H:Heap),ZB f args tm H=.oth (.call f (evs tm args) H))∧(∀(yes no:WC),Tp (.bool true) true yes no=yes)∧(∀(yes no:WC),Tp (.bool false) true yes no=no)∧(∀(yes no:WC),Tp (.bool false) false yes no=yes)∧(∀(yes no:WC),Tp (.bool true) false yes no=no)∧(∀(g:Z2) (b:Bool) (f:VG) (dst:ZK) (next:D) (c:Ctx) (tm:TM) (H:Heap) (x:X),Zx g b f dst next c tm H x=Tp (g tm) b (OO (next c) dst c tm H x (f tm H)) (next c (dst tm YS) H x))∧(∀(n:Nat) (l:List AV),Wl n (.agg l)=RJ n l)∧(∀(n:Nat),Wl n YS=true)∧(∀(n:Nat) (s:List UInt8),Wl n (.str s)=true)∧(∀(n:Nat) (k:IntKind) (m:Nat),Wl n (nI k m)=true)∧(∀(n:Nat) (x:UInt32),Wl n (ZN x)=true)∧(∀(n:Nat) (x:UInt8),Wl n (XP x)=true)∧(∀(n:Nat) (x:Bool),Wl n (.bool x)=true)∧(∀(sz:Nat) (x:Z2) (lo hi:Option Z2) (tm:TM) (H:Heap),TQ sz x lo hi none tm H=Pp sz (x tm) (lo.map λf=>f tm) (hi.map λf=>f tm) H)∧(∀(mx:Bool) (args:List Z2) (tm:TM) (H:Heap),TW mx args tm H=ZfB mx (evs tm args) H)∧(∀(zs:List AV) (ps:List yF) (tm:TM) (H:Heap),UF zs ps tm H=PT zs (ps.map λp=>(p.off,p.sz,p.x tm)) H)∧(∀(e sz n:Nat) (zs:List AV) (ps:List yF) (tm:TM) (H:Heap),We e sz n zs ps tm H=S9 e sz n zs (ps.map λp=>(p.off,p.sz,p.x tm)) H)∧(∀(x y:Z2) (e sz bytes:Nat) (tm:TM) (H:Heap),W7 x y e sz bytes tm H=U0 e sz bytes (x tm) (y tm) H)∧(∀(x y:Z2) (sz:Nat) (tm:TM) (H:Heap),EU x y sz tm H=qS sz (x tm) (y tm) H)∧(∀(n sz:Nat) (x:Z2) (lo hi:Option Z2) (tm:TM) (H:Heap),Pm n sz x lo hi none tm H=BF n sz (x tm) (lo.map λf=>f tm) (hi.map λf=>f tm) H)∧(∀(x:Z2) (tm:TM) (H:Heap),XN x tm H=pN (x tm) H)∧(∀(x y:Z2) (tm:TM) (H:Heap),Wp x y tm H=Dr (x tm) (y tm) H)∧(∀(x:Z2) (lo hi:Option Z2) (tm:TM) (H:Heap),Vm x lo hi none tm H=F4 (x tm) (lo.map λf=>f tm) (hi.map λf=>f tm) H)∧(∀(x:Z2) (i:Nat) (tm:TM) (H:Heap),Wf x i tm H=Ey i (x tm) H)∧(∀(b c:AV) (H:Heap),Bp (.bool true) b c H=.val b H)∧(∀(b c:AV) (H:Heap),Bp (.bool false) b c H=.val c H)∧(∀(b:Bool) (H:Heap),fU (.bool b) H=.val (.bool (cond b false true)) H)∧(∀(x:Z2) (tm:TM) (H:Heap),Zu x tm H=T5 (x tm) H)∧(∀(x:Z2) (n:Nat) (tm:TM) (H:Heap),Wk x n tm H=K2 n (x tm) H)∧(∀(x y:Z2) (n:Nat) (tm:TM) (H:Heap),YC x y n tm H=RB n (x tm) (y tm) H)∧(∀(x:Z2) (n:Nat) (tm:TM) (H:Heap),Z7 x n tm H=Zby n (x tm) H)∧(∀(x y:Z2) (n sz:Nat) (tm:TM) (H:Heap),XI x y n sz tm H=EN n sz (x tm) (y tm) H)∧(∀(x y:Z2) (sz:Nat) (tm:TM) (H:Heap),WJ x y sz tm H=HY sz (x tm) (y tm) H)∧(∀(x:Z2) (tm:TM) (H:Heap),TD x tm H=Zbl (x tm) H)∧(∀(x:Z2) (tm:TM) (H:Heap),Xe x tm H=Oy (x tm) H)∧(∀(e n:Nat) (v:AV) (tm:TM) (H:Heap),TV e n v tm H=.val (.ptr H.nx 0) (H.new (.row ⟨e,1,n,.leaf,v,0,false,true,true⟩)))∧(∀(x:Z2) (e:Nat) (tm:TM) (H:Heap),Mc x e tm H=Ac e (x tm) H)∧(∀(e:Nat) (c:AV) (cs:List AV) (tm:TM) (H:Heap),WF e (c::cs) tm H=.val (.ptr H.nx 0) (H.new (rG e 1 (c::cs) 0 false true true)))∧(∀(n b o:Nat) (H:Heap),Zby n (.ptr b o) H=.val (.ptr b (o+n)) H)∧(∀(b o:Nat) (H:Heap),Zbl (.ptr b o) H=.val (.ptr b o) H)∧(∀(b o n:Nat) (c:Option Nat) (H:Heap),Oy (.slice b o n c) H=.val (nI .i64 n) H)∧(∀(H:Heap),Oy .slice0 H=.val (nI .i64 0) H)∧(∀(H:Heap),Oy .nils H=.val (nI .i64 0) H)∧(∀(H:Heap) (b:Nat) (o:Obj),(H.put b o).nx=H.nx)∧(∀(H:Heap) (b:Nat) (o:Obj),(H.put b o).ro=H.ro)∧(∀(H:Heap) (o:Obj),(H.new o).nx=H.nx+1)∧(∀(H:Heap) (o:Obj),(H.new o).ro=H.ro)∧(∀(H:Heap) (b:Nat) (o:Obj),(H.put b o).t.get b=some o)∧(∀(H:Heap) (b:Nat) (o o':Obj),(H.put b o).put b o'=H.put b o')∧(∀(H:Heap) (e sz:Nat) (l:List AV) (ex:Bool),H.newRow e sz l ex=H.new (rG e sz l 0 false true ex))∧(∀(b o:Nat) (H:Heap),T5 (.ptr b o) H=ld1 (H.t.get b) o H)∧(∀(n b o:Nat) (H:Heap),K2 n (.ptr b o) H=wh n (H.t.get b) o H)∧(∀(n b o:Nat) (v:AV) (H:Heap),RB n (.ptr b o) v H=tI n (H.t.get b) b o v H)∧(∀(b:Bool),(AV.bool b).cells=[.bool b])∧(∀(k:IntKind) (n:Int),(AV.int k n).cells=[.int k n])∧(∀(k:IntKind) (n:Nat),(nI k n).cells=[nI k n])∧(∀(x:UInt8),(XP x).cells=[XP x])∧(∀(s:List UInt8),(AV.str s).cells=[.str s])∧(AV.nilp.cells=[.nilp])∧(∀(b o:Nat),(AV.ptr b o).cells=[.ptr b o])∧(AV.nils.cells=[.nils])∧(∀(b o n:Nat) (c:Option Nat),(AV.slice b o n c).cells=[.slice b o n c])∧(∀(b:Nat),(AV.map b).cells=[.map b])∧(∀(f:Nat) (a b:List AV),(AV.func f a b).cells=[.func f a b])∧(∀(t:Nat) (v:AV),(AV.iface t v).cells=[.iface t v])∧(AV.nili.cells=[.nili])∧(∀(l:List AV),(AV.agg l).cells=l)∧(∀(l:List PI) (c:Ctx) (tm:TM) (H:Heap) (x:X),WE l c tm H x=Ux (l.map (·.dst)) K8 l c [] tm H x)∧(∀(ds:List ZK) (fin:PK) (c:Ctx) (rs:List RD) (tm:TM) (H:Heap) (x:X),Ux ds fin [] c rs tm H x=cond (still tm H rs) (fin rs tm H x) .fail)∧(∀(ds:List ZK) (fin:PK) (p:PI) (l:List PI) (c:Ctx) (rs:List RD) (tm:TM) (H:Heap) (x:X),Ux ds fin (p::l) c rs tm H x=Rp ds p (Ux ds fin l c) c rs tm H x)∧(∀(rs:List RD) (tm:TM) (H:Heap) (x:X),K8 rs tm H x=.ok .normal tm H x)∧(∀(ds:List ZK) (f:VG) (os:List (ZK×Z2)) (dst:ZK) (i bef:Nat) (nx:PK) (c:Ctx) (rs:List RD) (tm:TM) (H:Heap) (x:X),Rp ds ⟨f,none,os,dst,.free,i,bef⟩ nx c rs tm H x=cond (QB H.nx tm os) (KQ ⟨f,none,os,dst,.free,i,bef⟩ nx rs tm H x (f (Po tm os) ⟨H.nx,.leaf,H.nx⟩)) .fail)∧(∀(ds:List ZK) (f:VG) (os:List (ZK×Z2)) (dst:ZK) (i bef:Nat) (nx:PK) (c:Ctx) (rs:List RD) (tm:TM) (H:Heap) (x:X),Rp ds ⟨f,none,os,dst,.read,i,bef⟩ nx c rs tm H x=Ie ⟨f,none,os,dst,.read,i,bef⟩ nx rs tm H x (f (Po tm os) ⟨H.nx,H.t,H.nx⟩))∧(∀(ds:List ZK) (f:VG) (os:List (ZK×Z2)) (dst:ZK) (i bef:Nat) (nx:PK) (c:Ctx) (rs:List RD) (tm:TM) (H:Heap) (x:X),Rp ds ⟨f,none,os,dst,.eff,i,bef⟩ nx c rs tm H x=cond (still tm H rs) (Hw ds ⟨f,none,os,dst,.eff,i,bef⟩ nx rs c tm x (f (Po tm os) H)) .fail)∧(∀(ds:List ZK) (f:VG) (e:Z2) (b:Bool) (os:List (ZK×Z2)) (dst:ZK) (i bef:Nat) (nx:PK) (c:Ctx) (rs:List RD) (tm:TM) (H:Heap) (x:X),Rp ds ⟨f,some (e,b),os,dst,.free,i,bef⟩ nx c rs tm H x=Tp (e tm) b (cond (QB H.nx tm os) (KQ ⟨f,some (e,b),os,dst,.free,i,bef⟩ nx rs tm H x (f (Po tm os) ⟨H.nx,.leaf,H.nx⟩)) .fail) (nx rs (dst tm YS) H x))∧(∀(ds:List ZK) (f:VG) (e:Z2) (b:Bool) (os:List (ZK×Z2)) (dst:ZK) (i bef:Nat) (nx:PK) (c:Ctx) (rs:List RD) (tm:TM) (H:Heap) (x:X),Rp ds ⟨f,some (e,b),os,dst,.read,i,bef⟩ nx c rs tm H x=Tp (e tm) b (Ie ⟨f,some (e,b),os,dst,.read,i,bef⟩ nx rs tm H x (f (Po tm os) ⟨H.nx,H.t,H.nx⟩)) (nx rs (dst tm YS) H x))∧(∀(ds:List ZK) (f:VG) (e:Z2) (b:Bool) (os:List (ZK×Z2)) (dst:ZK) (i bef:Nat) (nx:PK) (c:Ctx) (rs:List RD) (tm:TM) (H:Heap) (x:X),Rp ds ⟨f,some (e,b),os,dst,.eff,i,bef⟩ nx c rs tm H x=cond (still tm H rs) (Tp (e tm) b (Hw ds ⟨f,some (e,b),os,dst,.eff,i,bef⟩ nx rs c tm x (f (Po tm os) H)) (nx (Tg bef rs) (dst tm YS) H x)) .fail)∧(∀(ds:List ZK) (f:VG) (os:List (ZK×Z2)) (dst:ZK) (i bef:Nat) (nx:PK) (c:Ctx) (rs:List RD) (tm:TM) (x:X) (g:Option (Z2×Bool)) (kd:I5) (v:AV) (H':Heap),Hw ds ⟨f,g,os,dst,kd,i,bef⟩ nx rs c tm x (.val v H')=nx (Tg bef rs) (dst tm v) H' x)∧(∀(ds:List ZK) (f:VG) (os:List (ZK×Z2)) (dst:ZK) (i bef:Nat) (nx:PK) (c:Ctx) (rs:List RD) (tm:TM) (x:X) (g:Option (Z2×Bool)) (kd:I5) (H':Heap) (q:Nat) (args:List AV),Hw ds ⟨f,g,os,dst,kd,i,bef⟩ nx rs c tm x (.oth (.call q args H'))=Bt ds ⟨f,g,os,dst,kd,i,bef⟩ nx rs tm x (c.call q args H'))∧(∀(ds:List ZK) (f:VG) (os:List (ZK×Z2)) (dst:ZK) (i bef:Nat) (nx:PK) (rs:List RD) (tm:TM) (x:X) (g:Option (Z2×Bool)) (kd:I5) (v:AV) (H':Heap),Bt ds ⟨f,g,os,dst,kd,i,bef⟩ nx rs tm x (.ret v H')=nx (Tg bef rs) (dst tm v) H' x)∧(∀(b:Nat),Tg b []=[])∧(∀(f:VG) (os:List (ZK×Z2)) (dst:ZK) (i bef:Nat) (rs:List RD) (g:Option (Z2×Bool)) (kd:I5) (v:AV) (b:Nat),Tg b (⟨⟨f,g,os,dst,kd,i,bef⟩,v⟩::rs)=cond (Nat.testBit b i) (Tg b rs) (⟨⟨f,g,os,dst,kd,i,bef⟩,v⟩::Tg b rs))∧(∀(tm:TM) (H:Heap),still tm H []=true)∧(∀(f:VG) (os:List (ZK×Z2)) (dst:ZK) (i bef:Nat) (rs:List RD) (tm:TM) (H:Heap) (g:Option (Z2×Bool)) (kd:I5) (v:AV),still tm H (⟨⟨f,g,os,dst,kd,i,bef⟩,v⟩::rs)=cond (ug ⟨⟨f,g,os,dst,kd,i,bef⟩,v⟩ tm H) (still tm H rs) false)∧(∀(f:VG) (os:List (ZK×Z2)) (dst:ZK) (i bef:Nat) (tm:TM) (H:Heap) (g:Option (Z2×Bool)) (kd:I5) (v:AV),ug ⟨⟨f,g,os,dst,kd,i,bef⟩,v⟩ tm H=VS (f (Po tm os) ⟨H.nx,H.t,H.nx⟩) v H.nx)∧(∀(v:UInt32) (n:Nat) (t:T Obj),VS (.val (ZN v) ⟨n,t,n⟩) (ZN v) n=true)∧(∀(v:UInt8) (n:Nat) (t:T Obj),VS (.val (XP v) ⟨n,t,n⟩) (XP v) n=true)∧(∀(k:IntKind) (v:Nat) (n:Nat) (t:T Obj),VS (.val (nI k v) ⟨n,t,n⟩) (nI k v) n=true)∧(∀(s:List UInt8) (n:Nat) (t:T Obj),VS (.val (.str s) ⟨n,t,n⟩) (.str s) n=true)∧(∀(n:Nat) (t:T Obj),VS (.val .nils ⟨n,t,n⟩) .nils n=true)∧(∀(b o n:Nat) (c:Option Nat) (k:Nat) (t:T Obj),VS (.val (.slice b o n c) ⟨k,t,k⟩) (.slice b o n c) k=true)∧(∀(n:Nat) (tm:TM),QB n tm []=true)∧(∀(n:Nat) (tm:TM) (s:ZK) (g:Z2) (os:List (ZK×Z2)),QB n tm ((s,g)::os)=cond (Wl n (g tm)) (QB n tm os) false)∧(∀(tm:TM),Po tm []=Nr)∧(∀(tm:TM) (s:ZK) (g:Z2) (os:List (ZK×Z2)),Po tm ((s,g)::os)=s (Po tm os) (g tm))∧(∀(a:AV) (l:List AV) (H:Heap),Ey 0 (.tup (a::l)) H=.val a H)∧(∀(a b:AV) (l:List AV) (H:Heap),Ey 1 (.tup (a::b::l)) H=.val b H)∧(∀(a b c:AV) (l:List AV) (H:Heap),Ey 2 (.tup (a::b::c::l)) H=.val c H)∧(∀(dc:Option AV->Nat->List AV->Heap->DR) (rs:List (Z2×Option (Nat×Bool))) (tm:TM) (H:Heap) (rc:Option AV),KA dc rs (.ok .ret tm H ⟨[],rc⟩)=results rs tm H)∧(∀(dc:Option AV->Nat->List AV->Heap->DR) (rs:List (Z2×Option (Nat×Bool))) (tm:TM) (H:Heap) (rc:Option AV),KA dc rs (.ok .normal tm H ⟨[],rc⟩)=results rs tm H)∧(∀(f:Z2) (tm:TM) (H:Heap),results [(f,none)] tm H=.ret (f tm) H)∧(∀(tm:TM) (H:Heap),results [] tm H=.ret (.tup []) H)∧(∀(a b:UInt32) (H:Heap),DP (ZN a) (ZN b) H=.val (ZN (a+b)) H)∧(RC []=Nr)∧(∀(a:AV),RC [a]=st0 Nr a)∧(∀(a b:AV),RC [a,b]=st1 (st0 Nr a) b)∧(∀(a b c:AV),RC [a,b,c]=st2 (st1 (st0 Nr a) b) c)∧(∀(a b c d:AV),RC [a,b,c,d]=VM (st2 (st1 (st0 Nr a) b) c) d)∧(∀(a b:List UInt8) (H:Heap),Iz Mj false (.str a) (.str b) H=.val (.bool (decide (a=b))) H)∧(∀(a b:List UInt8) (H:Heap),Iz Mj true (.str a) (.str b) H=.val (.bool (!decide (a=b))) H)∧(∀(a b:Bool) (H:Heap),Iz kR false (.bool a) (.bool b) H=.val (.bool (decide (a=b))) H)∧(∀(k:IntKind) (a b:Nat) (H:Heap),OM X1 YK (nI k a) (nI k b) H=.val (.bool (decide (a<b))) H)∧(∀(k:IntKind) (a b:Nat) (H:Heap),OM SA Wx (nI k a) (nI k b) H=.val (.bool (decide (b<=a))) H)∧(∀(k:IntKind) (a b:Nat) (H:Heap),OM Tf W0 (nI k a) (nI k b) H=.val (.bool (decide (b<a))) H)∧(∀(k:IntKind) (a b:Nat) (H:Heap),OM Rm Uo (nI k a) (nI k b) H=.val (.bool (decide (a<=b))) H)∧(∀(k:IntKind) (a b:Nat) (H:Heap),Iz Uk false (nI k a) (nI k b) H=.val (.bool (decide (a=b))) H)∧(∀(k:IntKind) (a b:Nat) (H:Heap),Iz Uk true (nI k a) (nI k b) H=.val (.bool (decide (a≠b))) H)∧(∀(s:List UInt8) (H:Heap),pN (.str s) H=.val (nI .i64 s.length) H)∧(∀(x:Z2) (tm:TM) (H:Heap),zF x tm H=Zdq (x tm) H)∧(∀(x:Z2) (u n:Nat) (tm:TM) (H:Heap),zE x u n tm H=Zdp u n (x tm) H)∧(∀(x:Z2) (tm:TM) (H:Heap),Dy x tm H=oP (x tm) H)∧(∀(x y:Z2) (e:Nat) (tm:TM) (H:Heap),p8 x y e tm H=Zd7 e (x tm) (y tm) H):=⟨@Xy, @Xw, @Rq, @QW, @XE, @Yq, @ky, @TT, @Xb, @Qa, @SK, @WT, @WW, @TH, @VU, @W1, @Rt, @V6, @Tv, @s0, @Ni, @TL, @PV, @RS, @W8, @Gk, @Lc, @Ru, @Jb, @Gj, @vV, @Gl, @OB, @Gm, @Ja, @zG, @UT, @Dv, @vU, @zD, @Sv, @nX, @nT, @zq, @nU, @uy, @fF, @rh, @fH, @Dt, @Gb, @Zbd, @mF, @LV, @vS, @Vl, @Z9, @Wn, @zB, @IP, @mU, @vR, @ry, @mS, @ZbP, @ZbO, @ZfE, @TP, @NL, @Tc, @O1, @NK, @FQ, @O0, @Py, @R5, @Zbr, @OY, @O2, @OX, @Vz, @ER, @CZ, @Nn, @xT, @MM, @fT, @X9, @xS, @Qr, @mD, @fC, @kj, @Cd, @AC, @Cf, @AG, @AF, @Ch, @AE, @Ci, @Es, @AD, @Ce, @Er, @Cg, @AB, @LG, @JI, @LY, @JG, @Kc, @Kd, @JN, @ta, @tc, @ql, @Hz, @AL, @ul, @JB, @LP, @JO, @Ke, @Gy, @Pk, @zu, @mi, @sR, @Mo, @Ua, @JC, @LR, @DE, @GF, @Zah, @Zai, @Zaj, @QX, @EW, @PA, @GB, @Mg, @qK, @Jv, @Jw, @an, @aq, @Xc, @T2, @Zaf, @Zv, @Wh, @Yy, @Xh, @YW, @VQ, @Z0, @mX, @mW, @v7, @mY⟩
theorem Yw:(∀{α:Type} (f:α->α) (n:N8 α),N8.a0 (N8.u0 f n)=f (N8.a0 n))∧(∀{α:Type} (f:α->α) (n:N8 α),N8.a0 (N8.u1 f n)=N8.a0 n)∧(∀{α:Type} (f:α->α) (n:N8 α),N8.a0 (N8.u2 f n)=N8.a0 n)∧(∀{α:Type} (f:α->α) (n:N8 α),N8.a0 (N8.u3 f n)=N8.a0 n)∧(∀{α:Type} (f:α->α) (n:N8 α),N8.a0 (N8.u4 f n)=N8.a0 n)∧(∀{α:Type} (f:α->α) (n:N8 α),N8.a0 (N8.u5 f n)=N8.a0 n)∧(∀{α:Type} (f:α->α) (n:N8 α),N8.a0 (N8.u6 f n)=N8.a0 n)∧(∀{α:Type} (f:α->α) (n:N8 α),N8.a0 (N8.u7 f n)=N8.a0 n)∧(∀{α:Type} (f:α->α) (n:N8 α),N8.a1 (N8.u0 f n)=N8.a1 n)∧(∀{α:Type} (f:α->α) (n:N8 α),N8.a1 (N8.u1 f n)=f (N8.a1 n))∧(∀{α:Type} (f:α->α) (n:N8 α),N8.a1 (N8.u2 f n)=N8.a1 n)∧(∀{α:Type} (f:α->α) (n:N8 α),N8.a1 (N8.u3 f n)=N8.a1 n)∧(∀{α:Type} (f:α->α) (n:N8 α),N8.a1 (N8.u4 f n)=N8.a1 n)∧(∀{α:Type} (f:α->α) (n:N8 α),N8.a1 (N8.u5 f n)=N8.a1 n)∧(∀{α:Type} (f:α->α) (n:N8 α),N8.a1 (N8.u6 f n)=N8.a1 n)∧(∀{α:Type} (f:α->α) (n:N8 α),N8.a1 (N8.u7 f n)=N8.a1 n)∧(∀{α:Type} (f:α->α) (n:N8 α),N8.a2 (N8.u0 f n)=N8.a2 n)∧(∀{α:Type} (f:α->α) (n:N8 α),N8.a2 (N8.u1 f n)=N8.a2 n)∧(∀{α:Type} (f:α->α) (n:N8 α),N8.a2 (N8.u2 f n)=f (N8.a2 n))∧(∀{α:Type} (f:α->α) (n:N8 α),N8.a2 (N8.u3 f n)=N8.a2 n)∧(∀{α:Type} (f:α->α) (n:N8 α),N8.a2 (N8.u4 f n)=N8.a2 n)∧(∀{α:Type} (f:α->α) (n:N8 α),N8.a2 (N8.u5 f n)=N8.a2 n)∧(∀{α:Type} (f:α->α) (n:N8 α),N8.a2 (N8.u6 f n)=N8.a2 n)∧(∀{α:Type} (f:α->α) (n:N8 α),N8.a2 (N8.u7 f n)=N8.a2 n)∧(∀{α:Type} (f:α->α) (n:N8 α),N8.a3 (N8.u0 f n)=N8.a3 n)∧(∀{α:Type} (f:α->α) (n:N8 α),N8.a3 (N8.u1 f n)=N8.a3 n)∧(∀{α:Type} (f:α->α) (n:N8 α),N8.a3 (N8.u2 f n)=N8.a3 n)∧(∀{α:Type} (f:α->α) (n:N8 α),N8.a3 (N8.u3 f n)=f (N8.a3 n))∧(∀{α:Type} (f:α->α) (n:N8 α),N8.a3 (N8.u4 f n)=N8.a3 n)∧(∀{α:Type} (f:α->α) (n:N8 α),N8.a3 (N8.u5 f n)=N8.a3 n)∧(∀{α:Type} (f:α->α) (n:N8 α),N8.a3 (N8.u6 f n)=N8.a3 n)∧(∀{α:Type} (f:α->α) (n:N8 α),N8.a3 (N8.u7 f n)=N8.a3 n)∧(∀{α:Type} (f:α->α) (n:N8 α),N8.a4 (N8.u0 f n)=N8.a4 n)∧(∀{α:Type} (f:α->α) (n:N8 α),N8.a4 (N8.u1 f n)=N8.a4 n)∧(∀{α:Type} (f:α->α) (n:N8 α),N8.a4 (N8.u2 f n)=N8.a4 n)∧(∀{α:Type} (f:α->α) (n:N8 α),N8.a4 (N8.u3 f n)=N8.a4 n)∧(∀{α:Type} (f:α->α) (n:N8 α),N8.a4 (N8.u4 f n)=f (N8.a4 n))∧(∀{α:Type} (f:α->α) (n:N8 α),N8.a4 (N8.u5 f n)=N8.a4 n)∧(∀{α:Type} (f:α->α) (n:N8 α),N8.a4 (N8.u6 f n)=N8.a4 n)∧(∀{α:Type} (f:α->α) (n:N8 α),N8.a4 (N8.u7 f n)=N8.a4 n)∧(∀{α:Type} (f:α->α) (n:N8 α),N8.a5 (N8.u0 f n)=N8.a5 n)∧(∀{α:Type} (f:α->α) (n:N8 α),N8.a5 (N8.u1 f n)=N8.a5 n)∧(∀{α:Type} (f:α->α) (n:N8 α),N8.a5 (N8.u2 f n)=N8.a5 n)∧(∀{α:Type} (f:α->α) (n:N8 α),N8.a5 (N8.u3 f n)=N8.a5 n)∧(∀{α:Type} (f:α->α) (n:N8 α),N8.a5 (N8.u4 f n)=N8.a5 n)∧(∀{α:Type} (f:α->α) (n:N8 α),N8.a5 (N8.u5 f n)=f (N8.a5 n))∧(∀{α:Type} (f:α->α) (n:N8 α),N8.a5 (N8.u6 f n)=N8.a5 n)∧(∀{α:Type} (f:α->α) (n:N8 α),N8.a5 (N8.u7 f n)=N8.a5 n)∧(∀{α:Type} (f:α->α) (n:N8 α),N8.a6 (N8.u0 f n)=N8.a6 n)∧(∀{α:Type} (f:α->α) (n:N8 α),N8.a6 (N8.u1 f n)=N8.a6 n)∧(∀{α:Type} (f:α->α) (n:N8 α),N8.a6 (N8.u2 f n)=N8.a6 n)∧(∀{α:Type} (f:α->α) (n:N8 α),N8.a6 (N8.u3 f n)=N8.a6 n)∧(∀{α:Type} (f:α->α) (n:N8 α),N8.a6 (N8.u4 f n)=N8.a6 n)∧(∀{α:Type} (f:α->α) (n:N8 α),N8.a6 (N8.u5 f n)=N8.a6 n)∧(∀{α:Type} (f:α->α) (n:N8 α),N8.a6 (N8.u6 f n)=f (N8.a6 n))∧(∀{α:Type} (f:α->α) (n:N8 α),N8.a6 (N8.u7 f n)=N8.a6 n)∧(∀{α:Type} (f:α->α) (n:N8 α),N8.a7 (N8.u0 f n)=N8.a7 n)∧(∀{α:Type} (f:α->α) (n:N8 α),N8.a7 (N8.u1 f n)=N8.a7 n)∧(∀{α:Type} (f:α->α) (n:N8 α),N8.a7 (N8.u2 f n)=N8.a7 n)∧(∀{α:Type} (f:α->α) (n:N8 α),N8.a7 (N8.u3 f n)=N8.a7 n)∧(∀{α:Type} (f:α->α) (n:N8 α),N8.a7 (N8.u4 f n)=N8.a7 n)∧(∀{α:Type} (f:α->α) (n:N8 α),N8.a7 (N8.u5 f n)=N8.a7 n)∧(∀{α:Type} (f:α->α) (n:N8 α),N8.a7 (N8.u6 f n)=N8.a7 n)∧(∀{α:Type} (f:α->α) (n:N8 α),N8.a7 (N8.u7 f n)=f (N8.a7 n)):=⟨@N8.g00, @N8.g01, @N8.g02, @N8.g03, @N8.g04, @N8.g05, @N8.g06, @N8.g07, @N8.g10, @N8.g11, @N8.g12, @N8.g13, @N8.g14, @N8.g15, @N8.g16, @N8.g17, @N8.g20, @N8.g21, @N8.g22, @N8.g23, @N8.g24, @N8.g25, @N8.g26, @N8.g27, @N8.g30, @N8.g31, @N8.g32, @N8.g33, @N8.g34, @N8.g35, @N8.g36, @N8.g37, @N8.g40, @N8.g41, @N8.g42, @N8.g43, @N8.g44, @N8.g45, @N8.g46, @N8.g47, @N8.g50, @N8.g51, @N8.g52, @N8.g53, @N8.g54, @N8.g55, @N8.g56, @N8.g57, @N8.g60, @N8.g61, @N8.g62, @N8.g63, @N8.g64, @N8.g65, @N8.g66, @N8.g67, @N8.g70, @N8.g71, @N8.g72, @N8.g73, @N8.g74, @N8.g75, @N8.g76, @N8.g77⟩
theorem fQ{a b:Nat}(h:a*b<18446744073709551616)(H:Heap):fP (nI .u64 a) (nI .u64 b) H=.val (nI .u64 (a*b)) H:=by
 show ZP (Nl .u64 .u64) (TU .u64 (Ai (.ofNat a) (.ofNat b)) H)=_
 rw[X3,Wy,HZ,Nc,Yx h];rfl
theorem eW{a b:Nat}(h:0<b)(h2:a<18446744073709551616)(H:Heap):eV (nI .u64 a) (nI .u64 b) H=.val (nI .u64 (a/b)) H:=by
 show ZP (Nl .u64 .u64) (cond (Fc (.ofNat b) (.ofNat 0)) .fail (TU .u64 (.ofNat (Nat.div a b)) H))=_
 rw[X3,Mn,Zb (by omega),Wy,show(Int.ofNat (Nat.div a b))=Int.ofNat (a/b) from rfl,Nc,Yx (Xz (X2 a b) h2)];rfl
theorem dh{a b:Nat}(h:0<b)(H:Heap):lP (nI .u64 a) (nI .u64 b) H=.val (nI .u64 (a % b)) H:=by
 show ZP (Nl .u64 .u64) (cond (Fc (.ofNat b) (.ofNat 0)) .fail (Nj (.ofNat (Nat.mod a b)) λn=>.val (.int .u64 n) H))=_
 rw[X3,Mn,Zb (by omega),Oo];rfl
theorem fd{j:IntKind}{a:Nat}(h:a<18446744073709551616)(H:Heap):Ga .u64 (nI j a) H=.val (nI .u64 a) H:=by
 show TU .u64 (.ofNat a) H=_
 rw[Wy,Nc,Yx h];rfl
theorem bD{a b:Nat}(h:b<=a)(h2:a<4294967296)(H:Heap):Di (nI .u32 a) (nI .u32 b) H=.val (nI .u32 (a - b)) H:=by
 show ZP (Nl .u32 .u32) (TU .u32 (IK (.ofNat a) (.ofNat b)) H)=_
 rw[X3,Wy,CW h,Lu,Yx (by omega)];rfl
theorem pJ{j:IntKind}{a:Nat}(h:a<256)(H:Heap):Ga .u8 (nI j a) H=.val (nI .u8 a) H:=by
 show TU .u8 (.ofNat a) H=_
 rw[Wy,DK,Yx h];rfl
theorem yA{z:Int}(h1: -9223372036854775808<=z)(h2:z<9223372036854775808):IntKind.i64.wrap z=z:=by
 unfold IntKind.wrap
 simp[IntKind.bits,IntKind.signed]
 omega
theorem fS{u:Nat}(h0:0<u)(h:u<=9223372036854775808)(H:Heap):fR (nI .i64 u) H=.val (.int .i64 (.negSucc (u - 1))) H:=by
 show TU .i64 (IK 0 (.ofNat u)) H=_
 rw[Wy]
 congr 2
 have e:IK 0 (.ofNat u)= -(u:Int):=by
  show cond (Nat.ble u 0) (Int.ofNat (Nat.sub 0 u)) (Int.ofNat 0 - Int.ofNat u)=_
  cases hb:Nat.ble u 0 with
  |true=>have:=ZT hb;omega
  |false=>show(0:Int) - u=_;omega
 rw[e]
 rw[yA (by omega) (by omega)];omega
theorem xA(H:Heap):fR (nI .i64 0) H=.val (nI .i64 0) H:=rfl
theorem zY{s:List UInt8}{p q:Nat}(h1:p<=q)(h2:q<=s.length)(k j:IntKind)(H:Heap):F4 (.str s) (some (nI k p)) (some (nI j q)) H=.val (.str ((s.take q).drop p)) H:=by
 show ZP (Nat.ble q (YL s)) (ZP (Nat.ble p q) (OR.val (.str (J3 p (Jt q s))) H))=_
 rw[Yz,Zl h2,Zl h1,Lr,Hu];rfl
theorem Rg{s:List UInt8}{p:Nat}(h1:p<=s.length)(k:IntKind)(H:Heap):F4 (.str s) (some (nI k p)) none H=.val (.str (s.drop p)) H:=by
 show ZP (Nat.ble p (YL s)) (OR.val (.str (J3 p (Jt (YL s) s))) H)=_
 rw[Yz,Zl h1,Lr,Hu,Xg];rfl
theorem U1{s:List UInt8}{i:Nat}(h:i<s.length)(k:IntKind)(H:Heap):Dr (.str s) (nI k i) H=.val (nI .u8 (s.getD i 0).toNat) H:=sL h k H
section
variable (f:VG) (os:List (ZK×Z2)) (dst:ZK) (i bef:Nat) (nx:PK) (rs:List RD) (tm:TM) (H:Heap) (x:X) (g:Option (Z2×Bool)) (kd:I5) (v:AV)
theorem Xm{m:Nat}(h:H.nx=m):KQ ⟨f,g,os,dst,kd,i,bef⟩ nx rs tm H x (.val v ⟨m,.leaf,m⟩)=nx rs (dst tm v) H x:=by subst h;exact Jz ..
theorem XX{m:Nat}(h:H.nx=m)(t:T Obj)(k:Nat):Ie ⟨f,g,os,dst,kd,i,bef⟩ nx rs tm H x (.val v ⟨m,t,k⟩)=nx (⟨⟨f,g,os,dst,kd,i,bef⟩,v⟩::rs) (dst tm v) H x:=by
 subst h
 show cond (Nat.beq H.nx H.nx) _ _=_
 rw[Ys];rfl
theorem j8{m:Nat}(h:H.nx=m)(o:Obj)(hw:wrO o=true):KQ ⟨f,g,os,dst,kd,i,bef⟩ nx rs tm H x (.val v ((⟨m,.leaf,m⟩:Heap).new o))=nx rs (dst tm v) (H.new o) x:=by subst h;exact nH _ _ _ _ _ _ _ _ _ _ _ _ _ _ hw
end
theorem bS(e sz:Nat)(l:List AV)(fz:Nat)(sm ex:Bool):wrO (rG e sz l fz sm true ex)=true:=rfl
def Row.st(r:Row)(o:Nat)(v:AV):Row:=r.setCells (r.cells.set o v)
theorem Row.st_size(r:Row)(o:Nat)(v:AV):(r.st o v).size=r.size:=rfl
theorem Row.st_own(r:Row)(o:Nat)(v:AV):(r.st o v).own=r.own:=rfl
theorem Row.st_fz(r:Row)(o:Nat)(v:AV):(r.st o v).fz=r.fz:=rfl
theorem Row.st_get(r:Row)(o:Nat)(v:AV)(i:Nat):(r.st o v).get i=if o=i then v else r.get i:=by
 rw[Row.get_eq,Row.get_eq]
 show((r.cells.set o v).get i).getD r.dflt=_
 rw[T.get_set]
 split<;>rfl
theorem Mq{r:Row}{o:Nat}(h:o<r.size)(H:Heap):ld1 (some (.row r)) o H=.val (r.get o) H:=by
 show ZP (Nat.ble (Nat.succ o) r.size) (.val (r.get o) H)=_
 rw[Zl (show Nat.succ o<=r.size from h)];rfl
theorem G1{r:Row}{b o:Nat}{v:AV}{H:Heap}(hv:v.cells=[v])(ho:o<r.size)(how:r.own=true)(hro:H.ro<=b)(hfz:r.fz<=o):tI 1 (some (.row r)) b o v H=.val YS (H.put b (.row (r.st o v))):=by
 show ZP (Nat.ble 1 1) (ZP (cond r.own (Nat.ble H.ro b) false) (ZP (Nat.ble (o+1) r.size) (ZP (Nat.ble r.fz o) (ZP (Nat.beq (YL v.cells) 1) (.val YS (H.put b (.row (r.setCells (YQ r.cells o v.cells)))))))))=_
 rw[how,cond_true,Zl hro,Zl (show o+1<=r.size from ho),Zl hfz,hv];rfl
def Zb2(a:AV)(H:Heap):OR:=onZ a (.val (.str []) H)<|Sm a (.val (.str []) H) λb o n _=>cond (Nat.beq n 0) (.val (.str []) H) (XB H b λr=>ZP (Nat.ble (Nat.add o n) r.size) (OI (λs=>.val (.str s) H) (VB r o n)))
theorem Zbv(x:Z2)(tm:TM)(H:Heap):vZ x tm H=Zb2 (x tm) H:=rfl
theorem bC{H:Heap}{b o n:Nat}{c:Option Nat}{r:Row}{l:List UInt8}(hr:H.t.get b=some (.row r))(hl:l.length=n)(hf:o+n<=r.size)(hg: ∀i,i<n->r.get (o+i)=XP (l.getD i 0)):Zb2 (.slice b o n c) H=.val (.str l) H:=by
 subst hl
 by_cases h0:l.length=0
 ·have:l=[]:=YR.1 h0
  subst this;rfl
 ·show cond (Nat.beq l.length 0) _ (XB H b _)=_
  rw[Yp,Zb h0]
  show XB H b _=_
  unfold XB
  rw[hr]
  show ZP (Nat.ble (o+l.length) r.size) (OI _ (VB r o l.length))=_
  have:VB r o l.length=l.map XP:=by
   refine WS λi=>?_
   by_cases hi:i<l.length
   ·rw[Qp r l.length o i hi,hg i hi,ZZ,Zk hi,Ze,Zk hi];rfl
   ·rw[YP (by rw[Qq];omega),YP (by rw[Zp];omega)]
  rw[Zl hf,this,B3];rfl
def yP(e:Nat)(a:AV)(H:Heap):OR:=O3 a λs=>.val (.slice H.nx 0 (YL s) none) (H.new (.row ⟨e,1,YL s,T.ofList (Dd s),.unk,0,true,true,false⟩))
theorem mP(x:Z2)(e:Nat)(tm:TM)(H:Heap):Ba x e tm H=yP e (x tm) H:=rfl
theorem tV(e:Nat)(s:List UInt8)(H:Heap):yP e (.str s) H=.val (.slice H.nx 0 s.length none) (H.new (rG e 1 (s.map XP) 0 true true false)):=by
 show OR.val (.slice H.nx 0 (YL s) none) (H.new (.row ⟨e,1,YL s,T.ofList (Dd s),.unk,0,true,true,false⟩))=_
 have:Dd s=s.map XP:=by rw[xr];rfl
 unfold rG
 rw[this,Yz,Yz,Zp]
theorem mT(x:Z2)(t:Nat)(tm:TM)(H:Heap):MN x t tm H=.val (.iface t (x tm)) H:=rfl
theorem fW(f:Nat)(a b:List Z2)(tm:TM)(H:Heap):Ib f a b tm H=.val (.func f (evs tm a) (evs tm b)) H:=rfl
def qR(P:Program)(a:AV)(args:List AV)(H:Heap):OR:=match a with
 |.func f x y=>.oth (.call f (x++(args++y)) H)
 |.meth n r=>Pb r .fail λu v=>JE P n u λg=>.oth (.call g (v::args) H)
 |.yield b=>.oth (.yield b args H)
 |_=>.fail
theorem fV(x:Z2)(P:Program)(args:List Z2)(tm:TM)(H:Heap):OZ x P args tm H=qR P (x tm) (evs tm args) H:=rfl
theorem XM(P:Program)(f:Nat)(x y args:List AV)(H:Heap):qR P (.func f x y) args H=.oth (.call f (x++(args++y)) H):=rfl
theorem Zex(lit:Bool)(g:Nat->AV->AV->Option Bool)(neg:Bool)(t:Nat)(v:AV)(H:Heap):Iz (kS lit g) neg (.iface t v) .nili H=.val (.bool neg) H:=by cases neg<;>rfl
theorem Zey(g:Nat->AV->AV->Option Bool)(neg:Bool)(H:Heap):Iz (kS true g) neg .nili .nili H=.val (.bool (!neg)) H:=by cases neg<;>rfl
def ZbK(neg:Bool)(r:Option Bool)(H:Heap):OR:=match r with|some b=>.val (.bool (cond neg (!b) b)) H|none=>.fail
theorem lE(neg b:Bool)(H:Heap):ZbK neg (some b) H=.val (.bool (cond neg (!b) b)) H:=rfl
theorem Zew(lit:Bool)(g:Nat->AV->AV->Option Bool)(neg:Bool)(t:Nat)(v w:AV)(H:Heap):Iz (kS lit g) neg (.iface t v) (.iface t w) H=ZbK neg (g t v w) H:=by
 show UU (cond (Nat.beq t t) (g t v w) (some false)) _=_
 rw[Ys,cond_true]
 cases g t v w with
 |none=>rfl
 |some b=>
  show So (cond neg (cond b false true) b) H=_
  rw[TE];cases neg<;>cases b<;>rfl
theorem fD(n:Nat):RJ n []=true:=rfl
theorem mE(n:Nat)(v:AV)(l:List AV):RJ n (v::l)=cond (Wl n v) (RJ n l) false:=rfl
theorem rf(n t:Nat)(v:AV):Wl n (.iface t v)=Wl n v:=rfl
theorem fI(n:Nat)(l:List AV):Wl n (.tup l)=RJ n l:=rfl
theorem sQ(b o n:Nat)(t:T Obj):VS (.val (.ptr b o) ⟨n,t,n⟩) (.ptr b o) n=true:=TK _ _ _ (by unfold same;rw[Ys,Ys];rfl)
theorem mG(n:Nat):Wl n .nili=true:=rfl
theorem mH(n:Nat):Wl n .nils=true:=rfl
theorem fG(n:Nat)(k:IntKind)(z:Int):Wl n (.int k z)=true:=rfl
def Jx(t:Nat)(zv:AV)(ok:Bool)(a:AV)(H:Heap):OR:=Pb a (PR zv ok H none) λu v=>PR zv ok H (cond (Nat.beq u t) (some v) none)
theorem rx(x:Z2)(t:Nat)(zv:AV)(ok:Bool)(tm:TM)(H:Heap):Du x t zv ok tm H=Jx t zv ok (x tm) H:=rfl
theorem tP(t:Nat)(zv:AV)(H:Heap):Jx t zv true .nili H=.val (.tup [zv,.bool false]) H:=rfl
theorem tQ(t:Nat)(zv v:AV)(H:Heap):Jx t zv true (.iface t v) H=.val (.tup [v,.bool true]) H:=by
 show PR zv true H (cond (Nat.beq t t) (some v) none)=_
 rw[Ys];rfl
def ZbM(a:AV)(H:Heap):OR:=Pb a .fail λ_ _=>.oth (.pan a H)
theorem mV(x:Z2)(tm:TM)(H:Heap):MO x tm H=ZbM (x tm) H:=rfl
theorem ZbN(t:Nat)(v:AV)(H:Heap):ZbM (.iface t v) H=.oth (.pan (.iface t v) H):=rfl
theorem ik(next:TM->Heap->X->WC)(dst:ZK)(c:Ctx)(tm:TM)(H:Heap)(x:X)(v:AV)(H':Heap):OO next dst c tm H x (.oth (.pan v H'))=.ok (.pan v) tm H' x:=rfl
theorem eB(next:TM->Heap->X->WC)(dst:ZK)(tm:TM)(x:X)(v:AV)(H:Heap):Bk next dst tm x (.pan v H)=.ok (.pan v) tm H x:=rfl
theorem kx(v:AV)(tm:TM)(H:Heap)(x:X)(k:TM->Heap->X->WC):Q7 (.ok (.pan v) tm H x) k=.ok (.pan v) tm H x:=rfl
theorem sZ(i:Nat)(v:AV)(tm:TM)(H:Heap)(x:X):PZ i (.ok (.pan v) tm H x)=.ok (.pan v) tm H x:=rfl
theorem eM(dc:Option AV->Nat->List AV->Heap->DR)(rs:List (Z2×Option (Nat×Bool)))(v:AV)(tm:TM)(H:Heap)(rc:Option AV):KA dc rs (.ok (.pan v) tm H ⟨[],rc⟩)=.pan v H:=rfl
theorem dj(ds:List ZK)(p:PI)(nx:PK)(rs:List RD)(tm:TM)(x:X)(v:AV)(H:Heap):Bt ds p nx rs tm x (.pan v H)=.ok (.pan v) (PU tm ds) H x:=rfl
def wS(H:Heap)(vs:List AV):CR:=match vs with|[v]=>.ret v H|vs=>.ret (.tup vs) H
theorem uk(rs:List (Z2×Option (Nat×Bool)))(tm:TM)(H:Heap):results rs tm H=O8 tm H (wS H) rs:=rfl
theorem ZeD(H:Heap)(v:AV):wS H [v]=.ret v H:=rfl
theorem ZeC(H:Heap):wS H []=.ret (.tup []) H:=rfl
theorem ZeE(H:Heap)(v w:AV)(l:List AV):wS H (v::w::l)=.ret (.tup (v::w::l)) H:=rfl
theorem lR(tm:TM)(H:Heap)(k:List AV->CR):O8 tm H k []=k []:=rfl
def rV(n:Nat)(ag:Bool)(o:Option Obj)(off:Nat)(k:AV->CR):CR:=match o with
 |some (.row r)=>cond (Nat.ble (Nat.add off n) r.size) (cond ag (k (.agg (VB r off n))) (k (r.get off))) .fail
 |_=>.fail
def ZbT(H:Heap)(a:AV)(n:Nat)(ag:Bool)(k:AV->CR):CR:=match a with
 |.ptr b o=>rV n ag (H.t.get b) o k
 |_=>.fail
theorem di(H:Heap)(b o n:Nat)(ag:Bool)(k:AV->CR):ZbT H (.ptr b o) n ag k=rV n ag (H.t.get b) o k:=rfl
theorem r6(f:Z2)(tm:TM)(H:Heap)(k:List AV->CR)(l:List (Z2×Option (Nat×Bool))):O8 tm H k ((f,none)::l)=O8 tm H (λvs=>k (f tm::vs)) l:=rfl
theorem r7(f:Z2)(n:Nat)(ag:Bool)(tm:TM)(H:Heap)(k:List AV->CR)(l:List (Z2×Option (Nat×Bool))):O8 tm H k ((f,some (n,ag))::l)=ZbT H (f tm) n ag (λv=>O8 tm H (λvs=>k (v::vs)) l):=rfl
theorem eX{n e sz:Nat}{l:List AV}{fz:Nat}{sm own ex:Bool}(hn:l.length=n)(k:AV->CR):rV n true (some (rG e sz l fz sm own ex)) 0 k=k (.agg l):=by
 subst hn
 show cond (Nat.ble (0+l.length) (YL l)) (k (.agg (VB ⟨e,sz,YL l,T.ofList l,.unk,fz,sm,own,ex⟩ 0 l.length))) .fail=_
 rw[(uf e sz l fz sm own ex).load (by omega),Zz,Xg,Yz,Zf,Zl (Zo _)];rfl
theorem mR(x:Z2)(args:List Z2)(tm:TM)(H:Heap):Bb x args tm H=.oth (.defer (x tm) (evs tm args)):=rfl
theorem vW(tm:TM)(H:Heap):Be tm H=.oth .recov:=rfl
theorem sF(next:TM->Heap->X->WC)(dst:ZK)(cl y rg fu)(tm:TM)(H:Heap)(x:X)(f:Nat)(a b args:List AV):OO next dst ⟨cl,y,rg,fu,false⟩ tm H x (.oth (.defer (.func f a b) args))=next (dst tm YS) H ⟨(.func f a b,args)::x.df,x.rc⟩:=rfl
theorem wU(next:TM->Heap->X->WC)(dst:ZK)(cl y rg fu)(tm:TM)(H:Heap)(df:List (AV×List AV)):OO next dst ⟨cl,y,rg,fu,false⟩ tm H ⟨df,none⟩ (.oth .recov)=next (dst tm .nili) H ⟨df,none⟩:=rfl
theorem wV(next:TM->Heap->X->WC)(dst:ZK)(cl y rg fu)(tm:TM)(H:Heap)(df:List (AV×List AV))(v:AV):OO next dst ⟨cl,y,rg,fu,false⟩ tm H ⟨df,some v⟩ (.oth .recov)=next (dst tm v) H ⟨df,none⟩:=rfl
theorem lH(dc:Option AV->Nat->List AV->Heap->DR)(rs:List (Z2×Option (Nat×Bool)))(tm:TM)(H:Heap)(d:AV×List AV)(l:List (AV×List AV))(rc:Option AV):KA dc rs (.ok .ret tm H ⟨d::l,rc⟩)=deferred dc rs tm (d::l) none H:=rfl
theorem lG(dc:Option AV->Nat->List AV->Heap->DR)(rs:List (Z2×Option (Nat×Bool)))(v:AV)(tm:TM)(H:Heap)(d:AV×List AV)(l:List (AV×List AV))(rc:Option AV):KA dc rs (.ok (.pan v) tm H ⟨d::l,rc⟩)=deferred dc rs tm (d::l) (some v) H:=rfl
def Cm(dc:Option AV->Nat->List AV->Heap->DR)(rs:List (Z2×Option (Nat×Bool)))(tm:TM)(l:List (AV×List AV))(pn:Option AV)(r:DR):CR:=match r with
 |.ret _ H rec=>deferred dc rs tm l (cond rec none pn) H
 |_=>.fail
theorem Ad(dc:Option AV->Nat->List AV->Heap->DR)(rs:List (Z2×Option (Nat×Bool)))(tm:TM)(g:Nat)(a b args:List AV)(l:List (AV×List AV))(pn:Option AV)(H:Heap):deferred dc rs tm ((.func g a b,args)::l) pn H=Cm dc rs tm l pn (dc pn g (a++(args++b)) H):=by
 show(match dc pn g (a++(args++b)) H with|.ret _ H rec=>deferred dc rs tm l (cond rec none pn) H|_=>.fail)=_
 unfold Cm
 cases dc pn g (a++(args++b)) H<;>rfl
theorem sx(dc:Option AV->Nat->List AV->Heap->DR)(rs:List (Z2×Option (Nat×Bool)))(tm:TM)(l:List (AV×List AV))(pn:Option AV)(v:AV)(H:Heap)(rec:Bool):Cm dc rs tm l pn (.ret v H rec)=deferred dc rs tm l (cond rec none pn) H:=rfl
theorem yU(dc:Option AV->Nat->List AV->Heap->DR)(rs:List (Z2×Option (Nat×Bool)))(tm:TM)(H:Heap):deferred dc rs tm [] none H=results rs tm H:=rfl
theorem yV(dc:Option AV->Nat->List AV->Heap->DR)(rs:List (Z2×Option (Nat×Bool)))(tm:TM)(v:AV)(H:Heap):deferred dc rs tm [] (some v) H=.pan v H:=rfl
def Zjl{α β:Type}(o:Option α)(d:β)(k:α->β):β:=match o with|some x=>k x|none=>d
theorem lF{α β:Type}(x:α)(d:β)(k:α->β):Zjl (some x) d k=k x:=rfl
def rL(rc:Option AV)(x:X)(r:CR):DR:=match r with|.ret v H=>.ret v H (Lf rc x)|_=>.fail
theorem eK(rc:Option AV)(x:X)(v:AV)(H:Heap):rL rc x (.ret v H)=.ret v H (Lf rc x):=rfl
theorem EV(rc:Option AV)(rs:List (Z2×Option (Nat×Bool)))(tm:TM)(H:Heap)(q:Option AV):FT rc rs (.ok .normal tm H ⟨[],q⟩)=rL rc ⟨[],q⟩ (results rs tm H):=by
 show(match([]:List (AV×List AV)),results rs tm H with|[],.ret v H=>DR.ret v H (Lf rc ⟨[],q⟩)|_,_=>.fail)=_
 unfold rL
 cases results rs tm H<;>rfl
theorem eJ(rc:Option AV)(rs:List (Z2×Option (Nat×Bool)))(tm:TM)(H:Heap)(q:Option AV):FT rc rs (.ok .ret tm H ⟨[],q⟩)=rL rc ⟨[],q⟩ (results rs tm H):=EV rc rs tm H q
theorem eH(rc:Option AV)(rs:List (Z2×Option (Nat×Bool)))(v:AV)(tm:TM)(H:Heap)(q:Option AV):FT rc rs (.ok (.pan v) tm H ⟨[],q⟩)=.pan v H (Lf rc ⟨[],q⟩):=rfl
theorem Zf3(v:AV)(l:List (AV×List AV)):Lf (some v) ⟨l,none⟩=true:=rfl
theorem Zf2(x:X):Lf none x=false:=rfl
theorem Fx(k:List AV->OR)(cells:List AV):Of k [] cells=k cells:=rfl
theorem sA(k:List AV->OR)(o n:Nat)(v:AV)(ps:List (Nat×Nat×AV))(cells:List AV):Of k ((o,n,v)::ps) cells=ZP (Nat.ble 1 n) (ZP (Nat.beq (YL v.cells) n) (ZP (Nat.ble (Nat.add o n) (YL cells)) (Of k ps (Nx o cells++(v.cells++ON (Nat.add o n) cells))))):=rfl
theorem fx{cells l:List AV}{o:Nat}(h:o+l.length<=cells.length):Nx o cells++(l++ON (Nat.add o l.length) cells)=lay cells o l:=by
 rw[CX cells o l h]
 have h1:Nx o cells=cells.take o:=Lt ..
 have h2:ON (o+l.length) cells=cells.drop (o+l.length):=MZ ..
 rw[h1]
 show _++(_++ON (o+l.length) cells)=_
 rw[h2]
theorem Cq{k:List AV->OR}{o n:Nat}{v:AV}{l:List AV}{ps:List (Nat×Nat×AV)}{cells:List AV}(hv:v.cells=l)(hl:l.length=n)(hn:1<=n)(h:o+n<=cells.length):Of k ((o,n,v)::ps) cells=Of k ps (lay cells o l):=by
 subst hv;subst hl
 rw[sA,Zl hn,Yz,Ys,Yz,Zl (show Nat.add o v.cells.length<=cells.length from h),fx h];rfl
theorem nF{k:List AV->OR}{o:Nat}{v:AV}{ps:List (Nat×Nat×AV)}{cells:List AV}(hv:v.cells=[v])(h:o<cells.length):Of k ((o,1,v)::ps) cells=Of k ps (cells.set o v):=Cq hv rfl (Zo 1) h
theorem AO{k:List AV->OR}{o n:Nat}{l:List AV}{ps:List (Nat×Nat×AV)}{cells:List AV}(hl:l.length=n)(hn:1<=n)(h:o+n<=cells.length):Of k ((o,n,.agg l)::ps) cells=Of k ps (lay cells o l):=Cq rfl hl hn h
theorem wA(z:AV)(zs:List AV)(ps:List (Nat×Nat×AV))(H:Heap):PT (z::zs) ps H=Of (λcs=>.val (.agg cs) H) ps (z::zs):=by
 show ZP (Nat.ble 1 (YL (z::zs))) _=_
 rw[Yz,Zl (by simp)];rfl
theorem D3{e sz n:Nat}{zs:List AV}{ps:List (Nat×Nat×AV)}{H:Heap}(h1:1<=sz)(h2:zs.length=n*sz):S9 e sz n zs ps H=Of (λcs=>.val (.slice H.nx 0 n none) (H.newRow e sz cs true)) ps zs:=by
 show ZP (Nat.ble 1 sz) (ZP (Nat.beq (YL zs) (Nat.mul n sz)) _)=_
 rw[Zl h1,Yz,h2,show Nat.mul n sz=n*sz from rfl,Ys];rfl
theorem ZG:(∀(x:Z2) (args:List Z2) (tm:TM) (H:Heap),Bb x args tm H=.oth (.defer (x tm) (evs tm args)))∧
 (∀(tm:TM) (H:Heap),Be tm H=.oth .recov)∧
 (∀(next:TM->Heap->X->WC) (dst:ZK) (cl y rg fu) (tm:TM) (H:Heap) (x:X) (f:Nat) (a b args:List AV),OO next dst ⟨cl,y,rg,fu,false⟩ tm H x (.oth (.defer (.func f a b) args))=next (dst tm YS) H ⟨(.func f a b,args)::x.df,x.rc⟩)∧
 (∀(next:TM->Heap->X->WC) (dst:ZK) (cl y rg fu) (tm:TM) (H:Heap) (df:List (AV×List AV)),OO next dst ⟨cl,y,rg,fu,false⟩ tm H ⟨df,none⟩ (.oth .recov)=next (dst tm .nili) H ⟨df,none⟩)∧
 (∀(next:TM->Heap->X->WC) (dst:ZK) (cl y rg fu) (tm:TM) (H:Heap) (df:List (AV×List AV)) (v:AV),OO next dst ⟨cl,y,rg,fu,false⟩ tm H ⟨df,some v⟩ (.oth .recov)=next (dst tm v) H ⟨df,none⟩)∧
 (∀(dc:Option AV->Nat->List AV->Heap->DR) (rs:List (Z2×Option (Nat×Bool))) (tm:TM) (H:Heap) (d:AV×List AV) (l:List (AV×List AV)) (rc:Option AV),KA dc rs (.ok .ret tm H ⟨d::l,rc⟩)=deferred dc rs tm (d::l) none H)∧
 (∀(dc:Option AV->Nat->List AV->Heap->DR) (rs:List (Z2×Option (Nat×Bool))) (v:AV) (tm:TM) (H:Heap) (d:AV×List AV) (l:List (AV×List AV)) (rc:Option AV),KA dc rs (.ok (.pan v) tm H ⟨d::l,rc⟩)=deferred dc rs tm (d::l) (some v) H)∧
 (∀(dc:Option AV->Nat->List AV->Heap->DR) (rs:List (Z2×Option (Nat×Bool))) (tm:TM) (g:Nat) (a b args:List AV) (l:List (AV×List AV)) (pn:Option AV) (H:Heap),deferred dc rs tm ((.func g a b,args)::l) pn H=Cm dc rs tm l pn (dc pn g (a++(args++b)) H))∧
 (∀(dc:Option AV->Nat->List AV->Heap->DR) (rs:List (Z2×Option (Nat×Bool))) (tm:TM) (l:List (AV×List AV)) (pn:Option AV) (v:AV) (H:Heap) (rec:Bool),Cm dc rs tm l pn (.ret v H rec)=deferred dc rs tm l (cond rec none pn) H)∧
 (∀(dc:Option AV->Nat->List AV->Heap->DR) (rs:List (Z2×Option (Nat×Bool))) (tm:TM) (H:Heap),deferred dc rs tm [] none H=results rs tm H)∧
 (∀(dc:Option AV->Nat->List AV->Heap->DR) (rs:List (Z2×Option (Nat×Bool))) (tm:TM) (v:AV) (H:Heap),deferred dc rs tm [] (some v) H=.pan v H)∧
 (∀{α β:Type} (x:α) (d:β) (k:α->β),Zjl (some x) d k=k x)∧
 (∀(rc:Option AV) (x:X) (v:AV) (H:Heap),rL rc x (.ret v H)=.ret v H (Lf rc x))∧
 (∀(rc:Option AV) (rs:List (Z2×Option (Nat×Bool))) (tm:TM) (H:Heap) (q:Option AV),FT rc rs (.ok .normal tm H ⟨[],q⟩)=rL rc ⟨[],q⟩ (results rs tm H))∧
 (∀(rc:Option AV) (rs:List (Z2×Option (Nat×Bool))) (tm:TM) (H:Heap) (q:Option AV),FT rc rs (.ok .ret tm H ⟨[],q⟩)=rL rc ⟨[],q⟩ (results rs tm H))∧
 (∀(rc:Option AV) (rs:List (Z2×Option (Nat×Bool))) (v:AV) (tm:TM) (H:Heap) (q:Option AV),FT rc rs (.ok (.pan v) tm H ⟨[],q⟩)=.pan v H (Lf rc ⟨[],q⟩))∧
 (∀(v:AV) (l:List (AV×List AV)),Lf (some v) ⟨l,none⟩=true)∧
 (∀(x:X),Lf none x=false)∧
 (∀{a:AV} (h:a.cells=[a]) (e:Nat) (H:Heap),Ac e a H=.val (.ptr H.nx 0) (H.new (rG e 1 [a] 0 false true true)))∧
 (∀{l:List AV} (h1:1<=l.length) (e:Nat) (H:Heap),Ac e (.agg l) H=.val (.ptr H.nx 0) (H.new (rG e 1 l 0 false true true)))∧
 (∀{b c:Nat} (h: ¬b=c) (H:Heap) (o:Obj),(H.put b o).t.get c=H.t.get c)∧
 (∀{H:Heap} {c:Nat} (h: ¬H.nx=c) (o:Obj),(H.new o).t.get c=H.t.get c)∧
 (∀{H:Heap} {c:Nat} (h:H.nx=c) (o:Obj),(H.new o).t.get c=some o)∧
 (∀{H:Heap} {b:Nat} (h:H.nx=b) (o o':Obj),(H.new o).put b o'=H.new o')∧
 (∀(neg b:Bool) (H:Heap),ZbK neg (some b) H=.val (.bool (cond neg (!b) b)) H)∧
 (∀(lit:Bool) (g:Nat->AV->AV->Option Bool) (neg:Bool) (t:Nat) (v w:AV) (H:Heap),Iz (kS lit g) neg (.iface t v) (.iface t w) H=ZbK neg (g t v w) H)∧
 (∀(n:Nat),RJ n []=true)∧
 (∀(n:Nat) (v:AV) (l:List AV),RJ n (v::l)=cond (Wl n v) (RJ n l) false)∧
 (∀(n t:Nat) (v:AV),Wl n (.iface t v)=Wl n v)∧
 (∀(n:Nat) (l:List AV),Wl n (.tup l)=RJ n l)∧
 (∀(b o n:Nat) (t:T Obj),VS (.val (.ptr b o) ⟨n,t,n⟩) (.ptr b o) n=true)∧
 (∀(n:Nat),Wl n .nili=true)∧
 (∀(n:Nat),Wl n .nils=true)∧
 (∀(n:Nat) (k:IntKind) (z:Int),Wl n (.int k z)=true)∧
 (∀(k:List AV->OR) (cells:List AV),Of k [] cells=k cells)∧
 (∀{k:List AV->OR} {o:Nat} {v:AV} {ps:List (Nat×Nat×AV)} {cells:List AV} (hv:v.cells=[v]) (h:o<cells.length),Of k ((o,1,v)::ps) cells=Of k ps (cells.set o v))∧
 (∀(z:AV) (zs:List AV) (ps:List (Nat×Nat×AV)) (H:Heap),PT (z::zs) ps H=Of (λcs=>.val (.agg cs) H) ps (z::zs))∧
 (∀(e sz:Nat) (l:List AV) (fz:Nat) (sm ex:Bool),wrO (rG e sz l fz sm true ex)=true)∧
 (∀(x:Z2) (e:Nat) (tm:TM) (H:Heap),Ba x e tm H=yP e (x tm) H)∧
 (∀(e:Nat) (s:List UInt8) (H:Heap),yP e (.str s) H=.val (.slice H.nx 0 s.length none) (H.new (rG e 1 (s.map XP) 0 true true false)))∧
 (∀(x:Z2) (t:Nat) (tm:TM) (H:Heap),MN x t tm H=.val (.iface t (x tm)) H)∧
 (∀(f:Nat) (a b:List Z2) (tm:TM) (H:Heap),Ib f a b tm H=.val (.func f (evs tm a) (evs tm b)) H)∧
 (∀(x:Z2) (P:Program) (args:List Z2) (tm:TM) (H:Heap),OZ x P args tm H=qR P (x tm) (evs tm args) H)∧
 (∀(P:Program) (f:Nat) (x y args:List AV) (H:Heap),qR P (.func f x y) args H=.oth (.call f (x++(args++y)) H))∧
 (∀(lit:Bool) (g:Nat->AV->AV->Option Bool) (neg:Bool) (t:Nat) (v:AV) (H:Heap),Iz (kS lit g) neg (.iface t v) .nili H=.val (.bool neg) H)∧
 (∀(g:Nat->AV->AV->Option Bool) (neg:Bool) (H:Heap),Iz (kS true g) neg .nili .nili H=.val (.bool (!neg)) H)∧
 (∀(x:Z2) (t:Nat) (zv:AV) (ok:Bool) (tm:TM) (H:Heap),Du x t zv ok tm H=Jx t zv ok (x tm) H)∧
 (∀(t:Nat) (zv:AV) (H:Heap),Jx t zv true .nili H=.val (.tup [zv,.bool false]) H)∧
 (∀(t:Nat) (zv v:AV) (H:Heap),Jx t zv true (.iface t v) H=.val (.tup [v,.bool true]) H)∧
 (∀(x:Z2) (tm:TM) (H:Heap),MO x tm H=ZbM (x tm) H)∧
 (∀(t:Nat) (v:AV) (H:Heap),ZbM (.iface t v) H=.oth (.pan (.iface t v) H))∧
 (∀(next:TM->Heap->X->WC) (dst:ZK) (c:Ctx) (tm:TM) (H:Heap) (x:X) (v:AV) (H':Heap),OO next dst c tm H x (.oth (.pan v H'))=.ok (.pan v) tm H' x)∧
 (∀(next:TM->Heap->X->WC) (dst:ZK) (tm:TM) (x:X) (v:AV) (H:Heap),Bk next dst tm x (.pan v H)=.ok (.pan v) tm H x)∧
 (∀(v:AV) (tm:TM) (H:Heap) (x:X) (k:TM->Heap->X->WC),Q7 (.ok (.pan v) tm H x) k=.ok (.pan v) tm H x)∧
 (∀(i:Nat) (v:AV) (tm:TM) (H:Heap) (x:X),PZ i (.ok (.pan v) tm H x)=.ok (.pan v) tm H x)∧
 (∀(dc:Option AV->Nat->List AV->Heap->DR) (rs:List (Z2×Option (Nat×Bool))) (v:AV) (tm:TM) (H:Heap) (rc:Option AV),KA dc rs (.ok (.pan v) tm H ⟨[],rc⟩)=.pan v H)∧
 (∀(ds:List ZK) (p:PI) (nx:PK) (rs:List RD) (tm:TM) (x:X) (v:AV) (H:Heap),Bt ds p nx rs tm x (.pan v H)=.ok (.pan v) (PU tm ds) H x)∧
 (∀(rs:List (Z2×Option (Nat×Bool))) (tm:TM) (H:Heap),results rs tm H=O8 tm H (wS H) rs)∧
 (∀(H:Heap) (v:AV),wS H [v]=.ret v H)∧
 (∀(H:Heap),wS H []=.ret (.tup []) H)∧
 (∀(H:Heap) (v w:AV) (l:List AV),wS H (v::w::l)=.ret (.tup (v::w::l)) H)∧
 (∀(tm:TM) (H:Heap) (k:List AV->CR),O8 tm H k []=k [])∧
 (∀(f:Z2) (tm:TM) (H:Heap) (k:List AV->CR) (l:List (Z2×Option (Nat×Bool))),O8 tm H k ((f,none)::l)=O8 tm H (λvs=>k (f tm::vs)) l)∧
 (∀(f:Z2) (n:Nat) (ag:Bool) (tm:TM) (H:Heap) (k:List AV->CR) (l:List (Z2×Option (Nat×Bool))),O8 tm H k ((f,some (n,ag))::l)=ZbT H (f tm) n ag (λv=>O8 tm H (λvs=>k (v::vs)) l))∧
 (∀(H:Heap) (b o n:Nat) (ag:Bool) (k:AV->CR),ZbT H (.ptr b o) n ag k=rV n ag (H.t.get b) o k)∧
 (∀(x:Z2) (tm:TM) (H:Heap),vZ x tm H=Zb2 (x tm) H):=⟨@mR, @vW, @sF, @wU, @wV, @lH, @lG, @Ad, @sx, @yU, @yV, @lF, @eK, @EV, @eJ, @eH, @Zf3, @Zf2, @jn, @XU, @RU, @NU, @Yi, @Us, @lE, @Zew, @fD, @mE, @rf, @fI, @sQ, @mG, @mH, @fG, @Fx, @nF, @wA, @bS, @mP, @tV, @mT, @fW, @fV, @XM, @Zex, @Zey, @rx, @tP, @tQ, @mV, @ZbN, @ik, @eB, @kx, @sZ, @eM, @dj, @uk, @ZeD, @ZeC, @ZeE, @lR, @r6, @r7, @di, @Zbv⟩
theorem Y3:(∀(e sz:Nat) (l:List AV) (fz:Nat) (sm ex:Bool),wrO (rG e sz l fz sm true ex)=true)∧
 (∀(H:Heap) (b:Nat) (o:Obj),(H.put b o).nx=H.nx)∧
 (∀(H:Heap) (o:Obj),(H.new o).nx=H.nx+1)∧
 (∀(H:Heap) (b:Nat) (o:Obj),(H.put b o).ro=H.ro)∧
 (∀(H:Heap) (o:Obj),(H.new o).ro=H.ro)∧
 (∀(b:Bool),(AV.bool b).cells=[.bool b])∧
 (∀(k:IntKind) (n:Int),(AV.int k n).cells=[.int k n])∧
 (∀(k:IntKind) (n:Nat),(nI k n).cells=[nI k n])∧
 (∀(x:UInt8),(XP x).cells=[XP x])∧
 (∀(s:List UInt8),(AV.str s).cells=[.str s])∧
 (AV.nilp.cells=[.nilp])∧
 (∀(b o:Nat),(AV.ptr b o).cells=[.ptr b o])∧
 (AV.nils.cells=[.nils])∧
 (∀(b o n:Nat) (c:Option Nat),(AV.slice b o n c).cells=[.slice b o n c])∧
 (∀(b:Nat),(AV.map b).cells=[.map b])∧
 (∀(f:Nat) (a b:List AV),(AV.func f a b).cells=[.func f a b])∧
 (∀(t:Nat) (v:AV),(AV.iface t v).cells=[.iface t v])∧
 (AV.nili.cells=[.nili])∧
 (∀(l:List AV),(AV.agg l).cells=l)∧
 (∀(r:Row) (o:Nat) (v:AV),(r.st o v).size=r.size)∧
 (∀(r:Row) (o:Nat) (v:AV),(r.st o v).own=r.own)∧
 (∀(r:Row) (o:Nat) (v:AV),(r.st o v).fz=r.fz)∧
 (∀(l:List AV) (o:Nat) (vs:List AV),(lay l o vs).length=l.length):=⟨@bS, @Nn, @MM, @xT, @fT, @Cd, @AC, @Cf, @AG, @AF, @Ch, @AE, @Ci, @Es, @AD, @Ce, @Er, @Cg, @AB, @Row.st_size, @Row.st_own, @Row.st_fz, @xi⟩
theorem Yl:((!true)=false)∧((!false)=true)∧(∀{α:Type} (l:List α),[]++l=l)∧(∀{α:Type} (l:List α),l++[]=l)∧(∀{α β:Type} (f:α->β),Option.map f none=none)∧(∀{α β:Type} (f:α->β) (a:α),Option.map f (some a)=some (f a))∧(∀{α β:Type} (f:α->β) (a:α) (l:List α),List.map f (a::l)=f a::List.map f l)∧(∀{α β:Type} (f:α->β),List.map f []=[])∧(∀{α:Type} (a b:α),cond true a b=a)∧(∀{α:Type} (a b:α),cond false a b=b)∧(∀(x i:Nat),x.testBit i=decide (x/2^i % 2=1))∧(∀h:Decidable True, @decide True h=true)∧(∀h:Decidable False, @decide False h=false)∧(∀n:Nat,0+n=n)∧
 (∀{α:Type} (a d:α) (l:List α),(a::l).getD 0 d=a)∧(∀{α:Type} (a d:α) (l:List α) (n:Nat),(a::l).getD (n+1) d=l.getD n d)∧(∀{α:Type} (a b:α) (l:List α),(a::l).set 0 b=b::l)∧(∀{α:Type} (a b:α) (l:List α) (n:Nat),(a::l).set (n+1) b=a::l.set n b):=
 ⟨YJ,Y7,λ_=>rfl,Yn,λ_=>rfl,λ_ _=>rfl,λ_ _ _=>rfl,λ_=>rfl,λ_ _=>rfl,λ_ _=>rfl,λ_ _=>VK,λ_=>Zd trivial,λ_=>Zb id,Zf,λ_ _ _=>rfl,λ_ _ _ _=>rfl,λ_ _ _=>rfl,λ_ _ _ _=>rfl⟩
theorem Y4:(∀{α:Type} (a:α) (l:List α),(a::l).length=l.length+1)∧(∀{α:Type},([]:List α).length=0)∧(∀{α:Type} (l:List α) (n:Nat) (a:α),(l.set n a).length=l.length)∧(∀{α β:Type} (f:α->β) (l:List α),(l.map f).length=l.length):=
 ⟨λ_ _=>rfl,rfl,λ_ _ _=>Um,λ_ _=>Zp ..⟩
section
variable {P:Program}
def Zfv(n:Nat):Obj->Prop
 |.row r=> ∀i,i<r.size->Wl n (r.get i)=true
 |.map es _=> ∀x∈es,Wl n x.key=true∧Wl n x.val=true
 |.siter _ _=>True
 |.loop=>True
 |_=>False
theorem U5.cutX{σ:Mp}{n:Nat}{o:Obj}{l:Loc}{c:Go.Obj}(h:Zfv n o)(r:U5 σ o l c):U5 (σ.cut n) o l c:=by
 cases o with
 |row q=>
  obtain⟨cs,fr,rfl,r⟩:=r
  refine⟨cs,fr,rfl,r.sz,r.sz1,r.fits,r.room,r.exact,λi hi=>?_,r.one,r.frz,r.frs⟩
  obtain⟨v,h1,h2⟩:=r.cell i hi
  exact⟨v,h1,Yk.cut (h i hi) h2⟩
 |map es clock=>
  obtain⟨ents,e,h1,h2⟩:=r
  exact⟨ents,e,Yr.cutE h h1,h2⟩
 |siter s pos=>exact r
 |loop=>exact r
 |miter _ _ _=>exact h.elim
 |cmap _=>exact h.elim
structure Less(H H' G:Heap):Prop where
 nx:H.nx<=G.nx
 ro:G.ro=H.ro
 old: ∀b,b<H.nx->G.t.get b=H'.t.get b
 new: ∀b o,H.nx<=b->G.t.get b=some o->H.t.get b=some o∨(b<G.nx∧H'.t.get b=some o)
 low: ∀b o,G.t.get b=some o->H.t.get b=some o∨Zfv G.nx o
theorem Tr.less{σ σ':Mp}{H H' G:Heap}{w w':World}(hs:WM P σ H w)(t:Tr P σ H w σ' H' w')(g:Less H H' G):Tr P σ H w (σ'.cut G.nx) G w':=by
 have hex:Ext σ (σ'.cut G.nx):=λb l hb=>by
  have:=hs.dom b l hb
  rw[Mp.cut_lt (ZF this g.nx)]
  exact t.ext b l hb
 have hcut: ∀{b l},σ'.cut G.nx b=some l->σ' b=some l:=λh=>(Mp.cut_some h).2
 have hin: ∀b o,G.t.get b=some o->H'.t.get b=some o:=λb o h=>by
  by_cases hb:b<H.nx
  ·rw[<-g.old b hb];exact h
  ·rcases g.new b o (by omega) h with h1|h1
   ·exact absurd (hs.low b o h1) hb
   ·exact h1.2
 have hs':WM P (σ'.cut G.nx) G w':=by
  refine⟨λb l h=>(Mp.cut_some h).1,λb o h=>?_,λb o l hb hl=>?_,λb b' o o' l l' h1 h2 h3 h4 e=>t.sim.inj b b' o o' l l' (hin _ _ h1) (hin _ _ h2) (hcut h3) (hcut h4) e,λq hq=>?_,by rw[g.ro];exact ZX hs.ro g.nx⟩
  ·by_cases hb:b<H.nx
   ·exact ZF hb g.nx
   ·rcases g.new b o (by omega) h with h1|h1
    ·exact absurd (hs.low b o h1) hb
    ·exact h1.1
  ·obtain⟨c,h2,h3⟩:=t.sim.alive b o l (hin b o hb) (hcut hl)
   refine⟨c,h2,?_⟩
   rcases g.low b o hb with h5|h4
   ·cases hσ:σ b with
    |none=>
     have:=(t.pend b (hs.low b o h5) hσ).2
     rw[hcut hl] at this;cases this
    |some l0=>
     have e:=t.ext b l0 hσ
     rw[hcut hl] at e;cases e
     obtain⟨c0,_,h1⟩:=hs.alive b o l h5 hσ
     exact(h1.back t.ext h3).mono hex
   ·exact h3.cutX h4
  ·obtain⟨l,h1,h2,h3⟩:=hs.glob q hq
   exact⟨l,hex _ _ h1,h2,h3⟩
 refine⟨hex,hs',t.size,t.frame,λb l hw hl hlt=>?_,g.nx,g.ro,λb hb=>?_,t.tape,t.os,t.out,λb hb hn=>?_⟩
 ·obtain⟨h1,o,h2,h3⟩:=hw
  exact t.wr b l ⟨by rw[t.ro,<-g.ro];exact h1,o,hin b o h2,h3⟩ (hcut hl) hlt
 ·rw[g.old b (ZF hb hs.ro)]
  exact t.low b hb
 ·obtain⟨h1,h2⟩:=t.pend b hb hn
  refine⟨by rw[g.old b hb,h1],?_⟩
  rw[Mp.cut_lt (ZF hb g.nx)];exact h2
def Zcg(H:Heap):CR->CR->Prop
 |.ret v H',.ret u G=>u=v∧Less H H' G∧Wl G.nx v=true
 |.pan v H',.pan u G=>u=v∧Less H H' G∧Wl G.nx v=true
 |_,_=>False
theorem Za7{call:Nat->List AV->Heap->CR}(hcall:SE P call){f:FuncId}{args:List AV}{H:Heap}{r:CR}(g:Zcg H (call f args H) r)
  {σ:Mp}{w:World}{vs:List Value}(hs:WM P σ H w)(hv:YE σ args vs):Lw P σ H w r ((callFunc f ⟨vs⟩).run P w):=by
 have hcr:=hcall f _ H σ w vs hs hv
 generalize call f args H=q at g hcr
 cases q with
 |fail=>cases r<;>exact g.elim
 |ret v H'=>
  cases r with
  |ret u G=>
   obtain⟨rfl,g,hlow⟩:=g
   refine Ends.mono (λu' w' hx=>?_) (λ_ _ hx=>hx) hcr
   obtain⟨σ2,h1,t⟩:=hx
   exact⟨σ2.cut G.nx,Yk.cut hlow h1,t.less hs g⟩
  |_=>exact g.elim
 |pan v H'=>
  cases r with
  |pan u G=>
   obtain⟨rfl,g,hlow⟩:=g
   refine Ends.mono (λ_ _ hx=>hx) (λu' w' hx=>?_) hcr
   obtain⟨σ2,h1,t⟩:=hx
   exact⟨σ2.cut G.nx,Yk.cut hlow h1,t.less hs g⟩
  |_=>exact g.elim
theorem Less.put{H:Heap}{b:Nat}{o:Obj}(hb:b<H.nx)(ho:Zfv H.nx o){H':Heap}(h: ∀c,c<H.nx->H'.t.get c=(H.put b o).t.get c):Less H H' (H.put b o):=by
 refine⟨Zo _,rfl,λc hc=>(h c hc).symm,λc q hc hq=>.inl ?_,λc q hq=>?_⟩
 ·rw[U3,if_neg (by omega)] at hq;exact hq
 ·rw[U3] at hq
  split at hq
  ·cases hq;exact .inr ho
  ·exact .inl hq
theorem Less.same{H H':Heap}(h: ∀c,c<H.nx->H'.t.get c=H.t.get c):Less H H' H:=
 ⟨Zo _,rfl,λc hc=>(h c hc).symm,λ_ _ _ hq=>.inl hq,λ_ _ hq=>.inl hq⟩
end
section
variable {P:Program}
abbrev Lib:=Nat->List AV->Heap->Option CR
def CY(QY:Nat->Nat)(Nq:Lib)(call:Nat->List AV->Heap->CR)(lib:Lib)(k:Nat):Lib:=λf args H=>
 open Classical in if QY f=k then
  (match Nq f args H with
  |some r=>if Zcg H (call f args H) r then some r else lib f args H
  |none=>if ∃v H',call f args H=.ret v H'∧Zw H H' []∧Wl 0 v=true then(match call f args H with|.ret v _=>some (.ret v H)|_=>none) else lib f args H)
 else lib f args H
theorem fy{QY:Nat->Nat}{Nq:Lib}{call:Nat->List AV->Heap->CR}{lib:Lib}{k:Nat}(hcall:SE P call)(hl:Nu P lib):Nu P (CY QY Nq call lib k):=by
 intro f args H r h σ w vs hs hv
 unfold CY at h
 split at h
 ·split at h
  ·split at h
   ·rename_i hc
    cases h
    exact Za7 hcall hc hs hv
   ·exact hl f args H r h σ w vs hs hv
  ·split at h
   ·rename_i hc
    obtain⟨v,H',h1,h2,h3⟩:=hc
    rw[h1] at h
    cases h
    exact pM hcall h1 h2 h3 hs hv
   ·exact hl f args H r h σ w vs hs hv
 ·exact hl f args H r h σ w vs hs hv
theorem IL{QY:Nat->Nat}{Nq:Lib}{call:Nat->List AV->Heap->CR}{lib:Lib}{k f:Nat}(h:QY f≠k)(args:List AV)(H:Heap):CY QY Nq call lib k f args H=lib f args H:=by
 unfold CY;rw[if_neg h]
theorem sX{QY:Nat->Nat}{Nq:Lib}{call:Nat->List AV->Heap->CR}{lib:Lib}{k f:Nat}{args:List AV}{H H':Heap}{v:AV}(h:QY f=k)(hs:Nq f args H=none)(hr:call f args H=.ret v H')(g:Zw H H' [])(hv:Wl 0 v=true):CY QY Nq call lib k f args H=some (.ret v H):=by
 unfold CY;rw[if_pos h,hs]
 simp only
 rw[if_pos ⟨v,H',hr,g,hv⟩,hr]
def Db(Zr:Lib)(fs:T CF)(fuel:Nat)(QY:Nat->Nat)(Nq:Lib):Nat->Lib
 |0=>Zr
 |k+1=>CY QY Nq (ZU (Db Zr fs fuel QY Nq k) fs fuel 900) (Db Zr fs fuel QY Nq k) (k+1)
variable {Zr:Lib} {fs:T CF} {fuel:Nat} {QY:Nat->Nat} {Nq:Lib}
theorem xp(hc: ∀lib,Nu P lib->SE P (ZU lib fs fuel 900))(h0:Nu P Zr): ∀k,Nu P (Db Zr fs fuel QY Nq k)
 |0=>h0
 |k+1=>fy (hc _ (xp hc h0 k)) (xp hc h0 k)
theorem vC{f:Nat}(args:List AV)(H:Heap): ∀k,k<QY f->Db Zr fs fuel QY Nq k f args H=Zr f args H
 |0,_=>rfl
 |k+1,h=>(IL (by omega) args H).trans (vC args H k (by omega))
theorem FJ{f:Nat}(h:QY f=0)(args:List AV)(H:Heap): ∀k,Db Zr fs fuel QY Nq k f args H=Zr f args H
 |0=>rfl
 |k+1=>(IL (by omega) args H).trans (FJ h args H k)
theorem Za8{f r:Nat}(h:QY f=r)(args:List AV)(H:Heap): ∀k,r<=k->Db Zr fs fuel QY Nq k f args H=Db Zr fs fuel QY Nq r f args H:=by
 intro k hk
 induction k with
 |zero=>rw[Nat.le_zero.1 hk]
 |succ k ih=>
  by_cases e:r=k+1
  ·rw[e]
  ·exact(IL (by omega) args H).trans (ih (by omega))
theorem Z3{f k:Nat}(h0: ∀l H,Zr f l H=none)(h:k<QY f∨QY f=0)(args:List AV)(H:Heap):Db Zr fs fuel QY Nq k f args H=none:=by
 rcases h with h|h
 ·rw[vC args H k h,h0]
 ·rw[FJ h args H k,h0]
theorem KL{f k n:Nat}{args:List AV}{H:Heap}{r:CR}(h:QY f=0)(hr:Zr f args H=some r):ZU (Db Zr fs fuel QY Nq k) fs fuel (n+1) f args H=r:=
 AA (by rw[FJ h];exact hr)
theorem YI{f r k n:Nat}{args:List AV}{H H':Heap}{v:AV}(h:QY f=r+1)(hs:Nq f args H=none)(hr:ZU (Db Zr fs fuel QY Nq r) fs fuel 900 f args H=.ret v H')(g:Zw H H' [])(hv:Wl 0 v=true)(hk:r+1<=k):
  ZU (Db Zr fs fuel QY Nq k) fs fuel (n+1) f args H=.ret v H:=
 AA (by rw[Za8 h args H k hk];exact sX h hs hr g hv)
end
end
end Go.AI
