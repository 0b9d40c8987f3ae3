/- Running the interpreter's code on values that are not known: equations, proved without conditions but those that each names; what is looked up rank by rank. -/
import Derived.Test.YtoihnnkidhmfeaaGreatDoorP6
import Derived.Test.YtoihnnkidhmfeaaGreatDoorP5
set_option maxRecDepth 1000000
set_option maxHeartbeats 0
set_option linter.unusedVariables false
set_option linter.unusedSimpArgs false
namespace Go.AI
open Go
noncomputable section
section
variable {α:Type}
namespace N8
theorem g00(f:α->α)(n:N8 α):a0 (u0 f n)=f (a0 n):=rfl
theorem g01(f:α->α)(n:N8 α):a0 (u1 f n)=a0 n:=rfl
theorem g02(f:α->α)(n:N8 α):a0 (u2 f n)=a0 n:=rfl
theorem g03(f:α->α)(n:N8 α):a0 (u3 f n)=a0 n:=rfl
theorem g04(f:α->α)(n:N8 α):a0 (u4 f n)=a0 n:=rfl
theorem g05(f:α->α)(n:N8 α):a0 (u5 f n)=a0 n:=rfl
theorem g06(f:α->α)(n:N8 α):a0 (u6 f n)=a0 n:=rfl
theorem g07(f:α->α)(n:N8 α):a0 (u7 f n)=a0 n:=rfl
theorem g10(f:α->α)(n:N8 α):a1 (u0 f n)=a1 n:=rfl
theorem g11(f:α->α)(n:N8 α):a1 (u1 f n)=f (a1 n):=rfl
theorem g12(f:α->α)(n:N8 α):a1 (u2 f n)=a1 n:=rfl
theorem g13(f:α->α)(n:N8 α):a1 (u3 f n)=a1 n:=rfl
theorem g14(f:α->α)(n:N8 α):a1 (u4 f n)=a1 n:=rfl
theorem g15(f:α->α)(n:N8 α):a1 (u5 f n)=a1 n:=rfl
theorem g16(f:α->α)(n:N8 α):a1 (u6 f n)=a1 n:=rfl
theorem g17(f:α->α)(n:N8 α):a1 (u7 f n)=a1 n:=rfl
theorem g20(f:α->α)(n:N8 α):a2 (u0 f n)=a2 n:=rfl
theorem g21(f:α->α)(n:N8 α):a2 (u1 f n)=a2 n:=rfl
theorem g22(f:α->α)(n:N8 α):a2 (u2 f n)=f (a2 n):=rfl
theorem g23(f:α->α)(n:N8 α):a2 (u3 f n)=a2 n:=rfl
theorem g24(f:α->α)(n:N8 α):a2 (u4 f n)=a2 n:=rfl
theorem g25(f:α->α)(n:N8 α):a2 (u5 f n)=a2 n:=rfl
theorem g26(f:α->α)(n:N8 α):a2 (u6 f n)=a2 n:=rfl
theorem g27(f:α->α)(n:N8 α):a2 (u7 f n)=a2 n:=rfl
theorem g30(f:α->α)(n:N8 α):a3 (u0 f n)=a3 n:=rfl
theorem g31(f:α->α)(n:N8 α):a3 (u1 f n)=a3 n:=rfl
theorem g32(f:α->α)(n:N8 α):a3 (u2 f n)=a3 n:=rfl
theorem g33(f:α->α)(n:N8 α):a3 (u3 f n)=f (a3 n):=rfl
theorem g34(f:α->α)(n:N8 α):a3 (u4 f n)=a3 n:=rfl
theorem g35(f:α->α)(n:N8 α):a3 (u5 f n)=a3 n:=rfl
theorem g36(f:α->α)(n:N8 α):a3 (u6 f n)=a3 n:=rfl
theorem g37(f:α->α)(n:N8 α):a3 (u7 f n)=a3 n:=rfl
theorem g40(f:α->α)(n:N8 α):a4 (u0 f n)=a4 n:=rfl
theorem g41(f:α->α)(n:N8 α):a4 (u1 f n)=a4 n:=rfl
theorem g42(f:α->α)(n:N8 α):a4 (u2 f n)=a4 n:=rfl
theorem g43(f:α->α)(n:N8 α):a4 (u3 f n)=a4 n:=rfl
theorem g44(f:α->α)(n:N8 α):a4 (u4 f n)=f (a4 n):=rfl
theorem g45(f:α->α)(n:N8 α):a4 (u5 f n)=a4 n:=rfl
theorem g46(f:α->α)(n:N8 α):a4 (u6 f n)=a4 n:=rfl
theorem g47(f:α->α)(n:N8 α):a4 (u7 f n)=a4 n:=rfl
theorem g50(f:α->α)(n:N8 α):a5 (u0 f n)=a5 n:=rfl
theorem g51(f:α->α)(n:N8 α):a5 (u1 f n)=a5 n:=rfl
theorem g52(f:α->α)(n:N8 α):a5 (u2 f n)=a5 n:=rfl
theorem g53(f:α->α)(n:N8 α):a5 (u3 f n)=a5 n:=rfl
theorem g54(f:α->α)(n:N8 α):a5 (u4 f n)=a5 n:=rfl
theorem g55(f:α->α)(n:N8 α):a5 (u5 f n)=f (a5 n):=rfl
theorem g56(f:α->α)(n:N8 α):a5 (u6 f n)=a5 n:=rfl
theorem g57(f:α->α)(n:N8 α):a5 (u7 f n)=a5 n:=rfl
theorem g60(f:α->α)(n:N8 α):a6 (u0 f n)=a6 n:=rfl
theorem g61(f:α->α)(n:N8 α):a6 (u1 f n)=a6 n:=rfl
theorem g62(f:α->α)(n:N8 α):a6 (u2 f n)=a6 n:=rfl
theorem g63(f:α->α)(n:N8 α):a6 (u3 f n)=a6 n:=rfl
theorem g64(f:α->α)(n:N8 α):a6 (u4 f n)=a6 n:=rfl
theorem g65(f:α->α)(n:N8 α):a6 (u5 f n)=a6 n:=rfl
theorem g66(f:α->α)(n:N8 α):a6 (u6 f n)=f (a6 n):=rfl
theorem g67(f:α->α)(n:N8 α):a6 (u7 f n)=a6 n:=rfl
theorem g70(f:α->α)(n:N8 α):a7 (u0 f n)=a7 n:=rfl
theorem g71(f:α->α)(n:N8 α):a7 (u1 f n)=a7 n:=rfl
theorem g72(f:α->α)(n:N8 α):a7 (u2 f n)=a7 n:=rfl
theorem g73(f:α->α)(n:N8 α):a7 (u3 f n)=a7 n:=rfl
theorem g74(f:α->α)(n:N8 α):a7 (u4 f n)=a7 n:=rfl
theorem g75(f:α->α)(n:N8 α):a7 (u5 f n)=a7 n:=rfl
theorem g76(f:α->α)(n:N8 α):a7 (u6 f n)=a7 n:=rfl
theorem g77(f:α->α)(n:N8 α):a7 (u7 f n)=f (a7 n):=rfl
end N8
end
section
theorem XF(f:VV)(dst:ZC)(next:D)(c:Ctx)(tm:TM)(H:Heap)(x:X):Za f dst next c tm H x=OF (next c) dst c tm H x (f tm H):=rfl
theorem uf(g:Z0)(b:Bool)(f:VV)(dst:ZC)(next:D)(c:Ctx)(tm:TM)(H:Heap)(x:X):ZT g b f dst next c tm H x=TP (g tm) b (OF (next c) dst c tm H x (f tm H)) (next c (dst tm YZ) H x):=rfl
theorem oi(yes no:WS):TP (.bool true) true yes no=yes:=rfl
theorem zL(yes no:WS):TP (.bool false) false yes no=yes:=rfl
theorem oh(yes no:WS):TP (.bool true) false yes no=no:=rfl
theorem og(yes no:WS):TP (.bool false) true yes no=no:=rfl
theorem XE(next:TM->Heap->X->WS)(dst:ZC)(c:Ctx)(tm:TM)(H:Heap)(x:X)(v:AV)(H':Heap):OF next dst c tm H x (.val v H')=next (dst tm v) H' x:=rfl
theorem XJ(next:TM->Heap->X->WS)(dst:ZC)(c:Ctx)(tm:TM)(H:Heap)(x:X)(f:Nat)(args:List AV)(H':Heap):OF next dst c tm H x (.oth (.call f args H'))=Bg next dst tm x (c.call f args H'):=rfl
theorem Wm(next:TM->Heap->X->WS)(dst:ZC)(tm:TM)(x:X)(v:AV)(H:Heap):Bg next dst tm x (.ret v H)=next (dst tm v) H x:=rfl
theorem XO(a b:D)(c:Ctx)(tm:TM)(H:Heap)(x:X):Zc a b c tm H x=Qj (a c tm H x) (b c):=rfl
theorem Yn(tm:TM)(H:Heap)(x:X)(k:TM->Heap->X->WS):Qj (.ok .normal tm H x) k=k tm H x:=rfl
theorem XC(tm:TM)(H:Heap)(x:X)(k:TM->Heap->X->WS):Qj (.ok .ret tm H x) k=.ok .ret tm H x:=rfl
theorem Xm(i:Nat)(tm:TM)(H:Heap)(x:X)(k:TM->Heap->X->WS):Qj (.ok (.exit i) tm H x) k=.ok (.exit i) tm H x:=rfl
theorem Xf(c:Ctx)(tm:TM)(H:Heap)(x:X):Zb c tm H x=.ok .normal tm H x:=rfl
theorem X2(c:Ctx)(tm:TM)(H:Heap)(x:X):Ya c tm H x=.ok .ret tm H x:=rfl
theorem XI(i:Nat)(c:Ctx)(tm:TM)(H:Heap)(x:X):Xi i c tm H x=.ok (.exit i) tm H x:=rfl
theorem XP(q:Z0)(a b:D)(c:Ctx)(tm:TM)(H:Heap)(x:X):ZD q a b c tm H x=xb (q tm) λv=>HS (a c) (b c) v tm H x:=rfl
theorem XR(b:Bool)(k:Bool->WS):xb (.bool b) k=k b:=rfl
theorem Xq(a b:TM->Heap->X->WS)(tm:TM)(H:Heap)(x:X):HS a b true tm H x=a tm H x:=rfl
theorem Y5(a b:TM->Heap->X->WS)(tm:TM)(H:Heap)(x:X):HS a b false tm H x=b tm H x:=rfl
theorem Y9(i:Nat)(a:D)(c:Ctx)(tm:TM)(H:Heap)(x:X):ZG i a c tm H x=Px i (a c tm H x):=rfl
theorem RB(a:D)(c:Ctx)(tm:TM)(H:Heap)(x:X):Xo a c tm H x=Wu (a c) c.fuel tm H x:=rfl
theorem Yp(i:Nat)(tm:TM)(H:Heap)(x:X):Px i (.ok .normal tm H x)=.ok .normal tm H x:=rfl
theorem Yw(i:Nat)(tm:TM)(H:Heap)(x:X):Px i (.ok (.exit i) tm H x)=.ok .normal tm H x:=by
 show @Bool.rec (λ_=>WS) (.ok (.exit i) tm H x) (.ok .normal tm H x) (Nat.beq i i)=_
 rw[YC]
theorem Xs(i:Nat)(tm:TM)(H:Heap)(x:X):Px i (.ok .ret tm H x)=.ok .ret tm H x:=rfl
theorem V4(tm:TM)(v:AV):d0 tm v=tm:=rfl
theorem TC(v:AV)(tm:TM):k v tm=v:=rfl
theorem rQ:RL []=Nn:=rfl
theorem JR(a:AV):RL [a]=st0 Nn a:=rfl
theorem JS(a b:AV):RL [a,b]=st1 (st0 Nn a) b:=rfl
theorem iN(a b c:AV):RL [a,b,c]=st2 (st1 (st0 Nn a) b) c:=rfl
theorem iO(a b c d:AV):RL [a,b,c,d]=WZ (st2 (st1 (st0 Nn a) b) c) d:=rfl
theorem Vc(tm:TM):evs tm []=[]:=rfl
theorem Wj(tm:TM)(f:Z0)(l:List Z0):evs tm (f::l)=f tm::evs tm l:=rfl
theorem YM{lib:Nat->List AV->Heap->Option CR}{fs:T CF}{fuel n f:Nat}{args:List AV}{H:Heap}{cf:CF}(hl:lib f args H=none)(hf:fs.get f=some cf):Yo lib fs fuel (n+1) f args H=
  KV (λpn g as H=>Bf .fail fs g λcg=>FX pn cg.rs (cg.body ⟨Yo lib fs fuel n,Tj,TQ,fuel,false⟩ (RL as) H ⟨[],pn⟩))
   cf.rs (cf.body ⟨Yo lib fs fuel n,Tj,FZ fs fuel (Yo lib fs fuel n),fuel,false⟩ (RL args) H ⟨[],none⟩):=by
 show qF (lib f args H) _=_
 rw[hl]
 unfold Bf
 rw[hf]
 rfl
theorem QI(dc:Option AV->Nat->List AV->Heap->DR)(rs:List (Z0×Option (Nat×Bool)))(tm:TM)(H:Heap)(rc:Option AV):KV dc rs (.ok .ret tm H ⟨[],rc⟩)=results rs tm H:=rfl
theorem EL(dc:Option AV->Nat->List AV->Heap->DR)(rs:List (Z0×Option (Nat×Bool)))(tm:TM)(H:Heap)(rc:Option AV):KV dc rs (.ok .normal tm H ⟨[],rc⟩)=results rs tm H:=rfl
theorem Q1(f:Z0)(tm:TM)(H:Heap):results [(f,none)] tm H=.ret (f tm) H:=rfl
theorem GS(tm:TM)(H:Heap):results [] tm H=.ret (.tup []) H:=rfl
theorem Rl{a:TM->Heap->X->WS}{x:X}{i:Nat}(inv:Nat->TM->Heap->Prop)(fin:TM->Heap->Prop)(n:Nat)
  (step: ∀k tm H,k<n->inv k tm H-> ∃tm' H',a tm H x=.ok .normal tm' H' x∧inv (k+1) tm' H')
  (last: ∀tm H,inv n tm H-> ∃tm' H',a tm H x=.ok (.exit i) tm' H' x∧fin tm' H'): ∀(j k:Nat) (F:Nat) (tm:TM) (H:Heap),k+j=n->j<F->inv k tm H-> ∃tm' H',Wu a F tm H x=.ok (.exit i) tm' H' x∧fin tm' H'
 |0,k,F,tm,H,hk,hF,h=>by
  obtain⟨F,rfl⟩: ∃G,F=G+1:=⟨F - 1,by omega⟩
  obtain rfl:k=n:=by omega
  obtain⟨tm',H',h1,h2⟩:=last tm H h
  refine⟨tm',H',?_,h2⟩
  show Qj (a tm H x) (Wu a F)=_
  rw[h1];rfl
 |j+1,k,F,tm,H,hk,hF,h=>by
  obtain⟨F,rfl⟩: ∃G,F=G+1:=⟨F - 1,by omega⟩
  obtain⟨tm',H',h1,h2⟩:=step k tm H (by omega) h
  obtain⟨uW,H2,h3,h4⟩:=Rl inv fin n step last j (k+1) F tm' H' (by omega) (by omega) h2
  refine⟨uW,H2,?_,h4⟩
  show Qj (a tm H x) (Wu a F)=_
  rw[h1]
  exact h3
theorem WN(x:Z0)(tm:TM)(H:Heap):Zf x tm H=.val (x tm) H:=rfl
noncomputable def fJ(a:AV)(H:Heap):OR:=Pz a λk a=>UV k (I7 0 a) H
noncomputable def LB(k:IntKind)(a:AV)(H:Heap):OR:=Pz a λ_ a=>UV k a H
noncomputable def EZ(a b:AV)(H:Heap):OR:=match a with
 |.int j a=>Pz b λl b=>ZR (Nf j l) (UV j (CO a b) H)
 |.str a=>Nv b λb=>ZR (Nat.ble (Nat.add (YF a) (YF b)) 4611686018427387904) (.val (.str (a++b)) H)
 |_=>.fail
noncomputable def AR(a b:AV)(H:Heap):OR:=FN a b λk a b=>UV k (I7 a b) H
noncomputable def kQ(a b:AV)(H:Heap):OR:=FN a b λk a b=>UV k (CQ a b) H
noncomputable def np(a b:AV)(H:Heap):OR:=FN a b λk a b=>cond (E1 b 0) .fail (UV k (Zbd a b) H)
noncomputable def sO(a b:AV)(H:Heap):OR:=FN a b λk a b=>cond (E1 b 0) .fail (Pq (Zbe a b) λn=>.val (.int k n) H)
noncomputable def Io(f:Nat->Nat->Nat->Nat)(a b:AV)(H:Heap):OR:=FN a b λk a b=>UV k (.ofNat (f (OS k) (RE (OS k) a) (RE (OS k) b))) H
noncomputable def nF(a b:AV)(H:Heap):OR:=Pz a λk a=>QH b λb=>UV k (CQ a (.ofNat (Nat.pow 2 (cond (Nat.ble b 64) b 64)))) H
noncomputable def ui(a b:AV)(H:Heap):OR:=Pz a λk a=>QH b λb=>Pq (Zbf a (LE b (rS k))) λn=>.val (.int k n) H
noncomputable def it(a:AV)(H:Heap):OR:=Pz a λk a=>UV k (.ofNat (Nat.sub (Nat.sub (OS k) 1) (RE (OS k) a))) H
noncomputable def K7(f:Int->Int->Bool)(g:List UInt8->List UInt8->Bool)(a b:AV)(H:Heap):OR:=match a with
 |.int j a=>Pz b λl b=>ZR (Nf j l) (PL (f a b) H)
 |.str a=>Nv b λb=>PL (g a b) H
 |_=>.fail
noncomputable def Eo(f:AV->AV->Option Bool)(neg:Bool)(a b:AV)(H:Heap):OR:=Rm (f a b) λb=>PL (cond neg (cond b false true) b) H
noncomputable def kT(a:AV)(H:Heap):OR:=FW a λb=>.val (.bool (cond b false true)) H
noncomputable def Bk(a b c:AV)(H:Heap):OR:=FW a λt=>.val (cond t b c) H
theorem WD(x:Z0)(tm:TM)(H:Heap):xy x tm H=fJ (x tm) H:=rfl
theorem WB(x:Z0)(k:IntKind)(tm:TM)(H:Heap):US x k tm H=LB k (x tm) H:=rfl
theorem XK(x y:Z0)(tm:TM)(H:Heap):ZK x y tm H=EZ (x tm) (y tm) H:=rfl
theorem WJ(x y:Z0)(tm:TM)(H:Heap):Xy x y tm H=AR (x tm) (y tm) H:=rfl
theorem WC(x y:Z0)(tm:TM)(H:Heap):RO x y tm H=kQ (x tm) (y tm) H:=rfl
theorem WF(x y:Z0)(tm:TM)(H:Heap):Ng x y tm H=np (x tm) (y tm) H:=rfl
theorem WG(x y:Z0)(tm:TM)(H:Heap):KU x y tm H=sO (x tm) (y tm) H:=rfl
theorem XS(x y:Z0)(f:Nat->Nat->Nat->Nat)(tm:TM)(H:Heap):XM x y f tm H=Io f (x tm) (y tm) H:=rfl
theorem WH(x y:Z0)(tm:TM)(H:Heap):N6 x y tm H=nF (x tm) (y tm) H:=rfl
theorem WI(x y:Z0)(tm:TM)(H:Heap):Nh x y tm H=ui (x tm) (y tm) H:=rfl
theorem XV(x:Z0)(tm:TM)(H:Heap):qS x tm H=it (x tm) H:=rfl
theorem WA(x y:Z0)(f:Int->Int->Bool)(g:List UInt8->List UInt8->Bool)(tm:TM)(H:Heap):Yc x y f g tm H=K7 f g (x tm) (y tm) H:=rfl
theorem Vl(x y:Z0)(f:AV->AV->Option Bool)(neg:Bool)(tm:TM)(H:Heap):UX x y f neg tm H=Eo f neg (x tm) (y tm) H:=rfl
theorem WE(x:Z0)(tm:TM)(H:Heap):PR x tm H=kT (x tm) H:=rfl
theorem XU(x y z:Z0)(tm:TM)(H:Heap):YD x y z tm H=Bk (x tm) (y tm) (z tm) H:=rfl
theorem Xk(f:Nat)(args:List Z0)(tm:TM)(H:Heap):Zt f args tm H=.oth (.call f (evs tm args) H):=rfl
theorem RC(b:Bool)(H:Heap):PL b H=.val (.bool b) H:=by cases b<;>rfl
theorem Xz(k:IntKind)(n:Int)(H:Heap):UV k n H=.val (.int k (k.wrap n)) H:=by simp only[UV,Qp,Mm]
theorem Ed(k:IntKind)(m n:Nat):yw k m (.ofNat n)=.ofNat (n % m):=by
 show cond (Nat.ble m n) (Int.ofNat (Nat.mod n m)) (.ofNat n)=_
 cases h:Nat.ble m n with
 |true=>rfl
 |false=>
  have:n<m:=by
   have h2: ¬m<=n:=λhh=>by rw[Zj hh] at h;cases h
   omega
  rw[ZU this];rfl
theorem KI(n:Nat):IntKind.u8.wrap (.ofNat n)=.ofNat (n % 256):=by rw[<-Mm];exact Ed .u8 256 n
theorem LW(n:Nat):IntKind.u32.wrap (.ofNat n)=.ofNat (n % 4294967296):=by rw[<-Mm];exact Ed .u32 4294967296 n
theorem SE(n:Nat):IntKind.u64.wrap (.ofNat n)=.ofNat (n % 18446744073709551616):=by rw[<-Mm];exact Ed .u64 18446744073709551616 n
theorem JP{n:Nat}(h:n<9223372036854775808):IntKind.i64.wrap (.ofNat n)=.ofNat n:=by
 rw[<-Mm]
 show cond (Nat.ble 9223372036854775808 n) _ (Int.ofNat n)=_
 cases h2:Nat.ble 9223372036854775808 n with
 |true=>have:=ZQ h2;omega
 |false=>rfl
theorem Jl(a b:Nat):CO (.ofNat a) (.ofNat b)=.ofNat (a+b):=rfl
theorem Jn(a b:Nat):CQ (.ofNat a) (.ofNat b)=.ofNat (a*b):=rfl
theorem CU{a b:Nat}(h:b<=a):I7 (.ofNat a) (.ofNat b)=.ofNat (a - b):=by
 show cond (Nat.ble b a) (Int.ofNat (Nat.sub a b)) (Int.ofNat a - Int.ofNat b)=_
 rw[Zj h];rfl
theorem IR(m n:Nat):RE m (.ofNat n)=n % m:=rfl
theorem JX(a b:Nat):qy (.ofNat a) (.ofNat b)=decide (a<b):=by
 show Nat.ble (Nat.succ a) b=_
 cases h:Nat.ble (Nat.succ a) b with
 |true=>have:=ZQ h;exact(Zg this).symm
 |false=>
  have h2: ¬Nat.succ a<=b:=λhh=>by rw[Zj hh] at h;cases h
  exact(Zd h2).symm
theorem Ov(a b:Nat):E1 (.ofNat a) (.ofNat b)=decide (a=b):=Yx a b
theorem Wd(k:IntKind):Nf k k=true:=by cases k<;>rfl
def i64(n:Nat):AV:=nI .i64 n
def Y6(x:UInt8):AV:=.int .u8 (.ofNat x.toNat)
def ZH(x:UInt32):AV:=.int .u32 (.ofNat x.toNat)
def Zhr(x:UInt64):AV:=.int .u64 (.ofNat x.toNat)
theorem WM{a b:Nat}(h:a+b<9223372036854775808)(H:Heap):EZ (nI .i64 a) (nI .i64 b) H=.val (nI .i64 (a+b)) H:=by
 show ZR (Nf .i64 .i64) (UV .i64 (CO (.ofNat a) (.ofNat b)) H)=_
 rw[Wd,Xz,Jl,JP h];rfl
theorem Ot{a b:Nat}(h:b<=a)(h2:a<9223372036854775808)(H:Heap):AR (nI .i64 a) (nI .i64 b) H=.val (nI .i64 (a - b)) H:=by
 show ZR (Nf .i64 .i64) (UV .i64 (I7 (.ofNat a) (.ofNat b)) H)=_
 rw[Wd,Xz,CU h,JP (by omega)];rfl
theorem Hh{a b:Nat}(h:a*b<9223372036854775808)(H:Heap):kQ (nI .i64 a) (nI .i64 b) H=.val (nI .i64 (a*b)) H:=by
 show ZR (Nf .i64 .i64) (UV .i64 (CQ (.ofNat a) (.ofNat b)) H)=_
 rw[Wd,Xz,Jn,JP h];rfl
theorem sP{a b:Nat}(h:0<b)(H:Heap):sO (nI .i64 a) (nI .i64 b) H=.val (nI .i64 (a % b)) H:=by
 show ZR (Nf .i64 .i64) (cond (E1 (.ofNat b) (.ofNat 0)) .fail (Pq (.ofNat (Nat.mod a b)) λn=>.val (.int .i64 n) H))=_
 rw[Wd,Ov,Zd (by omega),Qp];rfl
theorem ZbX{a b:Nat}(h:0<b)(h2:a<9223372036854775808)(H:Heap):np (nI .i64 a) (nI .i64 b) H=.val (nI .i64 (a/b)) H:=by
 show ZR (Nf .i64 .i64) (cond (E1 (.ofNat b) (.ofNat 0)) .fail (UV .i64 (.ofNat (Nat.div a b)) H))=_
 rw[Wd,Ov,Zd (by omega),Xz,show(Int.ofNat (Nat.div a b))=Int.ofNat (a/b) from rfl,JP (Xd (XL a b) h2)];rfl
theorem Zx(k:IntKind)(a b:Nat)(H:Heap):K7 Xx Yj (nI k a) (nI k b) H=.val (.bool (decide (a<b))) H:=by
 show ZR (Nf k k) (PL (qy (.ofNat a) (.ofNat b)) H)=_
 rw[Wd,RC,JX];rfl
theorem Wn(k:IntKind)(a b:Nat)(H:Heap):K7 T0 WY (nI k a) (nI k b) H=.val (.bool (decide (b<=a))) H:=by
 show ZR (Nf k k) (PL (!qy (.ofNat a) (.ofNat b)) H)=_
 rw[Wd,RC,JX]
 show OR.val (.bool (!decide (a<b))) H=_
 congr 2
 by_cases h:a<b
 ·rw[Zg h,Zd (by omega)];rfl
 ·rw[Zd h,Zg (by omega)];rfl
theorem Qy(k:IntKind)(a b:Nat)(H:Heap):Eo SL true (nI k a) (nI k b) H=.val (.bool (decide (a≠b))) H:=by
 show Rm (cond (Nf k k) (some (E1 (.ofNat a) (.ofNat b))) none) _=_
 rw[Wd,Ov]
 show PL (cond true (cond (decide (a=b)) false true) (decide (a=b))) H=_
 rw[RC]
 congr 2
 by_cases h:a=b
 ·rw[Zg h,Zd (by omega)];rfl
 ·rw[Zd h,Zg h];rfl
theorem YK(k:IntKind)(a b:Nat)(H:Heap):Eo SL false (nI k a) (nI k b) H=.val (.bool (decide (a=b))) H:=by
 show Rm (cond (Nf k k) (some (E1 (.ofNat a) (.ofNat b))) none) _=_
 rw[Wd,Ov]
 exact RC _ _
theorem Mu(a b:UInt32)(H:Heap):EZ (ZH a) (ZH b) H=.val (ZH (a+b)) H:=by
 show ZR (Nf .u32 .u32) (UV .u32 (CO (.ofNat a.toNat) (.ofNat b.toNat)) H)=_
 rw[Wd,Xz,Jl,LW];unfold ZH;rw[UInt32.toNat_add];rfl
theorem kM(a:UInt32):a.toNat<4294967296:=a.toNat_lt
theorem yK{f:Nat->Nat->Nat->Nat}{a b c:UInt32}(h:f 4294967296 a.toNat b.toNat=c.toNat)(H:Heap):Io f (ZH a) (ZH b) H=.val (ZH c) H:=by
 show ZR (Nf .u32 .u32) (UV .u32 (.ofNat (f 4294967296 (RE 4294967296 (.ofNat a.toNat)) (RE 4294967296 (.ofNat b.toNat)))) H)=_
 rw[Wd,Xz,IR,IR,ZU (kM a),ZU (kM b),h,LW,ZU (kM c)];rfl
theorem rO(a b:UInt32)(H:Heap):Io T8 (ZH a) (ZH b) H=.val (ZH (a&&&b)) H:=yK (UInt32.toNat_and a b).symm H
theorem xD(a b:UInt32)(H:Heap):Io Oi (ZH a) (ZH b) H=.val (ZH (a|||b)) H:=yK (UInt32.toNat_or a b).symm H
theorem Ds(a b:UInt32)(H:Heap):Io PY (ZH a) (ZH b) H=.val (ZH (a^^^b)) H:=yK (UInt32.toNat_xor a b).symm H
theorem fP(a:UInt32)(H:Heap):it (ZH a) H=.val (ZH (~~~a)) H:=by
 show UV .u32 (.ofNat (Nat.sub (Nat.sub 4294967296 1) (RE 4294967296 (.ofNat a.toNat)))) H=_
 rw[Xz,IR,ZU (kM a),LW]
 unfold ZH
 rw[UInt32.toNat_not]
 have:=kM a
 congr 3
 show(4294967296 - 1 - a.toNat) % 4294967296=4294967296 - 1 - a.toNat
 omega
theorem G0(a:UInt32){n:Nat}(h:n<32)(H:Heap):ui (ZH a) (nI .u64 n) H=.val (ZH (a>>>UInt32.ofNat n)) H:=by
 show Pq (.ofNat (Nat.div a.toNat (Nat.pow 2 (LE n 32)))) (λn=>OR.val (.int .u32 n) H)=_
 rw[Qp]
 unfold ZH
 rw[UInt32.toNat_shiftRight,UInt32.toNat_ofNat_of_lt' (show n<UInt32.size from Qo h (by decide)),ZU h,Nat.shiftRight_eq_div_pow]
 have:LE n 32=n:=by unfold LE;rw[Zj (by omega)];rfl
 rw[this];rfl
theorem Dn(a:UInt32){n:Nat}(h:n<32)(H:Heap):nF (ZH a) (nI .u64 n) H=.val (ZH (a<<<UInt32.ofNat n)) H:=by
 show UV .u32 (CQ (.ofNat a.toNat) (.ofNat (Nat.pow 2 (cond (Nat.ble n 64) n 64)))) H=_
 rw[Xz,Jn,LW,Zj (show n<=64 by omega)]
 unfold ZH
 rw[UInt32.toNat_shiftLeft,UInt32.toNat_ofNat_of_lt' (show n<UInt32.size from Qo h (by decide)),ZU h,Nat.shiftLeft_eq]
 rfl
end
structure Cells(r:Row)(l:List AV):Prop where
 size:r.size=l.length
 get: ∀i,i<l.length->r.get i=l.getD i .unk
theorem Cells.load{r:Row}{l:List AV}(h:Cells r l){o n:Nat}(hn:o+n<=l.length):loadN r o n=(l.drop o).take n:=by
 refine VC λj=>?_
 by_cases hj:j<n
 ·rw[Qs r n o j hj,Vg hj,Vj,h.get (o+j) (by omega),Zh]
  rw[Zr (show o+j<l.length by omega)];rfl
 ·rw[Xg (by rw[Sz];omega),Xg (by rw[Ys,ZV];omega)]
theorem Cells.store{r:Row}{l:List AV}(h:Cells r l){o:Nat}{vs:List AV}(ho:o+vs.length<=l.length):Cells (r.setCells (YV r.cells o vs)) (l.take o++(vs++l.drop (o+vs.length))):=by
 have hlen:(l.take o++(vs++l.drop (o+vs.length))).length=l.length:=by
  rw[Zo,Zo,Ys,ZV];omega
 refine⟨by rw[hlen];exact h.size,λi hi=>?_⟩
 rw[hlen] at hi
 rw[Row.get_eq]
 show((YV r.cells o vs).get i).getD r.dflt=_
 rw[Oq,Zh]
 by_cases h1:o<=i∧i<o+vs.length
 ·rw[if_pos h1,ZY (by rw[Ys];omega),Ys,Ul (by omega),Yz (by omega),
   Zr (show i - o<vs.length by omega)];rfl
 ·rw[if_neg h1]
  have h2:=h.get i hi
  rw[Row.get_eq,Zh] at h2
  rw[h2]
  by_cases h3:i<o
  ·rw[Yz (by rw[Ys];omega),Vg h3]
  ·rw[ZY (by rw[Ys];omega),Ys,Ul (by omega),ZY (by omega),Vj,
    show o+vs.length+(i - o - vs.length)=i by omega]
theorem Cells.store1{r:Row}{l:List AV}(h:Cells r l){o:Nat}{v:AV}(ho:o<l.length):Cells (r.setCells (YV r.cells o [v])) (l.set o v):=by
 have:=h.store (o:=o) (vs:=[v]) (by simp;omega)
 rw[List.set_eq_take_append_cons_drop,if_pos ho]
 exact this
theorem Cells.new(e sz:Nat)(l:List AV)(fz:Nat)(sm own ex:Bool):Cells ⟨e,sz,YF l,T.ofList l,.unk,fz,sm,own,ex⟩ l:=by
 refine⟨Yt l,λi hi=>?_⟩
 rw[Row.get_eq]
 show((T.ofList l).get i).getD .unk=_
 rw[T.get_ofList,Zh]
theorem Cells.zero(e n:Nat)(v:AV)(fz:Nat)(sm own ex:Bool):Cells ⟨e,1,n,.leaf,v,fz,sm,own,ex⟩ (List.replicate n v):=by
 refine⟨by simp,λi hi=>?_⟩
 rw[Wf] at hi
 rw[Row.get_eq]
 show((T.leaf:T AV).get i).getD v=_
 rw[T.get_leaf,Zh,TJ,if_pos hi];rfl
structure Own(H:Heap)(b e:Nat)(l:List AV)(r:Row):Prop where
 at_:H.t.get b=some (.row r)
 elem:r.elem=e
 sz:r.sz=1
 own:r.own=true
 fz:r.fz=0
 sm:r.sm=false
 cells:Cells r l
 ro:H.ro<=b
noncomputable def UQ(a:AV)(H:Heap):OR:=PA a λb o=>X6 H b λr=>ZR (Nat.ble (Nat.succ o) r.size) (.val (r.get o) H)
noncomputable def Jo(n:Nat)(a:AV)(H:Heap):OR:=PA a λb o=>X6 H b λr=>ZR (Nat.ble (Nat.add o n) r.size) (.val (.agg (loadN r o n)) H)
noncomputable def RJ(n:Nat)(a v:AV)(H:Heap):OR:=PA a λb o=>X6 H b λr=>
 ZR (Nat.ble 1 n)<|ZR (H.may r b) (ZR (Nat.ble (Nat.add o n) r.size) (ZR (Nat.ble r.fz o) (ZR (Nat.beq (YF v.cells) n)
  (.val YZ (H.put b (.row (r.setCells (YV r.cells o v.cells))))))))
def fZ(n:Nat)(a:AV)(H:Heap):OR:=PA a λb o=>.val (.ptr b (Nat.add o n)) H
def Gu(n sz:Nat)(a i:AV)(H:Heap):OR:=QH i λi=>PA a λb o=>ZR (Nat.ble (Nat.succ i) n) (.val (.ptr b (Nat.add o (Nat.mul i sz))) H)
def CP(sz:Nat)(a i:AV)(H:Heap):OR:=QH i λi=>SA a .fail λb o len _=>ZR (Nat.ble (Nat.succ i) len) (.val (.ptr b (Nat.add o (Nat.mul i sz))) H)
def fL(a:AV)(H:Heap):OR:=xr a (.val a H)
noncomputable def Ko(a:AV)(H:Heap):OR:=SA a (.val (.int .i64 0) H) λ_ _ n _=>RF n λn=>.val (.int .i64 (.ofNat n)) H
theorem XB(x:Z0)(tm:TM)(H:Heap):Zs x tm H=UQ (x tm) H:=rfl
theorem XT(x:Z0)(n:Nat)(tm:TM)(H:Heap):Yg x n tm H=Jo n (x tm) H:=rfl
theorem Xt(x y:Z0)(n:Nat)(tm:TM)(H:Heap):ZS x y n tm H=RJ n (x tm) (y tm) H:=rfl
theorem WW(x:Z0)(n:Nat)(tm:TM)(H:Heap):Yk x n tm H=fZ n (x tm) H:=rfl
theorem X3(x y:Z0)(n sz:Nat)(tm:TM)(H:Heap):XN x y n sz tm H=Gu n sz (x tm) (y tm) H:=rfl
theorem X4(x y:Z0)(sz:Nat)(tm:TM)(H:Heap):ZW x y sz tm H=CP sz (x tm) (y tm) H:=rfl
theorem WV(x:Z0)(tm:TM)(H:Heap):SO x tm H=fL (x tm) H:=rfl
theorem X5(x:Z0)(tm:TM)(H:Heap):Wg x tm H=Ko (x tm) H:=rfl
theorem Xb(e n:Nat)(v:AV)(tm:TM)(H:Heap):Sd e n v tm H=.val (.ptr H.nx 0) (H.new (.row ⟨e,1,n,.leaf,v,0,false,true,true⟩)):=rfl
theorem so(e:Nat)(cs:List AV)(h:1<=YF cs)(tm:TM)(H:Heap):Ws e cs tm H=.val (.ptr H.nx 0) (H.newRow e 1 cs true):=by
 show ZR (Nat.ble 1 (YF cs)) _=_
 rw[Zj h];rfl
theorem WX(n b o:Nat)(H:Heap):fZ n (.ptr b o) H=.val (.ptr b (o+n)) H:=rfl
theorem WU(b o:Nat)(H:Heap):fL (.ptr b o) H=.val (.ptr b o) H:=rfl
theorem Z5(b o n:Nat)(c:Option Nat)(H:Heap):Ko (.slice b o n c) H=.val (nI .i64 n) H:=by
 show RF n (λn=>OR.val (.int .i64 (.ofNat n)) H)=_
 rw[P9];rfl
theorem Gw(H:Heap):Ko .nils H=.val (nI .i64 0) H:=rfl
theorem Vd{n i:Nat}(h:i<n)(b o:Nat)(k:IntKind)(H:Heap):Gu n 1 (.ptr b o) (nI k i) H=.val (.ptr b (o+i)) H:=by
 show ZR (Nat.ble (Nat.succ i) n) (.val (.ptr b (o+i*1)) H)=_
 rw[Zj h,Y0];rfl
theorem Td{n i:Nat}(h:i<n)(b o:Nat)(c:Option Nat)(k:IntKind)(H:Heap):CP 1 (.slice b o n c) (nI k i) H=.val (.ptr b (o+i)) H:=by
 show ZR (Nat.ble (Nat.succ i) n) (.val (.ptr b (o+i*1)) H)=_
 rw[Zj h,Y0];rfl
theorem Tp{H:Heap}{b o:Nat}{r:Row}{l:List AV}(hr:H.t.get b=some (.row r))(hc:Cells r l)(ho:o<l.length):UQ (.ptr b o) H=.val (l.getD o .unk) H:=by
 show X6 H b _=_
 unfold X6
 rw[hr]
 show ZR (Nat.ble (Nat.succ o) r.size) _=_
 rw[hc.size,Zj ho,hc.get o ho];rfl
theorem NL{H:Heap}{b o n:Nat}{r:Row}{l:List AV}(hr:H.t.get b=some (.row r))(hc:Cells r l)(ho:o+n<=l.length):Jo n (.ptr b o) H=.val (.agg ((l.drop o).take n)) H:=by
 show X6 H b _=_
 unfold X6
 rw[hr]
 show ZR (Nat.ble (o+n) r.size) _=_
 rw[hc.size,Zj ho,hc.load ho];rfl
theorem UU{H:Heap}{b o n:Nat}{r:Row}{l:List AV}{v:AV}(hr:H.t.get b=some (.row r))(hc:Cells r l)(how:r.own=true)(hro:H.ro<=b)(hfz:r.fz=0)(hn:1<=n)(hv:v.cells.length=n)(ho:o+n<=l.length):
  RJ n (.ptr b o) v H=.val YZ (H.put b (.row (r.setCells (YV r.cells o v.cells)))):=by
 show X6 H b _=_
 unfold X6
 rw[hr]
 show ZR (Nat.ble 1 n) (ZR (H.may r b) (ZR (Nat.ble (o+n) r.size) (ZR (Nat.ble r.fz o) (ZR (Nat.beq (YF v.cells) n) _))))=_
 have h1:H.may r b=true:=by unfold Heap.may;rw[how,Zj hro];rfl
 rw[Zj hn,h1,hc.size,Zj ho,hfz,Zj (Yv _),Yt,hv,YC];rfl
theorem Xu(H:Heap)(b c:Nat)(o:Obj):(H.put b o).t.get c=if b=c then some o else H.t.get c:=T.get_set _ _ _ _
theorem Xj(H:Heap)(c:Nat)(o:Obj):(H.new o).t.get c=if H.nx=c then some o else H.t.get c:=T.get_set _ _ _ _
theorem UB(H:Heap)(b:Nat)(o:Obj):(H.put b o).nx=H.nx:=rfl
theorem UC(H:Heap)(b:Nat)(o:Obj):(H.put b o).ro=H.ro:=rfl
theorem VN(H:Heap)(o:Obj):(H.new o).nx=H.nx+1:=rfl
theorem UA(H:Heap)(o:Obj):(H.new o).ro=H.ro:=rfl
theorem So(H:Heap)(e sz:Nat)(l:List AV)(ex:Bool):H.newRow e sz l ex=H.new (.row ⟨e,sz,YF l,T.ofList l,.unk,0,false,true,ex⟩):=rfl
theorem Kb(l:List PI)(c:Ctx)(tm:TM)(H:Heap)(x:X):Yy l c tm H x=UH (l.map (·.dst)) Jw l c [] tm H x:=rfl
theorem J9(ds:List ZC)(fin:PK)(c:Ctx)(rs:List RD)(tm:TM)(H:Heap)(x:X):UH ds fin [] c rs tm H x=cond (still tm H rs) (fin rs tm H x) .fail:=rfl
theorem Kt(ds:List ZC)(fin:PK)(p:PI)(l:List PI)(c:Ctx)(rs:List RD)(tm:TM)(H:Heap)(x:X):UH ds fin (p::l) c rs tm H x=Rv ds p (UH ds fin l c) c rs tm H x:=rfl
theorem J7(rs:List RD)(tm:TM)(H:Heap)(x:X):Jw rs tm H x=.ok .normal tm H x:=rfl
section
variable (ds:List ZC) (f:VV) (os:List (ZC×Z0)) (dst:ZC) (i bef:Nat) (nx:PK) (c:Ctx) (rs:List RD) (tm:TM) (H:Heap) (x:X)
theorem KC:Rv ds ⟨f,none,os,dst,.free,i,bef⟩ nx c rs tm H x=cond (Qw H.nx tm os) (Ja ⟨f,none,os,dst,.free,i,bef⟩ nx rs tm H x (f (QT tm os) ⟨H.nx,.leaf,H.nx⟩)) .fail:=rfl
theorem KD:Rv ds ⟨f,none,os,dst,.read,i,bef⟩ nx c rs tm H x=IA ⟨f,none,os,dst,.read,i,bef⟩ nx rs tm H x (f (QT tm os) ⟨H.nx,H.t,H.nx⟩):=rfl
theorem Id:Rv ds ⟨f,none,os,dst,.eff,i,bef⟩ nx c rs tm H x=cond (still tm H rs) (HW ds ⟨f,none,os,dst,.eff,i,bef⟩ nx rs c tm x (f (QT tm os) H)) .fail:=rfl
variable (g:Option (Z0×Bool)) (kd:HF) (v:AV) (H':Heap)
theorem JW:Ja ⟨f,g,os,dst,kd,i,bef⟩ nx rs tm H x (.val v ⟨H.nx,.leaf,H.nx⟩)=nx rs (dst tm v) H x:=by
 show cond (Nat.beq H.nx H.nx) (nx rs (dst tm v) H x) _=_
 rw[YC];rfl
theorem F0:IA ⟨f,g,os,dst,kd,i,bef⟩ nx rs tm H x (.val v ⟨H.nx,H.t,H.nx⟩)=nx (⟨⟨f,g,os,dst,kd,i,bef⟩,v⟩::rs) (dst tm v) H x:=by
 show cond (Nat.beq H.nx H.nx) _ _=_
 rw[YC];rfl
theorem HX:HW ds ⟨f,g,os,dst,kd,i,bef⟩ nx rs c tm x (.val v H')=nx (TD bef rs) (dst tm v) H' x:=rfl
theorem JV(q:Nat)(args:List AV):HW ds ⟨f,g,os,dst,kd,i,bef⟩ nx rs c tm x (.oth (.call q args H'))=Bn ds ⟨f,g,os,dst,kd,i,bef⟩ nx rs tm x (c.call q args H'):=rfl
theorem GT:Bn ds ⟨f,g,os,dst,kd,i,bef⟩ nx rs tm x (.ret v H')=nx (TD bef rs) (dst tm v) H' x:=rfl
theorem JZ(b:Nat):TD b []=[]:=rfl
theorem Kk(b:Nat):TD b (⟨⟨f,g,os,dst,kd,i,bef⟩,v⟩::rs)=cond (Nat.testBit b i) (TD b rs) (⟨⟨f,g,os,dst,kd,i,bef⟩,v⟩::TD b rs):=rfl
theorem Ie:still tm H []=true:=rfl
theorem KE:still tm H (⟨⟨f,g,os,dst,kd,i,bef⟩,v⟩::rs)=cond (vT ⟨⟨f,g,os,dst,kd,i,bef⟩,v⟩ tm H) (still tm H rs) false:=rfl
noncomputable def To(r:OR)(w:AV)(n:Nat):Bool:=OR.rec (λv H1=>cond (Nat.beq H1.nx n) (same v w) false) (λ_=>false) r
theorem GP:vT ⟨⟨f,g,os,dst,kd,i,bef⟩,v⟩ tm H=To (f (QT tm os) ⟨H.nx,H.t,H.nx⟩) v H.nx:=rfl
end
theorem R5(v:AV)(n:Nat)(t:T Obj)(h:same v v=true):To (.val v ⟨n,t,n⟩) v n=true:=by
 show cond (Nat.beq n n) (same v v) false=true
 rw[YC,h];rfl
theorem Bt(k:IntKind)(n:Int):same (.int k n) (.int k n)=true:=by
 show cond (Nf k k) (E1 n n) false=true
 rw[Wd,Lc];simp
theorem ue(x:UInt32):same (ZH x) (ZH x)=true:=Bt ..
theorem xQ(x:UInt8):same (Y6 x) (Y6 x)=true:=Bt ..
theorem pc(k:IntKind)(n:Nat):same (nI k n) (nI k n)=true:=Bt ..
theorem R4(v:UInt32)(n:Nat)(t:T Obj):To (.val (ZH v) ⟨n,t,n⟩) (ZH v) n=true:=R5 _ _ _ (ue v)
theorem LC(v:UInt8)(n:Nat)(t:T Obj):To (.val (Y6 v) ⟨n,t,n⟩) (Y6 v) n=true:=R5 _ _ _ (xQ v)
theorem JY(k:IntKind)(v:Nat)(n:Nat)(t:T Obj):To (.val (nI k v) ⟨n,t,n⟩) (nI k v) n=true:=R5 _ _ _ (pc k v)
theorem J1(n:Nat)(tm:TM):Qw n tm []=true:=rfl
theorem Kp(n:Nat)(tm:TM)(s:ZC)(g:Z0)(os:List (ZC×Z0)):Qw n tm ((s,g)::os)=cond (Va n (g tm)) (Qw n tm os) false:=rfl
theorem Dd(n:Nat)(k:IntKind)(m:Nat):Va n (nI k m)=true:=rfl
theorem Gy(n:Nat)(x:UInt32):Va n (ZH x)=true:=rfl
theorem De(n:Nat)(x:UInt8):Va n (Y6 x)=true:=rfl
theorem J2(n:Nat)(x:Bool):Va n (.bool x)=true:=rfl
theorem Z6{n b:Nat}(h:b<n)(o:Nat):Va n (.ptr b o)=true:=Zj h
theorem UR{n b:Nat}(h:b<n)(o l:Nat)(c:Option Nat):Va n (.slice b o l c)=true:=Zj h
theorem Dm(tm:TM):QT tm []=Nn:=rfl
theorem GW(tm:TM)(s:ZC)(g:Z0)(os:List (ZC×Z0)):QT tm ((s,g)::os)=s (QT tm os) (g tm):=rfl
theorem Ud(tm:TM):ZO tm=N8.a0 (N8.a0 (N8.a0 tm)):=rfl
theorem Hu(tm:TM)(v:AV):st0 tm v=N8.u0 (N8.u0 (N8.u0 λ_=>v)) tm:=rfl
theorem Od(tm:TM):YL tm=N8.a1 (N8.a0 (N8.a0 tm)):=rfl
theorem nO(tm:TM)(v:AV):st1 tm v=N8.u0 (N8.u0 (N8.u1 λ_=>v)) tm:=rfl
theorem Ru(tm:TM):Xw tm=N8.a2 (N8.a0 (N8.a0 tm)):=rfl
theorem nP(tm:TM)(v:AV):st2 tm v=N8.u0 (N8.u0 (N8.u2 λ_=>v)) tm:=rfl
theorem TB(tm:TM):Xa tm=N8.a3 (N8.a0 (N8.a0 tm)):=rfl
theorem xW(tm:TM)(v:AV):WZ tm v=N8.u0 (N8.u0 (N8.u3 λ_=>v)) tm:=rfl
theorem T7(tm:TM):YT tm=N8.a4 (N8.a0 (N8.a0 tm)):=rfl
theorem Ij(tm:TM)(v:AV):Xp tm v=N8.u0 (N8.u0 (N8.u4 λ_=>v)) tm:=rfl
theorem Pc(tm:TM):XW tm=N8.a5 (N8.a0 (N8.a0 tm)):=rfl
theorem Ik(tm:TM)(v:AV):VA tm v=N8.u0 (N8.u0 (N8.u5 λ_=>v)) tm:=rfl
theorem Nd(tm:TM):W2 tm=N8.a6 (N8.a0 (N8.a0 tm)):=rfl
theorem Hv(tm:TM)(v:AV):Ui tm v=N8.u0 (N8.u0 (N8.u6 λ_=>v)) tm:=rfl
theorem N2(tm:TM):Wp tm=N8.a7 (N8.a0 (N8.a0 tm)):=rfl
theorem Fg(tm:TM)(v:AV):VE tm v=N8.u0 (N8.u0 (N8.u7 λ_=>v)) tm:=rfl
theorem Kh(tm:TM):XG tm=N8.a0 (N8.a1 (N8.a0 tm)):=rfl
theorem F9(tm:TM)(v:AV):W0 tm v=N8.u0 (N8.u1 (N8.u0 λ_=>v)) tm:=rfl
theorem Ji(tm:TM):Wq tm=N8.a1 (N8.a1 (N8.a0 tm)):=rfl
theorem E5(tm:TM)(v:AV):VB tm v=N8.u0 (N8.u1 (N8.u1 λ_=>v)) tm:=rfl
theorem Nu(tm:TM):YA tm=N8.a2 (N8.a1 (N8.a0 tm)):=rfl
theorem KR(tm:TM)(v:AV):Xe tm v=N8.u0 (N8.u1 (N8.u2 λ_=>v)) tm:=rfl
theorem R3(tm:TM):Ye tm=N8.a3 (N8.a1 (N8.a0 tm)):=rfl
theorem M1(tm:TM)(v:AV):YS tm v=N8.u0 (N8.u1 (N8.u3 λ_=>v)) tm:=rfl
theorem MG(tm:TM):Yi tm=N8.a4 (N8.a1 (N8.a0 tm)):=rfl
theorem IJ(tm:TM)(v:AV):YR tm v=N8.u0 (N8.u1 (N8.u4 λ_=>v)) tm:=rfl
theorem Je(tm:TM):YE tm=N8.a5 (N8.a1 (N8.a0 tm)):=rfl
theorem IK(tm:TM)(v:AV):Xl tm v=N8.u0 (N8.u1 (N8.u5 λ_=>v)) tm:=rfl
theorem Lz(tm:TM):XY tm=N8.a6 (N8.a1 (N8.a0 tm)):=rfl
theorem IL(tm:TM)(v:AV):X8 tm v=N8.u0 (N8.u1 (N8.u6 λ_=>v)) tm:=rfl
theorem Ix(tm:TM):XQ tm=N8.a7 (N8.a1 (N8.a0 tm)):=rfl
theorem EU(tm:TM)(v:AV):Wh tm v=N8.u0 (N8.u1 (N8.u7 λ_=>v)) tm:=rfl
theorem Jf(tm:TM):XZ tm=N8.a0 (N8.a2 (N8.a0 tm)):=rfl
theorem EV(tm:TM)(v:AV):Wt tm v=N8.u0 (N8.u2 (N8.u0 λ_=>v)) tm:=rfl
theorem Jg(tm:TM):X7 tm=N8.a1 (N8.a2 (N8.a0 tm)):=rfl
theorem BG(tm:TM)(v:AV):W7 tm v=N8.u0 (N8.u2 (N8.u1 λ_=>v)) tm:=rfl
theorem KM(tm:TM):Wc tm=N8.a2 (N8.a2 (N8.a0 tm)):=rfl
theorem Fe(tm:TM)(v:AV):W3 tm v=N8.u0 (N8.u2 (N8.u2 λ_=>v)) tm:=rfl
theorem EA(tm:TM):WO tm=N8.a3 (N8.a2 (N8.a0 tm)):=rfl
theorem BH(tm:TM)(v:AV):Vf tm v=N8.u0 (N8.u2 (N8.u3 λ_=>v)) tm:=rfl
theorem D5(tm:TM):Vk tm=N8.a4 (N8.a2 (N8.a0 tm)):=rfl
theorem BI(tm:TM)(v:AV):Vx tm v=N8.u0 (N8.u2 (N8.u4 λ_=>v)) tm:=rfl
theorem D6(tm:TM):Wk tm=N8.a5 (N8.a2 (N8.a0 tm)):=rfl
theorem BJ(tm:TM)(v:AV):VD tm v=N8.u0 (N8.u2 (N8.u5 λ_=>v)) tm:=rfl
theorem Jh(tm:TM):WP tm=N8.a6 (N8.a2 (N8.a0 tm)):=rfl
theorem BK(tm:TM)(v:AV):VZ tm v=N8.u0 (N8.u2 (N8.u6 λ_=>v)) tm:=rfl
theorem EB(tm:TM):Wl tm=N8.a7 (N8.a2 (N8.a0 tm)):=rfl
theorem BL(tm:TM)(v:AV):V0 tm v=N8.u0 (N8.u2 (N8.u7 λ_=>v)) tm:=rfl
theorem Gq(tm:TM):VK tm=N8.a0 (N8.a3 (N8.a0 tm)):=rfl
theorem IM(tm:TM)(v:AV):VU tm v=N8.u0 (N8.u3 (N8.u0 λ_=>v)) tm:=rfl
theorem D7(tm:TM):Vy tm=N8.a1 (N8.a3 (N8.a0 tm)):=rfl
theorem BM(tm:TM)(v:AV):V9 tm v=N8.u0 (N8.u3 (N8.u1 λ_=>v)) tm:=rfl
theorem D8(tm:TM):V6 tm=N8.a2 (N8.a3 (N8.a0 tm)):=rfl
theorem BN(tm:TM)(v:AV):Up tm v=N8.u0 (N8.u3 (N8.u2 λ_=>v)) tm:=rfl
theorem D9(tm:TM):VL tm=N8.a3 (N8.a3 (N8.a0 tm)):=rfl
theorem BO(tm:TM)(v:AV):Uq tm v=N8.u0 (N8.u3 (N8.u3 λ_=>v)) tm:=rfl
theorem Ca(tm:TM):Uf tm=N8.a4 (N8.a3 (N8.a0 tm)):=rfl
theorem BP(tm:TM)(v:AV):Ur tm v=N8.u0 (N8.u3 (N8.u4 λ_=>v)) tm:=rfl
theorem Cb(tm:TM):Ug tm=N8.a5 (N8.a3 (N8.a0 tm)):=rfl
theorem BQ(tm:TM)(v:AV):Uu tm v=N8.u0 (N8.u3 (N8.u5 λ_=>v)) tm:=rfl
theorem Cc(tm:TM):VT tm=N8.a6 (N8.a3 (N8.a0 tm)):=rfl
theorem BR(tm:TM)(v:AV):UJ tm v=N8.u0 (N8.u3 (N8.u6 λ_=>v)) tm:=rfl
theorem Cd(tm:TM):VM tm=N8.a7 (N8.a3 (N8.a0 tm)):=rfl
theorem BT(tm:TM)(v:AV):UK tm v=N8.u0 (N8.u3 (N8.u7 λ_=>v)) tm:=rfl
theorem zE(tm:TM):V7 tm=N8.a0 (N8.a4 (N8.a0 tm)):=rfl
theorem yl(tm:TM)(v:AV):U7 tm v=N8.u0 (N8.u4 (N8.u0 λ_=>v)) tm:=rfl
theorem zF(tm:TM):Uz tm=N8.a1 (N8.a4 (N8.a0 tm)):=rfl
theorem ym(tm:TM)(v:AV):U8 tm v=N8.u0 (N8.u4 (N8.u1 λ_=>v)) tm:=rfl
theorem zG(tm:TM):V8 tm=N8.a2 (N8.a4 (N8.a0 tm)):=rfl
theorem yn(tm:TM)(v:AV):Ts tm v=N8.u0 (N8.u4 (N8.u2 λ_=>v)) tm:=rfl
theorem zH(tm:TM):VF tm=N8.a3 (N8.a4 (N8.a0 tm)):=rfl
theorem yo(tm:TM)(v:AV):Tt tm v=N8.u0 (N8.u4 (N8.u3 λ_=>v)) tm:=rfl
theorem zI(tm:TM):Ty tm=N8.a4 (N8.a4 (N8.a0 tm)):=rfl
theorem yp(tm:TM)(v:AV):TF tm v=N8.u0 (N8.u4 (N8.u4 λ_=>v)) tm:=rfl
theorem zJ(tm:TM):UP tm=N8.a5 (N8.a4 (N8.a0 tm)):=rfl
theorem yq(tm:TM)(v:AV):Tu tm v=N8.u0 (N8.u4 (N8.u5 λ_=>v)) tm:=rfl
theorem Ce(tm:TM):Tb tm=N8.a6 (N8.a4 (N8.a0 tm)):=rfl
theorem BU(tm:TM)(v:AV):Tg tm v=N8.u0 (N8.u4 (N8.u6 λ_=>v)) tm:=rfl
theorem Cf(tm:TM):Tf tm=N8.a7 (N8.a4 (N8.a0 tm)):=rfl
theorem BW(tm:TM)(v:AV):Tv tm v=N8.u0 (N8.u4 (N8.u7 λ_=>v)) tm:=rfl
theorem Cg(tm:TM):TA tm=N8.a0 (N8.a5 (N8.a0 tm)):=rfl
theorem BX(tm:TM)(v:AV):TG tm v=N8.u0 (N8.u5 (N8.u0 λ_=>v)) tm:=rfl
theorem Ch(tm:TM):U1 tm=N8.a1 (N8.a5 (N8.a0 tm)):=rfl
theorem BY(tm:TM)(v:AV):TH tm v=N8.u0 (N8.u5 (N8.u1 λ_=>v)) tm:=rfl
theorem Ci(tm:TM):Uh tm=N8.a2 (N8.a5 (N8.a0 tm)):=rfl
theorem BZ(tm:TM)(v:AV):Th tm v=N8.u0 (N8.u5 (N8.u2 λ_=>v)) tm:=rfl
theorem Cj(tm:TM):Um tm=N8.a3 (N8.a5 (N8.a0 tm)):=rfl
theorem B3(tm:TM)(v:AV):Te tm v=N8.u0 (N8.u5 (N8.u3 λ_=>v)) tm:=rfl
theorem Ck(tm:TM):TN tm=N8.a4 (N8.a5 (N8.a0 tm)):=rfl
theorem B4(tm:TM)(v:AV):TI tm v=N8.u0 (N8.u5 (N8.u4 λ_=>v)) tm:=rfl
theorem Cl(tm:TM):VY tm=N8.a5 (N8.a5 (N8.a0 tm)):=rfl
theorem B5(tm:TM)(v:AV):TS tm v=N8.u0 (N8.u5 (N8.u5 λ_=>v)) tm:=rfl
theorem Cm(tm:TM):UG tm=N8.a6 (N8.a5 (N8.a0 tm)):=rfl
theorem B6(tm:TM)(v:AV):TT tm v=N8.u0 (N8.u5 (N8.u6 λ_=>v)) tm:=rfl
theorem Cn(tm:TM):U2 tm=N8.a7 (N8.a5 (N8.a0 tm)):=rfl
theorem B7(tm:TM)(v:AV):T9 tm v=N8.u0 (N8.u5 (N8.u7 λ_=>v)) tm:=rfl
theorem Co(tm:TM):Tl tm=N8.a0 (N8.a6 (N8.a0 tm)):=rfl
theorem B8(tm:TM)(v:AV):Sf tm v=N8.u0 (N8.u6 (N8.u0 λ_=>v)) tm:=rfl
theorem Cp(tm:TM):TO tm=N8.a1 (N8.a6 (N8.a0 tm)):=rfl
theorem B9(tm:TM)(v:AV):Sa tm v=N8.u0 (N8.u6 (N8.u1 λ_=>v)) tm:=rfl
theorem wY(tm:TM):U3 tm=N8.a2 (N8.a6 (N8.a0 tm)):=rfl
theorem Aa(tm:TM)(v:AV):Sb tm v=N8.u0 (N8.u6 (N8.u2 λ_=>v)) tm:=rfl
theorem Gr(tm:TM):U4 tm=N8.a3 (N8.a6 (N8.a0 tm)):=rfl
theorem Ff(tm:TM)(v:AV):T2 tm v=N8.u0 (N8.u6 (N8.u3 λ_=>v)) tm:=rfl
theorem Cq(tm:TM):Tm tm=N8.a4 (N8.a6 (N8.a0 tm)):=rfl
theorem Ab(tm:TM)(v:AV):T3 tm v=N8.u0 (N8.u6 (N8.u4 λ_=>v)) tm:=rfl
theorem Cr(tm:TM):VG tm=N8.a5 (N8.a6 (N8.a0 tm)):=rfl
theorem Ac(tm:TM)(v:AV):SD tm v=N8.u0 (N8.u6 (N8.u5 λ_=>v)) tm:=rfl
theorem Cs(tm:TM):S1 tm=N8.a6 (N8.a6 (N8.a0 tm)):=rfl
theorem Ad(tm:TM)(v:AV):S4 tm v=N8.u0 (N8.u6 (N8.u6 λ_=>v)) tm:=rfl
theorem Ct(tm:TM):SM tm=N8.a7 (N8.a6 (N8.a0 tm)):=rfl
theorem Ae(tm:TM)(v:AV):S5 tm v=N8.u0 (N8.u6 (N8.u7 λ_=>v)) tm:=rfl
theorem Cu(tm:TM):Sw tm=N8.a0 (N8.a7 (N8.a0 tm)):=rfl
theorem Af(tm:TM)(v:AV):S6 tm v=N8.u0 (N8.u7 (N8.u0 λ_=>v)) tm:=rfl
theorem Cv(tm:TM):S2 tm=N8.a1 (N8.a7 (N8.a0 tm)):=rfl
theorem Ag(tm:TM)(v:AV):SP tm v=N8.u0 (N8.u7 (N8.u1 λ_=>v)) tm:=rfl
theorem Cw(tm:TM):T6 tm=N8.a2 (N8.a7 (N8.a0 tm)):=rfl
theorem Ah(tm:TM)(v:AV):S7 tm v=N8.u0 (N8.u7 (N8.u2 λ_=>v)) tm:=rfl
theorem Cx(tm:TM):SN tm=N8.a3 (N8.a7 (N8.a0 tm)):=rfl
theorem Ai(tm:TM)(v:AV):S9 tm v=N8.u0 (N8.u7 (N8.u3 λ_=>v)) tm:=rfl
theorem Cy(tm:TM):Sx tm=N8.a4 (N8.a7 (N8.a0 tm)):=rfl
theorem Aj(tm:TM)(v:AV):RP tm v=N8.u0 (N8.u7 (N8.u4 λ_=>v)) tm:=rfl
theorem Cz(tm:TM):Rs tm=N8.a5 (N8.a7 (N8.a0 tm)):=rfl
theorem Ak(tm:TM)(v:AV):RQ tm v=N8.u0 (N8.u7 (N8.u5 λ_=>v)) tm:=rfl
theorem CA(tm:TM):R1 tm=N8.a6 (N8.a7 (N8.a0 tm)):=rfl
theorem Al(tm:TM)(v:AV):Qf tm v=N8.u0 (N8.u7 (N8.u6 λ_=>v)) tm:=rfl
theorem CB(tm:TM):RG tm=N8.a7 (N8.a7 (N8.a0 tm)):=rfl
theorem Am(tm:TM)(v:AV):QA tm v=N8.u0 (N8.u7 (N8.u7 λ_=>v)) tm:=rfl
theorem CC(tm:TM):Rj tm=N8.a0 (N8.a0 (N8.a1 tm)):=rfl
theorem An(tm:TM)(v:AV):QB tm v=N8.u1 (N8.u0 (N8.u0 λ_=>v)) tm:=rfl
theorem CD(tm:TM):Qz tm=N8.a1 (N8.a0 (N8.a1 tm)):=rfl
theorem Ao(tm:TM)(v:AV):QK tm v=N8.u1 (N8.u0 (N8.u1 λ_=>v)) tm:=rfl
theorem CG(tm:TM):Q8 tm=N8.a2 (N8.a0 (N8.a1 tm)):=rfl
theorem Ap(tm:TM)(v:AV):Pe tm v=N8.u1 (N8.u0 (N8.u2 λ_=>v)) tm:=rfl
theorem CH(tm:TM):Oa tm=N8.a3 (N8.a0 (N8.a1 tm)):=rfl
theorem Aq(tm:TM)(v:AV):Om tm v=N8.u1 (N8.u0 (N8.u3 λ_=>v)) tm:=rfl
theorem CI(tm:TM):OP tm=N8.a4 (N8.a0 (N8.a1 tm)):=rfl
theorem Ar(tm:TM)(v:AV):O6 tm v=N8.u1 (N8.u0 (N8.u4 λ_=>v)) tm:=rfl
theorem CJ(tm:TM):QG tm=N8.a5 (N8.a0 (N8.a1 tm)):=rfl
theorem As(tm:TM)(v:AV):On tm v=N8.u1 (N8.u0 (N8.u5 λ_=>v)) tm:=rfl
theorem CK(tm:TM):PO tm=N8.a6 (N8.a0 (N8.a1 tm)):=rfl
theorem Au(tm:TM)(v:AV):PT tm v=N8.u1 (N8.u0 (N8.u6 λ_=>v)) tm:=rfl
theorem wZ(tm:TM):S8 tm=N8.a7 (N8.a0 (N8.a1 tm)):=rfl
theorem uF(tm:TM)(v:AV):PU tm v=N8.u1 (N8.u0 (N8.u7 λ_=>v)) tm:=rfl
theorem w5(tm:TM):Sh tm=N8.a0 (N8.a1 (N8.a1 tm)):=rfl
theorem uG(tm:TM)(v:AV):Pf tm v=N8.u1 (N8.u1 (N8.u0 λ_=>v)) tm:=rfl
theorem w7(tm:TM):QQ tm=N8.a1 (N8.a1 (N8.a1 tm)):=rfl
theorem uH(tm:TM)(v:AV):Pg tm v=N8.u1 (N8.u1 (N8.u1 λ_=>v)) tm:=rfl
theorem w9(tm:TM):Q9 tm=N8.a2 (N8.a1 (N8.a1 tm)):=rfl
theorem uI(tm:TM)(v:AV):Ph tm v=N8.u1 (N8.u1 (N8.u2 λ_=>v)) tm:=rfl
theorem vb(tm:TM):QR tm=N8.a3 (N8.a1 (N8.a1 tm)):=rfl
theorem uJ(tm:TM)(v:AV):PF tm v=N8.u1 (N8.u1 (N8.u3 λ_=>v)) tm:=rfl
theorem vd(tm:TM):Pu tm=N8.a4 (N8.a1 (N8.a1 tm)):=rfl
theorem uK(tm:TM)(v:AV):PG tm v=N8.u1 (N8.u1 (N8.u4 λ_=>v)) tm:=rfl
theorem zK(tm:TM):PP tm=N8.a5 (N8.a1 (N8.a1 tm)):=rfl
theorem yr(tm:TM)(v:AV):PV tm v=N8.u1 (N8.u1 (N8.u5 λ_=>v)) tm:=rfl
theorem qn(tm:TM):Pv tm=N8.a6 (N8.a1 (N8.a1 tm)):=rfl
theorem pr(tm:TM)(v:AV):PH tm v=N8.u1 (N8.u1 (N8.u6 λ_=>v)) tm:=rfl
theorem cI(tm:TM):PQ tm=N8.a7 (N8.a1 (N8.a1 tm)):=rfl
theorem aH(tm:TM)(v:AV):PW tm v=N8.u1 (N8.u1 (N8.u7 λ_=>v)) tm:=rfl
theorem cJ(tm:TM):Pa tm=N8.a0 (N8.a2 (N8.a1 tm)):=rfl
theorem aI(tm:TM)(v:AV):PX tm v=N8.u1 (N8.u2 (N8.u0 λ_=>v)) tm:=rfl
theorem aJ(tm:TM)(v:AV):Oo tm v=N8.u1 (N8.u2 (N8.u1 λ_=>v)) tm:=rfl
theorem cL(tm:TM):Nb tm=N8.a2 (N8.a2 (N8.a1 tm)):=rfl
theorem aK(tm:TM)(v:AV):Nl tm v=N8.u1 (N8.u2 (N8.u2 λ_=>v)) tm:=rfl
theorem cM(tm:TM):Rt tm=N8.a3 (N8.a2 (N8.a1 tm)):=rfl
theorem aL(tm:TM)(v:AV):Nm tm v=N8.u1 (N8.u2 (N8.u3 λ_=>v)) tm:=rfl
theorem cN(tm:TM):Ob tm=N8.a4 (N8.a2 (N8.a1 tm)):=rfl
theorem aM(tm:TM)(v:AV):Mg tm v=N8.u1 (N8.u2 (N8.u4 λ_=>v)) tm:=rfl
theorem cO(tm:TM):N1 tm=N8.a5 (N8.a2 (N8.a1 tm)):=rfl
theorem aN(tm:TM)(v:AV):Mh tm v=N8.u1 (N8.u2 (N8.u5 λ_=>v)) tm:=rfl
theorem cP(tm:TM):Mn tm=N8.a6 (N8.a2 (N8.a1 tm)):=rfl
theorem aO(tm:TM)(v:AV):Mq tm v=N8.u1 (N8.u2 (N8.u6 λ_=>v)) tm:=rfl
theorem cQ(tm:TM):Nc tm=N8.a7 (N8.a2 (N8.a1 tm)):=rfl
theorem aP(tm:TM)(v:AV):Mi tm v=N8.u1 (N8.u2 (N8.u7 λ_=>v)) tm:=rfl
theorem cS(tm:TM):Oc tm=N8.a0 (N8.a3 (N8.a1 tm)):=rfl
theorem aQ(tm:TM)(v:AV):Mr tm v=N8.u1 (N8.u3 (N8.u0 λ_=>v)) tm:=rfl
theorem cT(tm:TM):Mo tm=N8.a1 (N8.a3 (N8.a1 tm)):=rfl
theorem aR(tm:TM)(v:AV):Ms tm v=N8.u1 (N8.u3 (N8.u1 λ_=>v)) tm:=rfl
theorem cU(tm:TM):M7 tm=N8.a2 (N8.a3 (N8.a1 tm)):=rfl
theorem aS(tm:TM)(v:AV):Lh tm v=N8.u1 (N8.u3 (N8.u2 λ_=>v)) tm:=rfl
theorem cX(tm:TM):M8 tm=N8.a3 (N8.a3 (N8.a1 tm)):=rfl
theorem aT(tm:TM)(v:AV):Li tm v=N8.u1 (N8.u3 (N8.u3 λ_=>v)) tm:=rfl
theorem qp(tm:TM):NE tm=N8.a4 (N8.a3 (N8.a1 tm)):=rfl
theorem pu(tm:TM)(v:AV):Mt tm v=N8.u1 (N8.u3 (N8.u4 λ_=>v)) tm:=rfl
theorem cY(tm:TM):Lx tm=N8.a5 (N8.a3 (N8.a1 tm)):=rfl
theorem aU(tm:TM)(v:AV):LR tm v=N8.u1 (N8.u3 (N8.u5 λ_=>v)) tm:=rfl
theorem cZ(tm:TM):KT tm=N8.a6 (N8.a3 (N8.a1 tm)):=rfl
theorem aV(tm:TM)(v:AV):KW tm v=N8.u1 (N8.u3 (N8.u6 λ_=>v)) tm:=rfl
theorem ba(tm:TM):M9 tm=N8.a7 (N8.a3 (N8.a1 tm)):=rfl
theorem aW(tm:TM)(v:AV):LS tm v=N8.u1 (N8.u3 (N8.u7 λ_=>v)) tm:=rfl
theorem bc(tm:TM):La tm=N8.a0 (N8.a4 (N8.a1 tm)):=rfl
theorem aX(tm:TM)(v:AV):LT tm v=N8.u1 (N8.u4 (N8.u0 λ_=>v)) tm:=rfl
theorem be(tm:TM):Kf tm=N8.a1 (N8.a4 (N8.a1 tm)):=rfl
theorem aY(tm:TM)(v:AV):Kz tm v=N8.u1 (N8.u4 (N8.u1 λ_=>v)) tm:=rfl
theorem bg(tm:TM):Kg tm=N8.a2 (N8.a4 (N8.a1 tm)):=rfl
theorem aZ(tm:TM)(v:AV):KA tm v=N8.u1 (N8.u4 (N8.u2 λ_=>v)) tm:=rfl
theorem bh(tm:TM):Ly tm=N8.a3 (N8.a4 (N8.a1 tm)):=rfl
theorem a9(tm:TM)(v:AV):LU tm v=N8.u1 (N8.u4 (N8.u3 λ_=>v)) tm:=rfl
theorem lO(tm:TM):QX tm=N8.a4 (N8.a4 (N8.a1 tm)):=rfl
theorem jQ(tm:TM)(v:AV):Q3 tm v=N8.u1 (N8.u4 (N8.u4 λ_=>v)) tm:=rfl
theorem lP(tm:TM):PZ tm=N8.a5 (N8.a4 (N8.a1 tm)):=rfl
theorem jR(tm:TM)(v:AV):P1 tm v=N8.u1 (N8.u4 (N8.u5 λ_=>v)) tm:=rfl
theorem lQ(tm:TM):Qv tm=N8.a6 (N8.a4 (N8.a1 tm)):=rfl
theorem jS(tm:TM)(v:AV):OX tm v=N8.u1 (N8.u4 (N8.u6 λ_=>v)) tm:=rfl
theorem lR(tm:TM):Ps tm=N8.a7 (N8.a4 (N8.a1 tm)):=rfl
theorem jT(tm:TM)(v:AV):Nw tm v=N8.u1 (N8.u4 (N8.u7 λ_=>v)) tm:=rfl
theorem lS(tm:TM):Nr tm=N8.a0 (N8.a5 (N8.a1 tm)):=rfl
theorem jU(tm:TM)(v:AV):Nx tm v=N8.u1 (N8.u5 (N8.u0 λ_=>v)) tm:=rfl
theorem lT(tm:TM):S0 tm=N8.a1 (N8.a5 (N8.a1 tm)):=rfl
theorem jV(tm:TM)(v:AV):OY tm v=N8.u1 (N8.u5 (N8.u1 λ_=>v)) tm:=rfl
theorem lU(tm:TM):OH tm=N8.a2 (N8.a5 (N8.a1 tm)):=rfl
theorem jW(tm:TM)(v:AV):OZ tm v=N8.u1 (N8.u5 (N8.u2 λ_=>v)) tm:=rfl
theorem lV(tm:TM):OI tm=N8.a3 (N8.a5 (N8.a1 tm)):=rfl
theorem jX(tm:TM)(v:AV):O0 tm v=N8.u1 (N8.u5 (N8.u3 λ_=>v)) tm:=rfl
theorem lW(tm:TM):Sg tm=N8.a4 (N8.a5 (N8.a1 tm)):=rfl
theorem jY(tm:TM)(v:AV):Ny tm v=N8.u1 (N8.u5 (N8.u4 λ_=>v)) tm:=rfl
structure ZE(H H':Heap)(S:List Nat):Prop where
 nx:H.nx<=H'.nx
 ro:H'.ro=H.ro
 get: ∀c,c<H.nx->c∉S->H'.t.get c=H.t.get c
theorem ZE.refl(H:Heap)(S:List Nat):ZE H H S:=⟨Zq _,rfl,λ_ _ _=>rfl⟩
theorem ZE.trans{H H' H'':Heap}{S S':List Nat}(a:ZE H H' S)(b:ZE H' H'' S')(h: ∀c,c∈S'->c<H.nx->c∈S):ZE H H'' S:=
 ⟨YN a.nx b.nx,b.ro.trans a.ro,λc hc hn=>(b.get c (ZI hc a.nx) (λhh=>hn (h c hh hc))).trans (a.get c hc hn)⟩
theorem ZE.put{H:Heap}{b:Nat}{o:Obj}{S:List Nat}(h:b<H.nx->b∈S):ZE H (H.put b o) S:=
 ⟨Zq _,rfl,λc hc hn=>by rw[Xu,if_neg (λ(e:b=c)=>hn (by rw[<-e];exact h (by omega)))]⟩
theorem ZE.new(H:Heap)(o:Obj)(S:List Nat):ZE H (H.new o) S:=
 ⟨Uv _,rfl,λc hc _=>by rw[Xj,if_neg (by omega)]⟩
theorem ZE.then_put{H H':Heap}{b:Nat}{o:Obj}{S:List Nat}(k:ZE H H' S)(h:b<H.nx->b∈S):ZE H (H'.put b o) S:=
 ⟨k.nx,k.ro,λc hc hn=>by rw[Xu,if_neg (λ(e:b=c)=>hn (by rw[<-e];exact h (by omega)))];exact k.get c hc hn⟩
theorem ZE.then_new{H H':Heap}{S:List Nat}(k:ZE H H' S)(o:Obj):ZE H (H'.new o) S:=
 ⟨Nat.le_succ_of_le k.nx,k.ro,λc hc hn=>by rw[Xj,if_neg (by have:=k.nx;omega)];exact k.get c hc hn⟩
theorem ZE.trans'{H H' H'':Heap}{S':List Nat}(a:ZE H H' [])(b:ZE H' H'' S'):ZE H H'' S':=
 ⟨YN a.nx b.nx,b.ro.trans a.ro,λc hc hn=>(b.get c (ZI hc a.nx) hn).trans (a.get c hc (by simp))⟩
structure Bytes(H:Heap)(b o:Nat)(cap:Option Nat)(l:List UInt8)(r:Row):Prop where
 at_:H.t.get b=some (.row r)
 sz:r.sz=1
 fits:o+l.length<=r.size
 get: ∀i,i<l.length->r.get (o+i)=Y6 (l.getD i 0)
 cap: ∀c,cap=some c->l.length<=c∧o+c<=r.size
def K1(x:Option AV)(d top:Nat)(k:Nat->OR):OR:=match x with|none=>k d|some v=>QH v λn=>ZR (Nat.ble n top) (k n)
noncomputable def Mb(sz:Nat)(a:AV)(lo hi:Option AV)(H:Heap):OR:=
 SA a (K1 hi 0 0 λh=>K1 lo 0 h λ_=>.val .nils H) λb o len cap=>X6 H b λr=>ZR (HC r sz cap) (K1 hi len (Ta r o cap) λh=>K1 lo 0 h λl=>ZR (Nat.ble l (Ta r o cap))<|
  cond (Nat.beq l (Ta r o cap)) (Option.rec (.val (.slice H.nx 0 (Nat.sub h l) none) ⟨Nat.succ H.nx,H.t,H.ro⟩) (λ_=>.val (.slice b o (Nat.sub h l) (some 0)) H) cap)
   (.val (.slice b (Nat.add o (Nat.mul l sz)) (Nat.sub h l) (Option.rec none (λc=>some (Nat.sub c l)) cap)) H))
theorem Oj(sz:Nat)(x:Z0)(lo hi:Option Z0)(tm:TM)(H:Heap):Le sz x lo hi none tm H=Mb sz (x tm) (lo.map λf=>f tm) (hi.map λf=>f tm) H:=by
 cases lo<;>cases hi<;>rfl
def Na(cap:Option Nat)(l:Nat):Option Nat:=cap.map λc=>c - l
theorem yf{H:Heap}{b o len l h:Nat}{cap:Option Nat}{r:Row}(hr:H.t.get b=some (.row r))(hsz:r.sz=1)(hlo:l<h)(hhi:o+h<=r.size)(hcap: ∀c,cap=some c->h<=c)(k j:IntKind):
  Mb 1 (.slice b o len cap) (some (nI k l)) (some (nI j h)) H=.val (.slice b (o+l) (h - l) (Na cap l)) H:=by
 have hc:h<=Ta r o cap:=by
  cases cap with
  |none=>
   show h<=cond (Nat.beq r.sz 1) (r.size - o) _
   rw[hsz];show h<=r.size - o;omega
  |some c=>exact hcap c rfl
 have hs:HC r 1 cap=true:=by
  cases cap with
  |none=>show Nat.beq r.sz 1=true;rw[hsz];rfl
  |some c=>rfl
 show X6 H b _=_
 unfold X6
 rw[hr]
 show ZR (HC r 1 cap) (ZR (Nat.ble h (Ta r o cap)) (ZR (Nat.ble l h) (ZR (Nat.ble l (Ta r o cap)) (cond (Nat.beq l (Ta r o cap)) _ _))))=_
 rw[hs,Zj hc,Zj (OB hlo),Zj (show l<=Ta r o cap by omega),Yx,Zd (by omega)]
 show OR.val (.slice b (o+l*1) (h - l) _) H=_
 rw[Y0]
 cases cap<;>rfl
theorem ML{f:Z0}{n b:Nat}{tm:TM}{H:Heap}{r:Row}{l:List AV}(hf:f tm=.ptr b 0)(hr:H.t.get b=some (.row r))(hc:Cells r l)(hn:l.length=n):results [(f,some (n,true))] tm H=.ret (.agg l) H:=by
 subst hn
 have e:loadN r 0 l.length=l:=by rw[hc.load (by omega),Y8,WT]
 have h2:Nat.ble (Nat.add 0 l.length) r.size=true:=by
  rw[hc.size];exact Zj (by show 0+l.length<=l.length;omega)
 unfold results OW eO
 simp only[hf,hr,h2,cond_true,e]
 rfl
theorem CT(c:UInt8)(H:Heap):LB .u32 (Y6 c) H=.val (ZH c.toUInt32) H:=by
 show UV .u32 (.ofNat c.toNat) H=_
 rw[Xz,LW]
 unfold ZH
 rw[Ss,ZU (Qo c.toNat_lt (by decide))]
noncomputable def By(n sz:Nat)(a:AV)(lo hi:Option AV)(H:Heap):OR:=PA a λb o=>K1 hi n n λh=>K1 lo 0 h λl=>
 cond (Nat.beq l n) (.val (.slice b o (Nat.sub h l) (some (Nat.sub n l))) H) (.val (.slice b (Nat.add o (Nat.mul l sz)) (Nat.sub h l) (some (Nat.sub n l))) H)
theorem Hi(n sz:Nat)(x:Z0)(lo hi:Option Z0)(tm:TM)(H:Heap):N7 n sz x lo hi none tm H=By n sz (x tm) (lo.map λf=>f tm) (hi.map λf=>f tm) H:=by
 cases lo<;>cases hi<;>rfl
theorem nJ{n l:Nat}(h:l<n)(b o:Nat)(k:IntKind)(H:Heap):By n 1 (.ptr b o) (some (nI k l)) none H=.val (.slice b (o+l) (n - l) (some (n - l))) H:=by
 show ZR (Nat.ble l n) (cond (Nat.beq l n) _ _)=_
 rw[Zj (OB h),Yx,Zd (by omega)]
 show OR.val (.slice b (o+l*1) (n - l) (some (n - l))) H=_
 rw[Y0]
theorem nH{n m:Nat}(h:m<=n)(h0:0<n)(b o:Nat)(k:IntKind)(H:Heap):By n 1 (.ptr b o) none (some (nI k m)) H=.val (.slice b o m (some n)) H:=by
 show ZR (Nat.ble m n) (ZR (Nat.ble 0 m) (cond (Nat.beq 0 n) _ _))=_
 rw[Zj h,Zj (Yv _),Yx,Zd (by omega)]
 show OR.val (.slice b (o+0*1) (m - 0) (some (n - 0))) H=_
 rw[UZ];rfl
noncomputable def rZ(sz:Nat)(a v:AV)(H:Heap):OR:=vj v λsn=>SA a (.val (.int .i64 0) H) λb o dn _=>RF (LE dn sn) λn=>UF H sz v n λnew=>
 cond (Nat.beq n 0) (.val (.int .i64 0) H) (X6 H b λr=>ZR (H.may r b) (ZR (Nat.ble r.fz o) (ZR (Nat.ble (Nat.add o (Nat.mul n sz)) r.size) (.val (.int .i64 (.ofNat n)) (H.put b (.row (r.setCells (YV r.cells o new))))))))
theorem zR(x y:Z0)(sz:Nat)(tm:TM)(H:Heap):vF x y sz tm H=rZ sz (x tm) (y tm) H:=rfl
theorem mT{H:Heap}{b o c q n:Nat}{e1 e2:Option Nat}{r s:Row}{l m:List AV}(hr:H.t.get b=some (.row r))(hc:Cells r l)(how:r.own=true)(hro:H.ro<=b)(hfz:r.fz=0)(ho:o+n<=l.length)(hn:0<n)
  (hs:H.t.get c=some (.row s))(hm:Cells s m)(hq:q+n<=m.length):
  rZ 1 (.slice b o n e1) (.slice c q n e2) H=.val (nI .i64 n) (H.put b (.row (r.setCells (YV r.cells o ((m.drop q).take n))))):=by
 show RF (LE n n) (λn=>UF H 1 (.slice c q _ e2) n λnew=>cond (Nat.beq n 0) (.val (.int .i64 0) H) (X6 H b λr=>ZR (H.may r b) (ZR (Nat.ble r.fz o) (ZR (Nat.ble (o+n*1) r.size) (.val (.int .i64 (.ofNat n)) (H.put b (.row (r.setCells (YV r.cells o new)))))))))=_
 have e:LE n n=n:=by unfold LE;rw[Zj (Zq _)];rfl
 have e2:Nat.beq n 0=false:=by rw[Yx];exact Zd (by omega)
 have h1:H.may r b=true:=by unfold Heap.may;rw[how,Zj hro];rfl
 rw[P9,e]
 unfold UF
 rw[e2]
 simp only[cond_false]
 unfold X6
 rw[hs,hr]
 simp only[Y0]
 show ZR (Nat.ble (q+n*1) s.size) _=_
 rw[Y0,hm.size,Zj hq,show Nat.mul n 1=n from Y0 n,hm.load hq,h1,hfz,Zj (Yv _),hc.size,Zj ho]
 rfl
noncomputable def OE(k:List AV->OR)(ps:List (Nat×Nat×AV)):List AV->OR:=List.rec (λcells=>k cells) (λp _ ih cells=>
 ZR (Nat.ble 1 p.2.1)<|ZR (Nat.beq (YF p.2.2.cells) p.2.1) (ZR (Nat.ble (Nat.add p.1 p.2.1) (YF cells)) (ih (NC p.1 cells++(p.2.2.cells++OD (Nat.add p.1 p.2.1) cells))))) ps
theorem FH(tm:TM)(k:List AV->OR): ∀(ps:List yB) (cells:List AV),zk tm k ps cells=OE k (ps.map λp=>(p.off,p.sz,p.x tm)) cells
 |[],_=>rfl
 |p::ps,cells=>by
  show ZR (Nat.ble 1 p.sz) (ZR (Nat.beq (YF (p.x tm).cells) p.sz) (ZR (Nat.ble (Nat.add p.off p.sz) (YF cells)) (zk tm k ps (NC p.off cells++((p.x tm).cells++OD (Nat.add p.off p.sz) cells)))))=_
  rw[FH tm k ps]
  rfl
noncomputable def RW(zs:List AV)(ps:List (Nat×Nat×AV))(H:Heap):OR:=ZR (Nat.ble 1 (YF zs))<|OE (λcs=>.val (.agg cs) H) ps zs
theorem Tq(zs:List AV)(ps:List yB)(tm:TM)(H:Heap):Vw zs ps tm H=RW zs (ps.map λp=>(p.off,p.sz,p.x tm)) H:=by
 unfold Vw RW
 rw[FH]
noncomputable def Su(e sz n:Nat)(zs:List AV)(ps:List (Nat×Nat×AV))(H:Heap):OR:=ZR (Nat.ble 1 sz)<|ZR (Nat.beq (YF zs) (Nat.mul n sz))<|OE (λcs=>.val (.slice H.nx 0 n none) (H.newRow e sz cs true)) ps zs
theorem Ux(e sz n:Nat)(zs:List AV)(ps:List yB)(tm:TM)(H:Heap):Wz e sz n zs ps tm H=Su e sz n zs (ps.map λp=>(p.off,p.sz,p.x tm)) H:=by
 unfold Wz Su
 rw[FH]
theorem RV(e:Nat)(z v:AV)(h:v.cells=[v])(H:Heap):Su e 1 1 [z] [(0,1,v)] H=.val (.slice H.nx 0 1 none) (H.newRow e 1 [v] true):=by
 show ZR (Nat.beq (YF v.cells) 1) (ZR (Nat.ble 1 1) (.val _ (H.newRow e 1 (v.cells++[]) true)))=_
 rw[h];rfl
noncomputable def V2(e sz bytes:Nat)(a v:AV)(H:Heap):OR:=ZR (Nat.ble 1 sz)<|ZR (Nat.ble 1 bytes)<|vj v λn=>UF H sz v n λnew=>HM a e sz bytes H n new
theorem TW(x y:Z0)(e sz bytes:Nat)(tm:TM)(H:Heap):W1 x y e sz bytes tm H=V2 e sz bytes (x tm) (y tm) H:=rfl
def Src(H:Heap)(v:AV)(l:List AV):Prop:= ∀k:Nat->List AV->OR,(vj v λn=>UF H 1 v n λnew=>k n new)=k l.length l
theorem Src.nils(H:Heap):Src H .nils []:=λ_=>rfl
theorem Src.none(H:Heap)(b o:Nat)(c:Option Nat):Src H (.slice b o 0 c) []:=λ_=>rfl
theorem Src.row{H:Heap}{b o:Nat}{c:Option Nat}{r:Row}{l:List AV}(hr:H.t.get b=some (.row r))(hf:o+l.length<=r.size)(hg: ∀i,i<l.length->r.get (o+i)=l.getD i .unk):Src H (.slice b o l.length c) l:=by
 intro k
 show(UF H 1 (.slice b o l.length c) l.length λnew=>k l.length new)=_
 unfold UF
 rw[Yx]
 by_cases h0:l.length=0
 ·rw[Zg h0]
  have:l=[]:=We.1 h0
  subst this;rfl
 ·rw[Zd h0]
  unfold X6
  simp only[hr,cond_false,Y0]
  show ZR (Nat.ble (o+l.length*1) r.size) (k l.length (loadN r o (l.length*1)))=_
  rw[Y0,Zj hf]
  have:loadN r o l.length=l:=by
   refine VC λj=>?_
   by_cases hj:j<l.length
   ·rw[Qs r _ o j hj,hg j hj,Zh,Zr hj];rfl
   ·rw[Xg (by rw[Sz];omega),Xg (by omega)]
  rw[this];rfl
theorem TU{H:Heap}{e bytes:Nat}{a v:AV}{l:List AV}(hb:1<=bytes)(h:Src H v l):V2 e 1 bytes a v H=HM a e 1 bytes H l.length l:=by
 show ZR (Nat.ble 1 1) (ZR (Nat.ble 1 bytes) _)=_
 rw[Zj hb]
 exact h λn new=>HM a e 1 bytes H n new
theorem AU(e bytes:Nat)(H:Heap):HM .nils e 1 bytes H 0 []=.val .nils H:=rfl
theorem Lj{e:Nat}{H:Heap}{l:List AV}(h0:0<l.length)(hl:l.length<=140737488355328):HM .nils e 1 1 H l.length l=.val (.slice H.nx 0 l.length none) (H.newRow e 1 l false):=by
 show cond (Nat.beq l.length 0) _ (ZR (Nat.ble (l.length*1) 140737488355328) _)=_
 rw[Yx,Zd (by omega),Y0,Zj hl];rfl
structure uY(H:Heap)(b e:Nat)(l:List AV)(r:Row):Prop extends Own H b e l r where
 exact_:r.exact=false
 low:b<H.nx
theorem NW{H:Heap}{e:Nat}{l:List AV}(hro:H.ro<=H.nx):uY (H.newRow e 1 l false) H.nx e l ⟨e,1,YF l,T.ofList l,.unk,0,false,true,false⟩:=
 ⟨⟨by rw[So,Xj,if_pos rfl],rfl,rfl,rfl,rfl,rfl,Cells.new ..,hro⟩,rfl,Yq _⟩
theorem JQ{H:Heap}{b e:Nat}{l m:List AV}{r:Row}(g:uY H b e l r)(hm:0<m.length)(hl:l.length+m.length<=140737488355328):
  ∃H' r',HM (.slice b 0 l.length none) e 1 1 H m.length m=.val (.slice H.nx 0 (l.length+m.length) none) H'∧uY H' H.nx e (l++m) r'∧ZE H H' [b]∧H'.nx=H.nx+1:=by
 have hsz:r.size=l.length:=g.cells.size
 have hcap:Ta r 0 none=l.length:=by
  show cond (Nat.beq r.sz 1) (r.size - 0) _=_
  rw[g.sz,hsz];rfl
 have N3:H.may r b=true:=by unfold Heap.may;rw[g.own,Zj g.ro];rfl
 refine⟨⟨Nat.succ H.nx,(H.t.del b).set H.nx (.row ⟨r.elem,1,(l.length+m.length)*1,YV r.cells (l.length*1) m,r.dflt,r.fz,r.sm,true,false⟩),H.ro⟩,⟨r.elem,1,(l.length+m.length)*1,YV r.cells (l.length*1) m,r.dflt,r.fz,r.sm,true,false⟩,?_,⟨⟨by rw[T.get_set,if_pos rfl],g.elem,rfl,rfl,g.fz,g.sm,?_,YN g.ro (OB g.low)⟩,rfl,Yq _⟩,⟨Uv _,rfl,λc hc hn=>?_⟩,rfl⟩
 ·show X6 H b (λr=>ZR (HC r 1 none) (cond (Nat.ble (Nat.add l.length m.length) (Ta r 0 none)) (dE H _ b 0 l.length m.length 1 none r m) (tf H e b 0 l.length m.length 1 1 none r m)))=_
  unfold X6
  simp only[g.at_]
  have h1:HC r 1 none=true:=by show Nat.beq r.sz 1=true;rw[g.sz];rfl
  have h2:Nat.ble (Nat.add l.length m.length) (Ta r 0 none)=false:=by
   rw[hcap]
   cases h:Nat.ble (Nat.add l.length m.length) l.length with
   |false=>rfl
   |true=>have:=ZQ h;have:l.length+m.length<=l.length:=this;omega
  rw[h1,h2]
  show ZR (Nat.ble ((l.length+m.length)*1) 140737488355328) (ZR (Nat.ble (0+l.length*1) r.size) (cond r.exact _ (th H e b 0 l.length m.length 1 r m)))=_
  rw[Y0,Zj hl,hsz,Y0,Zn,Zj (Zq _),g.exact_]
  show ZR (Nat.beq r.elem e) (ZR (H.may r b) (ZR (Nat.ble r.fz (l.length*1)) (ZR (Nat.beq (l.length*1) r.size) (ZR (Nat.beq 0 0) _))))=_
  rw[g.elem,YC,N3,g.fz,Zj (Yv _),hsz,Y0,YC]
  show OR.val (.slice H.nx 0 (l.length+m.length) none) ⟨Nat.succ H.nx,(H.t.del b).set H.nx (.row ⟨e,1,(l.length+m.length)*1,YV r.cells (l.length*1) m,r.dflt,0,r.sm,true,false⟩),H.ro⟩=_
  rw[Y0,Y0]
 ·refine⟨by show(l.length+m.length)*1=_;rw[Zo];omega,λi hi=>?_⟩
  rw[Zo] at hi
  rw[Row.get_eq]
  show((YV r.cells (l.length*1) m).get i).getD r.dflt=_
  rw[Y0,Oq,Zh]
  by_cases h1:l.length<=i
  ·rw[if_pos ⟨h1,by omega⟩,ZY h1,Zr (show i - l.length<m.length by omega)];rfl
  ·rw[if_neg (by omega),Yz (by omega)]
   have:=g.cells.get i (by omega)
   rw[Row.get_eq,Zh] at this
   exact this
 ·show((H.t.del b).set H.nx _).get c=_
  rw[T.get_set,if_neg (by omega),T.get_del,if_neg (λe=>hn (by simp[e]))]
section
variable {P:Program}
theorem ZaH(x y:UInt8):SL (Y6 x) (Y6 y)=some (decide (x=y)):=by
 show cond (Nf .u8 .u8) (some (E1 (.ofNat x.toNat) (.ofNat y.toNat))) none=_
 rw[Wd,Ov]
 show some _=some _
 congr 1
 by_cases h:x=y
 ·subst h;rw[Zg rfl,Zg rfl]
 ·rw[Zd h,Zd (λe=>h (Rq.1 e))]
theorem zX{t:Nat}(hi: ∃i,P.info? t=some i)(ha:pD P t=some false)(cs:List AV)(off:Nat)(k:AV->Option Bool):JC P t cs off k=match FU cs off with|some v=>k v|none=>none:=by
 obtain⟨i,hi⟩:=hi
 unfold JC
 rw[hi,ha]
 rfl
theorem DN{t:Nat}(hi: ∃i,P.info? t=some i)(ha:pD P t=some false){f:AV->AV->Option Bool}(hf: ∀x y:UInt8,f (Y6 x) (Y6 y)=some (decide (x=y)))(l m:List UInt8)(hlm:l.length=m.length):
  ∀c s,s+c=l.length->QD P f t 1 (l.map Y6) (m.map Y6) (List.range' s c)=some (decide (l.drop s=m.drop s))
 |0,s,h=>by
  rw[Us (by omega),Us (by omega)]
  rfl
 |c+1,s,h=>by
  rw[SX]
  show JC P t (l.map Y6) (s*1) (λa=>JC P t (m.map Y6) (s*1) λb=>tc (f a b) (QD P f t 1 (l.map Y6) (m.map Y6) (List.range' (s+1) c)))=_
  have h1:s<l.length:=by omega
  have h2:s<m.length:=by omega
  rw[zX hi ha,Y0,Kq,Z1,Zr h1]
  show JC P t (m.map Y6) s (λb=>tc (f (Y6 l[s]) b) (QD P f t 1 (l.map Y6) (m.map Y6) (List.range' (s+1) c)))=_
  rw[zX hi ha,Kq,Z1,Zr h2]
  show tc (f (Y6 l[s]) (Y6 m[s])) _=_
  rw[hf,DN hi ha hf l m hlm c (s+1) (by omega)]
  rw[List.drop_eq_getElem_cons h1,List.drop_eq_getElem_cons h2]
  by_cases e:l[s]=m[s]
  ·rw[Zg e]
   show some _=some _
   congr 1
   by_cases e2:l.drop (s+1)=m.drop (s+1)
   ·rw[Zg e2,Zg (by rw[e,e2])]
   ·rw[Zd e2,Zd (λh=>e2 (List.cons.inj h).2)]
  ·rw[Zd e,Zd (λh=>e (List.cons.inj h).1)];rfl
theorem pQ{t e n d:Nat}{i:TypeInfo}(ht:P.underlying t=some (.array n e))(he:P.underlying e=some (.int .u8))(hi:P.info? e=some i)(hs:i.size=1)(l m:List UInt8)(hl:l.length=n)(hm:m.length=n)(H:Heap):
  Eo (zj P (d+2) t) false (.agg (l.map Y6)) (.agg (m.map Y6)) H=.val (.bool (decide (l=m))) H:=by
 have h1:zj P (d+2) t (.agg (l.map Y6)) (.agg (m.map Y6))=some (decide (l=m)):=by
  unfold zj
  rw[ht]
  show wh (.agg (l.map Y6)) (.agg (m.map Y6)) (λl m=>match P.info? e with|some i=>QD P (zj P (d+1) e) e i.size l m (List.range n)|none=>none)=_
  show(match P.info? e with|some i=>QD P (zj P (d+1) e) e i.size (l.map Y6) (m.map Y6) (List.range n)|none=>none)=_
  rw[hi]
  show QD P (zj P (d+1) e) e i.size (l.map Y6) (m.map Y6) (List.range n)=_
  rw[hs,Qx,DN ⟨i,hi⟩ (by unfold pD;rw[he]) (λx y=>by unfold zj;rw[he];exact ZaH x y) l m (by omega) n 0 (by omega)]
  rfl
 show Rm (zj P (d+2) t (.agg (l.map Y6)) (.agg (m.map Y6))) _=_
 rw[h1]
 exact RC _ _
theorem Oe{l:List AV}(h:RN l l=true)(n:Nat)(t:T Obj):To (.val (.agg l) ⟨n,t,n⟩) (.agg l) n=true:=R5 _ _ _ (by unfold same;exact h)
theorem ud(s:List UInt8):same (.str s) (.str s)=true:=by
 unfold same;rw[Qi];simp
theorem tV(s:List UInt8)(n:Nat)(t:T Obj):To (.val (.str s) ⟨n,t,n⟩) (.str s) n=true:=R5 _ _ _ (ud s)
theorem Rk(b o n:Nat)(c:Option Nat)(k:Nat)(t:T Obj):To (.val (.slice b o n c) ⟨k,t,k⟩) (.slice b o n c) k=true:=R5 _ _ _ (by
 unfold same
 rw[YC,YC,YC]
 cases c with
 |none=>rfl
 |some x=>show Nat.beq x x=true;exact YC x)
theorem OQ(n:Nat)(t:T Obj):To (.val .nils ⟨n,t,n⟩) .nils n=true:=R5 _ _ _ (by unfold same;rfl)
variable (ds:List ZC) (f:VV) (e:Z0) (b:Bool) (os:List (ZC×Z0)) (dst:ZC) (i bef:Nat) (nx:PK) (c:Ctx) (rs:List RD) (tm:TM) (H:Heap) (x:X)
theorem uA:Rv ds ⟨f,some (e,b),os,dst,.free,i,bef⟩ nx c rs tm H x=TP (e tm) b (cond (Qw H.nx tm os) (Ja ⟨f,some (e,b),os,dst,.free,i,bef⟩ nx rs tm H x (f (QT tm os) ⟨H.nx,.leaf,H.nx⟩)) .fail) (nx rs (dst tm YZ) H x):=rfl
theorem uB:Rv ds ⟨f,some (e,b),os,dst,.read,i,bef⟩ nx c rs tm H x=TP (e tm) b (IA ⟨f,some (e,b),os,dst,.read,i,bef⟩ nx rs tm H x (f (QT tm os) ⟨H.nx,H.t,H.nx⟩)) (nx rs (dst tm YZ) H x):=rfl
theorem rf:Rv ds ⟨f,some (e,b),os,dst,.eff,i,bef⟩ nx c rs tm H x=cond (still tm H rs) (TP (e tm) b (HW ds ⟨f,some (e,b),os,dst,.eff,i,bef⟩ nx rs c tm x (f (QT tm os) H)) (nx (TD bef rs) (dst tm YZ) H x)) .fail:=rfl
theorem pU(g:Option (Z0×Bool))(kd:HF)(v:AV)(o:Obj)(hw:wrO o=true):Ja ⟨f,g,os,dst,kd,i,bef⟩ nx rs tm H x (.val v ((⟨H.nx,.leaf,H.nx⟩:Heap).new o))=nx rs (dst tm v) (H.new o) x:=by
 show cond (Nat.beq (H.nx+1) H.nx) _ (cond (Nat.beq (H.nx+1) (Nat.succ H.nx)) (jp (((T.leaf:T Obj).set H.nx o).get H.nx) λo=>nx rs (dst tm v) (H.new o) x) .fail)=_
 rw[Yx,Zd (by omega),Yx,Zg rfl,T.get_set,if_pos rfl]
 show cond (wrO o) _ _=_
 rw[hw];rfl
end
theorem A9{lib:Nat->List AV->Heap->Option CR}{fs:T CF}{fuel n f:Nat}{args:List AV}{H:Heap}{r:CR}(h:lib f args H=some r):Yo lib fs fuel (n+1) f args H=r:=by
 show qF (lib f args H) _=_
 rw[h];rfl
section
variable {P:Program}
theorem qD{call:Nat->List AV->Heap->CR}(hcall:SS P call){f:FuncId}{args:List AV}{H H':Heap}{v:AV}(hrun:call f args H=.ret v H')(k:ZE H H' [])(hlow:Va 0 v=true)
  {σ:Mp}{w:World}{vs:List Value}(hs:W8 P σ H w)(hv:YO σ args vs):KX P σ H w (.ret v H) ((callFunc f ⟨vs⟩).run P w):=by
 have hcr:=hcall f _ H σ w vs hs hv
 rw[hrun] at hcr
 refine Ends.mono (λu' w' hx=>?_) (λ_ _ hx=>hx) hcr
 obtain⟨σ2,h1,t⟩:=hx
 refine⟨σ,?_,t.drop hs λb hb=>k.get b hb (by simp)⟩
 exact(Yl.cut hlow h1).mono λy _ hy=>by have:=(Mp.cut_some hy).1;omega
end
noncomputable def qE(a:AV)(H:Heap):OR:=Nv a λs=>RF (YF s) λn=>.val (.int .i64 (.ofNat n)) H
theorem oM(x:Z0)(tm:TM)(H:Heap):RM x tm H=qE (x tm) H:=rfl
theorem Z9(s:List UInt8)(H:Heap):qE (.str s) H=.val (nI .i64 s.length) H:=by
 show RF (YF s) (λn=>OR.val (.int .i64 (.ofNat n)) H)=_
 rw[P9,Yt];rfl
noncomputable def Ou(a i:AV)(H:Heap):OR:=QH i λi=>Nv a λs=>Rm (vB s i) λb=>RF b.toNat λn=>.val (.int .u8 (.ofNat n)) H
theorem vI(x y:Z0)(tm:TM)(H:Heap):YU x y tm H=Ou (x tm) (y tm) H:=rfl
theorem tQ{s:List UInt8}{i:Nat}(h:i<s.length)(k:IntKind)(H:Heap):Ou (.str s) (nI k i) H=.val (Y6 (s.getD i 0)) H:=by
 show Rm (vB s i) _=_
 rw[xv,Zr h]
 show RF s[i].toNat (λn=>OR.val (.int .u8 (.ofNat n)) H)=_
 rw[P9,Zh,Zr h];rfl
noncomputable def Ky(a:AV)(lo hi:Option AV)(H:Heap):OR:=Nv a λs=>K1 hi (YF s) (YF s) λh=>K1 lo 0 h λl=>.val (.str (Ip l (KS h s))) H
theorem su(x:Z0)(lo hi:Option Z0)(tm:TM)(H:Heap):SJ x lo hi none tm H=Ky (x tm) (lo.map λf=>f tm) (hi.map λf=>f tm) H:=by
 cases lo<;>cases hi<;>rfl
theorem Bz{s:List UInt8}{n:Nat}(h:n<=s.length)(k:IntKind)(H:Heap):Ky (.str s) none (some (nI k n)) H=.val (.str (s.take n)) H:=by
 show ZR (Nat.ble n (YF s)) (OR.val (.str (Ip 0 (KS n s))) H)=_
 rw[Yt,Zj h,Mk];rfl
theorem Vi{a b:List UInt8}(h:a.length+b.length<=4611686018427387904)(H:Heap):EZ (.str a) (.str b) H=.val (.str (a++b)) H:=by
 show ZR (Nat.ble (Nat.add (YF a) (YF b)) 4611686018427387904) _=_
 rw[Yt,Yt,Zj (show Nat.add a.length b.length<=_ from h)];rfl
theorem TL(a b:List UInt8)(H:Heap):Eo K9 false (.str a) (.str b) H=.val (.bool (decide (a=b))) H:=by
 show PL (JN a b) H=_
 rw[RC,Qi]
 congr 2
 by_cases h:a=b<;>simp[h]
theorem SY(a b:List UInt8)(H:Heap):Eo K9 true (.str a) (.str b) H=.val (.bool (!decide (a=b))) H:=by
 show PL (cond (JN a b) false true) H=_
 rw[RC,Qi]
 congr 2
 by_cases h:a=b<;>simp[h]
structure Below(n:Nat)(H H':Heap):Prop where
 nx:H.nx<=H'.nx
 ro:H'.ro=H.ro
 get: ∀c,c<n->c<H.nx->H'.t.get c=H.t.get c
theorem Below.refl(n:Nat)(H:Heap):Below n H H:=⟨Zq _,rfl,λ_ _ _=>rfl⟩
theorem Below.trans{n:Nat}{H H' H'':Heap}(a:Below n H H')(b:Below n H' H''):Below n H H'':=
 ⟨YN a.nx b.nx,b.ro.trans a.ro,λc h1 h2=>(b.get c h1 (ZI h2 a.nx)).trans (a.get c h1 h2)⟩
theorem Below.put{n b:Nat}{H:Heap}{o:Obj}(h:n<=b):Below n H (H.put b o):=⟨Zq _,rfl,λc h1 _=>by rw[Xu,if_neg (by omega)]⟩
theorem Below.new(n:Nat)(H:Heap)(o:Obj):Below n H (H.new o):=⟨Uv _,rfl,λc _ h2=>by rw[Xj,if_neg (by omega)]⟩
theorem Below.mono{n m:Nat}{H H':Heap}(a:Below n H H')(h:m<=n):Below m H H':=⟨a.nx,a.ro,λc h1 h2=>a.get c (by omega) h2⟩
theorem ZE.below{H0 H H':Heap}{n:Nat}(k:ZE H0 H [])(b:Below n H H')(h:H0.nx<=n):ZE H0 H' []:=
 ⟨YN k.nx b.nx,b.ro.trans k.ro,λc h1 h2=>(b.get c (by omega) (ZI h1 k.nx)).trans (k.get c h1 h2)⟩
def ZfA(H:Heap)(v:AV)(l:List UInt8)(lo:Nat):Prop:= ∃b r,v=.slice b 0 l.length none∧uY H b 5 (l.map Y6) r∧lo<=b
def Buf(H:Heap)(v:AV)(l:List UInt8)(lo:Nat):Prop:=(l=[]∧v=.nils)∨(l≠[]∧ZfA H v l lo)
theorem wo{H:Heap}{v:AV}{l:List UInt8}{lo:Nat}(h:Buf H v l lo)(hl:l.length<140737488355328)(hro:H.ro<=H.nx)(hlo:lo<=H.nx)(x:UInt8):
  ∃v' H',V2 5 1 1 v (.slice H.nx 0 1 none) (H.newRow 5 1 [Y6 x] true)=.val v' H'∧Buf H' v' (l++[x]) lo∧Below lo H H':=by
 generalize hH1:H.newRow 5 1 [Y6 x] true=H1
 have J8:H1.nx=H.nx+1:=by rw[<-hH1];rfl
 have k1:ZE H H1 []:=by rw[<-hH1];exact ZE.new H _ []
 have b1:Below lo H H1:=by rw[<-hH1];exact Below.new lo H _
 have gx:H1.t.get H.nx=some (.row ⟨5,1,1,T.ofList [Y6 x],.unk,0,false,true,true⟩):=by rw[<-hH1,So,Xj,if_pos rfl];rfl
 have src:Src H1 (.slice H.nx 0 1 none) [Y6 x]:=Src.row (l:=[Y6 x]) gx (Zq _) (λi hi=>by
  have:i=0:=by simp at hi;exact hi
  subst this
  rfl)
 rw[TU (Zq 1) src]
 rcases h with⟨rfl,rfl⟩|⟨hne,b,r,rfl,g,hb⟩
 ·have g:=NW (H:=H1) (e:=5) (l:=[Y6 x]) (by rw[k1.ro];omega)
  exact⟨_,_,Lj (l:=[Y6 x]) (by simp) (by simp),.inr ⟨by simp,_,_,rfl,g,by omega⟩,b1.trans (Below.new lo H1 _)⟩
 ·have g1:uY H1 b 5 (l.map Y6) r:=⟨⟨by rw[k1.get b g.low (by simp)];exact g.at_,g.elem,g.sz,g.own,g.fz,g.sm,g.cells,by rw[k1.ro];exact g.ro⟩,g.exact_,by have:=g.low;omega⟩
  obtain⟨H',r',e,g',k',nx'⟩:=JQ (m:=[Y6 x]) g1 (by simp) (by rw[Zi];simp;omega)
  rw[Zi] at e
  refine⟨_,H',e,.inr ⟨by simp,H1.nx,r',by rw[Zo];rfl,by rw[YX];exact g',by omega⟩,b1.trans ⟨by omega,k'.ro,λc h1 h2=>k'.get c h2 (by simp;omega)⟩⟩
theorem Buf.below{H H':Heap}{v:AV}{l:List UInt8}{lo:Nat}(h:Buf H v l lo)(hp: ∀c,lo<=c->c<H.nx->H'.t.get c=H.t.get c)(hro:H'.ro=H.ro)(hnx:H.nx<=H'.nx):Buf H' v l lo:=by
 rcases h with h|⟨hne,b,r,rfl,g,hb⟩
 ·exact .inl h
 ·exact .inr ⟨hne,b,r,rfl,⟨⟨by rw[hp b hb g.low];exact g.at_,g.elem,g.sz,g.own,g.fz,g.sm,g.cells,by rw[hro];exact g.ro⟩,g.exact_,ZI g.low hnx⟩,hb⟩
theorem Z2(k:IntKind)(a b:Nat)(H:Heap):K7 RH UL (nI k a) (nI k b) H=.val (.bool (decide (b<a))) H:=by
 show ZR (Nf k k) (PL (qy (.ofNat b) (.ofNat a)) H)=_
 rw[Wd,RC,JX];rfl
theorem Ue(k:IntKind)(a b:Nat)(H:Heap):K7 LA Q4 (nI k a) (nI k b) H=.val (.bool (decide (a<=b))) H:=by
 show ZR (Nf k k) (PL (!qy (.ofNat b) (.ofNat a)) H)=_
 rw[Wd,RC,JX]
 show OR.val (.bool (!decide (b<a))) H=_
 congr 2
 by_cases h:b<a
 ·rw[Zg h,Zd (by omega)];rfl
 ·rw[Zd h,Zg (by omega)];rfl
theorem eI(b c:AV)(H:Heap):Bk (.bool true) b c H=.val b H:=rfl
theorem eH(b c:AV)(H:Heap):Bk (.bool false) b c H=.val c H:=rfl
theorem Zbw(b:Bool)(H:Heap):kT (.bool b) H=.val (.bool (cond b false true)) H:=rfl
theorem Gx(n:Nat)(l:List AV):Va n (.agg l)=Pd n l:=rfl
theorem sg(n:Nat):Va n YZ=true:=rfl
theorem kK(n:Nat)(s:List UInt8):Va n (.str s)=true:=rfl
noncomputable def Zbu(mx:Bool)(l:List AV)(H:Heap):OR:=match l with
 |.int k a::l=>min2 mx k a H l
 |_=>.fail
theorem MJ(mx:Bool)(args:List Z0)(tm:TM)(H:Heap):NG mx args tm H=Zbu mx (evs tm args) H:=rfl
theorem C4(a b:Nat)(H:Heap):Zbu false [nI .i64 a,nI .i64 b] H=.val (nI .i64 (min a b)) H:=by
 show ZR (Nf .i64 .i64) (min2 false .i64 (cond (cond false (qy (.ofNat a) (.ofNat b)) (qy (.ofNat b) (.ofNat a))) (.ofNat b) (.ofNat a)) H [])=_
 rw[Wd,JX,JX]
 show OR.val (.int .i64 (cond (decide (b<a)) (.ofNat b) (.ofNat a))) H=_
 by_cases h:b<a
 ·rw[Zg h,Rp (by omega)];rfl
 ·rw[Zd h,Ul (by omega)];rfl
noncomputable def Ep(i:Nat)(a:AV)(H:Heap):OR:=qT a λvs=>Rm (FU vs i) λv=>.val v H
theorem oK(x:Z0)(i:Nat)(tm:TM)(H:Heap):VH x i tm H=Ep i (x tm) H:=rfl
theorem gy(a:AV)(l:List AV)(H:Heap):Ep 0 (.tup (a::l)) H=.val a H:=rfl
theorem gC(a b:AV)(l:List AV)(H:Heap):Ep 1 (.tup (a::b::l)) H=.val b H:=rfl
theorem gD(a b c:AV)(l:List AV)(H:Heap):Ep 2 (.tup (a::b::c::l)) H=.val c H:=rfl
theorem gm(a b:Bool)(H:Heap):Eo wJ false (.bool a) (.bool b) H=.val (.bool (decide (a=b))) H:=by cases a<;>cases b<;>rfl
theorem Oh(a:TM->Heap->X->WS)(n:Nat)(tm:TM)(H:Heap)(x:X):Wu a (n+1) tm H x=Qj (a tm H x) (Wu a n):=rfl
noncomputable def bM(a:AV)(H:Heap):OR:=match a with
 |.nilp=>.val .nilp H
 |.ptr b o=>X6 H b λr=>ZR (Nat.ble (Nat.succ o) r.size) (.val (.ptr b o) H)
 |_=>.fail
theorem oP(x:Z0)(tm:TM)(H:Heap):zU x tm H=bM (x tm) H:=rfl
noncomputable def bL(u n:Nat)(a:AV)(H:Heap):OR:=match a with
 |.nilp=>.val .nilp H
 |.ptr b o=>X6 H b λr=>ZR r.exact (ZR (Nat.beq r.elem u) (ZR (Nat.beq o 0) (ZR (Nat.ble n r.size) (.val (.ptr b o) H))))
 |_=>.fail
theorem oO(x:Z0)(u n:Nat)(tm:TM)(H:Heap):zT x u n tm H=bL u n (x tm) H:=rfl
noncomputable def pz(a:AV)(H:Heap):OR:=SA a (.val .nilp H) λb o _ cap=>Option.rec (X6 H b λr=>ZR (Nat.ble (Nat.succ o) r.size) (.val (.ptr b o) H)) (λc=>ZR (Nat.ble 1 c) (.val (.ptr b o) H)) cap
theorem vK(x:Z0)(tm:TM)(H:Heap):Dj x tm H=pz (x tm) H:=rfl
noncomputable def Zac(e:Nat)(a n:AV)(H:Heap):OR:=QH n λn=>cond (Nat.beq n 0) (match a with|.nilp=>.val (.str []) H|.ptr .. =>.val (.str []) H|_=>.fail)
 (ZR (Nat.ble n 140737488355328)<|PA a λb o=>X6 H b λr=>ZR (Nat.beq r.elem e)<|ZR (cond r.sm false (H.may r b)) (ZR (Nat.ble (Nat.add o n) r.size) (Oy (λs=>.val (.str s)
  (H.put b (.row ⟨r.elem,r.sz,r.size,r.cells,r.dflt,cond (Nat.ble r.fz (Nat.add o n)) (Nat.add o n) r.fz,r.sm,r.own,r.exact⟩))) (loadN r o n))))
theorem oQ(x y:Z0)(e:Nat)(tm:TM)(H:Heap):qR x y e tm H=Zac e (x tm) (y tm) H:=rfl
theorem Az: ∀(l:List UInt8) (k:List UInt8->OR),Oy k (l.map Y6)=k l
 |[],k=>rfl
 |x::l,k=>by
  show Oy (λs=>k (UInt8.ofNat x.toNat::s)) (l.map Y6)=_
  rw[Az l]
  simp
namespace T
variable {α:Type}
theorem Bw(x:α)(l:T α)(v:Option α)(r:T α)(bs:List Bool):setB x (node l v r) (true::bs)=node (setB x l bs) v r:=rfl
theorem Bv(x:α)(l:T α)(v:Option α)(r:T α)(bs:List Bool):setB x (node l v r) (false::bs)=node l v (setB x r bs):=rfl
theorem yd(x:α)(bs:List Bool):setB x leaf bs=single x bs:=rfl
theorem um(x:α)(bs:List Bool):single x (true::bs)=node (single x bs) none leaf:=rfl
theorem ul(x:α)(bs:List Bool):single x (false::bs)=node leaf none (single x bs):=rfl
theorem JK(x y:α): ∀bs:List Bool,setB y (single x bs) bs=single y bs
 |[]=>rfl
 |true::bs=>by rw[um,Bw,JK x y bs,um]
 |false::bs=>by rw[ul,Bv,JK x y bs,ul]
theorem F6(x y:α): ∀(t:T α) (bs:List Bool),setB y (setB x t bs) bs=setB y t bs
 |leaf,bs=>by rw[yd,JK,yd]
 |node l v r,[]=>rfl
 |node l v r,true::bs=>by rw[Bw,Bw,Bw,F6 x y l bs]
 |node l v r,false::bs=>by rw[Bv,Bv,Bv,F6 x y r bs]
theorem set_set(t:T α)(n:Nat)(x y:α):(t.set n x).set n y=t.set n y:=F6 x y t (bits n)
theorem N9(a b:α)(l:List α):RI (a::b::l)=a::RI l:=by simp[RI]
theorem Bc: ∀(l:List α) (i:Nat) (v:α),RI (l.set (2*i) v)=(RI l).set i v
 |[],_,_=>by simp[RI]
 |[a],0,_=>by simp[RI]
 |[a],i+1,v=>by
  rw[show 2*(i+1)=2*i+1+1 by omega];simp[RI]
 |a::b::l,0,v=>by simp[RI]
 |a::b::l,i+1,v=>by
  rw[show 2*(i+1)=2*i+1+1 by omega,VQ,VQ,N9,N9,Bc l i v,VQ]
theorem Kr: ∀(l:List α) (i:Nat) (v:α),RI (l.set (2*i+1) v)=RI l
 |[],_,_=>by simp[RI]
 |[a],i,_=>by simp[RI]
 |a::b::l,0,v=>by simp[RI]
 |a::b::l,i+1,v=>by
  rw[show 2*(i+1)+1=(2*i+1)+1+1 by omega,VQ,VQ,N9,N9,Kr l i v]
theorem uM(l:List α)(i:Nat)(v:α):(l.set (i+1) v).tail=l.tail.set i v:=by cases l<;>rfl
theorem nQ(l:List α)(v:α):(l.set 0 v).tail=l.tail:=by cases l<;>rfl
theorem GF(l:List α):(RI l).length=(l.length+1)/2:=by
 have: ∀(n:Nat) (l:List α),l.length<=n->(RI l).length=(l.length+1)/2:=by
  intro n
  induction n with
  |zero=>intro l h;cases l with|nil=>simp[RI]|cons=>simp at h
  |succ n ih=>
   intro l h
   match l,h with
   |[],_=>simp[RI]
   |[a],_=>simp[RI]
   |a::b::l,h=>
    rw[N9,Zw,ih l (by simp at h;omega)]
    simp only[Zw];omega
 exact this _ l (Zq _)
theorem GG(f:Nat)(x:α)(l:List α):Qt (f+1) (x::l)=node (Qt f (RI l)) (some x) (Qt f (RI l.tail)):=rfl
theorem ug: ∀(f:Nat) (l:List α) (i:Nat) (v:α),l.length<=f->i<l.length->(Qt f l).set i v=Qt f (l.set i v):=by
 intro f
 induction f with
 |zero=>intro l i v h hi;omega
 |succ f ih=>
  intro l i v h hi
  cases l with
  |nil=>cases hi
  |cons x l=>
   rw[GG]
   by_cases h0:i=0
   ·subst h0;rfl
   ·obtain⟨j,rfl⟩: ∃j,i=j+1:=⟨i - 1,by omega⟩
    rw[VQ,GG]
    simp only[Zw] at h hi
    unfold set
    by_cases h1:(j+1) % 2=1
    ·obtain⟨m,rfl⟩: ∃m,j=2*m:=⟨j/2,by omega⟩
     rw[wm h1,Bw,show(2*m+1)/2=m by omega]
     have:=ih (RI l) m v (by rw[GF];omega) (by rw[GF];omega)
     unfold set at this
     rw[this,Bc]
     cases m with
     |zero=>rw[nQ]
     |succ m=>rw[show 2*(m+1)=2*m+1+1 by omega,uM,Kr]
    ·obtain⟨m,rfl⟩: ∃m,j=2*m+1:=⟨j/2,by omega⟩
     rw[AW (by omega) (by omega),Bv,show(2*m+1+1)/2 - 1=m by omega]
     have:=ih (RI l.tail) m v (by rw[GF,List.length_tail];omega) (by rw[GF,List.length_tail];omega)
     unfold set at this
     rw[this,Kr,uM,Bc]
theorem set_ofList{l:List α}{i:Nat}(v:α)(h:i<l.length):(ofList l).set i v=ofList (l.set i v):=by
 unfold ofList
 rw[xi,xi,Sk]
 exact ug _ l i v (Zq _) h
end T
def lay(l:List AV):Nat->List AV->List AV
 |_,[]=>l
 |o,v::vs=>lay (l.set o v) (o+1) vs
theorem xg: ∀(l:List AV) (o:Nat) (vs:List AV),(lay l o vs).length=l.length
 |_,_,[]=>rfl
 |l,o,v::vs=>by
  show(lay (l.set o v) (o+1) vs).length=_
  rw[xg,Sk]
theorem BF: ∀(l:List AV) (o:Nat) (vs:List AV),o+vs.length<=l.length->YV (T.ofList l) o vs=T.ofList (lay l o vs)
 |_,_,[],_=>rfl
 |l,o,v::vs,h=>by
  simp only[Zw] at h
  show YV ((T.ofList l).set o v) (o+1) vs=T.ofList (lay (l.set o v) (o+1) vs)
  rw[T.set_ofList v (by omega),BF (l.set o v) (o+1) vs (by rw[Sk];omega)]
theorem xf: ∀(l:List AV) (o:Nat) (vs:List AV),o+vs.length<=l.length->lay l o vs=l.take o++(vs++l.drop (o+vs.length))
 |l,o,[],h=>by show l=_;simp
 |l,o,v::vs,h=>by
  simp only[Zw] at h
  show lay (l.set o v) (o+1) vs=_
  rw[xf (l.set o v) (o+1) vs (by rw[Sk];omega),List.set_eq_take_append_cons_drop,if_pos (by omega)]
  have e1:(l.take o++v::l.drop (o+1)).take (o+1)=l.take o++[v]:=by
   rw[List.take_append,YH (by rw[Ys];omega),Ys,Ul (by omega),show o+1 - o=1 by omega];rfl
  have e2:(l.take o++v::l.drop (o+1)).drop (o+1+vs.length)=l.drop (o+(v::vs).length):=by
   rw[List.drop_append,Us (by rw[Ys];omega),WR,Ys,Ul (by omega),show o+1+vs.length - o=vs.length+1 by omega,NR,SW,Zw]
   congr 1;omega
  rw[e1,e2];simp
section
def rG(e sz:Nat)(l:List AV)(fz:Nat)(sm own ex:Bool):Obj:=.row ⟨e,sz,YF l,T.ofList l,.unk,fz,sm,own,ex⟩
theorem xJ(e sz:Nat)(l:List AV)(fz:Nat)(sm own ex:Bool)(i:Nat):Row.get ⟨e,sz,YF l,T.ofList l,.unk,fz,sm,own,ex⟩ i=l.getD i .unk:=by
 rw[Row.get_eq]
 show((T.ofList l).get i).getD .unk=_
 rw[T.get_ofList,Zh]
theorem vS(e sz:Nat)(l:List AV)(fz:Nat)(sm own ex:Bool):Cells ⟨e,sz,YF l,T.ofList l,.unk,fz,sm,own,ex⟩ l:=Cells.new ..
def ld1(x:Option Obj)(o:Nat)(H:Heap):OR:=match x with|some (.row r)=>ZR (Nat.ble (Nat.succ o) r.size) (.val (r.get o) H)|_=>.fail
theorem J0(b o:Nat)(H:Heap):UQ (.ptr b o) H=ld1 (H.t.get b) o H:=rfl
theorem ZX{o:Nat}{l:List AV}(h:o<l.length)(e sz fz:Nat)(sm own ex:Bool)(H:Heap):ld1 (some (rG e sz l fz sm own ex)) o H=.val (l.getD o .unk) H:=by
 show ZR (Nat.ble (Nat.succ o) (YF l)) (.val (Row.get ⟨e,sz,YF l,T.ofList l,.unk,fz,sm,own,ex⟩ o) H)=_
 rw[Yt,Zj (show Nat.succ o<=l.length from h)]
 show OR.val (Row.get ⟨e,sz,l.length,T.ofList l,.unk,fz,sm,own,ex⟩ o) H=_
 rw[<-Yt,xJ]
def Gv(n:Nat)(x:Option Obj)(o:Nat)(H:Heap):OR:=match x with|some (.row r)=>ZR (Nat.ble (Nat.add o n) r.size) (.val (.agg (loadN r o n)) H)|_=>.fail
theorem kG(n b o:Nat)(H:Heap):Jo n (.ptr b o) H=Gv n (H.t.get b) o H:=rfl
theorem N5{n o:Nat}{l:List AV}(h:o+n<=l.length)(e sz fz:Nat)(sm own ex:Bool)(H:Heap):Gv n (some (rG e sz l fz sm own ex)) o H=.val (.agg ((l.drop o).take n)) H:=by
 show ZR (Nat.ble (o+n) (YF l)) (.val (.agg (loadN ⟨e,sz,YF l,T.ofList l,.unk,fz,sm,own,ex⟩ o n)) H)=_
 rw[(vS e sz l fz sm own ex).load h,Yt,Zj h];rfl
def re(n:Nat)(x:Option Obj)(b o:Nat)(v:AV)(H:Heap):OR:=match x with
 |some (.row r)=>ZR (Nat.ble 1 n)<|ZR (H.may r b) (ZR (Nat.ble (Nat.add o n) r.size) (ZR (Nat.ble r.fz o) (ZR (Nat.beq (YF v.cells) n) (.val YZ (H.put b (.row (r.setCells (YV r.cells o v.cells))))))))
 |_=>.fail
theorem nN(n b o:Nat)(v:AV)(H:Heap):RJ n (.ptr b o) v H=re n (H.t.get b) b o v H:=rfl
theorem KB{n b o:Nat}{l:List AV}{v:AV}{H:Heap}{fz:Nat}(hn:1<=n)(hv:v.cells.length=n)(ho:o+n<=l.length)(hro:H.ro<=b)(hfz:fz<=o)(e sz:Nat)(sm ex:Bool):
  re n (some (rG e sz l fz sm true ex)) b o v H=.val YZ (H.put b (rG e sz (lay l o v.cells) fz sm true ex)):=by
 show ZR (Nat.ble 1 n) (ZR (cond true (Nat.ble H.ro b) false) (ZR (Nat.ble (o+n) (YF l)) (ZR (Nat.ble fz o) (ZR (Nat.beq (YF v.cells) n) (.val YZ (H.put b (.row ⟨e,sz,YF l,YV (T.ofList l) o v.cells,.unk,fz,sm,true,ex⟩)))))))=_
 rw[Zj hn,Zj hro,Yt,Zj ho,Zj hfz,Yt,hv,YC,BF l o v.cells (by omega)]
 unfold rG
 rw[Yt,xg];rfl
theorem pq{b o:Nat}{l:List AV}{v:AV}{H:Heap}{fz:Nat}(hv:v.cells=[v])(ho:o<l.length)(hro:H.ro<=b)(hfz:fz<=o)(e sz:Nat)(sm ex:Bool):
  re 1 (some (rG e sz l fz sm true ex)) b o v H=.val YZ (H.put b (rG e sz (l.set o v) fz sm true ex)):=by
 rw[KB (Zq 1) (by rw[hv];rfl) ho hro hfz,hv];rfl
theorem SG(H:Heap)(b:Nat)(o:Obj):(H.put b o).t.get b=some o:=by rw[Xu,if_pos rfl]
theorem R0{b c:Nat}(h: ¬b=c)(H:Heap)(o:Obj):(H.put b o).t.get c=H.t.get c:=by rw[Xu,if_neg h]
theorem Z3{H:Heap}{c:Nat}(h:H.nx=c)(o:Obj):(H.new o).t.get c=some o:=by rw[Xj,if_pos h]
theorem I1{H:Heap}{c:Nat}(h: ¬H.nx=c)(o:Obj):(H.new o).t.get c=H.t.get c:=by rw[Xj,if_neg h]
theorem eK(H:Heap)(b:Nat)(o o':Obj):(H.put b o).put b o'=H.put b o':=by
 unfold Heap.put;simp only[T.set_set]
theorem Py{H:Heap}{b:Nat}(h:H.nx=b)(o o':Obj):(H.new o).put b o'=H.new o':=by
 subst h;unfold Heap.put Heap.new;simp only[T.set_set]
theorem J6(H:Heap)(e sz:Nat)(l:List AV)(ex:Bool):H.newRow e sz l ex=H.new (rG e sz l 0 false true ex):=rfl
theorem Vv(e:Nat)(c:AV)(cs:List AV)(tm:TM)(H:Heap):Ws e (c::cs) tm H=.val (.ptr H.nx 0) (H.new (rG e 1 (c::cs) 0 false true true)):=by
 rw[so _ _ (by rw[Yt];simp)];rfl
def tq(e:Nat)(a:AV)(H:Heap):OR:=ZR (Nat.ble 1 (YF a.cells))<|.val (.ptr H.nx 0) (H.newRow e 1 a.cells true)
theorem fS(x:Z0)(e:Nat)(tm:TM)(H:Heap):T1 x e tm H=tq e (x tm) H:=rfl
theorem rU{a:AV}{l:List AV}(h:a.cells=l)(h1:1<=l.length)(e:Nat)(H:Heap):tq e a H=.val (.ptr H.nx 0) (H.new (rG e 1 l 0 false true true)):=by
 subst h
 show ZR (Nat.ble 1 (YF a.cells)) _=_
 rw[Yt,Zj h1];rfl
theorem tA(l:List AV):(AV.agg l).cells=l:=rfl
theorem Vt{l:List AV}(h1:1<=l.length)(e:Nat)(H:Heap):tq e (.agg l) H=.val (.ptr H.nx 0) (H.new (rG e 1 l 0 false true true)):=rU (tA l) h1 e H
theorem mF{a:AV}(h:a.cells=[a])(e:Nat)(H:Heap):tq e a H=.val (.ptr H.nx 0) (H.new (rG e 1 [a] 0 false true true)):=rU h (Zq 1) e H
theorem DF(b:Bool):(AV.bool b).cells=[.bool b]:=rfl
theorem zb(k:IntKind)(n:Int):(AV.int k n).cells=[.int k n]:=rfl
theorem HR(k:IntKind)(n:Nat):(nI k n).cells=[nI k n]:=rfl
theorem zf(x:UInt8):(Y6 x).cells=[Y6 x]:=rfl
theorem FG(s:List UInt8):(AV.str s).cells=[.str s]:=rfl
theorem DI:AV.nilp.cells=[.nilp]:=rfl
theorem ze(b o:Nat):(AV.ptr b o).cells=[.ptr b o]:=rfl
theorem DK:AV.nils.cells=[.nils]:=rfl
theorem Ej(b o n:Nat)(c:Option Nat):(AV.slice b o n c).cells=[.slice b o n c]:=rfl
theorem zd(b:Nat):(AV.map b).cells=[.map b]:=rfl
theorem DG(f:Nat)(a b:List AV):(AV.func f a b).cells=[.func f a b]:=rfl
theorem Ei(t:Nat)(v:AV):(AV.iface t v).cells=[.iface t v]:=rfl
theorem DH:AV.nili.cells=[.nili]:=rfl
theorem za(l:List AV):(AV.agg l).cells=l:=rfl
theorem Wv{a:TM->Heap->X->WS}{x:X}(I:Nat->TM->Heap->Prop)(Q:Out->TM->Heap->Prop)
  (step: ∀m tm H,I m tm H-> ∃o tm' H',a tm H x=.ok o tm' H' x∧((o=.normal∧ ∃k,k<m∧I k tm' H')∨(o≠.normal∧Q o tm' H'))):
  ∀(F m:Nat) (tm:TM) (H:Heap),m<F->I m tm H-> ∃o tm' H',Wu a F tm H x=.ok o tm' H' x∧o≠.normal∧Q o tm' H'
 |0,m,_,_,h,_=>by omega
 |F+1,m,tm,H,h,hi=>by
  obtain⟨o,tm',H',h1,h2⟩:=step m tm H hi
  rcases h2 with⟨rfl,k,hk,h3⟩|⟨h2,h3⟩
  ·obtain⟨o2,uW,H2,e,h4,h5⟩:=Wv I Q step F k tm' H' (by omega) h3
   refine⟨o2,uW,H2,?_,h4,h5⟩
   show Qj (a tm H x) (Wu a F)=_
   rw[h1];exact e
  ·refine⟨o,tm',H',?_,h2,h3⟩
   show Qj (a tm H x) (Wu a F)=_
   rw[h1]
   cases o with
   |normal=>exact absurd rfl h2
   |_=>rfl
theorem X9{a:TM->Heap->X->WS}{F:Nat}{H:Heap}{x:X}{L:WS}{P:TM->Prop}{Q:Out->TM->Heap->Prop}(lp: ∀T,P T-> ∃o tm' H',Wu a F T H x=.ok o tm' H' x∧o≠.normal∧Q o tm' H'){T:TM}(hL:Wu a F T H x=L)(hi:P T):
  ∃o tm' H',L=.ok o tm' H' x∧o≠.normal∧Q o tm' H':=by
 obtain⟨o,b,c,e,j⟩:=lp T hi
 exact⟨o,b,c,hL.symm.trans e,j⟩
end
theorem Z4:(∀(f:VV) (dst:ZC) (next:D) (c:Ctx) (tm:TM) (H:Heap) (x:X),Za f dst next c tm H x=OF (next c) dst c tm H x (f tm H))∧(∀(next:TM->Heap->X->WS) (dst:ZC) (c:Ctx) (tm:TM) (H:Heap) (x:X) (v:AV) (H':Heap),OF next dst c tm H x (.val v H')=next (dst tm v) H' x)∧(∀(next:TM->Heap->X->WS) (dst:ZC) (c:Ctx) (tm:TM) (H:Heap) (x:X) (f:Nat) (args:List AV) (H':Heap),OF next dst c tm H x (.oth (.call f args H'))=Bg next dst tm x (c.call f args H'))∧(∀(next:TM->Heap->X->WS) (dst:ZC) (tm:TM) (x:X) (v:AV) (H:Heap),Bg next dst tm x (.ret v H)=next (dst tm v) H x)∧(∀(a b:D) (c:Ctx) (tm:TM) (H:Heap) (x:X),Zc a b c tm H x=Qj (a c tm H x) (b c))∧(∀(tm:TM) (H:Heap) (x:X) (k:TM->Heap->X->WS),Qj (.ok .normal tm H x) k=k tm H x)∧(∀(tm:TM) (H:Heap) (x:X) (k:TM->Heap->X->WS),Qj (.ok .ret tm H x) k=.ok .ret tm H x)∧(∀(i:Nat) (tm:TM) (H:Heap) (x:X) (k:TM->Heap->X->WS),Qj (.ok (.exit i) tm H x) k=.ok (.exit i) tm H x)∧(∀(c:Ctx) (tm:TM) (H:Heap) (x:X),Zb c tm H x=.ok .normal tm H x)∧(∀(c:Ctx) (tm:TM) (H:Heap) (x:X),Ya c tm H x=.ok .ret tm H x)∧(∀(i:Nat) (c:Ctx) (tm:TM) (H:Heap) (x:X),Xi i c tm H x=.ok (.exit i) tm H x)∧(∀(q:Z0) (a b:D) (c:Ctx) (tm:TM) (H:Heap) (x:X),ZD q a b c tm H x=xb (q tm) λv=>HS (a c) (b c) v tm H x)∧(∀(b:Bool) (k:Bool->WS),xb (.bool b) k=k b)∧(∀(a b:TM->Heap->X->WS) (tm:TM) (H:Heap) (x:X),HS a b true tm H x=a tm H x)∧(∀(a b:TM->Heap->X->WS) (tm:TM) (H:Heap) (x:X),HS a b false tm H x=b tm H x)∧(∀(i:Nat) (a:D) (c:Ctx) (tm:TM) (H:Heap) (x:X),ZG i a c tm H x=Px i (a c tm H x))∧(∀(a:D) (c:Ctx) (tm:TM) (H:Heap) (x:X),Xo a c tm H x=Wu (a c) c.fuel tm H x)∧(∀(i:Nat) (tm:TM) (H:Heap) (x:X),Px i (.ok .normal tm H x)=.ok .normal tm H x)∧(∀(i:Nat) (tm:TM) (H:Heap) (x:X),Px i (.ok (.exit i) tm H x)=.ok .normal tm H x)∧(∀(i:Nat) (tm:TM) (H:Heap) (x:X),Px i (.ok .ret tm H x)=.ok .ret tm H x)∧(∀(tm:TM) (v:AV),d0 tm v=tm)∧(∀(v:AV) (tm:TM),k v tm=v)∧(∀(tm:TM),evs tm []=[])∧(∀(tm:TM) (f:Z0) (l:List Z0),evs tm (f::l)=f tm::evs tm l)∧(∀(x:Z0) (tm:TM) (H:Heap),Zf x tm H=.val (x tm) H)∧(∀(x:Z0) (tm:TM) (H:Heap),xy x tm H=fJ (x tm) H)∧(∀(x:Z0) (k:IntKind) (tm:TM) (H:Heap),US x k tm H=LB k (x tm) H)∧(∀(x y:Z0) (tm:TM) (H:Heap),ZK x y tm H=EZ (x tm) (y tm) H)∧(∀(x y:Z0) (tm:TM) (H:Heap),Xy x y tm H=AR (x tm) (y tm) H)∧(∀(x y:Z0) (tm:TM) (H:Heap),RO x y tm H=kQ (x tm) (y tm) H)∧(∀(x y:Z0) (tm:TM) (H:Heap),Ng x y tm H=np (x tm) (y tm) H)∧(∀(x y:Z0) (tm:TM) (H:Heap),KU x y tm H=sO (x tm) (y tm) H)∧(∀(x y:Z0) (f:Nat->Nat->Nat->Nat) (tm:TM) (H:Heap),XM x y f tm H=Io f (x tm) (y tm) H)∧(∀(x y:Z0) (tm:TM) (H:Heap),N6 x y tm H=nF (x tm) (y tm) H)∧(∀(x y:Z0) (tm:TM) (H:Heap),Nh x y tm H=ui (x tm) (y tm) H)∧(∀(x:Z0) (tm:TM) (H:Heap),qS x tm H=it (x tm) H)∧(∀(x y:Z0) (f:Int->Int->Bool) (g:List UInt8->List UInt8->Bool) (tm:TM) (H:Heap),Yc x y f g tm H=K7 f g (x tm) (y tm) H)∧(∀(x y:Z0) (f:AV->AV->Option Bool) (neg:Bool) (tm:TM) (H:Heap),UX x y f neg tm H=Eo f neg (x tm) (y tm) H)∧(∀(x:Z0) (tm:TM) (H:Heap),PR x tm H=kT (x tm) H)∧(∀(x y z:Z0) (tm:TM) (H:Heap),YD x y z tm H=Bk (x tm) (y tm) (z tm) H)∧(∀(f:Nat) (args:List Z0) (tm:TM) (H:Heap),Zt f args tm H=.oth (.call f (evs tm args) H))∧(∀(yes no:WS),TP (.bool true) true yes no=yes)∧(∀(yes no:WS),TP (.bool false) true yes no=no)∧(∀(yes no:WS),TP (.bool false) false yes no=yes)∧(∀(yes no:WS),TP (.bool true) false yes no=no)∧(∀(g:Z0) (b:Bool) (f:VV) (dst:ZC) (next:D) (c:Ctx) (tm:TM) (H:Heap) (x:X),ZT g b f dst next c tm H x=TP (g tm) b (OF (next c) dst c tm H x (f tm H)) (next c (dst tm YZ) H x))∧(∀(n:Nat) (l:List AV),Va n (.agg l)=Pd n l)∧(∀(n:Nat),Va n YZ=true)∧(∀(n:Nat) (s:List UInt8),Va n (.str s)=true)∧(∀(n:Nat) (k:IntKind) (m:Nat),Va n (nI k m)=true)∧(∀(n:Nat) (x:UInt32),Va n (ZH x)=true)∧(∀(n:Nat) (x:UInt8),Va n (Y6 x)=true)∧(∀(n:Nat) (x:Bool),Va n (.bool x)=true)∧(∀(sz:Nat) (x:Z0) (lo hi:Option Z0) (tm:TM) (H:Heap),Le sz x lo hi none tm H=Mb sz (x tm) (lo.map λf=>f tm) (hi.map λf=>f tm) H)∧(∀(mx:Bool) (args:List Z0) (tm:TM) (H:Heap),NG mx args tm H=Zbu mx (evs tm args) H)∧(∀(zs:List AV) (ps:List yB) (tm:TM) (H:Heap),Vw zs ps tm H=RW zs (ps.map λp=>(p.off,p.sz,p.x tm)) H)∧(∀(e sz n:Nat) (zs:List AV) (ps:List yB) (tm:TM) (H:Heap),Wz e sz n zs ps tm H=Su e sz n zs (ps.map λp=>(p.off,p.sz,p.x tm)) H)∧(∀(x y:Z0) (e sz bytes:Nat) (tm:TM) (H:Heap),W1 x y e sz bytes tm H=V2 e sz bytes (x tm) (y tm) H)∧(∀(x y:Z0) (sz:Nat) (tm:TM) (H:Heap),vF x y sz tm H=rZ sz (x tm) (y tm) H)∧(∀(n sz:Nat) (x:Z0) (lo hi:Option Z0) (tm:TM) (H:Heap),N7 n sz x lo hi none tm H=By n sz (x tm) (lo.map λf=>f tm) (hi.map λf=>f tm) H)∧(∀(x:Z0) (tm:TM) (H:Heap),RM x tm H=qE (x tm) H)∧(∀(x y:Z0) (tm:TM) (H:Heap),YU x y tm H=Ou (x tm) (y tm) H)∧(∀(x:Z0) (lo hi:Option Z0) (tm:TM) (H:Heap),SJ x lo hi none tm H=Ky (x tm) (lo.map λf=>f tm) (hi.map λf=>f tm) H)∧(∀(x:Z0) (i:Nat) (tm:TM) (H:Heap),VH x i tm H=Ep i (x tm) H)∧(∀(b c:AV) (H:Heap),Bk (.bool true) b c H=.val b H)∧(∀(b c:AV) (H:Heap),Bk (.bool false) b c H=.val c H)∧(∀(b:Bool) (H:Heap),kT (.bool b) H=.val (.bool (cond b false true)) H)∧(∀(x:Z0) (tm:TM) (H:Heap),Zs x tm H=UQ (x tm) H)∧(∀(x:Z0) (n:Nat) (tm:TM) (H:Heap),Yg x n tm H=Jo n (x tm) H)∧(∀(x y:Z0) (n:Nat) (tm:TM) (H:Heap),ZS x y n tm H=RJ n (x tm) (y tm) H)∧(∀(x:Z0) (n:Nat) (tm:TM) (H:Heap),Yk x n tm H=fZ n (x tm) H)∧(∀(x y:Z0) (n sz:Nat) (tm:TM) (H:Heap),XN x y n sz tm H=Gu n sz (x tm) (y tm) H)∧(∀(x y:Z0) (sz:Nat) (tm:TM) (H:Heap),ZW x y sz tm H=CP sz (x tm) (y tm) H)∧(∀(x:Z0) (tm:TM) (H:Heap),SO x tm H=fL (x tm) H)∧(∀(x:Z0) (tm:TM) (H:Heap),Wg x tm H=Ko (x tm) H)∧(∀(e n:Nat) (v:AV) (tm:TM) (H:Heap),Sd e n v tm H=.val (.ptr H.nx 0) (H.new (.row ⟨e,1,n,.leaf,v,0,false,true,true⟩)))∧(∀(x:Z0) (e:Nat) (tm:TM) (H:Heap),T1 x e tm H=tq e (x tm) H)∧(∀(e:Nat) (c:AV) (cs:List AV) (tm:TM) (H:Heap),Ws e (c::cs) tm H=.val (.ptr H.nx 0) (H.new (rG e 1 (c::cs) 0 false true true)))∧(∀(n b o:Nat) (H:Heap),fZ n (.ptr b o) H=.val (.ptr b (o+n)) H)∧(∀(b o:Nat) (H:Heap),fL (.ptr b o) H=.val (.ptr b o) H)∧(∀(b o n:Nat) (c:Option Nat) (H:Heap),Ko (.slice b o n c) H=.val (nI .i64 n) H)∧(∀(H:Heap),Ko .nils H=.val (nI .i64 0) H)∧(∀(H:Heap) (b:Nat) (o:Obj),(H.put b o).nx=H.nx)∧(∀(H:Heap) (b:Nat) (o:Obj),(H.put b o).ro=H.ro)∧(∀(H:Heap) (o:Obj),(H.new o).nx=H.nx+1)∧(∀(H:Heap) (o:Obj),(H.new o).ro=H.ro)∧(∀(H:Heap) (b:Nat) (o:Obj),(H.put b o).t.get b=some o)∧(∀(H:Heap) (b:Nat) (o o':Obj),(H.put b o).put b o'=H.put b o')∧(∀(H:Heap) (e sz:Nat) (l:List AV) (ex:Bool),H.newRow e sz l ex=H.new (rG e sz l 0 false true ex))∧(∀(b o:Nat) (H:Heap),UQ (.ptr b o) H=ld1 (H.t.get b) o H)∧(∀(n b o:Nat) (H:Heap),Jo n (.ptr b o) H=Gv n (H.t.get b) o H)∧(∀(n b o:Nat) (v:AV) (H:Heap),RJ n (.ptr b o) v H=re n (H.t.get b) b o v H)∧(∀(b:Bool),(AV.bool b).cells=[.bool b])∧(∀(k:IntKind) (n:Int),(AV.int k n).cells=[.int k n])∧(∀(k:IntKind) (n:Nat),(nI k n).cells=[nI k n])∧(∀(x:UInt8),(Y6 x).cells=[Y6 x])∧(∀(s:List UInt8),(AV.str s).cells=[.str s])∧(AV.nilp.cells=[.nilp])∧(∀(b o:Nat),(AV.ptr b o).cells=[.ptr b o])∧(AV.nils.cells=[.nils])∧(∀(b o n:Nat) (c:Option Nat),(AV.slice b o n c).cells=[.slice b o n c])∧(∀(b:Nat),(AV.map b).cells=[.map b])∧(∀(f:Nat) (a b:List AV),(AV.func f a b).cells=[.func f a b])∧(∀(t:Nat) (v:AV),(AV.iface t v).cells=[.iface t v])∧(AV.nili.cells=[.nili])∧(∀(l:List AV),(AV.agg l).cells=l)∧(∀(l:List PI) (c:Ctx) (tm:TM) (H:Heap) (x:X),Yy l c tm H x=UH (l.map (·.dst)) Jw l c [] tm H x)∧(∀(ds:List ZC) (fin:PK) (c:Ctx) (rs:List RD) (tm:TM) (H:Heap) (x:X),UH ds fin [] c rs tm H x=cond (still tm H rs) (fin rs tm H x) .fail)∧(∀(ds:List ZC) (fin:PK) (p:PI) (l:List PI) (c:Ctx) (rs:List RD) (tm:TM) (H:Heap) (x:X),UH ds fin (p::l) c rs tm H x=Rv ds p (UH ds fin l c) c rs tm H x)∧(∀(rs:List RD) (tm:TM) (H:Heap) (x:X),Jw rs tm H x=.ok .normal tm H x)∧(∀(ds:List ZC) (f:VV) (os:List (ZC×Z0)) (dst:ZC) (i bef:Nat) (nx:PK) (c:Ctx) (rs:List RD) (tm:TM) (H:Heap) (x:X),Rv ds ⟨f,none,os,dst,.free,i,bef⟩ nx c rs tm H x=cond (Qw H.nx tm os) (Ja ⟨f,none,os,dst,.free,i,bef⟩ nx rs tm H x (f (QT tm os) ⟨H.nx,.leaf,H.nx⟩)) .fail)∧(∀(ds:List ZC) (f:VV) (os:List (ZC×Z0)) (dst:ZC) (i bef:Nat) (nx:PK) (c:Ctx) (rs:List RD) (tm:TM) (H:Heap) (x:X),Rv ds ⟨f,none,os,dst,.read,i,bef⟩ nx c rs tm H x=IA ⟨f,none,os,dst,.read,i,bef⟩ nx rs tm H x (f (QT tm os) ⟨H.nx,H.t,H.nx⟩))∧(∀(ds:List ZC) (f:VV) (os:List (ZC×Z0)) (dst:ZC) (i bef:Nat) (nx:PK) (c:Ctx) (rs:List RD) (tm:TM) (H:Heap) (x:X),Rv ds ⟨f,none,os,dst,.eff,i,bef⟩ nx c rs tm H x=cond (still tm H rs) (HW ds ⟨f,none,os,dst,.eff,i,bef⟩ nx rs c tm x (f (QT tm os) H)) .fail)∧(∀(ds:List ZC) (f:VV) (e:Z0) (b:Bool) (os:List (ZC×Z0)) (dst:ZC) (i bef:Nat) (nx:PK) (c:Ctx) (rs:List RD) (tm:TM) (H:Heap) (x:X),Rv ds ⟨f,some (e,b),os,dst,.free,i,bef⟩ nx c rs tm H x=TP (e tm) b (cond (Qw H.nx tm os) (Ja ⟨f,some (e,b),os,dst,.free,i,bef⟩ nx rs tm H x (f (QT tm os) ⟨H.nx,.leaf,H.nx⟩)) .fail) (nx rs (dst tm YZ) H x))∧(∀(ds:List ZC) (f:VV) (e:Z0) (b:Bool) (os:List (ZC×Z0)) (dst:ZC) (i bef:Nat) (nx:PK) (c:Ctx) (rs:List RD) (tm:TM) (H:Heap) (x:X),Rv ds ⟨f,some (e,b),os,dst,.read,i,bef⟩ nx c rs tm H x=TP (e tm) b (IA ⟨f,some (e,b),os,dst,.read,i,bef⟩ nx rs tm H x (f (QT tm os) ⟨H.nx,H.t,H.nx⟩)) (nx rs (dst tm YZ) H x))∧(∀(ds:List ZC) (f:VV) (e:Z0) (b:Bool) (os:List (ZC×Z0)) (dst:ZC) (i bef:Nat) (nx:PK) (c:Ctx) (rs:List RD) (tm:TM) (H:Heap) (x:X),Rv ds ⟨f,some (e,b),os,dst,.eff,i,bef⟩ nx c rs tm H x=cond (still tm H rs) (TP (e tm) b (HW ds ⟨f,some (e,b),os,dst,.eff,i,bef⟩ nx rs c tm x (f (QT tm os) H)) (nx (TD bef rs) (dst tm YZ) H x)) .fail)∧(∀(ds:List ZC) (f:VV) (os:List (ZC×Z0)) (dst:ZC) (i bef:Nat) (nx:PK) (c:Ctx) (rs:List RD) (tm:TM) (x:X) (g:Option (Z0×Bool)) (kd:HF) (v:AV) (H':Heap),HW ds ⟨f,g,os,dst,kd,i,bef⟩ nx rs c tm x (.val v H')=nx (TD bef rs) (dst tm v) H' x)∧(∀(ds:List ZC) (f:VV) (os:List (ZC×Z0)) (dst:ZC) (i bef:Nat) (nx:PK) (c:Ctx) (rs:List RD) (tm:TM) (x:X) (g:Option (Z0×Bool)) (kd:HF) (H':Heap) (q:Nat) (args:List AV),HW ds ⟨f,g,os,dst,kd,i,bef⟩ nx rs c tm x (.oth (.call q args H'))=Bn ds ⟨f,g,os,dst,kd,i,bef⟩ nx rs tm x (c.call q args H'))∧(∀(ds:List ZC) (f:VV) (os:List (ZC×Z0)) (dst:ZC) (i bef:Nat) (nx:PK) (rs:List RD) (tm:TM) (x:X) (g:Option (Z0×Bool)) (kd:HF) (v:AV) (H':Heap),Bn ds ⟨f,g,os,dst,kd,i,bef⟩ nx rs tm x (.ret v H')=nx (TD bef rs) (dst tm v) H' x)∧(∀(b:Nat),TD b []=[])∧(∀(f:VV) (os:List (ZC×Z0)) (dst:ZC) (i bef:Nat) (rs:List RD) (g:Option (Z0×Bool)) (kd:HF) (v:AV) (b:Nat),TD b (⟨⟨f,g,os,dst,kd,i,bef⟩,v⟩::rs)=cond (Nat.testBit b i) (TD b rs) (⟨⟨f,g,os,dst,kd,i,bef⟩,v⟩::TD b rs))∧(∀(tm:TM) (H:Heap),still tm H []=true)∧(∀(f:VV) (os:List (ZC×Z0)) (dst:ZC) (i bef:Nat) (rs:List RD) (tm:TM) (H:Heap) (g:Option (Z0×Bool)) (kd:HF) (v:AV),still tm H (⟨⟨f,g,os,dst,kd,i,bef⟩,v⟩::rs)=cond (vT ⟨⟨f,g,os,dst,kd,i,bef⟩,v⟩ tm H) (still tm H rs) false)∧(∀(f:VV) (os:List (ZC×Z0)) (dst:ZC) (i bef:Nat) (tm:TM) (H:Heap) (g:Option (Z0×Bool)) (kd:HF) (v:AV),vT ⟨⟨f,g,os,dst,kd,i,bef⟩,v⟩ tm H=To (f (QT tm os) ⟨H.nx,H.t,H.nx⟩) v H.nx)∧(∀(v:UInt32) (n:Nat) (t:T Obj),To (.val (ZH v) ⟨n,t,n⟩) (ZH v) n=true)∧(∀(v:UInt8) (n:Nat) (t:T Obj),To (.val (Y6 v) ⟨n,t,n⟩) (Y6 v) n=true)∧(∀(k:IntKind) (v:Nat) (n:Nat) (t:T Obj),To (.val (nI k v) ⟨n,t,n⟩) (nI k v) n=true)∧(∀(s:List UInt8) (n:Nat) (t:T Obj),To (.val (.str s) ⟨n,t,n⟩) (.str s) n=true)∧(∀(n:Nat) (t:T Obj),To (.val .nils ⟨n,t,n⟩) .nils n=true)∧(∀(b o n:Nat) (c:Option Nat) (k:Nat) (t:T Obj),To (.val (.slice b o n c) ⟨k,t,k⟩) (.slice b o n c) k=true)∧(∀(n:Nat) (tm:TM),Qw n tm []=true)∧(∀(n:Nat) (tm:TM) (s:ZC) (g:Z0) (os:List (ZC×Z0)),Qw n tm ((s,g)::os)=cond (Va n (g tm)) (Qw n tm os) false)∧(∀(tm:TM),QT tm []=Nn)∧(∀(tm:TM) (s:ZC) (g:Z0) (os:List (ZC×Z0)),QT tm ((s,g)::os)=s (QT tm os) (g tm))∧(∀(a:AV) (l:List AV) (H:Heap),Ep 0 (.tup (a::l)) H=.val a H)∧(∀(a b:AV) (l:List AV) (H:Heap),Ep 1 (.tup (a::b::l)) H=.val b H)∧(∀(a b c:AV) (l:List AV) (H:Heap),Ep 2 (.tup (a::b::c::l)) H=.val c H)∧(∀(dc:Option AV->Nat->List AV->Heap->DR) (rs:List (Z0×Option (Nat×Bool))) (tm:TM) (H:Heap) (rc:Option AV),KV dc rs (.ok .ret tm H ⟨[],rc⟩)=results rs tm H)∧(∀(dc:Option AV->Nat->List AV->Heap->DR) (rs:List (Z0×Option (Nat×Bool))) (tm:TM) (H:Heap) (rc:Option AV),KV dc rs (.ok .normal tm H ⟨[],rc⟩)=results rs tm H)∧(∀(f:Z0) (tm:TM) (H:Heap),results [(f,none)] tm H=.ret (f tm) H)∧(∀(tm:TM) (H:Heap),results [] tm H=.ret (.tup []) H)∧(∀(a b:UInt32) (H:Heap),EZ (ZH a) (ZH b) H=.val (ZH (a+b)) H)∧(RL []=Nn)∧(∀(a:AV),RL [a]=st0 Nn a)∧(∀(a b:AV),RL [a,b]=st1 (st0 Nn a) b)∧(∀(a b c:AV),RL [a,b,c]=st2 (st1 (st0 Nn a) b) c)∧(∀(a b c d:AV),RL [a,b,c,d]=WZ (st2 (st1 (st0 Nn a) b) c) d)∧(∀(a b:List UInt8) (H:Heap),Eo K9 false (.str a) (.str b) H=.val (.bool (decide (a=b))) H)∧(∀(a b:List UInt8) (H:Heap),Eo K9 true (.str a) (.str b) H=.val (.bool (!decide (a=b))) H)∧(∀(a b:Bool) (H:Heap),Eo wJ false (.bool a) (.bool b) H=.val (.bool (decide (a=b))) H)∧(∀(k:IntKind) (a b:Nat) (H:Heap),K7 Xx Yj (nI k a) (nI k b) H=.val (.bool (decide (a<b))) H)∧(∀(k:IntKind) (a b:Nat) (H:Heap),K7 T0 WY (nI k a) (nI k b) H=.val (.bool (decide (b<=a))) H)∧(∀(k:IntKind) (a b:Nat) (H:Heap),K7 RH UL (nI k a) (nI k b) H=.val (.bool (decide (b<a))) H)∧(∀(k:IntKind) (a b:Nat) (H:Heap),K7 LA Q4 (nI k a) (nI k b) H=.val (.bool (decide (a<=b))) H)∧(∀(k:IntKind) (a b:Nat) (H:Heap),Eo SL false (nI k a) (nI k b) H=.val (.bool (decide (a=b))) H)∧(∀(k:IntKind) (a b:Nat) (H:Heap),Eo SL true (nI k a) (nI k b) H=.val (.bool (decide (a≠b))) H)∧(∀(s:List UInt8) (H:Heap),qE (.str s) H=.val (nI .i64 s.length) H)∧(∀(x:Z0) (tm:TM) (H:Heap),zU x tm H=bM (x tm) H)∧(∀(x:Z0) (u n:Nat) (tm:TM) (H:Heap),zT x u n tm H=bL u n (x tm) H)∧(∀(x:Z0) (tm:TM) (H:Heap),Dj x tm H=pz (x tm) H)∧(∀(x y:Z0) (e:Nat) (tm:TM) (H:Heap),qR x y e tm H=Zac e (x tm) (y tm) H):=⟨@XF, @XE, @XJ, @Wm, @XO, @Yn, @XC, @Xm, @Xf, @X2, @XI, @XP, @XR, @Xq, @Y5, @Y9, @RB, @Yp, @Yw, @Xs, @V4, @TC, @Vc, @Wj, @WN, @WD, @WB, @XK, @WJ, @WC, @WF, @WG, @XS, @WH, @WI, @XV, @WA, @Vl, @WE, @XU, @Xk, @oi, @og, @zL, @oh, @uf, @Gx, @sg, @kK, @Dd, @Gy, @De, @J2, @Oj, @MJ, @Tq, @Ux, @TW, @zR, @Hi, @oM, @vI, @su, @oK, @eI, @eH, @Zbw, @XB, @XT, @Xt, @WW, @X3, @X4, @WV, @X5, @Xb, @fS, @Vv, @WX, @WU, @Z5, @Gw, @UB, @UC, @VN, @UA, @SG, @eK, @J6, @J0, @kG, @nN, @DF, @zb, @HR, @zf, @FG, @DI, @ze, @DK, @Ej, @zd, @DG, @Ei, @DH, @za, @Kb, @J9, @Kt, @J7, @KC, @KD, @Id, @uA, @uB, @rf, @HX, @JV, @GT, @JZ, @Kk, @Ie, @KE, @GP, @R4, @LC, @JY, @tV, @OQ, @Rk, @J1, @Kp, @Dm, @GW, @gy, @gC, @gD, @QI, @EL, @Q1, @GS, @Mu, @rQ, @JR, @JS, @iN, @iO, @TL, @SY, @gm, @Zx, @Wn, @Z2, @Ue, @YK, @Qy, @Z9, @oP, @oO, @vK, @oQ⟩
theorem Yr:(∀{α:Type} (f:α->α) (n:N8 α),N8.a0 (N8.u0 f n)=f (N8.a0 n))∧(∀{α:Type} (f:α->α) (n:N8 α),N8.a0 (N8.u1 f n)=N8.a0 n)∧(∀{α:Type} (f:α->α) (n:N8 α),N8.a0 (N8.u2 f n)=N8.a0 n)∧(∀{α:Type} (f:α->α) (n:N8 α),N8.a0 (N8.u3 f n)=N8.a0 n)∧(∀{α:Type} (f:α->α) (n:N8 α),N8.a0 (N8.u4 f n)=N8.a0 n)∧(∀{α:Type} (f:α->α) (n:N8 α),N8.a0 (N8.u5 f n)=N8.a0 n)∧(∀{α:Type} (f:α->α) (n:N8 α),N8.a0 (N8.u6 f n)=N8.a0 n)∧(∀{α:Type} (f:α->α) (n:N8 α),N8.a0 (N8.u7 f n)=N8.a0 n)∧(∀{α:Type} (f:α->α) (n:N8 α),N8.a1 (N8.u0 f n)=N8.a1 n)∧(∀{α:Type} (f:α->α) (n:N8 α),N8.a1 (N8.u1 f n)=f (N8.a1 n))∧(∀{α:Type} (f:α->α) (n:N8 α),N8.a1 (N8.u2 f n)=N8.a1 n)∧(∀{α:Type} (f:α->α) (n:N8 α),N8.a1 (N8.u3 f n)=N8.a1 n)∧(∀{α:Type} (f:α->α) (n:N8 α),N8.a1 (N8.u4 f n)=N8.a1 n)∧(∀{α:Type} (f:α->α) (n:N8 α),N8.a1 (N8.u5 f n)=N8.a1 n)∧(∀{α:Type} (f:α->α) (n:N8 α),N8.a1 (N8.u6 f n)=N8.a1 n)∧(∀{α:Type} (f:α->α) (n:N8 α),N8.a1 (N8.u7 f n)=N8.a1 n)∧(∀{α:Type} (f:α->α) (n:N8 α),N8.a2 (N8.u0 f n)=N8.a2 n)∧(∀{α:Type} (f:α->α) (n:N8 α),N8.a2 (N8.u1 f n)=N8.a2 n)∧(∀{α:Type} (f:α->α) (n:N8 α),N8.a2 (N8.u2 f n)=f (N8.a2 n))∧(∀{α:Type} (f:α->α) (n:N8 α),N8.a2 (N8.u3 f n)=N8.a2 n)∧(∀{α:Type} (f:α->α) (n:N8 α),N8.a2 (N8.u4 f n)=N8.a2 n)∧(∀{α:Type} (f:α->α) (n:N8 α),N8.a2 (N8.u5 f n)=N8.a2 n)∧(∀{α:Type} (f:α->α) (n:N8 α),N8.a2 (N8.u6 f n)=N8.a2 n)∧(∀{α:Type} (f:α->α) (n:N8 α),N8.a2 (N8.u7 f n)=N8.a2 n)∧(∀{α:Type} (f:α->α) (n:N8 α),N8.a3 (N8.u0 f n)=N8.a3 n)∧(∀{α:Type} (f:α->α) (n:N8 α),N8.a3 (N8.u1 f n)=N8.a3 n)∧(∀{α:Type} (f:α->α) (n:N8 α),N8.a3 (N8.u2 f n)=N8.a3 n)∧(∀{α:Type} (f:α->α) (n:N8 α),N8.a3 (N8.u3 f n)=f (N8.a3 n))∧(∀{α:Type} (f:α->α) (n:N8 α),N8.a3 (N8.u4 f n)=N8.a3 n)∧(∀{α:Type} (f:α->α) (n:N8 α),N8.a3 (N8.u5 f n)=N8.a3 n)∧(∀{α:Type} (f:α->α) (n:N8 α),N8.a3 (N8.u6 f n)=N8.a3 n)∧(∀{α:Type} (f:α->α) (n:N8 α),N8.a3 (N8.u7 f n)=N8.a3 n)∧(∀{α:Type} (f:α->α) (n:N8 α),N8.a4 (N8.u0 f n)=N8.a4 n)∧(∀{α:Type} (f:α->α) (n:N8 α),N8.a4 (N8.u1 f n)=N8.a4 n)∧(∀{α:Type} (f:α->α) (n:N8 α),N8.a4 (N8.u2 f n)=N8.a4 n)∧(∀{α:Type} (f:α->α) (n:N8 α),N8.a4 (N8.u3 f n)=N8.a4 n)∧(∀{α:Type} (f:α->α) (n:N8 α),N8.a4 (N8.u4 f n)=f (N8.a4 n))∧(∀{α:Type} (f:α->α) (n:N8 α),N8.a4 (N8.u5 f n)=N8.a4 n)∧(∀{α:Type} (f:α->α) (n:N8 α),N8.a4 (N8.u6 f n)=N8.a4 n)∧(∀{α:Type} (f:α->α) (n:N8 α),N8.a4 (N8.u7 f n)=N8.a4 n)∧(∀{α:Type} (f:α->α) (n:N8 α),N8.a5 (N8.u0 f n)=N8.a5 n)∧(∀{α:Type} (f:α->α) (n:N8 α),N8.a5 (N8.u1 f n)=N8.a5 n)∧(∀{α:Type} (f:α->α) (n:N8 α),N8.a5 (N8.u2 f n)=N8.a5 n)∧(∀{α:Type} (f:α->α) (n:N8 α),N8.a5 (N8.u3 f n)=N8.a5 n)∧(∀{α:Type} (f:α->α) (n:N8 α),N8.a5 (N8.u4 f n)=N8.a5 n)∧(∀{α:Type} (f:α->α) (n:N8 α),N8.a5 (N8.u5 f n)=f (N8.a5 n))∧(∀{α:Type} (f:α->α) (n:N8 α),N8.a5 (N8.u6 f n)=N8.a5 n)∧(∀{α:Type} (f:α->α) (n:N8 α),N8.a5 (N8.u7 f n)=N8.a5 n)∧(∀{α:Type} (f:α->α) (n:N8 α),N8.a6 (N8.u0 f n)=N8.a6 n)∧(∀{α:Type} (f:α->α) (n:N8 α),N8.a6 (N8.u1 f n)=N8.a6 n)∧(∀{α:Type} (f:α->α) (n:N8 α),N8.a6 (N8.u2 f n)=N8.a6 n)∧(∀{α:Type} (f:α->α) (n:N8 α),N8.a6 (N8.u3 f n)=N8.a6 n)∧(∀{α:Type} (f:α->α) (n:N8 α),N8.a6 (N8.u4 f n)=N8.a6 n)∧(∀{α:Type} (f:α->α) (n:N8 α),N8.a6 (N8.u5 f n)=N8.a6 n)∧(∀{α:Type} (f:α->α) (n:N8 α),N8.a6 (N8.u6 f n)=f (N8.a6 n))∧(∀{α:Type} (f:α->α) (n:N8 α),N8.a6 (N8.u7 f n)=N8.a6 n)∧(∀{α:Type} (f:α->α) (n:N8 α),N8.a7 (N8.u0 f n)=N8.a7 n)∧(∀{α:Type} (f:α->α) (n:N8 α),N8.a7 (N8.u1 f n)=N8.a7 n)∧(∀{α:Type} (f:α->α) (n:N8 α),N8.a7 (N8.u2 f n)=N8.a7 n)∧(∀{α:Type} (f:α->α) (n:N8 α),N8.a7 (N8.u3 f n)=N8.a7 n)∧(∀{α:Type} (f:α->α) (n:N8 α),N8.a7 (N8.u4 f n)=N8.a7 n)∧(∀{α:Type} (f:α->α) (n:N8 α),N8.a7 (N8.u5 f n)=N8.a7 n)∧(∀{α:Type} (f:α->α) (n:N8 α),N8.a7 (N8.u6 f n)=N8.a7 n)∧(∀{α:Type} (f:α->α) (n:N8 α),N8.a7 (N8.u7 f n)=f (N8.a7 n)):=⟨@N8.g00, @N8.g01, @N8.g02, @N8.g03, @N8.g04, @N8.g05, @N8.g06, @N8.g07, @N8.g10, @N8.g11, @N8.g12, @N8.g13, @N8.g14, @N8.g15, @N8.g16, @N8.g17, @N8.g20, @N8.g21, @N8.g22, @N8.g23, @N8.g24, @N8.g25, @N8.g26, @N8.g27, @N8.g30, @N8.g31, @N8.g32, @N8.g33, @N8.g34, @N8.g35, @N8.g36, @N8.g37, @N8.g40, @N8.g41, @N8.g42, @N8.g43, @N8.g44, @N8.g45, @N8.g46, @N8.g47, @N8.g50, @N8.g51, @N8.g52, @N8.g53, @N8.g54, @N8.g55, @N8.g56, @N8.g57, @N8.g60, @N8.g61, @N8.g62, @N8.g63, @N8.g64, @N8.g65, @N8.g66, @N8.g67, @N8.g70, @N8.g71, @N8.g72, @N8.g73, @N8.g74, @N8.g75, @N8.g76, @N8.g77⟩
theorem Zca(x:UInt8):Y6 x=nI .u8 x.toNat:=rfl
theorem wg{a b:Nat}(h:a+b<18446744073709551616)(H:Heap):EZ (nI .u64 a) (nI .u64 b) H=.val (nI .u64 (a+b)) H:=by
 show ZR (Nf .u64 .u64) (UV .u64 (CO (.ofNat a) (.ofNat b)) H)=_
 rw[Wd,Xz,Jl,SE,ZU h];rfl
theorem kR{a b:Nat}(h:a*b<18446744073709551616)(H:Heap):kQ (nI .u64 a) (nI .u64 b) H=.val (nI .u64 (a*b)) H:=by
 show ZR (Nf .u64 .u64) (UV .u64 (CQ (.ofNat a) (.ofNat b)) H)=_
 rw[Wd,Xz,Jn,SE,ZU h];rfl
theorem vR{a b:Nat}(h:0<b)(h2:a<18446744073709551616)(H:Heap):np (nI .u64 a) (nI .u64 b) H=.val (nI .u64 (a/b)) H:=by
 show ZR (Nf .u64 .u64) (cond (E1 (.ofNat b) (.ofNat 0)) .fail (UV .u64 (.ofNat (Nat.div a b)) H))=_
 rw[Wd,Ov,Zd (by omega),Xz,show(Int.ofNat (Nat.div a b))=Int.ofNat (a/b) from rfl,SE,ZU (Xd (XL a b) h2)];rfl
theorem vW{a b:Nat}(h:0<b)(H:Heap):sO (nI .u64 a) (nI .u64 b) H=.val (nI .u64 (a % b)) H:=by
 show ZR (Nf .u64 .u64) (cond (E1 (.ofNat b) (.ofNat 0)) .fail (Pq (.ofNat (Nat.mod a b)) λn=>.val (.int .u64 n) H))=_
 rw[Wd,Ov,Zd (by omega),Qp];rfl
theorem kq{j:IntKind}{a:Nat}(h:a<18446744073709551616)(H:Heap):LB .u64 (nI j a) H=.val (nI .u64 a) H:=by
 show UV .u64 (.ofNat a) H=_
 rw[Xz,SE,ZU h];rfl
theorem nG{j:IntKind}{a b:Nat}(h:b<=64)(H:Heap):nF (nI .u64 a) (nI j b) H=.val (nI .u64 (a*2^b % 18446744073709551616)) H:=by
 show UV .u64 (CQ (.ofNat a) (.ofNat (Nat.pow 2 (cond (Nat.ble b 64) b 64)))) H=_
 rw[Xz,Jn,SE,Zj h];rfl
theorem jZ{a b:Nat}(h:b<=a)(h2:a<4294967296)(H:Heap):AR (nI .u32 a) (nI .u32 b) H=.val (nI .u32 (a - b)) H:=by
 show ZR (Nf .u32 .u32) (UV .u32 (I7 (.ofNat a) (.ofNat b)) H)=_
 rw[Wd,Xz,CU h,LW,ZU (by omega)];rfl
theorem yE{a b:Nat}(h:a+b<256)(H:Heap):EZ (nI .u8 a) (nI .u8 b) H=.val (nI .u8 (a+b)) H:=by
 show ZR (Nf .u8 .u8) (UV .u8 (CO (.ofNat a) (.ofNat b)) H)=_
 rw[Wd,Xz,Jl,KI,ZU h];rfl
theorem qV{a b:Nat}(h:0<b)(h2:a<256)(H:Heap):np (nI .u8 a) (nI .u8 b) H=.val (nI .u8 (a/b)) H:=by
 show ZR (Nf .u8 .u8) (cond (E1 (.ofNat b) (.ofNat 0)) .fail (UV .u8 (.ofNat (Nat.div a b)) H))=_
 rw[Wd,Ov,Zd (by omega),Xz,show(Int.ofNat (Nat.div a b))=Int.ofNat (a/b) from rfl,KI,ZU (Xd (XL a b) h2)];rfl
theorem qW{a b:Nat}(h:0<b)(H:Heap):sO (nI .u8 a) (nI .u8 b) H=.val (nI .u8 (a % b)) H:=by
 show ZR (Nf .u8 .u8) (cond (E1 (.ofNat b) (.ofNat 0)) .fail (Pq (.ofNat (Nat.mod a b)) λn=>.val (.int .u8 n) H))=_
 rw[Wd,Ov,Zd (by omega),Qp];rfl
theorem qC{j:IntKind}{a:Nat}(h:a<256)(H:Heap):LB .u8 (nI j a) H=.val (nI .u8 a) H:=by
 show UV .u8 (.ofNat a) H=_
 rw[Xz,KI,ZU h];rfl
theorem jM{j:IntKind}{a b:Nat}(h:b<8)(H:Heap):ui (nI .u8 a) (nI j b) H=.val (nI .u8 (a/2^b)) H:=by
 show Pq (.ofNat (Nat.div a (Nat.pow 2 (LE b 8)))) (λn=>OR.val (.int .u8 n) H)=_
 have:LE b 8=b:=by unfold LE;rw[Zj (by omega)];rfl
 rw[Qp,this];rfl
theorem fF(k:IntKind)(m b:Nat)(H:Heap):K7 Xx Yj (.int k (.negSucc m)) (nI k b) H=.val (.bool true) H:=by
 show ZR (Nf k k) (PL true H)=_
 rw[Wd];rfl
theorem yx{z:Int}(h1: -9223372036854775808<=z)(h2:z<9223372036854775808):IntKind.i64.wrap z=z:=by
 unfold IntKind.wrap
 simp[IntKind.bits,IntKind.signed]
 omega
theorem CS(k j:IntKind)(n:Int)(H:Heap):LB k (.int j n) H=UV k n H:=rfl
theorem ye{s:List UInt8}{p q:Nat}(h1:p<=q)(h2:q<=s.length)(k j:IntKind)(H:Heap):Ky (.str s) (some (nI k p)) (some (nI j q)) H=.val (.str ((s.take q).drop p)) H:=by
 show ZR (Nat.ble q (YF s)) (ZR (Nat.ble p q) (OR.val (.str (Ip p (KS q s))) H))=_
 rw[Yt,Zj h2,Zj h1,Mk,HU];rfl
theorem Yf{s:List UInt8}{p:Nat}(h1:p<=s.length)(k:IntKind)(H:Heap):Ky (.str s) (some (nI k p)) none H=.val (.str (s.drop p)) H:=by
 show ZR (Nat.ble p (YF s)) (OR.val (.str (Ip p (KS (YF s) s))) H)=_
 rw[Yt,Zj h1,Mk,HU,WT];rfl
theorem oq{s:List UInt8}{i:Nat}(h:i<s.length)(k:IntKind)(H:Heap):Ou (.str s) (nI k i) H=.val (nI .u8 (s.getD i 0).toNat) H:=tQ h k H
section
variable (f:VV) (os:List (ZC×Z0)) (dst:ZC) (i bef:Nat) (nx:PK) (rs:List RD) (tm:TM) (H:Heap) (x:X) (g:Option (Z0×Bool)) (kd:HF) (v:AV)
theorem Zk{m:Nat}(h:H.nx=m):Ja ⟨f,g,os,dst,kd,i,bef⟩ nx rs tm H x (.val v ⟨m,.leaf,m⟩)=nx rs (dst tm v) H x:=by subst h;exact JW ..
theorem Zm{m:Nat}(h:H.nx=m)(t:T Obj)(k:Nat):IA ⟨f,g,os,dst,kd,i,bef⟩ nx rs tm H x (.val v ⟨m,t,k⟩)=nx (⟨⟨f,g,os,dst,kd,i,bef⟩,v⟩::rs) (dst tm v) H x:=by
 subst h
 show cond (Nat.beq H.nx H.nx) _ _=_
 rw[YC];rfl
theorem Zl{m:Nat}(h:H.nx=m)(o:Obj)(hw:wrO o=true):Ja ⟨f,g,os,dst,kd,i,bef⟩ nx rs tm H x (.val v ((⟨m,.leaf,m⟩:Heap).new o))=nx rs (dst tm v) (H.new o) x:=by subst h;exact pU _ _ _ _ _ _ _ _ _ _ _ _ _ _ hw
end
theorem ir(e sz:Nat)(l:List AV)(fz:Nat)(sm ex:Bool):wrO (rG e sz l fz sm true ex)=true:=rfl
def Row.st(r:Row)(o:Nat)(v:AV):Row:=r.setCells (r.cells.set o v)
theorem Row.st_size(r:Row)(o:Nat)(v:AV):(r.st o v).size=r.size:=rfl
theorem Row.st_own(r:Row)(o:Nat)(v:AV):(r.st o v).own=r.own:=rfl
theorem Row.st_fz(r:Row)(o:Nat)(v:AV):(r.st o v).fz=r.fz:=rfl
theorem Row.st_get(r:Row)(o:Nat)(v:AV)(i:Nat):(r.st o v).get i=if o=i then v else r.get i:=by
 rw[Row.get_eq,Row.get_eq]
 show((r.cells.set o v).get i).getD r.dflt=_
 rw[T.get_set]
 split<;>rfl
theorem Qr{r:Row}{o:Nat}(h:o<r.size)(H:Heap):ld1 (some (.row r)) o H=.val (r.get o) H:=by
 show ZR (Nat.ble (Nat.succ o) r.size) (.val (r.get o) H)=_
 rw[Zj (show Nat.succ o<=r.size from h)];rfl
theorem xV{r:Row}{b o:Nat}{v:AV}{H:Heap}(hv:v.cells=[v])(ho:o<r.size)(how:r.own=true)(hro:H.ro<=b)(hfz:r.fz<=o):re 1 (some (.row r)) b o v H=.val YZ (H.put b (.row (r.st o v))):=by
 show ZR (Nat.ble 1 1) (ZR (cond r.own (Nat.ble H.ro b) false) (ZR (Nat.ble (o+1) r.size) (ZR (Nat.ble r.fz o) (ZR (Nat.beq (YF v.cells) 1) (.val YZ (H.put b (.row (r.setCells (YV r.cells o v.cells)))))))))=_
 rw[how,cond_true,Zj hro,Zj (show o+1<=r.size from ho),Zj hfz,hv];rfl
def ri(a:AV)(H:Heap):OR:=SA a (.val (.str []) H) λb o n _=>cond (Nat.beq n 0) (.val (.str []) H) (X6 H b λr=>ZR (Nat.ble (Nat.add o n) r.size) (Oy (λs=>.val (.str s) H) (loadN r o n)))
theorem fY(x:Z0)(tm:TM)(H:Heap):E3 x tm H=ri (x tm) H:=rfl
theorem Av{H:Heap}{b o n:Nat}{c:Option Nat}{r:Row}{l:List UInt8}(hr:H.t.get b=some (.row r))(hl:l.length=n)(hf:o+n<=r.size)(hg: ∀i,i<n->r.get (o+i)=Y6 (l.getD i 0)):ri (.slice b o n c) H=.val (.str l) H:=by
 subst hl
 by_cases h0:l.length=0
 ·have:l=[]:=We.1 h0
  subst this;rfl
 ·show cond (Nat.beq l.length 0) _ (X6 H b _)=_
  rw[Yx,Zd h0]
  show X6 H b _=_
  unfold X6
  rw[hr]
  show ZR (Nat.ble (o+l.length) r.size) (Oy _ (loadN r o l.length))=_
  have:loadN r o l.length=l.map Y6:=by
   refine VC λi=>?_
   by_cases hi:i<l.length
   ·rw[Qs r l.length o i hi,hg i hi,Z1,Zr hi,Zh,Zr hi];rfl
   ·rw[Xg (by rw[Sz];omega),Xg (by rw[Zi];omega)]
  rw[Zj hf,this,Az];rfl
def yN(e:Nat)(a:AV)(H:Heap):OR:=Nv a λs=>.val (.slice H.nx 0 (YF s) none) (H.new (.row ⟨e,1,YF s,T.ofList (Gz s),.unk,0,true,true,false⟩))
theorem oH(x:Z0)(e:Nat)(tm:TM)(H:Heap):C8 x e tm H=yN e (x tm) H:=rfl
theorem IS(e:Nat)(s:List UInt8)(H:Heap):yN e (.str s) H=.val (.slice H.nx 0 s.length none) (H.new (rG e 1 (s.map Y6) 0 true true false)):=by
 show OR.val (.slice H.nx 0 (YF s) none) (H.new (.row ⟨e,1,YF s,T.ofList (Gz s),.unk,0,true,true,false⟩))=_
 have:Gz s=s.map Y6:=by rw[Df];rfl
 unfold rG
 rw[this,Yt,Yt,Zi]
theorem oL(x:Z0)(t:Nat)(tm:TM)(H:Heap):Si x t tm H=.val (.iface t (x tm)) H:=rfl
theorem kX(f:Nat)(a b:List Z0)(tm:TM)(H:Heap):MI f a b tm H=.val (.func f (evs tm a) (evs tm b)) H:=rfl
def rY(P:Program)(a:AV)(args:List AV)(H:Heap):OR:=match a with
 |.func f x y=>.oth (.call f (x++(args++y)) H)
 |.meth n r=>QN r .fail λu v=>J4 P n u λg=>.oth (.call g (v::args) H)
 |.yield b=>.oth (.yield b args H)
 |_=>.fail
theorem kV(x:Z0)(P:Program)(args:List Z0)(tm:TM)(H:Heap):SK x P args tm H=rY P (x tm) (evs tm args) H:=rfl
theorem tz(P:Program)(f:Nat)(x y args:List AV)(H:Heap):rY P (.func f x y) args H=.oth (.call f (x++(args++y)) H):=rfl
theorem ZaE(lit:Bool)(g:Nat->AV->AV->Option Bool)(neg:Bool)(t:Nat)(v:AV)(H:Heap):Eo (pP lit g) neg (.iface t v) .nili H=.val (.bool neg) H:=by cases neg<;>rfl
theorem ZaF(g:Nat->AV->AV->Option Bool)(neg:Bool)(H:Heap):Eo (pP true g) neg .nili .nili H=.val (.bool (!neg)) H:=by cases neg<;>rfl
def eE(neg:Bool)(r:Option Bool)(H:Heap):OR:=match r with|some b=>.val (.bool (cond neg (!b) b)) H|none=>.fail
theorem o9(neg b:Bool)(H:Heap):eE neg (some b) H=.val (.bool (cond neg (!b) b)) H:=rfl
theorem ZaD(lit:Bool)(g:Nat->AV->AV->Option Bool)(neg:Bool)(t:Nat)(v w:AV)(H:Heap):Eo (pP lit g) neg (.iface t v) (.iface t w) H=eE neg (g t v w) H:=by
 show Rm (cond (Nat.beq t t) (g t v w) (some false)) _=_
 rw[YC,cond_true]
 cases g t v w with
 |none=>rfl
 |some b=>
  show PL (cond neg (cond b false true) b) H=_
  rw[RC];cases neg<;>cases b<;>rfl
theorem kH(n:Nat):Pd n []=true:=rfl
theorem oB(n:Nat)(v:AV)(l:List AV):Pd n (v::l)=cond (Va n v) (Pd n l) false:=rfl
theorem sf(n t:Nat)(v:AV):Va n (.iface t v)=Va n v:=rfl
theorem kL(n:Nat)(l:List AV):Va n (.tup l)=Pd n l:=rfl
theorem tU(b o n:Nat)(t:T Obj):To (.val (.ptr b o) ⟨n,t,n⟩) (.ptr b o) n=true:=R5 _ _ _ (by unfold same;rw[YC,YC];rfl)
theorem oC(n:Nat):Va n .nili=true:=rfl
theorem oD(n:Nat):Va n .nils=true:=rfl
theorem kJ(n:Nat)(k:IntKind)(z:Int):Va n (.int k z)=true:=rfl
def JT(t:Nat)(zv:AV)(ok:Bool)(a:AV)(H:Heap):OR:=QN a (Po zv ok H none) λu v=>Po zv ok H (cond (Nat.beq u t) (some v) none)
theorem sq(x:Z0)(t:Nat)(zv:AV)(ok:Bool)(tm:TM)(H:Heap):Ox x t zv ok tm H=JT t zv ok (x tm) H:=rfl
theorem tj(t:Nat)(zv:AV)(H:Heap):JT t zv true .nili H=.val (.tup [zv,.bool false]) H:=rfl
theorem tk(t:Nat)(zv v:AV)(H:Heap):JT t zv true (.iface t v) H=.val (.tup [v,.bool true]) H:=by
 show Po zv true H (cond (Nat.beq t t) (some v) none)=_
 rw[YC];rfl
def eF(a:AV)(H:Heap):OR:=QN a .fail λ_ _=>.oth (.pan a H)
theorem oN(x:Z0)(tm:TM)(H:Heap):Jz x tm H=eF (x tm) H:=rfl
theorem eG(t:Nat)(v:AV)(H:Heap):eF (.iface t v) H=.oth (.pan (.iface t v) H):=rfl
theorem lK(next:TM->Heap->X->WS)(dst:ZC)(c:Ctx)(tm:TM)(H:Heap)(x:X)(v:AV)(H':Heap):OF next dst c tm H x (.oth (.pan v H'))=.ok (.pan v) tm H' x:=rfl
theorem jo(next:TM->Heap->X->WS)(dst:ZC)(tm:TM)(x:X)(v:AV)(H:Heap):Bg next dst tm x (.pan v H)=.ok (.pan v) tm H x:=rfl
theorem nR(v:AV)(tm:TM)(H:Heap)(x:X)(k:TM->Heap->X->WS):Qj (.ok (.pan v) tm H x) k=.ok (.pan v) tm H x:=rfl
theorem tY(i:Nat)(v:AV)(tm:TM)(H:Heap)(x:X):Px i (.ok (.pan v) tm H x)=.ok (.pan v) tm H x:=rfl
theorem jv(dc:Option AV->Nat->List AV->Heap->DR)(rs:List (Z0×Option (Nat×Bool)))(v:AV)(tm:TM)(H:Heap)(rc:Option AV):KV dc rs (.ok (.pan v) tm H ⟨[],rc⟩)=.pan v H:=rfl
theorem jB(ds:List ZC)(p:PI)(nx:PK)(rs:List RD)(tm:TM)(x:X)(v:AV)(H:Heap):Bn ds p nx rs tm x (.pan v H)=.ok (.pan v) (Pp tm ds) H x:=rfl
def wL(H:Heap)(vs:List AV):CR:=match vs with|[v]=>.ret v H|vs=>.ret (.tup vs) H
theorem vY(rs:List (Z0×Option (Nat×Bool)))(tm:TM)(H:Heap):results rs tm H=OW tm H (wL H) rs:=rfl
theorem ZaN(H:Heap)(v:AV):wL H [v]=.ret v H:=rfl
theorem ZaM(H:Heap):wL H []=.ret (.tup []) H:=rfl
theorem ZaO(H:Heap)(v w:AV)(l:List AV):wL H (v::w::l)=.ret (.tup (v::w::l)) H:=rfl
theorem ny(tm:TM)(H:Heap)(k:List AV->CR):OW tm H k []=k []:=rfl
def rV(n:Nat)(ag:Bool)(o:Option Obj)(off:Nat)(k:AV->CR):CR:=match o with
 |some (.row r)=>cond (Nat.ble (Nat.add off n) r.size) (cond ag (k (.agg (loadN r off n))) (k (r.get off))) .fail
 |_=>.fail
def eN(H:Heap)(a:AV)(n:Nat)(ag:Bool)(k:AV->CR):CR:=match a with
 |.ptr b o=>rV n ag (H.t.get b) o k
 |_=>.fail
theorem jA(H:Heap)(b o n:Nat)(ag:Bool)(k:AV->CR):eN H (.ptr b o) n ag k=rV n ag (H.t.get b) o k:=rfl
theorem sQ(f:Z0)(tm:TM)(H:Heap)(k:List AV->CR)(l:List (Z0×Option (Nat×Bool))):OW tm H k ((f,none)::l)=OW tm H (λvs=>k (f tm::vs)) l:=rfl
theorem sR(f:Z0)(n:Nat)(ag:Bool)(tm:TM)(H:Heap)(k:List AV->CR)(l:List (Z0×Option (Nat×Bool))):OW tm H k ((f,some (n,ag))::l)=eN H (f tm) n ag (λv=>OW tm H (λvs=>k (v::vs)) l):=rfl
theorem xK{n e sz:Nat}{l:List AV}{fz:Nat}{sm own ex:Bool}(hn:l.length=n)(k:AV->CR):rV n true (some (rG e sz l fz sm own ex)) 0 k=k (.agg l):=by
 subst hn
 show cond (Nat.ble (0+l.length) (YF l)) (k (.agg (loadN ⟨e,sz,YF l,T.ofList l,.unk,fz,sm,own,ex⟩ 0 l.length))) .fail=_
 rw[(vS e sz l fz sm own ex).load (by omega),Y8,WT,Yt,Zn,Zj (Zq _)];rfl
theorem oJ(x:Z0)(args:List Z0)(tm:TM)(H:Heap):C9 x args tm H=.oth (.defer (x tm) (evs tm args)):=rfl
theorem vJ(tm:TM)(H:Heap):Ba tm H=.oth .recov:=rfl
theorem tM(next:TM->Heap->X->WS)(dst:ZC)(cl y rg fu)(tm:TM)(H:Heap)(x:X)(f:Nat)(a b args:List AV):OF next dst ⟨cl,y,rg,fu,false⟩ tm H x (.oth (.defer (.func f a b) args))=next (dst tm YZ) H ⟨(.func f a b,args)::x.df,x.rc⟩:=rfl
theorem wR(next:TM->Heap->X->WS)(dst:ZC)(cl y rg fu)(tm:TM)(H:Heap)(df:List (AV×List AV)):OF next dst ⟨cl,y,rg,fu,false⟩ tm H ⟨df,none⟩ (.oth .recov)=next (dst tm .nili) H ⟨df,none⟩:=rfl
theorem wS(next:TM->Heap->X->WS)(dst:ZC)(cl y rg fu)(tm:TM)(H:Heap)(df:List (AV×List AV))(v:AV):OF next dst ⟨cl,y,rg,fu,false⟩ tm H ⟨df,some v⟩ (.oth .recov)=next (dst tm v) H ⟨df,none⟩:=rfl
theorem ne(dc:Option AV->Nat->List AV->Heap->DR)(rs:List (Z0×Option (Nat×Bool)))(tm:TM)(H:Heap)(d:AV×List AV)(l:List (AV×List AV))(rc:Option AV):KV dc rs (.ok .ret tm H ⟨d::l,rc⟩)=deferred dc rs tm (d::l) none H:=rfl
theorem nc(dc:Option AV->Nat->List AV->Heap->DR)(rs:List (Z0×Option (Nat×Bool)))(v:AV)(tm:TM)(H:Heap)(d:AV×List AV)(l:List (AV×List AV))(rc:Option AV):KV dc rs (.ok (.pan v) tm H ⟨d::l,rc⟩)=deferred dc rs tm (d::l) (some v) H:=rfl
def DM(dc:Option AV->Nat->List AV->Heap->DR)(rs:List (Z0×Option (Nat×Bool)))(tm:TM)(l:List (AV×List AV))(pn:Option AV)(r:DR):CR:=match r with
 |.ret _ H rec=>deferred dc rs tm l (cond rec none pn) H
 |_=>.fail
theorem AG(dc:Option AV->Nat->List AV->Heap->DR)(rs:List (Z0×Option (Nat×Bool)))(tm:TM)(g:Nat)(a b args:List AV)(l:List (AV×List AV))(pn:Option AV)(H:Heap):deferred dc rs tm ((.func g a b,args)::l) pn H=DM dc rs tm l pn (dc pn g (a++(args++b)) H):=by
 show(match dc pn g (a++(args++b)) H with|.ret _ H rec=>deferred dc rs tm l (cond rec none pn) H|_=>.fail)=_
 unfold DM
 cases dc pn g (a++(args++b)) H<;>rfl
theorem tF(dc:Option AV->Nat->List AV->Heap->DR)(rs:List (Z0×Option (Nat×Bool)))(tm:TM)(l:List (AV×List AV))(pn:Option AV)(v:AV)(H:Heap)(rec:Bool):DM dc rs tm l pn (.ret v H rec)=deferred dc rs tm l (cond rec none pn) H:=rfl
theorem yR(dc:Option AV->Nat->List AV->Heap->DR)(rs:List (Z0×Option (Nat×Bool)))(tm:TM)(H:Heap):deferred dc rs tm [] none H=results rs tm H:=rfl
theorem yS(dc:Option AV->Nat->List AV->Heap->DR)(rs:List (Z0×Option (Nat×Bool)))(tm:TM)(v:AV)(H:Heap):deferred dc rs tm [] (some v) H=.pan v H:=rfl
def Zer{α β:Type}(o:Option α)(d:β)(k:α->β):β:=match o with|some x=>k x|none=>d
theorem nb{α β:Type}(x:α)(d:β)(k:α->β):Zer (some x) d k=k x:=rfl
def sH(rc:Option AV)(x:X)(r:CR):DR:=match r with|.ret v H=>.ret v H (LH rc x)|_=>.fail
theorem ju(rc:Option AV)(x:X)(v:AV)(H:Heap):sH rc x (.ret v H)=.ret v H (LH rc x):=rfl
theorem EK(rc:Option AV)(rs:List (Z0×Option (Nat×Bool)))(tm:TM)(H:Heap)(q:Option AV):FX rc rs (.ok .normal tm H ⟨[],q⟩)=sH rc ⟨[],q⟩ (results rs tm H):=by
 show(match([]:List (AV×List AV)),results rs tm H with|[],.ret v H=>DR.ret v H (LH rc ⟨[],q⟩)|_,_=>.fail)=_
 unfold sH
 cases results rs tm H<;>rfl
theorem jt(rc:Option AV)(rs:List (Z0×Option (Nat×Bool)))(tm:TM)(H:Heap)(q:Option AV):FX rc rs (.ok .ret tm H ⟨[],q⟩)=sH rc ⟨[],q⟩ (results rs tm H):=EK rc rs tm H q
theorem js(rc:Option AV)(rs:List (Z0×Option (Nat×Bool)))(v:AV)(tm:TM)(H:Heap)(q:Option AV):FX rc rs (.ok (.pan v) tm H ⟨[],q⟩)=.pan v H (LH rc ⟨[],q⟩):=rfl
theorem Zb0(v:AV)(l:List (AV×List AV)):LH (some v) ⟨l,none⟩=true:=rfl
theorem ZbZ(x:X):LH none x=false:=rfl
theorem pS(k:List AV->OR)(cells:List AV):OE k [] cells=k cells:=rfl
theorem tJ(k:List AV->OR)(o n:Nat)(v:AV)(ps:List (Nat×Nat×AV))(cells:List AV):OE k ((o,n,v)::ps) cells=ZR (Nat.ble 1 n) (ZR (Nat.beq (YF v.cells) n) (ZR (Nat.ble (Nat.add o n) (YF cells)) (OE k ps (NC o cells++(v.cells++OD (Nat.add o n) cells))))):=rfl
theorem kD{cells l:List AV}{o:Nat}(h:o+l.length<=cells.length):NC o cells++(l++OD (Nat.add o l.length) cells)=lay cells o l:=by
 rw[xf cells o l h]
 have h1:NC o cells=cells.take o:=LV ..
 have h2:OD (o+l.length) cells=cells.drop (o+l.length):=Lq ..
 rw[h1]
 show _++(_++OD (o+l.length) cells)=_
 rw[h2]
theorem DP{k:List AV->OR}{o n:Nat}{v:AV}{l:List AV}{ps:List (Nat×Nat×AV)}{cells:List AV}(hv:v.cells=l)(hl:l.length=n)(hn:1<=n)(h:o+n<=cells.length):OE k ((o,n,v)::ps) cells=OE k ps (lay cells o l):=by
 subst hv;subst hl
 rw[tJ,Zj hn,Yt,YC,Yt,Zj (show Nat.add o v.cells.length<=cells.length from h),kD h];rfl
theorem Lr{k:List AV->OR}{o:Nat}{v:AV}{ps:List (Nat×Nat×AV)}{cells:List AV}(hv:v.cells=[v])(h:o<cells.length):OE k ((o,1,v)::ps) cells=OE k ps (cells.set o v):=DP hv rfl (Zq 1) h
theorem pR{k:List AV->OR}{o n:Nat}{l:List AV}{ps:List (Nat×Nat×AV)}{cells:List AV}(hl:l.length=n)(hn:1<=n)(h:o+n<=cells.length):OE k ((o,n,.agg l)::ps) cells=OE k ps (lay cells o l):=DP rfl hl hn h
theorem Km(l:List AV)(o:Nat):lay l o []=l:=rfl
theorem N4(l:List AV)(o:Nat)(v:AV)(vs:List AV):lay l o (v::vs)=lay (l.set o v) (o+1) vs:=rfl
theorem K2(z:AV)(zs:List AV)(ps:List (Nat×Nat×AV))(H:Heap):RW (z::zs) ps H=OE (λcs=>.val (.agg cs) H) ps (z::zs):=by
 show ZR (Nat.ble 1 (YF (z::zs))) _=_
 rw[Yt,Zj (by simp)];rfl
theorem Zy:(∀(x:Z0) (args:List Z0) (tm:TM) (H:Heap),C9 x args tm H=.oth (.defer (x tm) (evs tm args)))∧
 (∀(tm:TM) (H:Heap),Ba tm H=.oth .recov)∧
 (∀(next:TM->Heap->X->WS) (dst:ZC) (cl y rg fu) (tm:TM) (H:Heap) (x:X) (f:Nat) (a b args:List AV),OF next dst ⟨cl,y,rg,fu,false⟩ tm H x (.oth (.defer (.func f a b) args))=next (dst tm YZ) H ⟨(.func f a b,args)::x.df,x.rc⟩)∧
 (∀(next:TM->Heap->X->WS) (dst:ZC) (cl y rg fu) (tm:TM) (H:Heap) (df:List (AV×List AV)),OF next dst ⟨cl,y,rg,fu,false⟩ tm H ⟨df,none⟩ (.oth .recov)=next (dst tm .nili) H ⟨df,none⟩)∧
 (∀(next:TM->Heap->X->WS) (dst:ZC) (cl y rg fu) (tm:TM) (H:Heap) (df:List (AV×List AV)) (v:AV),OF next dst ⟨cl,y,rg,fu,false⟩ tm H ⟨df,some v⟩ (.oth .recov)=next (dst tm v) H ⟨df,none⟩)∧
 (∀(dc:Option AV->Nat->List AV->Heap->DR) (rs:List (Z0×Option (Nat×Bool))) (tm:TM) (H:Heap) (d:AV×List AV) (l:List (AV×List AV)) (rc:Option AV),KV dc rs (.ok .ret tm H ⟨d::l,rc⟩)=deferred dc rs tm (d::l) none H)∧
 (∀(dc:Option AV->Nat->List AV->Heap->DR) (rs:List (Z0×Option (Nat×Bool))) (v:AV) (tm:TM) (H:Heap) (d:AV×List AV) (l:List (AV×List AV)) (rc:Option AV),KV dc rs (.ok (.pan v) tm H ⟨d::l,rc⟩)=deferred dc rs tm (d::l) (some v) H)∧
 (∀(dc:Option AV->Nat->List AV->Heap->DR) (rs:List (Z0×Option (Nat×Bool))) (tm:TM) (g:Nat) (a b args:List AV) (l:List (AV×List AV)) (pn:Option AV) (H:Heap),deferred dc rs tm ((.func g a b,args)::l) pn H=DM dc rs tm l pn (dc pn g (a++(args++b)) H))∧
 (∀(dc:Option AV->Nat->List AV->Heap->DR) (rs:List (Z0×Option (Nat×Bool))) (tm:TM) (l:List (AV×List AV)) (pn:Option AV) (v:AV) (H:Heap) (rec:Bool),DM dc rs tm l pn (.ret v H rec)=deferred dc rs tm l (cond rec none pn) H)∧
 (∀(dc:Option AV->Nat->List AV->Heap->DR) (rs:List (Z0×Option (Nat×Bool))) (tm:TM) (H:Heap),deferred dc rs tm [] none H=results rs tm H)∧
 (∀(dc:Option AV->Nat->List AV->Heap->DR) (rs:List (Z0×Option (Nat×Bool))) (tm:TM) (v:AV) (H:Heap),deferred dc rs tm [] (some v) H=.pan v H)∧
 (∀{α β:Type} (x:α) (d:β) (k:α->β),Zer (some x) d k=k x)∧
 (∀(rc:Option AV) (x:X) (v:AV) (H:Heap),sH rc x (.ret v H)=.ret v H (LH rc x))∧
 (∀(rc:Option AV) (rs:List (Z0×Option (Nat×Bool))) (tm:TM) (H:Heap) (q:Option AV),FX rc rs (.ok .normal tm H ⟨[],q⟩)=sH rc ⟨[],q⟩ (results rs tm H))∧
 (∀(rc:Option AV) (rs:List (Z0×Option (Nat×Bool))) (tm:TM) (H:Heap) (q:Option AV),FX rc rs (.ok .ret tm H ⟨[],q⟩)=sH rc ⟨[],q⟩ (results rs tm H))∧
 (∀(rc:Option AV) (rs:List (Z0×Option (Nat×Bool))) (v:AV) (tm:TM) (H:Heap) (q:Option AV),FX rc rs (.ok (.pan v) tm H ⟨[],q⟩)=.pan v H (LH rc ⟨[],q⟩))∧
 (∀(v:AV) (l:List (AV×List AV)),LH (some v) ⟨l,none⟩=true)∧
 (∀(x:X),LH none x=false)∧
 (∀{a:AV} (h:a.cells=[a]) (e:Nat) (H:Heap),tq e a H=.val (.ptr H.nx 0) (H.new (rG e 1 [a] 0 false true true)))∧
 (∀{l:List AV} (h1:1<=l.length) (e:Nat) (H:Heap),tq e (.agg l) H=.val (.ptr H.nx 0) (H.new (rG e 1 l 0 false true true)))∧
 (∀{b c:Nat} (h: ¬b=c) (H:Heap) (o:Obj),(H.put b o).t.get c=H.t.get c)∧
 (∀{H:Heap} {c:Nat} (h: ¬H.nx=c) (o:Obj),(H.new o).t.get c=H.t.get c)∧
 (∀{H:Heap} {c:Nat} (h:H.nx=c) (o:Obj),(H.new o).t.get c=some o)∧
 (∀{H:Heap} {b:Nat} (h:H.nx=b) (o o':Obj),(H.new o).put b o'=H.new o')∧
 (∀(neg b:Bool) (H:Heap),eE neg (some b) H=.val (.bool (cond neg (!b) b)) H)∧
 (∀(lit:Bool) (g:Nat->AV->AV->Option Bool) (neg:Bool) (t:Nat) (v w:AV) (H:Heap),Eo (pP lit g) neg (.iface t v) (.iface t w) H=eE neg (g t v w) H)∧
 (∀(n:Nat),Pd n []=true)∧
 (∀(n:Nat) (v:AV) (l:List AV),Pd n (v::l)=cond (Va n v) (Pd n l) false)∧
 (∀(n t:Nat) (v:AV),Va n (.iface t v)=Va n v)∧
 (∀(n:Nat) (l:List AV),Va n (.tup l)=Pd n l)∧
 (∀(b o n:Nat) (t:T Obj),To (.val (.ptr b o) ⟨n,t,n⟩) (.ptr b o) n=true)∧
 (∀(n:Nat),Va n .nili=true)∧
 (∀(n:Nat),Va n .nils=true)∧
 (∀(n:Nat) (k:IntKind) (z:Int),Va n (.int k z)=true)∧
 (∀(k:List AV->OR) (cells:List AV),OE k [] cells=k cells)∧
 (∀{k:List AV->OR} {o:Nat} {v:AV} {ps:List (Nat×Nat×AV)} {cells:List AV} (hv:v.cells=[v]) (h:o<cells.length),OE k ((o,1,v)::ps) cells=OE k ps (cells.set o v))∧
 (∀(z:AV) (zs:List AV) (ps:List (Nat×Nat×AV)) (H:Heap),RW (z::zs) ps H=OE (λcs=>.val (.agg cs) H) ps (z::zs))∧
 (∀(e sz:Nat) (l:List AV) (fz:Nat) (sm ex:Bool),wrO (rG e sz l fz sm true ex)=true)∧
 (∀(x:Z0) (e:Nat) (tm:TM) (H:Heap),C8 x e tm H=yN e (x tm) H)∧
 (∀(e:Nat) (s:List UInt8) (H:Heap),yN e (.str s) H=.val (.slice H.nx 0 s.length none) (H.new (rG e 1 (s.map Y6) 0 true true false)))∧
 (∀(x:Z0) (t:Nat) (tm:TM) (H:Heap),Si x t tm H=.val (.iface t (x tm)) H)∧
 (∀(f:Nat) (a b:List Z0) (tm:TM) (H:Heap),MI f a b tm H=.val (.func f (evs tm a) (evs tm b)) H)∧
 (∀(x:Z0) (P:Program) (args:List Z0) (tm:TM) (H:Heap),SK x P args tm H=rY P (x tm) (evs tm args) H)∧
 (∀(P:Program) (f:Nat) (x y args:List AV) (H:Heap),rY P (.func f x y) args H=.oth (.call f (x++(args++y)) H))∧
 (∀(lit:Bool) (g:Nat->AV->AV->Option Bool) (neg:Bool) (t:Nat) (v:AV) (H:Heap),Eo (pP lit g) neg (.iface t v) .nili H=.val (.bool neg) H)∧
 (∀(g:Nat->AV->AV->Option Bool) (neg:Bool) (H:Heap),Eo (pP true g) neg .nili .nili H=.val (.bool (!neg)) H)∧
 (∀(x:Z0) (t:Nat) (zv:AV) (ok:Bool) (tm:TM) (H:Heap),Ox x t zv ok tm H=JT t zv ok (x tm) H)∧
 (∀(t:Nat) (zv:AV) (H:Heap),JT t zv true .nili H=.val (.tup [zv,.bool false]) H)∧
 (∀(t:Nat) (zv v:AV) (H:Heap),JT t zv true (.iface t v) H=.val (.tup [v,.bool true]) H)∧
 (∀(x:Z0) (tm:TM) (H:Heap),Jz x tm H=eF (x tm) H)∧
 (∀(t:Nat) (v:AV) (H:Heap),eF (.iface t v) H=.oth (.pan (.iface t v) H))∧
 (∀(next:TM->Heap->X->WS) (dst:ZC) (c:Ctx) (tm:TM) (H:Heap) (x:X) (v:AV) (H':Heap),OF next dst c tm H x (.oth (.pan v H'))=.ok (.pan v) tm H' x)∧
 (∀(next:TM->Heap->X->WS) (dst:ZC) (tm:TM) (x:X) (v:AV) (H:Heap),Bg next dst tm x (.pan v H)=.ok (.pan v) tm H x)∧
 (∀(v:AV) (tm:TM) (H:Heap) (x:X) (k:TM->Heap->X->WS),Qj (.ok (.pan v) tm H x) k=.ok (.pan v) tm H x)∧
 (∀(i:Nat) (v:AV) (tm:TM) (H:Heap) (x:X),Px i (.ok (.pan v) tm H x)=.ok (.pan v) tm H x)∧
 (∀(dc:Option AV->Nat->List AV->Heap->DR) (rs:List (Z0×Option (Nat×Bool))) (v:AV) (tm:TM) (H:Heap) (rc:Option AV),KV dc rs (.ok (.pan v) tm H ⟨[],rc⟩)=.pan v H)∧
 (∀(ds:List ZC) (p:PI) (nx:PK) (rs:List RD) (tm:TM) (x:X) (v:AV) (H:Heap),Bn ds p nx rs tm x (.pan v H)=.ok (.pan v) (Pp tm ds) H x)∧
 (∀(rs:List (Z0×Option (Nat×Bool))) (tm:TM) (H:Heap),results rs tm H=OW tm H (wL H) rs)∧
 (∀(H:Heap) (v:AV),wL H [v]=.ret v H)∧
 (∀(H:Heap),wL H []=.ret (.tup []) H)∧
 (∀(H:Heap) (v w:AV) (l:List AV),wL H (v::w::l)=.ret (.tup (v::w::l)) H)∧
 (∀(tm:TM) (H:Heap) (k:List AV->CR),OW tm H k []=k [])∧
 (∀(f:Z0) (tm:TM) (H:Heap) (k:List AV->CR) (l:List (Z0×Option (Nat×Bool))),OW tm H k ((f,none)::l)=OW tm H (λvs=>k (f tm::vs)) l)∧
 (∀(f:Z0) (n:Nat) (ag:Bool) (tm:TM) (H:Heap) (k:List AV->CR) (l:List (Z0×Option (Nat×Bool))),OW tm H k ((f,some (n,ag))::l)=eN H (f tm) n ag (λv=>OW tm H (λvs=>k (v::vs)) l))∧
 (∀(H:Heap) (b o n:Nat) (ag:Bool) (k:AV->CR),eN H (.ptr b o) n ag k=rV n ag (H.t.get b) o k)∧
 (∀(x:Z0) (tm:TM) (H:Heap),E3 x tm H=ri (x tm) H):=⟨@oJ, @vJ, @tM, @wR, @wS, @ne, @nc, @AG, @tF, @yR, @yS, @nb, @ju, @EK, @jt, @js, @Zb0, @ZbZ, @mF, @Vt, @R0, @I1, @Z3, @Py, @o9, @ZaD, @kH, @oB, @sf, @kL, @tU, @oC, @oD, @kJ, @pS, @Lr, @K2, @ir, @oH, @IS, @oL, @kX, @kV, @tz, @ZaE, @ZaF, @sq, @tj, @tk, @oN, @eG, @lK, @jo, @nR, @tY, @jv, @jB, @vY, @ZaN, @ZaM, @ZaO, @ny, @sQ, @sR, @jA, @fY⟩
theorem ZA:(∀(e sz:Nat) (l:List AV) (fz:Nat) (sm ex:Bool),wrO (rG e sz l fz sm true ex)=true)∧
 (∀(H:Heap) (b:Nat) (o:Obj),(H.put b o).nx=H.nx)∧
 (∀(H:Heap) (o:Obj),(H.new o).nx=H.nx+1)∧
 (∀(H:Heap) (b:Nat) (o:Obj),(H.put b o).ro=H.ro)∧
 (∀(H:Heap) (o:Obj),(H.new o).ro=H.ro)∧
 (∀(b:Bool),(AV.bool b).cells=[.bool b])∧
 (∀(k:IntKind) (n:Int),(AV.int k n).cells=[.int k n])∧
 (∀(k:IntKind) (n:Nat),(nI k n).cells=[nI k n])∧
 (∀(x:UInt8),(Y6 x).cells=[Y6 x])∧
 (∀(s:List UInt8),(AV.str s).cells=[.str s])∧
 (AV.nilp.cells=[.nilp])∧
 (∀(b o:Nat),(AV.ptr b o).cells=[.ptr b o])∧
 (AV.nils.cells=[.nils])∧
 (∀(b o n:Nat) (c:Option Nat),(AV.slice b o n c).cells=[.slice b o n c])∧
 (∀(b:Nat),(AV.map b).cells=[.map b])∧
 (∀(f:Nat) (a b:List AV),(AV.func f a b).cells=[.func f a b])∧
 (∀(t:Nat) (v:AV),(AV.iface t v).cells=[.iface t v])∧
 (AV.nili.cells=[.nili])∧
 (∀(l:List AV),(AV.agg l).cells=l)∧
 (∀(r:Row) (o:Nat) (v:AV),(r.st o v).size=r.size)∧
 (∀(r:Row) (o:Nat) (v:AV),(r.st o v).own=r.own)∧
 (∀(r:Row) (o:Nat) (v:AV),(r.st o v).fz=r.fz)∧
 (∀(l:List AV) (o:Nat) (vs:List AV),(lay l o vs).length=l.length):=⟨@ir, @UB, @VN, @UC, @UA, @DF, @zb, @HR, @zf, @FG, @DI, @ze, @DK, @Ej, @zd, @DG, @Ei, @DH, @za, @Row.st_size, @Row.st_own, @Row.st_fz, @xg⟩
theorem Zz:((!true)=false)∧((!false)=true)∧(∀{α:Type} (l:List α),[]++l=l)∧(∀{α:Type} (l:List α),l++[]=l)∧(∀{α β:Type} (f:α->β),Option.map f none=none)∧(∀{α β:Type} (f:α->β) (a:α),Option.map f (some a)=some (f a))∧(∀{α β:Type} (f:α->β) (a:α) (l:List α),List.map f (a::l)=f a::List.map f l)∧(∀{α β:Type} (f:α->β),List.map f []=[])∧(∀{α:Type} (a b:α),cond true a b=a)∧(∀{α:Type} (a b:α),cond false a b=b)∧(∀(x i:Nat),x.testBit i=decide (x/2^i % 2=1))∧(∀h:Decidable True, @decide True h=true)∧(∀h:Decidable False, @decide False h=false)∧(∀n:Nat,0+n=n)∧
 (∀{α:Type} (a d:α) (l:List α),(a::l).getD 0 d=a)∧(∀{α:Type} (a d:α) (l:List α) (n:Nat),(a::l).getD (n+1) d=l.getD n d)∧(∀{α:Type} (a b:α) (l:List α),(a::l).set 0 b=b::l)∧(∀{α:Type} (a b:α) (l:List α) (n:Nat),(a::l).set (n+1) b=a::l.set n b):=
 ⟨Wi,Wa,λ_=>rfl,WQ,λ_=>rfl,λ_ _=>rfl,λ_ _ _=>rfl,λ_=>rfl,λ_ _=>rfl,λ_ _=>rfl,λ_ _=>W9,λ_=>Zg trivial,λ_=>Zd id,Zn,λ_ _ _=>rfl,λ_ _ _ _=>rfl,λ_ _ _=>rfl,λ_ _ _ _=>rfl⟩
theorem ZB:(∀{α:Type} (a:α) (l:List α),(a::l).length=l.length+1)∧(∀{α:Type},([]:List α).length=0)∧(∀{α:Type} (l:List α) (n:Nat) (a:α),(l.set n a).length=l.length)∧(∀{α β:Type} (f:α->β) (l:List α),(l.map f).length=l.length):=
 ⟨λ_ _=>rfl,rfl,λ_ _ _=>Sk,λ_ _=>Zi ..⟩
section
variable {P:Program}
def Zbs(n:Nat):Obj->Prop
 |.row r=> ∀i,i<r.size->Va n (r.get i)=true
 |.map es _=> ∀x∈es,Va n x.key=true∧Va n x.val=true
 |.siter _ _=>True
 |.loop=>True
 |_=>False
theorem Tk.cutX{σ:Mp}{n:Nat}{o:Obj}{l:Loc}{c:Go.Obj}(h:Zbs n o)(r:Tk σ o l c):Tk (σ.cut n) o l c:=by
 cases o with
 |row q=>
  obtain⟨cs,fr,rfl,r⟩:=r
  refine⟨cs,fr,rfl,r.sz,r.sz1,r.fits,r.room,r.exact,λi hi=>?_,r.one,r.frz,r.frs⟩
  obtain⟨v,h1,h2⟩:=r.cell i hi
  exact⟨v,h1,Yl.cut (h i hi) h2⟩
 |map es clock=>
  obtain⟨ents,e,h1,h2⟩:=r
  exact⟨ents,e,YG.cutE h h1,h2⟩
 |siter s pos=>exact r
 |loop=>exact r
 |miter _ _ _=>exact h.elim
 |cmap _=>exact h.elim
structure Less(H H' G:Heap):Prop where
 nx:H.nx<=G.nx
 ro:G.ro=H.ro
 old: ∀b,b<H.nx->G.t.get b=H'.t.get b
 new: ∀b o,H.nx<=b->G.t.get b=some o->H.t.get b=some o∨(b<G.nx∧H'.t.get b=some o)
 low: ∀b o,G.t.get b=some o->H.t.get b=some o∨Zbs G.nx o
theorem Tr.less{σ σ':Mp}{H H' G:Heap}{w w':World}(hs:W8 P σ H w)(t:Tr P σ H w σ' H' w')(g:Less H H' G):Tr P σ H w (σ'.cut G.nx) G w':=by
 have hex:Ext σ (σ'.cut G.nx):=λb l hb=>by
  have:=hs.dom b l hb
  rw[Mp.cut_lt (ZI this g.nx)]
  exact t.ext b l hb
 have hcut: ∀{b l},σ'.cut G.nx b=some l->σ' b=some l:=λh=>(Mp.cut_some h).2
 have hin: ∀b o,G.t.get b=some o->H'.t.get b=some o:=λb o h=>by
  by_cases hb:b<H.nx
  ·rw[<-g.old b hb];exact h
  ·rcases g.new b o (by omega) h with h1|h1
   ·exact absurd (hs.low b o h1) hb
   ·exact h1.2
 have hs':W8 P (σ'.cut G.nx) G w':=by
  refine⟨λb l h=>(Mp.cut_some h).1,λb o h=>?_,λb o l hb hl=>?_,λb b' o o' l l' h1 h2 h3 h4 e=>t.sim.inj b b' o o' l l' (hin _ _ h1) (hin _ _ h2) (hcut h3) (hcut h4) e,λq hq=>?_,by rw[g.ro];exact YN hs.ro g.nx⟩
  ·by_cases hb:b<H.nx
   ·exact ZI hb g.nx
   ·rcases g.new b o (by omega) h with h1|h1
    ·exact absurd (hs.low b o h1) hb
    ·exact h1.1
  ·obtain⟨c,h2,h3⟩:=t.sim.alive b o l (hin b o hb) (hcut hl)
   refine⟨c,h2,?_⟩
   rcases g.low b o hb with h5|h4
   ·cases hσ:σ b with
    |none=>
     have:=(t.pend b (hs.low b o h5) hσ).2
     rw[hcut hl] at this;cases this
    |some l0=>
     have e:=t.ext b l0 hσ
     rw[hcut hl] at e;cases e
     obtain⟨c0,_,h1⟩:=hs.alive b o l h5 hσ
     exact(h1.back t.ext h3).mono hex
   ·exact h3.cutX h4
  ·obtain⟨l,h1,h2,h3⟩:=hs.glob q hq
   exact⟨l,hex _ _ h1,h2,h3⟩
 refine⟨hex,hs',t.size,t.frame,λb l hw hl hlt=>?_,g.nx,g.ro,λb hb=>?_,t.tape,t.os,t.out,λb hb hn=>?_⟩
 ·obtain⟨h1,o,h2,h3⟩:=hw
  exact t.wr b l ⟨by rw[t.ro,<-g.ro];exact h1,o,hin b o h2,h3⟩ (hcut hl) hlt
 ·rw[g.old b (ZI hb hs.ro)]
  exact t.low b hb
 ·obtain⟨h1,h2⟩:=t.pend b hb hn
  refine⟨by rw[g.old b hb,h1],?_⟩
  rw[Mp.cut_lt (ZI hb g.nx)];exact h2
def dC(H:Heap):CR->CR->Prop
 |.ret v H',.ret u G=>u=v∧Less H H' G∧Va G.nx v=true
 |.pan v H',.pan u G=>u=v∧Less H H' G∧Va G.nx v=true
 |_,_=>False
theorem fA{call:Nat->List AV->Heap->CR}(hcall:SS P call){f:FuncId}{args:List AV}{H:Heap}{r:CR}(g:dC H (call f args H) r)
  {σ:Mp}{w:World}{vs:List Value}(hs:W8 P σ H w)(hv:YO σ args vs):KX P σ H w r ((callFunc f ⟨vs⟩).run P w):=by
 have hcr:=hcall f _ H σ w vs hs hv
 generalize call f args H=q at g hcr
 cases q with
 |fail=>cases r<;>exact g.elim
 |ret v H'=>
  cases r with
  |ret u G=>
   obtain⟨rfl,g,hlow⟩:=g
   refine Ends.mono (λu' w' hx=>?_) (λ_ _ hx=>hx) hcr
   obtain⟨σ2,h1,t⟩:=hx
   exact⟨σ2.cut G.nx,Yl.cut hlow h1,t.less hs g⟩
  |_=>exact g.elim
 |pan v H'=>
  cases r with
  |pan u G=>
   obtain⟨rfl,g,hlow⟩:=g
   refine Ends.mono (λ_ _ hx=>hx) (λu' w' hx=>?_) hcr
   obtain⟨σ2,h1,t⟩:=hx
   exact⟨σ2.cut G.nx,Yl.cut hlow h1,t.less hs g⟩
  |_=>exact g.elim
theorem Less.put{H:Heap}{b:Nat}{o:Obj}(hb:b<H.nx)(ho:Zbs H.nx o){H':Heap}(h: ∀c,c<H.nx->H'.t.get c=(H.put b o).t.get c):Less H H' (H.put b o):=by
 refine⟨Zq _,rfl,λc hc=>(h c hc).symm,λc q hc hq=>.inl ?_,λc q hq=>?_⟩
 ·rw[Xu,if_neg (by omega)] at hq;exact hq
 ·rw[Xu] at hq
  split at hq
  ·cases hq;exact .inr ho
  ·exact .inl hq
theorem Less.same{H H':Heap}(h: ∀c,c<H.nx->H'.t.get c=H.t.get c):Less H H' H:=
 ⟨Zq _,rfl,λc hc=>(h c hc).symm,λ_ _ _ hq=>.inl hq,λ_ _ hq=>.inl hq⟩
end
section
variable {P:Program}
abbrev Lib:=Nat->List AV->Heap->Option CR
def CV(QJ:Nat->Nat)(Nk:Lib)(call:Nat->List AV->Heap->CR)(lib:Lib)(k:Nat):Lib:=λf args H=>
 open Classical in if QJ f=k then
  (match Nk f args H with
  |some r=>if dC H (call f args H) r then some r else lib f args H
  |none=>if ∃v H',call f args H=.ret v H'∧ZE H H' []∧Va 0 v=true then(match call f args H with|.ret v _=>some (.ret v H)|_=>none) else lib f args H)
 else lib f args H
theorem kE{QJ:Nat->Nat}{Nk:Lib}{call:Nat->List AV->Heap->CR}{lib:Lib}{k:Nat}(hcall:SS P call)(hl:Np P lib):Np P (CV QJ Nk call lib k):=by
 intro f args H r h σ w vs hs hv
 unfold CV at h
 split at h
 ·split at h
  ·split at h
   ·rename_i hc
    cases h
    exact fA hcall hc hs hv
   ·exact hl f args H r h σ w vs hs hv
  ·split at h
   ·rename_i hc
    obtain⟨v,H',h1,h2,h3⟩:=hc
    rw[h1] at h
    cases h
    exact qD hcall h1 h2 h3 hs hv
   ·exact hl f args H r h σ w vs hs hv
 ·exact hl f args H r h σ w vs hs hv
theorem I8{QJ:Nat->Nat}{Nk:Lib}{call:Nat->List AV->Heap->CR}{lib:Lib}{k f:Nat}(h:QJ f≠k)(args:List AV)(H:Heap):CV QJ Nk call lib k f args H=lib f args H:=by
 unfold CV;rw[if_neg h]
theorem tX{QJ:Nat->Nat}{Nk:Lib}{call:Nat->List AV->Heap->CR}{lib:Lib}{k f:Nat}{args:List AV}{H H':Heap}{v:AV}(h:QJ f=k)(hs:Nk f args H=none)(hr:call f args H=.ret v H')(g:ZE H H' [])(hv:Va 0 v=true):CV QJ Nk call lib k f args H=some (.ret v H):=by
 unfold CV;rw[if_pos h,hs]
 simp only
 rw[if_pos ⟨v,H',hr,g,hv⟩,hr]
def E2(ZM:Lib)(fs:T CF)(fuel:Nat)(QJ:Nat->Nat)(Nk:Lib):Nat->Lib
 |0=>ZM
 |k+1=>CV QJ Nk (Yo (E2 ZM fs fuel QJ Nk k) fs fuel 900) (E2 ZM fs fuel QJ Nk k) (k+1)
variable {ZM:Lib} {fs:T CF} {fuel:Nat} {QJ:Nat->Nat} {Nk:Lib}
theorem xk(hc: ∀lib,Np P lib->SS P (Yo lib fs fuel 900))(h0:Np P ZM): ∀k,Np P (E2 ZM fs fuel QJ Nk k)
 |0=>h0
 |k+1=>kE (hc _ (xk hc h0 k)) (xk hc h0 k)
theorem vk{f:Nat}(args:List AV)(H:Heap): ∀k,k<QJ f->E2 ZM fs fuel QJ Nk k f args H=ZM f args H
 |0,_=>rfl
 |k+1,h=>(I8 (by omega) args H).trans (vk args H k (by omega))
theorem FQ{f:Nat}(h:QJ f=0)(args:List AV)(H:Heap): ∀k,E2 ZM fs fuel QJ Nk k f args H=ZM f args H
 |0=>rfl
 |k+1=>(I8 (by omega) args H).trans (FQ h args H k)
theorem fB{f r:Nat}(h:QJ f=r)(args:List AV)(H:Heap): ∀k,r<=k->E2 ZM fs fuel QJ Nk k f args H=E2 ZM fs fuel QJ Nk r f args H:=by
 intro k hk
 induction k with
 |zero=>rw[Nat.le_zero.1 hk]
 |succ k ih=>
  by_cases e:r=k+1
  ·rw[e]
  ·exact(I8 (by omega) args H).trans (ih (by omega))
theorem YW{f k:Nat}(h0: ∀l H,ZM f l H=none)(h:k<QJ f∨QJ f=0)(args:List AV)(H:Heap):E2 ZM fs fuel QJ Nk k f args H=none:=by
 rcases h with h|h
 ·rw[vk args H k h,h0]
 ·rw[FQ h args H k,h0]
theorem HN{f k n:Nat}{args:List AV}{H:Heap}{r:CR}(h:QJ f=0)(hr:ZM f args H=some r):Yo (E2 ZM fs fuel QJ Nk k) fs fuel (n+1) f args H=r:=
 A9 (by rw[FQ h];exact hr)
theorem LD{f r k n:Nat}{args:List AV}{H H':Heap}{v:AV}(h:QJ f=r+1)(hs:Nk f args H=none)(hr:Yo (E2 ZM fs fuel QJ Nk r) fs fuel 900 f args H=.ret v H')(g:ZE H H' [])(hv:Va 0 v=true)(hk:r+1<=k):
  Yo (E2 ZM fs fuel QJ Nk k) fs fuel (n+1) f args H=.ret v H:=
 A9 (by rw[fB h args H k hk];exact tX h hs hr g hv)
end
end
end Go.AI
