/- Running the interpreter's code on values that are not known: equations, proved without conditions but those that each names; what is looked up rank by rank. -/
import Derived.Test.YtbdmnfoadmfjpaaGreatDoorP6
import Derived.Test.YtbdmnfoadmfjpaaGreatDoorP5
set_option maxRecDepth 1000000
set_option maxHeartbeats 0
set_option linter.unusedVariables false
set_option linter.unusedSimpArgs false
namespace Go.AI
open Go
noncomputable section
section
variable {α:Type}
namespace N8
theorem g00(f:α->α)(n:N8 α):a0 (u0 f n)=f (a0 n):=rfl
theorem g01(f:α->α)(n:N8 α):a0 (u1 f n)=a0 n:=rfl
theorem g02(f:α->α)(n:N8 α):a0 (u2 f n)=a0 n:=rfl
theorem g03(f:α->α)(n:N8 α):a0 (u3 f n)=a0 n:=rfl
theorem g04(f:α->α)(n:N8 α):a0 (u4 f n)=a0 n:=rfl
theorem g05(f:α->α)(n:N8 α):a0 (u5 f n)=a0 n:=rfl
theorem g06(f:α->α)(n:N8 α):a0 (u6 f n)=a0 n:=rfl
theorem g07(f:α->α)(n:N8 α):a0 (u7 f n)=a0 n:=rfl
theorem g10(f:α->α)(n:N8 α):a1 (u0 f n)=a1 n:=rfl
theorem g11(f:α->α)(n:N8 α):a1 (u1 f n)=f (a1 n):=rfl
theorem g12(f:α->α)(n:N8 α):a1 (u2 f n)=a1 n:=rfl
theorem g13(f:α->α)(n:N8 α):a1 (u3 f n)=a1 n:=rfl
theorem g14(f:α->α)(n:N8 α):a1 (u4 f n)=a1 n:=rfl
theorem g15(f:α->α)(n:N8 α):a1 (u5 f n)=a1 n:=rfl
theorem g16(f:α->α)(n:N8 α):a1 (u6 f n)=a1 n:=rfl
theorem g17(f:α->α)(n:N8 α):a1 (u7 f n)=a1 n:=rfl
theorem g20(f:α->α)(n:N8 α):a2 (u0 f n)=a2 n:=rfl
theorem g21(f:α->α)(n:N8 α):a2 (u1 f n)=a2 n:=rfl
theorem g22(f:α->α)(n:N8 α):a2 (u2 f n)=f (a2 n):=rfl
theorem g23(f:α->α)(n:N8 α):a2 (u3 f n)=a2 n:=rfl
theorem g24(f:α->α)(n:N8 α):a2 (u4 f n)=a2 n:=rfl
theorem g25(f:α->α)(n:N8 α):a2 (u5 f n)=a2 n:=rfl
theorem g26(f:α->α)(n:N8 α):a2 (u6 f n)=a2 n:=rfl
theorem g27(f:α->α)(n:N8 α):a2 (u7 f n)=a2 n:=rfl
theorem g30(f:α->α)(n:N8 α):a3 (u0 f n)=a3 n:=rfl
theorem g31(f:α->α)(n:N8 α):a3 (u1 f n)=a3 n:=rfl
theorem g32(f:α->α)(n:N8 α):a3 (u2 f n)=a3 n:=rfl
theorem g33(f:α->α)(n:N8 α):a3 (u3 f n)=f (a3 n):=rfl
theorem g34(f:α->α)(n:N8 α):a3 (u4 f n)=a3 n:=rfl
theorem g35(f:α->α)(n:N8 α):a3 (u5 f n)=a3 n:=rfl
theorem g36(f:α->α)(n:N8 α):a3 (u6 f n)=a3 n:=rfl
theorem g37(f:α->α)(n:N8 α):a3 (u7 f n)=a3 n:=rfl
theorem g40(f:α->α)(n:N8 α):a4 (u0 f n)=a4 n:=rfl
theorem g41(f:α->α)(n:N8 α):a4 (u1 f n)=a4 n:=rfl
theorem g42(f:α->α)(n:N8 α):a4 (u2 f n)=a4 n:=rfl
theorem g43(f:α->α)(n:N8 α):a4 (u3 f n)=a4 n:=rfl
theorem g44(f:α->α)(n:N8 α):a4 (u4 f n)=f (a4 n):=rfl
theorem g45(f:α->α)(n:N8 α):a4 (u5 f n)=a4 n:=rfl
theorem g46(f:α->α)(n:N8 α):a4 (u6 f n)=a4 n:=rfl
theorem g47(f:α->α)(n:N8 α):a4 (u7 f n)=a4 n:=rfl
theorem g50(f:α->α)(n:N8 α):a5 (u0 f n)=a5 n:=rfl
theorem g51(f:α->α)(n:N8 α):a5 (u1 f n)=a5 n:=rfl
theorem g52(f:α->α)(n:N8 α):a5 (u2 f n)=a5 n:=rfl
theorem g53(f:α->α)(n:N8 α):a5 (u3 f n)=a5 n:=rfl
theorem g54(f:α->α)(n:N8 α):a5 (u4 f n)=a5 n:=rfl
theorem g55(f:α->α)(n:N8 α):a5 (u5 f n)=f (a5 n):=rfl
theorem g56(f:α->α)(n:N8 α):a5 (u6 f n)=a5 n:=rfl
theorem g57(f:α->α)(n:N8 α):a5 (u7 f n)=a5 n:=rfl
theorem g60(f:α->α)(n:N8 α):a6 (u0 f n)=a6 n:=rfl
theorem g61(f:α->α)(n:N8 α):a6 (u1 f n)=a6 n:=rfl
theorem g62(f:α->α)(n:N8 α):a6 (u2 f n)=a6 n:=rfl
theorem g63(f:α->α)(n:N8 α):a6 (u3 f n)=a6 n:=rfl
theorem g64(f:α->α)(n:N8 α):a6 (u4 f n)=a6 n:=rfl
theorem g65(f:α->α)(n:N8 α):a6 (u5 f n)=a6 n:=rfl
theorem g66(f:α->α)(n:N8 α):a6 (u6 f n)=f (a6 n):=rfl
theorem g67(f:α->α)(n:N8 α):a6 (u7 f n)=a6 n:=rfl
theorem g70(f:α->α)(n:N8 α):a7 (u0 f n)=a7 n:=rfl
theorem g71(f:α->α)(n:N8 α):a7 (u1 f n)=a7 n:=rfl
theorem g72(f:α->α)(n:N8 α):a7 (u2 f n)=a7 n:=rfl
theorem g73(f:α->α)(n:N8 α):a7 (u3 f n)=a7 n:=rfl
theorem g74(f:α->α)(n:N8 α):a7 (u4 f n)=a7 n:=rfl
theorem g75(f:α->α)(n:N8 α):a7 (u5 f n)=a7 n:=rfl
theorem g76(f:α->α)(n:N8 α):a7 (u6 f n)=a7 n:=rfl
theorem g77(f:α->α)(n:N8 α):a7 (u7 f n)=f (a7 n):=rfl
end N8
end
section
theorem X2(f:VA)(dst:Yd)(next:D)(c:Ctx)(tm:TM)(H:Heap)(x:X):Za f dst next c tm H x=OY (next c) dst c tm H x (f tm H):=rfl
theorem sZ(g:YG)(b:Bool)(f:VA)(dst:Yd)(next:D)(c:Ctx)(tm:TM)(H:Heap)(x:X):Z5 g b f dst next c tm H x=Tn (g tm) b (OY (next c) dst c tm H x (f tm H)) (next c (dst tm XE) H x):=rfl
theorem jE(yes no:WL):Tn (.bool true) true yes no=yes:=rfl
theorem yQ(yes no:WL):Tn (.bool false) false yes no=yes:=rfl
theorem jD(yes no:WL):Tn (.bool true) false yes no=no:=rfl
theorem jC(yes no:WL):Tn (.bool false) true yes no=no:=rfl
theorem X1(next:TM->Heap->X->WL)(dst:Yd)(c:Ctx)(tm:TM)(H:Heap)(x:X)(v:AV)(H':Heap):OY next dst c tm H x (.val v H')=next (dst tm v) H' x:=rfl
theorem Rt(next:TM->Heap->X->WL)(dst:Yd)(c:Ctx)(tm:TM)(H:Heap)(x:X)(f:Nat)(args:List AV)(H':Heap):OY next dst c tm H x (.oth (.call f args H'))=Au next dst tm x (c.call f args H'):=rfl
theorem Se(next:TM->Heap->X->WL)(dst:Yd)(tm:TM)(x:X)(v:AV)(H:Heap):Au next dst tm x (.ret v H)=next (dst tm v) H x:=rfl
theorem X5(a b:D)(c:Ctx)(tm:TM)(H:Heap)(x:X):Zi a b c tm H x=QY (a c tm H x) (b c):=rfl
theorem YI(tm:TM)(H:Heap)(x:X)(k:TM->Heap->X->WL):QY (.ok .normal tm H x) k=k tm H x:=rfl
theorem gZ(tm:TM)(H:Heap)(x:X)(k:TM->Heap->X->WL):QY (.ok .ret tm H x) k=.ok .ret tm H x:=rfl
theorem TQ(i:Nat)(tm:TM)(H:Heap)(x:X)(k:TM->Heap->X->WL):QY (.ok (.exit i) tm H x) k=.ok (.exit i) tm H x:=rfl
theorem XI(c:Ctx)(tm:TM)(H:Heap)(x:X):Zc c tm H x=.ok .normal tm H x:=rfl
theorem Qc(c:Ctx)(tm:TM)(H:Heap)(x:X):YX c tm H x=.ok .ret tm H x:=rfl
theorem SL(i:Nat)(c:Ctx)(tm:TM)(H:Heap)(x:X):WV i c tm H x=.ok (.exit i) tm H x:=rfl
theorem W0(q:YG)(a b:D)(c:Ctx)(tm:TM)(H:Heap)(x:X):Yo q a b c tm H x=wV (q tm) λv=>Gz (a c) (b c) v tm H x:=rfl
theorem W1(b:Bool)(k:Bool->WL):wV (.bool b) k=k b:=rfl
theorem TF(a b:TM->Heap->X->WL)(tm:TM)(H:Heap)(x:X):Gz a b true tm H x=a tm H x:=rfl
theorem VS(a b:TM->Heap->X->WL)(tm:TM)(H:Heap)(x:X):Gz a b false tm H x=b tm H x:=rfl
theorem W6(i:Nat)(a:D)(c:Ctx)(tm:TM)(H:Heap)(x:X):YT i a c tm H x=PU i (a c tm H x):=rfl
theorem Rx(a:D)(c:Ctx)(tm:TM)(H:Heap)(x:X):W5 a c tm H x=WP (a c) c.fuel tm H x:=rfl
theorem V3(i:Nat)(tm:TM)(H:Heap)(x:X):PU i (.ok .normal tm H x)=.ok .normal tm H x:=rfl
theorem WI(i:Nat)(tm:TM)(H:Heap)(x:X):PU i (.ok (.exit i) tm H x)=.ok .normal tm H x:=by
 show @Bool.rec (λ_=>WL) (.ok (.exit i) tm H x) (.ok .normal tm H x) (Nat.beq i i)=_
 rw[Xd]
theorem pp(i:Nat)(tm:TM)(H:Heap)(x:X):PU i (.ok .ret tm H x)=.ok .ret tm H x:=rfl
theorem Nl(tm:TM)(v:AV):d0 tm v=tm:=rfl
theorem TH(v:AV)(tm:TM):k v tm=v:=rfl
theorem oW:Rk []=OM:=rfl
theorem Ib(a:AV):Rk [a]=st0 OM a:=rfl
theorem Ic(a b:AV):Rk [a,b]=st1 (st0 OM a) b:=rfl
theorem Zci(a b c:AV):Rk [a,b,c]=st2 (st1 (st0 OM a) b) c:=rfl
theorem Zcj(a b c d:AV):Rk [a,b,c,d]=Tc (st2 (st1 (st0 OM a) b) c) d:=rfl
theorem PL(tm:TM):evs tm []=[]:=rfl
theorem RS(tm:TM)(f:YG)(l:List YG):evs tm (f::l)=f tm::evs tm l:=rfl
theorem Z7{lib:Nat->List AV->Heap->Option CR}{fs:T CF}{fuel n f:Nat}{args:List AV}{H:Heap}{cf:CF}(hl:lib f args H=none)(hf:fs.get f=some cf):Z8 lib fs fuel (n+1) f args H=
  K8 (λpn g as H=>As .fail fs g λcg=>EG pn cg.rs (cg.body ⟨Z8 lib fs fuel n,U3,Tp,fuel,false⟩ (Rk as) H ⟨[],pn⟩))
   cf.rs (cf.body ⟨Z8 lib fs fuel n,U3,EH fs fuel (Z8 lib fs fuel n),fuel,false⟩ (Rk args) H ⟨[],none⟩):=by
 show mQ (lib f args H) _=_
 rw[hl]
 unfold As
 rw[hf]
 rfl
theorem QR(dc:Option AV->Nat->List AV->Heap->DR)(rs:List (YG×Option (Nat×Bool)))(tm:TM)(H:Heap)(rc:Option AV):K8 dc rs (.ok .ret tm H ⟨[],rc⟩)=results rs tm H:=rfl
theorem DL(dc:Option AV->Nat->List AV->Heap->DR)(rs:List (YG×Option (Nat×Bool)))(tm:TM)(H:Heap)(rc:Option AV):K8 dc rs (.ok .normal tm H ⟨[],rc⟩)=results rs tm H:=rfl
theorem Pq(f:YG)(tm:TM)(H:Heap):results [(f,none)] tm H=.ret (f tm) H:=rfl
theorem Fw(tm:TM)(H:Heap):results [] tm H=.ret (.tup []) H:=rfl
theorem Rg{a:TM->Heap->X->WL}{x:X}{i:Nat}(inv:Nat->TM->Heap->Prop)(fin:TM->Heap->Prop)(n:Nat)
  (step: ∀k tm H,k<n->inv k tm H-> ∃tm' H',a tm H x=.ok .normal tm' H' x∧inv (k+1) tm' H')
  (last: ∀tm H,inv n tm H-> ∃tm' H',a tm H x=.ok (.exit i) tm' H' x∧fin tm' H'): ∀(j k:Nat) (F:Nat) (tm:TM) (H:Heap),k+j=n->j<F->inv k tm H-> ∃tm' H',WP a F tm H x=.ok (.exit i) tm' H' x∧fin tm' H'
 |0,k,F,tm,H,hk,hF,h=>by
  obtain⟨F,rfl⟩: ∃G,F=G+1:=⟨F - 1,by omega⟩
  obtain rfl:k=n:=by omega
  obtain⟨tm',H',h1,h2⟩:=last tm H h
  refine⟨tm',H',?_,h2⟩
  show QY (a tm H x) (WP a F)=_
  rw[h1];rfl
 |j+1,k,F,tm,H,hk,hF,h=>by
  obtain⟨F,rfl⟩: ∃G,F=G+1:=⟨F - 1,by omega⟩
  obtain⟨tm',H',h1,h2⟩:=step k tm H (by omega) h
  obtain⟨g9,H2,h3,h4⟩:=Rg inv fin n step last j (k+1) F tm' H' (by omega) (by omega) h2
  refine⟨g9,H2,?_,h4⟩
  show QY (a tm H x) (WP a F)=_
  rw[h1]
  exact h3
theorem Vd(x:YG)(tm:TM)(H:Heap):Zk x tm H=.val (x tm) H:=rfl
noncomputable def pE(a:AV)(H:Heap):OR:=Pp a λk a=>UX k (IL 0 a) H
noncomputable def PS(k:IntKind)(a:AV)(H:Heap):OR:=Pp a λ_ a=>UX k a H
noncomputable def RI(a b:AV)(H:Heap):OR:=match a with
 |.int j a=>Pp b λl b=>Z3 (Oz j l) (UX j (tf a b) H)
 |.str a=>O9 b λb=>Z3 (Nat.ble (Nat.add (Xc a) (Xc b)) 4611686018427387904) (.val (.str (a++b)) H)
 |_=>.fail
noncomputable def J8(a b:AV)(H:Heap):OR:=Es a b λk a b=>UX k (IL a b) H
noncomputable def aF(a b:AV)(H:Heap):OR:=Es a b λk a b=>UX k (zq a b) H
noncomputable def Zal(a b:AV)(H:Heap):OR:=Es a b λk a b=>cond (FW b 0) .fail (UX k (Zg4 a b) H)
noncomputable def vN(a b:AV)(H:Heap):OR:=Es a b λk a b=>cond (FW b 0) .fail (QB (Zg5 a b) λn=>.val (.int k n) H)
noncomputable def KS(f:Nat->Nat->Nat->Nat)(a b:AV)(H:Heap):OR:=Es a b λk a b=>UX k (.ofNat (f (Sc k) (UP (Sc k) a) (UP (Sc k) b))) H
noncomputable def ZeE(a b:AV)(H:Heap):OR:=Pp a λk a=>SX b λb=>UX k (zq a (.ofNat (Nat.pow 2 (cond (Nat.ble b 64) b 64)))) H
noncomputable def re(a b:AV)(H:Heap):OR:=Pp a λk a=>SX b λb=>QB (Zg9 a (Ob b (nc k))) λn=>.val (.int k n) H
noncomputable def Zb1(a:AV)(H:Heap):OR:=Pp a λk a=>UX k (.ofNat (Nat.sub (Nat.sub (Sc k) 1) (UP (Sc k) a))) H
noncomputable def Te(f:Int->Int->Bool)(g:List UInt8->List UInt8->Bool)(a b:AV)(H:Heap):OR:=match a with
 |.int j a=>Pp b λl b=>Z3 (Oz j l) (Rr (f a b) H)
 |.str a=>O9 b λb=>Rr (g a b) H
 |_=>.fail
noncomputable def MU(f:AV->AV->Option Bool)(neg:Bool)(a b:AV)(H:Heap):OR:=Sr (f a b) λb=>Rr (cond neg (cond b false true) b) H
noncomputable def aI(a:AV)(H:Heap):OR:=EF a λb=>.val (.bool (cond b false true)) H
noncomputable def AC(a b c:AV)(H:Heap):OR:=EF a λt=>.val (cond t b c) H
theorem Fg(x:YG)(tm:TM)(H:Heap):zz x tm H=pE (x tm) H:=rfl
theorem LP(x:YG)(k:IntKind)(tm:TM)(H:Heap):Sw x k tm H=PS k (x tm) H:=rfl
theorem Ry(x y:YG)(tm:TM)(H:Heap):Y4 x y tm H=RI (x tm) (y tm) H:=rfl
theorem JP(x y:YG)(tm:TM)(H:Heap):VF x y tm H=J8 (x tm) (y tm) H:=rfl
theorem Ff(x y:YG)(tm:TM)(H:Heap):Oc x y tm H=aF (x tm) (y tm) H:=rfl
theorem tY(x y:YG)(tm:TM)(H:Heap):HV x y tm H=Zal (x tm) (y tm) H:=rfl
theorem Fi(x y:YG)(tm:TM)(H:Heap):Fh x y tm H=vN (x tm) (y tm) H:=rfl
theorem OF(x y:YG)(f:Nat->Nat->Nat->Nat)(tm:TM)(H:Heap):U4 x y f tm H=KS f (x tm) (y tm) H:=rfl
theorem Fj(x y:YG)(tm:TM)(H:Heap):iD x y tm H=ZeE (x tm) (y tm) H:=rfl
theorem JO(x y:YG)(tm:TM)(H:Heap):MF x y tm H=re (x tm) (y tm) H:=rfl
theorem y9(x:YG)(tm:TM)(H:Heap):lj x tm H=Zb1 (x tm) H:=rfl
theorem US(x y:YG)(f:Int->Int->Bool)(g:List UInt8->List UInt8->Bool)(tm:TM)(H:Heap):Xi x y f g tm H=Te f g (x tm) (y tm) H:=rfl
theorem CH(x y:YG)(f:AV->AV->Option Bool)(neg:Bool)(tm:TM)(H:Heap):UG x y f neg tm H=MU f neg (x tm) (y tm) H:=rfl
theorem tX(x:YG)(tm:TM)(H:Heap):Ns x tm H=aI (x tm) H:=rfl
theorem y6(x y z:YG)(tm:TM)(H:Heap):XA x y z tm H=AC (x tm) (y tm) (z tm) H:=rfl
theorem Sq(f:Nat)(args:List YG)(tm:TM)(H:Heap):ZT f args tm H=.oth (.call f (evs tm args) H):=rfl
theorem T4(b:Bool)(H:Heap):Rr b H=.val (.bool b) H:=by cases b<;>rfl
theorem Wb(k:IntKind)(n:Int)(H:Heap):UX k n H=.val (.int k (k.wrap n)) H:=by simp only[UX,SM,MA]
theorem E0(k:IntKind)(m n:Nat):wa k m (.ofNat n)=.ofNat (n % m):=by
 show cond (Nat.ble m n) (Int.ofNat (Nat.mod n m)) (.ofNat n)=_
 cases h:Nat.ble m n with
 |true=>rfl
 |false=>
  have:n<m:=by
   have h2: ¬m<=n:=λhh=>by rw[Zg hh] at h;cases h
   omega
  rw[YD this];rfl
theorem CT(n:Nat):IntKind.u8.wrap (.ofNat n)=.ofNat (n % 256):=by rw[<-MA];exact E0 .u8 256 n
theorem P5(n:Nat):IntKind.u32.wrap (.ofNat n)=.ofNat (n % 4294967296):=by rw[<-MA];exact E0 .u32 4294967296 n
theorem Nh(n:Nat):IntKind.u64.wrap (.ofNat n)=.ofNat (n % 18446744073709551616):=by rw[<-MA];exact E0 .u64 18446744073709551616 n
theorem J9{n:Nat}(h:n<9223372036854775808):IntKind.i64.wrap (.ofNat n)=.ofNat n:=by
 rw[<-MA]
 show cond (Nat.ble 9223372036854775808 n) _ (Int.ofNat n)=_
 cases h2:Nat.ble 9223372036854775808 n with
 |true=>have:=Yh h2;omega
 |false=>rfl
theorem G1(a b:Nat):tf (.ofNat a) (.ofNat b)=.ofNat (a+b):=rfl
theorem G2(a b:Nat):zq (.ofNat a) (.ofNat b)=.ofNat (a*b):=rfl
theorem tq{a b:Nat}(h:b<=a):IL (.ofNat a) (.ofNat b)=.ofNat (a - b):=by
 show cond (Nat.ble b a) (Int.ofNat (Nat.sub a b)) (Int.ofNat a - Int.ofNat b)=_
 rw[Zg h];rfl
theorem Hq(m n:Nat):UP m (.ofNat n)=n % m:=rfl
theorem M1(a b:Nat):yT (.ofNat a) (.ofNat b)=decide (a<b):=by
 show Nat.ble (Nat.succ a) b=_
 cases h:Nat.ble (Nat.succ a) b with
 |true=>have:=Yh h;exact(Zj this).symm
 |false=>
  have h2: ¬Nat.succ a<=b:=λhh=>by rw[Zg hh] at h;cases h
  exact(Ze h2).symm
theorem ON(a b:Nat):FW (.ofNat a) (.ofNat b)=decide (a=b):=Y1 a b
theorem X4(k:IntKind):Oz k k=true:=by cases k<;>rfl
def i64(n:Nat):AV:=nI .i64 n
def X8(x:UInt8):AV:=.int .u8 (.ofNat x.toNat)
def Y2(x:UInt32):AV:=.int .u32 (.ofNat x.toNat)
def ZeP(x:UInt64):AV:=.int .u64 (.ofNat x.toNat)
theorem Yy{a b:Nat}(h:a+b<9223372036854775808)(H:Heap):RI (nI .i64 a) (nI .i64 b) H=.val (nI .i64 (a+b)) H:=by
 show Z3 (Oz .i64 .i64) (UX .i64 (tf (.ofNat a) (.ofNat b)) H)=_
 rw[X4,Wb,G1,J9 h];rfl
theorem YR{a b:Nat}(h:b<=a)(h2:a<9223372036854775808)(H:Heap):J8 (nI .i64 a) (nI .i64 b) H=.val (nI .i64 (a - b)) H:=by
 show Z3 (Oz .i64 .i64) (UX .i64 (IL (.ofNat a) (.ofNat b)) H)=_
 rw[X4,Wb,tq h,J9 (by omega)];rfl
theorem EB{a b:Nat}(h:a*b<9223372036854775808)(H:Heap):aF (nI .i64 a) (nI .i64 b) H=.val (nI .i64 (a*b)) H:=by
 show Z3 (Oz .i64 .i64) (UX .i64 (zq (.ofNat a) (.ofNat b)) H)=_
 rw[X4,Wb,G2,J9 h];rfl
theorem p8{a b:Nat}(h:0<b)(H:Heap):vN (nI .i64 a) (nI .i64 b) H=.val (nI .i64 (a % b)) H:=by
 show Z3 (Oz .i64 .i64) (cond (FW (.ofNat b) (.ofNat 0)) .fail (QB (.ofNat (Nat.mod a b)) λn=>.val (.int .i64 n) H))=_
 rw[X4,ON,Ze (by omega),SM];rfl
theorem ZhT{a b:Nat}(h:0<b)(h2:a<9223372036854775808)(H:Heap):Zal (nI .i64 a) (nI .i64 b) H=.val (nI .i64 (a/b)) H:=by
 show Z3 (Oz .i64 .i64) (cond (FW (.ofNat b) (.ofNat 0)) .fail (UX .i64 (.ofNat (Nat.div a b)) H))=_
 rw[X4,ON,Ze (by omega),Wb,show(Int.ofNat (Nat.div a b))=Int.ofNat (a/b) from rfl,J9 (TZ (PC a b) h2)];rfl
theorem Zy(k:IntKind)(a b:Nat)(H:Heap):Te Wf Xo (nI k a) (nI k b) H=.val (.bool (decide (a<b))) H:=by
 show Z3 (Oz k k) (Rr (yT (.ofNat a) (.ofNat b)) H)=_
 rw[X4,T4,M1];rfl
theorem ZM(k:IntKind)(a b:Nat)(H:Heap):Te Re Vi (nI k a) (nI k b) H=.val (.bool (decide (b<=a))) H:=by
 show Z3 (Oz k k) (Rr (!yT (.ofNat a) (.ofNat b)) H)=_
 rw[X4,T4,M1]
 show OR.val (.bool (!decide (a<b))) H=_
 congr 2
 by_cases h:a<b
 ·rw[Zj h,Ze (by omega)];rfl
 ·rw[Ze h,Zj (by omega)];rfl
theorem Y7(k:IntKind)(a b:Nat)(H:Heap):MU UB true (nI k a) (nI k b) H=.val (.bool (decide (a≠b))) H:=by
 show Sr (cond (Oz k k) (some (FW (.ofNat a) (.ofNat b))) none) _=_
 rw[X4,ON]
 show Rr (cond true (cond (decide (a=b)) false true) (decide (a=b))) H=_
 rw[T4]
 congr 2
 by_cases h:a=b
 ·rw[Zj h,Ze (by omega)];rfl
 ·rw[Ze h,Zj h];rfl
theorem YN(k:IntKind)(a b:Nat)(H:Heap):MU UB false (nI k a) (nI k b) H=.val (.bool (decide (a=b))) H:=by
 show Sr (cond (Oz k k) (some (FW (.ofNat a) (.ofNat b))) none) _=_
 rw[X4,ON]
 exact T4 _ _
theorem Cx(a b:UInt32)(H:Heap):RI (Y2 a) (Y2 b) H=.val (Y2 (a+b)) H:=by
 show Z3 (Oz .u32 .u32) (UX .u32 (tf (.ofNat a.toNat) (.ofNat b.toNat)) H)=_
 rw[X4,Wb,G1,P5];unfold Y2;rw[UInt32.toNat_add];rfl
theorem ax(a:UInt32):a.toNat<4294967296:=a.toNat_lt
theorem wq{f:Nat->Nat->Nat->Nat}{a b c:UInt32}(h:f 4294967296 a.toNat b.toNat=c.toNat)(H:Heap):KS f (Y2 a) (Y2 b) H=.val (Y2 c) H:=by
 show Z3 (Oz .u32 .u32) (UX .u32 (.ofNat (f 4294967296 (UP 4294967296 (.ofNat a.toNat)) (UP 4294967296 (.ofNat b.toNat)))) H)=_
 rw[X4,Wb,Hq,Hq,YD (ax a),YD (ax b),h,P5,YD (ax c)];rfl
theorem Zcf(a b:UInt32)(H:Heap):KS TT (Y2 a) (Y2 b) H=.val (Y2 (a&&&b)) H:=wq (UInt32.toNat_and a b).symm H
theorem a9(a b:UInt32)(H:Heap):KS tF (Y2 a) (Y2 b) H=.val (Y2 (a|||b)) H:=wq (UInt32.toNat_or a b).symm H
theorem kG(a b:UInt32)(H:Heap):KS Ia (Y2 a) (Y2 b) H=.val (Y2 (a^^^b)) H:=wq (UInt32.toNat_xor a b).symm H
theorem ZdZ(a:UInt32)(H:Heap):Zb1 (Y2 a) H=.val (Y2 (~~~a)) H:=by
 show UX .u32 (.ofNat (Nat.sub (Nat.sub 4294967296 1) (UP 4294967296 (.ofNat a.toNat)))) H=_
 rw[Wb,Hq,YD (ax a),P5]
 unfold Y2
 rw[UInt32.toNat_not]
 have:=ax a
 congr 3
 show(4294967296 - 1 - a.toNat) % 4294967296=4294967296 - 1 - a.toNat
 omega
theorem vQ(a:UInt32){n:Nat}(h:n<32)(H:Heap):re (Y2 a) (nI .u64 n) H=.val (Y2 (a>>>UInt32.ofNat n)) H:=by
 show QB (.ofNat (Nat.div a.toNat (Nat.pow 2 (Ob n 32)))) (λn=>OR.val (.int .u32 n) H)=_
 rw[SM]
 unfold Y2
 rw[UInt32.toNat_shiftRight,UInt32.toNat_ofNat_of_lt' (show n<UInt32.size from Qm h (by decide)),YD h,Nat.shiftRight_eq_div_pow]
 have:Ob n 32=n:=by unfold Ob;rw[Zg (by omega)];rfl
 rw[this];rfl
theorem lO(a:UInt32){n:Nat}(h:n<32)(H:Heap):ZeE (Y2 a) (nI .u64 n) H=.val (Y2 (a<<<UInt32.ofNat n)) H:=by
 show UX .u32 (zq (.ofNat a.toNat) (.ofNat (Nat.pow 2 (cond (Nat.ble n 64) n 64)))) H=_
 rw[Wb,G2,P5,Zg (show n<=64 by omega)]
 unfold Y2
 rw[UInt32.toNat_shiftLeft,UInt32.toNat_ofNat_of_lt' (show n<UInt32.size from Qm h (by decide)),YD h,Nat.shiftLeft_eq]
 rfl
end
structure Cells(r:Row)(l:List AV):Prop where
 size:r.size=l.length
 get: ∀i,i<l.length->r.get i=l.getD i .unk
theorem Cells.load{r:Row}{l:List AV}(h:Cells r l){o n:Nat}(hn:o+n<=l.length):Vr r o n=(l.drop o).take n:=by
 refine WM λj=>?_
 by_cases hj:j<n
 ·rw[Rw r n o j hj,XT hj,XV,h.get (o+j) (by omega),Zf]
  rw[Zn (show o+j<l.length by omega)];rfl
 ·rw[Xh (by rw[Rf];omega),Xh (by rw[Z4,YW];omega)]
theorem Cells.store{r:Row}{l:List AV}(h:Cells r l){o:Nat}{vs:List AV}(ho:o+vs.length<=l.length):Cells (r.setCells (Xj r.cells o vs)) (l.take o++(vs++l.drop (o+vs.length))):=by
 have hlen:(l.take o++(vs++l.drop (o+vs.length))).length=l.length:=by
  rw[Zm,Zm,Z4,YW];omega
 refine⟨by rw[hlen];exact h.size,λi hi=>?_⟩
 rw[hlen] at hi
 rw[Row.get_eq]
 show((Xj r.cells o vs).get i).getD r.dflt=_
 rw[Qg,Zf]
 by_cases h1:o<=i∧i<o+vs.length
 ·rw[if_pos h1,Yz (by rw[Z4];omega),Z4,Wh (by omega),Yt (by omega),
   Zn (show i - o<vs.length by omega)];rfl
 ·rw[if_neg h1]
  have h2:=h.get i hi
  rw[Row.get_eq,Zf] at h2
  rw[h2]
  by_cases h3:i<o
  ·rw[Yt (by rw[Z4];omega),XT h3]
  ·rw[Yz (by rw[Z4];omega),Z4,Wh (by omega),Yz (by omega),XV,
    show o+vs.length+(i - o - vs.length)=i by omega]
theorem Cells.store1{r:Row}{l:List AV}(h:Cells r l){o:Nat}{v:AV}(ho:o<l.length):Cells (r.setCells (Xj r.cells o [v])) (l.set o v):=by
 have:=h.store (o:=o) (vs:=[v]) (by simp;omega)
 rw[List.set_eq_take_append_cons_drop,if_pos ho]
 exact this
theorem Cells.new(e sz:Nat)(l:List AV)(fz:Nat)(sm own ex:Bool):Cells ⟨e,sz,Xc l,T.ofList l,.unk,fz,sm,own,ex⟩ l:=by
 refine⟨Xb l,λi hi=>?_⟩
 rw[Row.get_eq]
 show((T.ofList l).get i).getD .unk=_
 rw[T.get_ofList,Zf]
theorem Cells.zero(e n:Nat)(v:AV)(fz:Nat)(sm own ex:Bool):Cells ⟨e,1,n,.leaf,v,fz,sm,own,ex⟩ (List.replicate n v):=by
 refine⟨by simp,λi hi=>?_⟩
 rw[Yu] at hi
 rw[Row.get_eq]
 show((T.leaf:T AV).get i).getD v=_
 rw[T.get_leaf,Zf,Wp,if_pos hi];rfl
structure Own(H:Heap)(b e:Nat)(l:List AV)(r:Row):Prop where
 at_:H.t.get b=some (.row r)
 elem:r.elem=e
 sz:r.sz=1
 own:r.own=true
 fz:r.fz=0
 sm:r.sm=false
 cells:Cells r l
 ro:H.ro<=b
noncomputable def TI(a:AV)(H:Heap):OR:=Qx a λb o=>Xv H b λr=>Z3 (Nat.ble (Nat.succ o) r.size) (.val (r.get o) H)
noncomputable def JH(n:Nat)(a:AV)(H:Heap):OR:=Qx a λb o=>Xv H b λr=>Z3 (Nat.ble (Nat.add o n) r.size) (.val (.agg (Vr r o n)) H)
noncomputable def RE(n:Nat)(a v:AV)(H:Heap):OR:=Qx a λb o=>Xv H b λr=>
 Z3 (Nat.ble 1 n)<|Z3 (H.may r b) (Z3 (Nat.ble (Nat.add o n) r.size) (Z3 (Nat.ble r.fz o) (Z3 (Nat.beq (Xc v.cells) n)
  (.val XE (H.put b (.row (r.setCells (Xj r.cells o v.cells))))))))
def Zd6(n:Nat)(a:AV)(H:Heap):OR:=Qx a λb o=>.val (.ptr b (Nat.add o n)) H
def yS(n sz:Nat)(a i:AV)(H:Heap):OR:=SX i λi=>Qx a λb o=>Z3 (Nat.ble (Nat.succ i) n) (.val (.ptr b (Nat.add o (Nat.mul i sz))) H)
def IZ(sz:Nat)(a i:AV)(H:Heap):OR:=SX i λi=>Sf a .fail λb o len _=>Z3 (Nat.ble (Nat.succ i) len) (.val (.ptr b (Nat.add o (Nat.mul i sz))) H)
def ZdW(a:AV)(H:Heap):OR:=vx a (.val a H)
noncomputable def lenV(a:AV)(H:Heap):OR:=onZ a (.val (.int .i64 0) H)<|Sf a (.val (.int .i64 0) H) λ_ _ n _=>SN n λn=>.val (.int .i64 (.ofNat n)) H
theorem TL(x:YG)(tm:TM)(H:Heap):Yr x tm H=TI (x tm) H:=rfl
theorem NZ(x:YG)(n:Nat)(tm:TM)(H:Heap):Uk x n tm H=JH n (x tm) H:=rfl
theorem Tb(x y:YG)(n:Nat)(tm:TM)(H:Heap):Xy x y n tm H=RE n (x tm) (y tm) H:=rfl
theorem O8(x:YG)(n:Nat)(tm:TM)(H:Heap):Xz x n tm H=Zd6 n (x tm) H:=rfl
theorem NY(x y:YG)(n sz:Nat)(tm:TM)(H:Heap):VE x y n sz tm H=yS n sz (x tm) (y tm) H:=rfl
theorem ED(x y:YG)(sz:Nat)(tm:TM)(H:Heap):Vn x y sz tm H=IZ sz (x tm) (y tm) H:=rfl
theorem O7(x:YG)(tm:TM)(H:Heap):Tx x tm H=ZdW (x tm) H:=rfl
theorem Pn(x:YG)(tm:TM)(H:Heap):X9 x tm H=lenV (x tm) H:=rfl
theorem RY(e n:Nat)(v:AV)(tm:TM)(H:Heap):RH e n v tm H=.val (.ptr H.nx 0) (H.new (.row ⟨e,1,n,.leaf,v,0,false,true,true⟩)):=rfl
theorem Al(e:Nat)(cs:List AV)(h:1<=Xc cs)(tm:TM)(H:Heap):V9 e cs tm H=.val (.ptr H.nx 0) (H.newRow e 1 cs true):=by
 show Z3 (Nat.ble 1 (Xc cs)) _=_
 rw[Zg h];rfl
theorem Vk(n b o:Nat)(H:Heap):Zd6 n (.ptr b o) H=.val (.ptr b (o+n)) H:=rfl
theorem Us(b o:Nat)(H:Heap):ZdW (.ptr b o) H=.val (.ptr b o) H:=rfl
theorem V8(b o n:Nat)(c:Option Nat)(H:Heap):lenV (.slice b o n c) H=.val (nI .i64 n) H:=by
 show SN n (λn=>OR.val (.int .i64 (.ofNat n)) H)=_
 rw[Qo];rfl
theorem tx(H:Heap):lenV .slice0 H=.val (nI .i64 0) H:=rfl
theorem B9(H:Heap):lenV .nils H=.val (nI .i64 0) H:=rfl
theorem Yq{n i:Nat}(h:i<n)(b o:Nat)(k:IntKind)(H:Heap):yS n 1 (.ptr b o) (nI k i) H=.val (.ptr b (o+i)) H:=by
 show Z3 (Nat.ble (Nat.succ i) n) (.val (.ptr b (o+i*1)) H)=_
 rw[Zg h,Xf];rfl
theorem ZY{n i:Nat}(h:i<n)(b o:Nat)(c:Option Nat)(k:IntKind)(H:Heap):IZ 1 (.slice b o n c) (nI k i) H=.val (.ptr b (o+i)) H:=by
 show Z3 (Nat.ble (Nat.succ i) n) (.val (.ptr b (o+i*1)) H)=_
 rw[Zg h,Xf];rfl
theorem Ta{H:Heap}{b o:Nat}{r:Row}{l:List AV}(hr:H.t.get b=some (.row r))(hc:Cells r l)(ho:o<l.length):TI (.ptr b o) H=.val (l.getD o .unk) H:=by
 show Xv H b _=_
 unfold Xv
 rw[hr]
 show Z3 (Nat.ble (Nat.succ o) r.size) _=_
 rw[hc.size,Zg ho,hc.get o ho];rfl
theorem NX{H:Heap}{b o n:Nat}{r:Row}{l:List AV}(hr:H.t.get b=some (.row r))(hc:Cells r l)(ho:o+n<=l.length):JH n (.ptr b o) H=.val (.agg ((l.drop o).take n)) H:=by
 show Xv H b _=_
 unfold Xv
 rw[hr]
 show Z3 (Nat.ble (o+n) r.size) _=_
 rw[hc.size,Zg ho,hc.load ho];rfl
theorem UJ{H:Heap}{b o n:Nat}{r:Row}{l:List AV}{v:AV}(hr:H.t.get b=some (.row r))(hc:Cells r l)(how:r.own=true)(hro:H.ro<=b)(hfz:r.fz=0)(hn:1<=n)(hv:v.cells.length=n)(ho:o+n<=l.length):
  RE n (.ptr b o) v H=.val XE (H.put b (.row (r.setCells (Xj r.cells o v.cells)))):=by
 show Xv H b _=_
 unfold Xv
 rw[hr]
 show Z3 (Nat.ble 1 n) (Z3 (H.may r b) (Z3 (Nat.ble (o+n) r.size) (Z3 (Nat.ble r.fz o) (Z3 (Nat.beq (Xc v.cells) n) _))))=_
 have h1:H.may r b=true:=by unfold Heap.may;rw[how,Zg hro];rfl
 rw[Zg hn,h1,hc.size,Zg ho,hfz,Zg (ZB _),Xb,hv,Xd];rfl
theorem U5(H:Heap)(b c:Nat)(o:Obj):(H.put b o).t.get c=if b=c then some o else H.t.get c:=T.get_set _ _ _ _
theorem VX(H:Heap)(c:Nat)(o:Obj):(H.new o).t.get c=if H.nx=c then some o else H.t.get c:=T.get_set _ _ _ _
theorem Ll(H:Heap)(b:Nat)(o:Obj):(H.put b o).nx=H.nx:=rfl
theorem p5(H:Heap)(b:Nat)(o:Obj):(H.put b o).ro=H.ro:=rfl
theorem JK(H:Heap)(o:Obj):(H.new o).nx=H.nx+1:=rfl
theorem aH(H:Heap)(o:Obj):(H.new o).ro=H.ro:=rfl
theorem T1(H:Heap)(e sz:Nat)(l:List AV)(ex:Bool):H.newRow e sz l ex=H.new (.row ⟨e,sz,Xc l,T.ofList l,.unk,0,false,true,ex⟩):=rfl
theorem Ki(l:List PI)(c:Ctx)(tm:TM)(H:Heap)(x:X):W7 l c tm H x=Ut (l.map (·.dst)) JM l c [] tm H x:=rfl
theorem Iv(ds:List Yd)(fin:PK)(c:Ctx)(rs:List RD)(tm:TM)(H:Heap)(x:X):Ut ds fin [] c rs tm H x=cond (still tm H rs) (fin rs tm H x) .fail:=rfl
theorem KA(ds:List Yd)(fin:PK)(p:PI)(l:List PI)(c:Ctx)(rs:List RD)(tm:TM)(H:Heap)(x:X):Ut ds fin (p::l) c rs tm H x=Rq ds p (Ut ds fin l c) c rs tm H x:=rfl
theorem Iq(rs:List RD)(tm:TM)(H:Heap)(x:X):JM rs tm H x=.ok .normal tm H x:=rfl
section
variable (ds:List Yd) (f:VA) (os:List (Yd×YG)) (dst:Yd) (i bef:Nat) (nx:PK) (c:Ctx) (rs:List RD) (tm:TM) (H:Heap) (x:X)
theorem KL:Rq ds ⟨f,none,os,dst,.free,i,bef⟩ nx c rs tm H x=cond (Qw H.nx tm os) (Jt ⟨f,none,os,dst,.free,i,bef⟩ nx rs tm H x (f (Pd tm os) ⟨H.nx,.leaf,H.nx⟩)) .fail:=rfl
theorem KM:Rq ds ⟨f,none,os,dst,.read,i,bef⟩ nx c rs tm H x=I2 ⟨f,none,os,dst,.read,i,bef⟩ nx rs tm H x (f (Pd tm os) ⟨H.nx,H.t,H.nx⟩):=rfl
theorem IC:Rq ds ⟨f,none,os,dst,.eff,i,bef⟩ nx c rs tm H x=cond (still tm H rs) (GD ds ⟨f,none,os,dst,.eff,i,bef⟩ nx rs c tm x (f (Pd tm os) H)) .fail:=rfl
variable (g:Option (YG×Bool)) (kd:Gl) (v:AV) (H':Heap)
theorem Ig:Jt ⟨f,g,os,dst,kd,i,bef⟩ nx rs tm H x (.val v ⟨H.nx,.leaf,H.nx⟩)=nx rs (dst tm v) H x:=by
 show cond (Nat.beq H.nx H.nx) (nx rs (dst tm v) H x) _=_
 rw[Xd];rfl
theorem EI:I2 ⟨f,g,os,dst,kd,i,bef⟩ nx rs tm H x (.val v ⟨H.nx,H.t,H.nx⟩)=nx (⟨⟨f,g,os,dst,kd,i,bef⟩,v⟩::rs) (dst tm v) H x:=by
 show cond (Nat.beq H.nx H.nx) _ _=_
 rw[Xd];rfl
theorem GF:GD ds ⟨f,g,os,dst,kd,i,bef⟩ nx rs c tm x (.val v H')=nx (Th bef rs) (dst tm v) H' x:=rfl
theorem yc(q:Nat)(args:List AV):GD ds ⟨f,g,os,dst,kd,i,bef⟩ nx rs c tm x (.oth (.call q args H'))=AG ds ⟨f,g,os,dst,kd,i,bef⟩ nx rs tm x (c.call q args H'):=rfl
theorem sP:AG ds ⟨f,g,os,dst,kd,i,bef⟩ nx rs tm x (.ret v H')=nx (Th bef rs) (dst tm v) H' x:=rfl
theorem Ih(b:Nat):Th b []=[]:=rfl
theorem Kt(b:Nat):Th b (⟨⟨f,g,os,dst,kd,i,bef⟩,v⟩::rs)=cond (Nat.testBit b i) (Th b rs) (⟨⟨f,g,os,dst,kd,i,bef⟩,v⟩::Th b rs):=rfl
theorem ID:still tm H []=true:=rfl
theorem KN:still tm H (⟨⟨f,g,os,dst,kd,i,bef⟩,v⟩::rs)=cond (sL ⟨⟨f,g,os,dst,kd,i,bef⟩,v⟩ tm H) (still tm H rs) false:=rfl
noncomputable def UR(r:OR)(w:AV)(n:Nat):Bool:=OR.rec (λv H1=>cond (Nat.beq H1.nx n) (same v w) false) (λ_=>false) r
theorem Fu:sL ⟨⟨f,g,os,dst,kd,i,bef⟩,v⟩ tm H=UR (f (Pd tm os) ⟨H.nx,H.t,H.nx⟩) v H.nx:=rfl
end
theorem Sp(v:AV)(n:Nat)(t:T Obj)(h:same v v=true):UR (.val v ⟨n,t,n⟩) v n=true:=by
 show cond (Nat.beq n n) (same v v) false=true
 rw[Xd,h];rfl
theorem JZ(k:IntKind)(n:Int):same (.int k n) (.int k n)=true:=by
 show cond (Oz k k) (FW n n) false=true
 rw[X4,Oy];simp
theorem ZaC(x:UInt32):same (Y2 x) (Y2 x)=true:=JZ ..
theorem ZeD(x:UInt8):same (X8 x) (X8 x)=true:=JZ ..
theorem lN(k:IntKind)(n:Nat):same (nI k n) (nI k n)=true:=JZ ..
theorem Ks(v:UInt32)(n:Nat)(t:T Obj):UR (.val (Y2 v) ⟨n,t,n⟩) (Y2 v) n=true:=Sp _ _ _ (ZaC v)
theorem jR(v:UInt8)(n:Nat)(t:T Obj):UR (.val (X8 v) ⟨n,t,n⟩) (X8 v) n=true:=Sp _ _ _ (ZeD v)
theorem jQ(k:IntKind)(v:Nat)(n:Nat)(t:T Obj):UR (.val (nI k v) ⟨n,t,n⟩) (nI k v) n=true:=Sp _ _ _ (lN k v)
theorem Ik(n:Nat)(tm:TM):Qw n tm []=true:=rfl
theorem Kv(n:Nat)(tm:TM)(s:Yd)(g:YG)(os:List (Yd×YG)):Qw n tm ((s,g)::os)=cond (Wu n (g tm)) (Qw n tm os) false:=rfl
theorem G5(n:Nat)(k:IntKind)(m:Nat):Wu n (nI k m)=true:=rfl
theorem G6(n:Nat)(x:UInt32):Wu n (Y2 x)=true:=rfl
theorem mU(n:Nat)(x:UInt8):Wu n (X8 x)=true:=rfl
theorem yZ(n:Nat)(x:Bool):Wu n (.bool x)=true:=rfl
theorem ZN{n b:Nat}(h:b<n)(o:Nat):Wu n (.ptr b o)=true:=Zg h
theorem Yp{n b:Nat}(h:b<n)(o l:Nat)(c:Option Nat):Wu n (.slice b o l c)=true:=Zg h
theorem CP(tm:TM):Pd tm []=OM:=rfl
theorem Fz(tm:TM)(s:Yd)(g:YG)(os:List (Yd×YG)):Pd tm ((s,g)::os)=s (Pd tm os) (g tm):=rfl
theorem Um(tm:TM):Y3 tm=N8.a0 (N8.a0 (N8.a0 tm)):=rfl
theorem ER(tm:TM)(v:AV):st0 tm v=N8.u0 (N8.u0 (N8.u0 λ_=>v)) tm:=rfl
theorem Mi(tm:TM):Wv tm=N8.a1 (N8.a0 (N8.a0 tm)):=rfl
theorem gS(tm:TM)(v:AV):st1 tm v=N8.u0 (N8.u0 (N8.u1 λ_=>v)) tm:=rfl
theorem Oa(tm:TM):Uv tm=N8.a2 (N8.a0 (N8.a0 tm)):=rfl
theorem gU(tm:TM)(v:AV):st2 tm v=N8.u0 (N8.u0 (N8.u2 λ_=>v)) tm:=rfl
theorem RK(tm:TM):VL tm=N8.a3 (N8.a0 (N8.a0 tm)):=rfl
theorem oD(tm:TM)(v:AV):Tc tm v=N8.u0 (N8.u0 (N8.u3 λ_=>v)) tm:=rfl
theorem TG(tm:TM):XQ tm=N8.a4 (N8.a0 (N8.a0 tm)):=rfl
theorem ES(tm:TM)(v:AV):XL tm v=N8.u0 (N8.u0 (N8.u4 λ_=>v)) tm:=rfl
theorem QD(tm:TM):Wa tm=N8.a5 (N8.a0 (N8.a0 tm)):=rfl
theorem ET(tm:TM)(v:AV):Vq tm v=N8.u0 (N8.u0 (N8.u5 λ_=>v)) tm:=rfl
theorem JC(tm:TM):Ve tm=N8.a6 (N8.a0 (N8.a0 tm)):=rfl
theorem AY(tm:TM)(v:AV):VV tm v=N8.u0 (N8.u0 (N8.u6 λ_=>v)) tm:=rfl
theorem LG(tm:TM):WH tm=N8.a7 (N8.a0 (N8.a0 tm)):=rfl
theorem zJ(tm:TM)(v:AV):Uu tm v=N8.u0 (N8.u0 (N8.u7 λ_=>v)) tm:=rfl
theorem HH(tm:TM):WD tm=N8.a0 (N8.a1 (N8.a0 tm)):=rfl
theorem vU(tm:TM)(v:AV):V2 tm v=N8.u0 (N8.u1 (N8.u0 λ_=>v)) tm:=rfl
theorem IK(tm:TM):Vc tm=N8.a1 (N8.a1 (N8.a0 tm)):=rfl
theorem r7(tm:TM)(v:AV):Ts tm v=N8.u0 (N8.u1 (N8.u1 λ_=>v)) tm:=rfl
theorem LD(tm:TM):XF tm=N8.a2 (N8.a1 (N8.a0 tm)):=rfl
theorem AW(tm:TM)(v:AV):Wj tm v=N8.u0 (N8.u1 (N8.u2 λ_=>v)) tm:=rfl
theorem QO(tm:TM):XO tm=N8.a3 (N8.a1 (N8.a0 tm)):=rfl
theorem Hh(tm:TM)(v:AV):Wm tm v=N8.u0 (N8.u1 (N8.u3 λ_=>v)) tm:=rfl
theorem LF(tm:TM):X6 tm=N8.a4 (N8.a1 (N8.a0 tm)):=rfl
theorem FO(tm:TM)(v:AV):WE tm v=N8.u0 (N8.u1 (N8.u4 λ_=>v)) tm:=rfl
theorem JB(tm:TM):XR tm=N8.a5 (N8.a1 (N8.a0 tm)):=rfl
theorem D6(tm:TM)(v:AV):WA tm v=N8.u0 (N8.u1 (N8.u5 λ_=>v)) tm:=rfl
theorem IY(tm:TM):Wi tm=N8.a6 (N8.a1 (N8.a0 tm)):=rfl
theorem D7(tm:TM)(v:AV):W2 tm v=N8.u0 (N8.u1 (N8.u6 λ_=>v)) tm:=rfl
theorem GW(tm:TM):Wk tm=N8.a7 (N8.a1 (N8.a0 tm)):=rfl
theorem AX(tm:TM)(v:AV):W9 tm v=N8.u0 (N8.u1 (N8.u7 λ_=>v)) tm:=rfl
theorem Dv(tm:TM):Ww tm=N8.a0 (N8.a2 (N8.a0 tm)):=rfl
theorem xZ(tm:TM)(v:AV):W3 tm v=N8.u0 (N8.u2 (N8.u0 λ_=>v)) tm:=rfl
theorem yL(tm:TM):WW tm=N8.a1 (N8.a2 (N8.a0 tm)):=rfl
theorem rU(tm:TM)(v:AV):Vm tm v=N8.u0 (N8.u2 (N8.u1 λ_=>v)) tm:=rfl
theorem Dw(tm:TM):WX tm=N8.a2 (N8.a2 (N8.a0 tm)):=rfl
theorem x4(tm:TM)(v:AV):Vw tm v=N8.u0 (N8.u2 (N8.u2 λ_=>v)) tm:=rfl
theorem B0(tm:TM):WC tm=N8.a3 (N8.a2 (N8.a0 tm)):=rfl
theorem rX(tm:TM)(v:AV):V0 tm v=N8.u0 (N8.u2 (N8.u3 λ_=>v)) tm:=rfl
theorem yM(tm:TM):VU tm=N8.a4 (N8.a2 (N8.a0 tm)):=rfl
theorem ki(tm:TM)(v:AV):Ue tm v=N8.u0 (N8.u2 (N8.u4 λ_=>v)) tm:=rfl
theorem nT(tm:TM):VJ tm=N8.a5 (N8.a2 (N8.a0 tm)):=rfl
theorem kj(tm:TM)(v:AV):UU tm v=N8.u0 (N8.u2 (N8.u5 λ_=>v)) tm:=rfl
theorem B1(tm:TM):VK tm=N8.a6 (N8.a2 (N8.a0 tm)):=rfl
theorem kl(tm:TM)(v:AV):UV tm v=N8.u0 (N8.u2 (N8.u6 λ_=>v)) tm:=rfl
theorem B2(tm:TM):Ui tm=N8.a7 (N8.a2 (N8.a0 tm)):=rfl
theorem km(tm:TM)(v:AV):UZ tm v=N8.u0 (N8.u2 (N8.u7 λ_=>v)) tm:=rfl
theorem Dx(tm:TM):V1 tm=N8.a0 (N8.a3 (N8.a0 tm)):=rfl
theorem x5(tm:TM)(v:AV):UW tm v=N8.u0 (N8.u3 (N8.u0 λ_=>v)) tm:=rfl
theorem yN(tm:TM):UY tm=N8.a1 (N8.a3 (N8.a0 tm)):=rfl
theorem x6(tm:TM)(v:AV):Ti tm v=N8.u0 (N8.u3 (N8.u1 λ_=>v)) tm:=rfl
theorem uW(tm:TM):UD tm=N8.a2 (N8.a3 (N8.a0 tm)):=rfl
theorem rY(tm:TM)(v:AV):Tj tm v=N8.u0 (N8.u3 (N8.u2 λ_=>v)) tm:=rfl
theorem uX(tm:TM):Uq tm=N8.a3 (N8.a3 (N8.a0 tm)):=rfl
theorem rZ(tm:TM)(v:AV):U0 tm v=N8.u0 (N8.u3 (N8.u3 λ_=>v)) tm:=rfl
theorem nU(tm:TM):UE tm=N8.a4 (N8.a3 (N8.a0 tm)):=rfl
theorem kn(tm:TM)(v:AV):Tk tm v=N8.u0 (N8.u3 (N8.u4 λ_=>v)) tm:=rfl
theorem nX(tm:TM):VP tm=N8.a5 (N8.a3 (N8.a0 tm)):=rfl
theorem ko(tm:TM)(v:AV):TP tm v=N8.u0 (N8.u3 (N8.u5 λ_=>v)) tm:=rfl
theorem nY(tm:TM):Sa tm=N8.a6 (N8.a3 (N8.a0 tm)):=rfl
theorem kr(tm:TM)(v:AV):TW tm v=N8.u0 (N8.u3 (N8.u6 λ_=>v)) tm:=rfl
theorem uY(tm:TM):Sn tm=N8.a7 (N8.a3 (N8.a0 tm)):=rfl
theorem r6(tm:TM)(v:AV):SU tm v=N8.u0 (N8.u3 (N8.u7 λ_=>v)) tm:=rfl
theorem nZ(tm:TM):SP tm=N8.a0 (N8.a4 (N8.a0 tm)):=rfl
theorem ku(tm:TM)(v:AV):Rp tm v=N8.u0 (N8.u4 (N8.u0 λ_=>v)) tm:=rfl
theorem cu(tm:TM):RA tm=N8.a1 (N8.a4 (N8.a0 tm)):=rfl
theorem Zba(tm:TM)(v:AV):RM tm v=N8.u0 (N8.u4 (N8.u1 λ_=>v)) tm:=rfl
theorem cz(tm:TM):Rc tm=N8.a2 (N8.a4 (N8.a0 tm)):=rfl
theorem Zbb(tm:TM)(v:AV):QH tm v=N8.u0 (N8.u4 (N8.u2 λ_=>v)) tm:=rfl
theorem cA(tm:TM):RB tm=N8.a3 (N8.a4 (N8.a0 tm)):=rfl
theorem Zbc(tm:TM)(v:AV):QI tm v=N8.u0 (N8.u4 (N8.u3 λ_=>v)) tm:=rfl
theorem cC(tm:TM):RT tm=N8.a4 (N8.a4 (N8.a0 tm)):=rfl
theorem Zbd(tm:TM)(v:AV):Pe tm v=N8.u0 (N8.u4 (N8.u4 λ_=>v)) tm:=rfl
theorem cD(tm:TM):Q8 tm=N8.a5 (N8.a4 (N8.a0 tm)):=rfl
theorem Zbe(tm:TM)(v:AV):Pf tm v=N8.u0 (N8.u4 (N8.u5 λ_=>v)) tm:=rfl
theorem cE(tm:TM):QM tm=N8.a6 (N8.a4 (N8.a0 tm)):=rfl
theorem Zbf(tm:TM)(v:AV):QW tm v=N8.u0 (N8.u4 (N8.u6 λ_=>v)) tm:=rfl
theorem cF(tm:TM):Pu tm=N8.a7 (N8.a4 (N8.a0 tm)):=rfl
theorem Zbg(tm:TM)(v:AV):Pw tm v=N8.u0 (N8.u4 (N8.u7 λ_=>v)) tm:=rfl
theorem cG(tm:TM):QN tm=N8.a0 (N8.a5 (N8.a0 tm)):=rfl
theorem Zbh(tm:TM)(v:AV):P3 tm v=N8.u0 (N8.u5 (N8.u0 λ_=>v)) tm:=rfl
theorem cH(tm:TM):PO tm=N8.a1 (N8.a5 (N8.a0 tm)):=rfl
theorem Zbi(tm:TM)(v:AV):P4 tm v=N8.u0 (N8.u5 (N8.u1 λ_=>v)) tm:=rfl
theorem cI(tm:TM):QC tm=N8.a2 (N8.a5 (N8.a0 tm)):=rfl
theorem Zbj(tm:TM)(v:AV):Oe tm v=N8.u0 (N8.u5 (N8.u2 λ_=>v)) tm:=rfl
theorem cJ(tm:TM):Pv tm=N8.a3 (N8.a5 (N8.a0 tm)):=rfl
theorem Zbk(tm:TM)(v:AV):QX tm v=N8.u0 (N8.u5 (N8.u3 λ_=>v)) tm:=rfl
theorem cL(tm:TM):Qr tm=N8.a4 (N8.a5 (N8.a0 tm)):=rfl
theorem Zbl(tm:TM)(v:AV):Of tm v=N8.u0 (N8.u5 (N8.u4 λ_=>v)) tm:=rfl
theorem n7(tm:TM):PP tm=N8.a5 (N8.a5 (N8.a0 tm)):=rfl
theorem Zbm(tm:TM)(v:AV):OK tm v=N8.u0 (N8.u5 (N8.u5 λ_=>v)) tm:=rfl
theorem cM(tm:TM):P9 tm=N8.a6 (N8.a5 (N8.a0 tm)):=rfl
theorem Zbn(tm:TM)(v:AV):Nd tm v=N8.u0 (N8.u5 (N8.u6 λ_=>v)) tm:=rfl
theorem cN(tm:TM):Q9 tm=N8.a7 (N8.a5 (N8.a0 tm)):=rfl
theorem Zbo(tm:TM)(v:AV):Nf tm v=N8.u0 (N8.u5 (N8.u7 λ_=>v)) tm:=rfl
theorem cO(tm:TM):NF tm=N8.a0 (N8.a6 (N8.a0 tm)):=rfl
theorem Zbp(tm:TM)(v:AV):Nx tm v=N8.u0 (N8.u6 (N8.u0 λ_=>v)) tm:=rfl
theorem cP(tm:TM):NG tm=N8.a1 (N8.a6 (N8.a0 tm)):=rfl
theorem Zbq(tm:TM)(v:AV):NN tm v=N8.u0 (N8.u6 (N8.u1 λ_=>v)) tm:=rfl
theorem Zfc(tm:TM):MB tm=N8.a2 (N8.a6 (N8.a0 tm)):=rfl
theorem Zbr(tm:TM)(v:AV):NO tm v=N8.u0 (N8.u6 (N8.u2 λ_=>v)) tm:=rfl
theorem yO(tm:TM):RU tm=N8.a3 (N8.a6 (N8.a0 tm)):=rfl
theorem kw(tm:TM)(v:AV):NQ tm v=N8.u0 (N8.u6 (N8.u3 λ_=>v)) tm:=rfl
theorem mc(tm:TM):Md tm=N8.a4 (N8.a6 (N8.a0 tm)):=rfl
theorem ky(tm:TM)(v:AV):MH tm v=N8.u0 (N8.u6 (N8.u4 λ_=>v)) tm:=rfl
theorem cQ(tm:TM):Nm tm=N8.a5 (N8.a6 (N8.a0 tm)):=rfl
theorem Zbs(tm:TM)(v:AV):Mu tm v=N8.u0 (N8.u6 (N8.u5 λ_=>v)) tm:=rfl
theorem md(tm:TM):Nn tm=N8.a6 (N8.a6 (N8.a0 tm)):=rfl
theorem Zbt(tm:TM)(v:AV):Mv tm v=N8.u0 (N8.u6 (N8.u6 λ_=>v)) tm:=rfl
theorem mf(tm:TM):Me tm=N8.a7 (N8.a6 (N8.a0 tm)):=rfl
theorem Zbu(tm:TM)(v:AV):MI tm v=N8.u0 (N8.u6 (N8.u7 λ_=>v)) tm:=rfl
theorem mg(tm:TM):O1 tm=N8.a0 (N8.a7 (N8.a0 tm)):=rfl
theorem Zbv(tm:TM)(v:AV):Mw tm v=N8.u0 (N8.u7 (N8.u0 λ_=>v)) tm:=rfl
theorem cR(tm:TM):MC tm=N8.a1 (N8.a7 (N8.a0 tm)):=rfl
theorem Zbw(tm:TM)(v:AV):MJ tm v=N8.u0 (N8.u7 (N8.u1 λ_=>v)) tm:=rfl
theorem cS(tm:TM):Ov tm=N8.a2 (N8.a7 (N8.a0 tm)):=rfl
theorem Zbx(tm:TM)(v:AV):Ln tm v=N8.u0 (N8.u7 (N8.u2 λ_=>v)) tm:=rfl
theorem cT(tm:TM):Lc tm=N8.a3 (N8.a7 (N8.a0 tm)):=rfl
theorem Zby(tm:TM)(v:AV):Lo tm v=N8.u0 (N8.u7 (N8.u3 λ_=>v)) tm:=rfl
theorem cU(tm:TM):Mf tm=N8.a4 (N8.a7 (N8.a0 tm)):=rfl
theorem Zbz(tm:TM)(v:AV):MK tm v=N8.u0 (N8.u7 (N8.u4 λ_=>v)) tm:=rfl
theorem mh(tm:TM):No tm=N8.a5 (N8.a7 (N8.a0 tm)):=rfl
theorem ZbA(tm:TM)(v:AV):Lq tm v=N8.u0 (N8.u7 (N8.u5 λ_=>v)) tm:=rfl
theorem mj(tm:TM):Mg tm=N8.a6 (N8.a7 (N8.a0 tm)):=rfl
theorem ZbB(tm:TM)(v:AV):ML tm v=N8.u0 (N8.u7 (N8.u6 λ_=>v)) tm:=rfl
theorem mp(tm:TM):O2 tm=N8.a7 (N8.a7 (N8.a0 tm)):=rfl
theorem ZbC(tm:TM)(v:AV):NR tm v=N8.u0 (N8.u7 (N8.u7 λ_=>v)) tm:=rfl
theorem cX(tm:TM):MD tm=N8.a0 (N8.a0 (N8.a1 tm)):=rfl
theorem ZbD(tm:TM)(v:AV):MM tm v=N8.u1 (N8.u0 (N8.u0 λ_=>v)) tm:=rfl
theorem mq(tm:TM):Np tm=N8.a1 (N8.a0 (N8.a1 tm)):=rfl
theorem ZbE(tm:TM)(v:AV):MN tm v=N8.u1 (N8.u0 (N8.u1 λ_=>v)) tm:=rfl
theorem uZ(tm:TM):Nq tm=N8.a2 (N8.a0 (N8.a1 tm)):=rfl
theorem ZbF(tm:TM)(v:AV):Lr tm v=N8.u1 (N8.u0 (N8.u2 λ_=>v)) tm:=rfl
theorem cY(tm:TM):Ld tm=N8.a3 (N8.a0 (N8.a1 tm)):=rfl
theorem ZbG(tm:TM)(v:AV):Lt tm v=N8.u1 (N8.u0 (N8.u3 λ_=>v)) tm:=rfl
theorem cZ(tm:TM):Ko tm=N8.a4 (N8.a0 (N8.a1 tm)):=rfl
theorem ZbH(tm:TM)(v:AV):KH tm v=N8.u1 (N8.u0 (N8.u4 λ_=>v)) tm:=rfl
theorem bc(tm:TM):Kp tm=N8.a5 (N8.a0 (N8.a1 tm)):=rfl
theorem ZbI(tm:TM)(v:AV):KI tm v=N8.u1 (N8.u0 (N8.u5 λ_=>v)) tm:=rfl
theorem be(tm:TM):Le tm=N8.a6 (N8.a0 (N8.a1 tm)):=rfl
theorem ZbJ(tm:TM)(v:AV):KJ tm v=N8.u1 (N8.u0 (N8.u6 λ_=>v)) tm:=rfl
theorem Zfd(tm:TM):K4 tm=N8.a7 (N8.a0 (N8.a1 tm)):=rfl
theorem ZfI(tm:TM)(v:AV):Jb tm v=N8.u1 (N8.u0 (N8.u7 λ_=>v)) tm:=rfl
theorem Zfe(tm:TM):Ow tm=N8.a0 (N8.a1 (N8.a1 tm)):=rfl
theorem ZfJ(tm:TM)(v:AV):Jc tm v=N8.u1 (N8.u1 (N8.u0 λ_=>v)) tm:=rfl
theorem Zff(tm:TM):K5 tm=N8.a1 (N8.a1 (N8.a1 tm)):=rfl
theorem ZfK(tm:TM)(v:AV):Jd tm v=N8.u1 (N8.u1 (N8.u1 λ_=>v)) tm:=rfl
theorem Zfg(tm:TM):K6 tm=N8.a2 (N8.a1 (N8.a1 tm)):=rfl
theorem ZfL(tm:TM)(v:AV):Je tm v=N8.u1 (N8.u1 (N8.u2 λ_=>v)) tm:=rfl
theorem bf(tm:TM):ME tm=N8.a3 (N8.a1 (N8.a1 tm)):=rfl
theorem ZfM(tm:TM)(v:AV):Jf tm v=N8.u1 (N8.u1 (N8.u3 λ_=>v)) tm:=rfl
theorem bi(tm:TM):LC tm=N8.a4 (N8.a1 (N8.a1 tm)):=rfl
theorem ZfN(tm:TM)(v:AV):J5 tm v=N8.u1 (N8.u1 (N8.u4 λ_=>v)) tm:=rfl
theorem yP(tm:TM):Lf tm=N8.a5 (N8.a1 (N8.a1 tm)):=rfl
theorem ZbK(tm:TM)(v:AV):IN tm v=N8.u1 (N8.u1 (N8.u5 λ_=>v)) tm:=rfl
theorem Zfh(tm:TM):Kq tm=N8.a6 (N8.a1 (N8.a1 tm)):=rfl
theorem ZfO(tm:TM)(v:AV):Gg tm v=N8.u1 (N8.u1 (N8.u6 λ_=>v)) tm:=rfl
theorem Zjw(tm:TM):Jz tm=N8.a7 (N8.a1 (N8.a1 tm)):=rfl
theorem Zle(tm:TM)(v:AV):Gh tm v=N8.u1 (N8.u1 (N8.u7 λ_=>v)) tm:=rfl
theorem Zjx(tm:TM):HG tm=N8.a0 (N8.a2 (N8.a1 tm)):=rfl
theorem Zlf(tm:TM)(v:AV):Gi tm v=N8.u1 (N8.u2 (N8.u0 λ_=>v)) tm:=rfl
theorem Zlg(tm:TM)(v:AV):FJ tm v=N8.u1 (N8.u2 (N8.u1 λ_=>v)) tm:=rfl
theorem Zjy(tm:TM):GS tm=N8.a2 (N8.a2 (N8.a1 tm)):=rfl
theorem Zlh(tm:TM)(v:AV):FK tm v=N8.u1 (N8.u2 (N8.u2 λ_=>v)) tm:=rfl
theorem Zjz(tm:TM):GU tm=N8.a3 (N8.a2 (N8.a1 tm)):=rfl
theorem Zli(tm:TM)(v:AV):FM tm v=N8.u1 (N8.u2 (N8.u3 λ_=>v)) tm:=rfl
theorem ZjA(tm:TM):O3 tm=N8.a4 (N8.a2 (N8.a1 tm)):=rfl
theorem Zlj(tm:TM)(v:AV):FN tm v=N8.u1 (N8.u2 (N8.u4 λ_=>v)) tm:=rfl
theorem ZjB(tm:TM):IJ tm=N8.a5 (N8.a2 (N8.a1 tm)):=rfl
theorem Zlk(tm:TM)(v:AV):Ch tm v=N8.u1 (N8.u2 (N8.u5 λ_=>v)) tm:=rfl
theorem ZjC(tm:TM):Cc tm=N8.a6 (N8.a2 (N8.a1 tm)):=rfl
theorem Zll(tm:TM)(v:AV):Ci tm v=N8.u1 (N8.u2 (N8.u6 λ_=>v)) tm:=rfl
theorem ZjD(tm:TM):K7 tm=N8.a7 (N8.a2 (N8.a1 tm)):=rfl
theorem Zlm(tm:TM)(v:AV):Cj tm v=N8.u1 (N8.u2 (N8.u7 λ_=>v)) tm:=rfl
theorem ZjE(tm:TM):GV tm=N8.a0 (N8.a3 (N8.a1 tm)):=rfl
theorem Zln(tm:TM)(v:AV):Ck tm v=N8.u1 (N8.u3 (N8.u0 λ_=>v)) tm:=rfl
theorem ZjF(tm:TM):Cd tm=N8.a1 (N8.a3 (N8.a1 tm)):=rfl
theorem Zlo(tm:TM)(v:AV):Cl tm v=N8.u1 (N8.u3 (N8.u1 λ_=>v)) tm:=rfl
theorem ZjG(tm:TM):Ce tm=N8.a2 (N8.a3 (N8.a1 tm)):=rfl
theorem Zlp(tm:TM)(v:AV):Cm tm v=N8.u1 (N8.u3 (N8.u2 λ_=>v)) tm:=rfl
theorem ZjH(tm:TM):Cf tm=N8.a3 (N8.a3 (N8.a1 tm)):=rfl
theorem Zlq(tm:TM)(v:AV):Cn tm v=N8.u1 (N8.u3 (N8.u3 λ_=>v)) tm:=rfl
theorem mr(tm:TM):JA tm=N8.a4 (N8.a3 (N8.a1 tm)):=rfl
theorem ZfP(tm:TM)(v:AV):Co tm v=N8.u1 (N8.u3 (N8.u4 λ_=>v)) tm:=rfl
theorem Zfi(tm:TM):BY tm=N8.a5 (N8.a3 (N8.a1 tm)):=rfl
theorem ZfQ(tm:TM)(v:AV):AQ tm v=N8.u1 (N8.u3 (N8.u5 λ_=>v)) tm:=rfl
theorem ZjI(tm:TM):zm tm=N8.a6 (N8.a3 (N8.a1 tm)):=rfl
theorem Zlr(tm:TM)(v:AV):zH tm v=N8.u1 (N8.u3 (N8.u6 λ_=>v)) tm:=rfl
theorem ZjJ(tm:TM):En tm=N8.a7 (N8.a3 (N8.a1 tm)):=rfl
theorem Zls(tm:TM)(v:AV):Cp tm v=N8.u1 (N8.u3 (N8.u7 λ_=>v)) tm:=rfl
theorem ZjK(tm:TM):Eo tm=N8.a0 (N8.a4 (N8.a1 tm)):=rfl
theorem Zlt(tm:TM)(v:AV):Cq tm v=N8.u1 (N8.u4 (N8.u0 λ_=>v)) tm:=rfl
theorem bj(tm:TM):Lg tm=N8.a1 (N8.a4 (N8.a1 tm)):=rfl
theorem Zlu(tm:TM)(v:AV):AR tm v=N8.u1 (N8.u4 (N8.u1 λ_=>v)) tm:=rfl
theorem ZjL(tm:TM):zn tm=N8.a2 (N8.a4 (N8.a1 tm)):=rfl
theorem Zlv(tm:TM)(v:AV):AS tm v=N8.u1 (N8.u4 (N8.u2 λ_=>v)) tm:=rfl
theorem ZjM(tm:TM):BZ tm=N8.a3 (N8.a4 (N8.a1 tm)):=rfl
theorem Zlw(tm:TM)(v:AV):AT tm v=N8.u1 (N8.u4 (N8.u3 λ_=>v)) tm:=rfl
theorem ZgF(tm:TM):Jx tm=N8.a4 (N8.a4 (N8.a1 tm)):=rfl
theorem Zh4(tm:TM)(v:AV):J2 tm v=N8.u1 (N8.u4 (N8.u4 λ_=>v)) tm:=rfl
theorem ZgG(tm:TM):MX tm=N8.a5 (N8.a4 (N8.a1 tm)):=rfl
theorem Zh5(tm:TM)(v:AV):J3 tm v=N8.u1 (N8.u4 (N8.u5 λ_=>v)) tm:=rfl
theorem ZgH(tm:TM):MY tm=N8.a6 (N8.a4 (N8.a1 tm)):=rfl
theorem Zh6(tm:TM)(v:AV):I5 tm v=N8.u1 (N8.u4 (N8.u6 λ_=>v)) tm:=rfl
theorem ZgI(tm:TM):GO tm=N8.a7 (N8.a4 (N8.a1 tm)):=rfl
theorem Zh7(tm:TM)(v:AV):I6 tm v=N8.u1 (N8.u4 (N8.u7 λ_=>v)) tm:=rfl
theorem ZgJ(tm:TM):IW tm=N8.a0 (N8.a5 (N8.a1 tm)):=rfl
theorem Zh8(tm:TM)(v:AV):I7 tm v=N8.u1 (N8.u5 (N8.u0 λ_=>v)) tm:=rfl
theorem ck(tm:TM):KT tm=N8.a1 (N8.a5 (N8.a1 tm)):=rfl
theorem Zh9(tm:TM)(v:AV):I8 tm v=N8.u1 (N8.u5 (N8.u1 λ_=>v)) tm:=rfl
theorem cq(tm:TM):NA tm=N8.a2 (N8.a5 (N8.a1 tm)):=rfl
theorem Zia(tm:TM)(v:AV):I9 tm v=N8.u1 (N8.u5 (N8.u2 λ_=>v)) tm:=rfl
theorem cr(tm:TM):Ly tm=N8.a3 (N8.a5 (N8.a1 tm)):=rfl
theorem Zib(tm:TM)(v:AV):J4 tm v=N8.u1 (N8.u5 (N8.u3 λ_=>v)) tm:=rfl
theorem ZgK(tm:TM):Dj tm=N8.a4 (N8.a5 (N8.a1 tm)):=rfl
theorem Zic(tm:TM)(v:AV):FG tm v=N8.u1 (N8.u5 (N8.u4 λ_=>v)) tm:=rfl
theorem ct(tm:TM):BX tm=N8.a4 (N8.a3 (N8.a2 tm)):=rfl
theorem ZgL(tm:TM):uU tm=N8.a7 (N8.a5 (N8.a2 tm)):=rfl
structure ZE(H H':Heap)(S:List Nat):Prop where
 nx:H.nx<=H'.nx
 ro:H'.ro=H.ro
 get: ∀c,c<H.nx->c∉S->H'.t.get c=H.t.get c
theorem ZE.refl(H:Heap)(S:List Nat):ZE H H S:=⟨Zq _,rfl,λ_ _ _=>rfl⟩
theorem ZE.trans{H H' H'':Heap}{S S':List Nat}(a:ZE H H' S)(b:ZE H' H'' S')(h: ∀c,c∈S'->c<H.nx->c∈S):ZE H H'' S:=
 ⟨Yl a.nx b.nx,b.ro.trans a.ro,λc hc hn=>(b.get c (ZZ hc a.nx) (λhh=>hn (h c hh hc))).trans (a.get c hc hn)⟩
theorem ZE.put{H:Heap}{b:Nat}{o:Obj}{S:List Nat}(h:b<H.nx->b∈S):ZE H (H.put b o) S:=
 ⟨Zq _,rfl,λc hc hn=>by rw[U5,if_neg (λ(e:b=c)=>hn (by rw[<-e];exact h (by omega)))]⟩
theorem ZE.new(H:Heap)(o:Obj)(S:List Nat):ZE H (H.new o) S:=
 ⟨Ws _,rfl,λc hc _=>by rw[VX,if_neg (by omega)]⟩
theorem ZE.then_put{H H':Heap}{b:Nat}{o:Obj}{S:List Nat}(k:ZE H H' S)(h:b<H.nx->b∈S):ZE H (H'.put b o) S:=
 ⟨k.nx,k.ro,λc hc hn=>by rw[U5,if_neg (λ(e:b=c)=>hn (by rw[<-e];exact h (by omega)))];exact k.get c hc hn⟩
theorem ZE.then_new{H H':Heap}{S:List Nat}(k:ZE H H' S)(o:Obj):ZE H (H'.new o) S:=
 ⟨Nat.le_succ_of_le k.nx,k.ro,λc hc hn=>by rw[VX,if_neg (by have:=k.nx;omega)];exact k.get c hc hn⟩
theorem ZE.trans'{H H' H'':Heap}{S':List Nat}(a:ZE H H' [])(b:ZE H' H'' S'):ZE H H'' S':=
 ⟨Yl a.nx b.nx,b.ro.trans a.ro,λc hc hn=>(b.get c (ZZ hc a.nx) hn).trans (a.get c hc (by simp))⟩
structure Bytes(H:Heap)(b o:Nat)(cap:Option Nat)(l:List UInt8)(r:Row):Prop where
 at_:H.t.get b=some (.row r)
 sz:r.sz=1
 fits:o+l.length<=r.size
 get: ∀i,i<l.length->r.get (o+i)=X8 (l.getD i 0)
 cap: ∀c,cap=some c->l.length<=c∧o+c<=r.size
def Nj(x:Option AV)(d top:Nat)(k:Nat->OR):OR:=match x with|none=>k d|some v=>SX v λn=>Z3 (Nat.ble n top) (k n)
noncomputable def Ss(sz:Nat)(a:AV)(lo hi:Option AV)(H:Heap):OR:=
 onZ a (Nj hi 0 0 λh=>Nj lo 0 h λ_=>.val .slice0 H)<|Sf a (Nj hi 0 0 λh=>Nj lo 0 h λ_=>.val .nils H) λb o len cap=>Xv H b λr=>Z3 (L9 r sz cap) (Nj hi len (W4 r o cap) λh=>Nj lo 0 h λl=>Z3 (Nat.ble l (W4 r o cap))<|
  cond (Nat.beq l (W4 r o cap)) (Option.rec (.val (.slice H.nx 0 (Nat.sub h l) none) ⟨Nat.succ H.nx,H.t,H.ro⟩) (λ_=>.val (.slice b o (Nat.sub h l) (some 0)) H) cap)
   (.val (.slice b (Nat.add o (Nat.mul l sz)) (Nat.sub h l) (Option.rec none (λc=>some (Nat.sub c l)) cap)) H))
theorem RZ(sz:Nat)(x:YG)(lo hi:Option YG)(tm:TM)(H:Heap):RC sz x lo hi none tm H=Ss sz (x tm) (lo.map λf=>f tm) (hi.map λf=>f tm) H:=by
 cases lo<;>cases hi<;>rfl
def QA(cap:Option Nat)(l:Nat):Option Nat:=cap.map λc=>c - l
theorem xA{H:Heap}{b o len l h:Nat}{cap:Option Nat}{r:Row}(hr:H.t.get b=some (.row r))(hsz:r.sz=1)(hlo:l<h)(hhi:o+h<=r.size)(hcap: ∀c,cap=some c->h<=c)(k j:IntKind):
  Ss 1 (.slice b o len cap) (some (nI k l)) (some (nI j h)) H=.val (.slice b (o+l) (h - l) (QA cap l)) H:=by
 have hc:h<=W4 r o cap:=by
  cases cap with
  |none=>
   show h<=cond (Nat.beq r.sz 1) (r.size - o) _
   rw[hsz];show h<=r.size - o;omega
  |some c=>exact hcap c rfl
 have hs:L9 r 1 cap=true:=by
  cases cap with
  |none=>show Nat.beq r.sz 1=true;rw[hsz];rfl
  |some c=>rfl
 show Xv H b _=_
 unfold Xv
 rw[hr]
 show Z3 (L9 r 1 cap) (Z3 (Nat.ble h (W4 r o cap)) (Z3 (Nat.ble l h) (Z3 (Nat.ble l (W4 r o cap)) (cond (Nat.beq l (W4 r o cap)) _ _))))=_
 rw[hs,Zg hc,Zg (Pg hlo),Zg (show l<=W4 r o cap by omega),Y1,Ze (by omega)]
 show OR.val (.slice b (o+l*1) (h - l) _) H=_
 rw[Xf]
 cases cap<;>rfl
theorem M3{f:YG}{n b:Nat}{tm:TM}{H:Heap}{r:Row}{l:List AV}(hf:f tm=.ptr b 0)(hr:H.t.get b=some (.row r))(hc:Cells r l)(hn:l.length=n):results [(f,some (n,true))] tm H=.ret (.agg l) H:=by
 subst hn
 have e:Vr r 0 l.length=l:=by rw[hc.load (by omega),ZC,WO]
 have h2:Nat.ble (Nat.add 0 l.length) r.size=true:=by
  rw[hc.size];exact Zg (by show 0+l.length<=l.length;omega)
 unfold results Nc Zew
 simp only[hf,hr,h2,cond_true,e]
 rfl
theorem pe(c:UInt8)(H:Heap):PS .u32 (X8 c) H=.val (Y2 c.toUInt32) H:=by
 show UX .u32 (.ofNat c.toNat) H=_
 rw[Wb,P5]
 unfold Y2
 rw[UInt8.toNat_toUInt32,YD (Qm c.toNat_lt (by decide))]
noncomputable def KG(n sz:Nat)(a:AV)(lo hi:Option AV)(H:Heap):OR:=Qx a λb o=>Nj hi n n λh=>Nj lo 0 h λl=>
 cond (Nat.beq l n) (.val (.slice b o (Nat.sub h l) (some (Nat.sub n l))) H) (.val (.slice b (Nat.add o (Nat.mul l sz)) (Nat.sub h l) (some (Nat.sub n l))) H)
theorem Mq(n sz:Nat)(x:YG)(lo hi:Option YG)(tm:TM)(H:Heap):QE n sz x lo hi none tm H=KG n sz (x tm) (lo.map λf=>f tm) (hi.map λf=>f tm) H:=by
 cases lo<;>cases hi<;>rfl
theorem LZ{n l:Nat}(h:l<n)(b o:Nat)(k:IntKind)(H:Heap):KG n 1 (.ptr b o) (some (nI k l)) none H=.val (.slice b (o+l) (n - l) (some (n - l))) H:=by
 show Z3 (Nat.ble l n) (cond (Nat.beq l n) _ _)=_
 rw[Zg (Pg h),Y1,Ze (by omega)]
 show OR.val (.slice b (o+l*1) (n - l) (some (n - l))) H=_
 rw[Xf]
theorem LY{n m:Nat}(h:m<=n)(h0:0<n)(b o:Nat)(k:IntKind)(H:Heap):KG n 1 (.ptr b o) none (some (nI k m)) H=.val (.slice b o m (some n)) H:=by
 show Z3 (Nat.ble m n) (Z3 (Nat.ble 0 m) (cond (Nat.beq 0 n) _ _))=_
 rw[Zg h,Zg (ZB _),Y1,Ze (by omega)]
 show OR.val (.slice b (o+0*1) (m - 0) (some (n - 0))) H=_
 rw[Va];rfl
noncomputable def z4(sz:Nat)(a v:AV)(H:Heap):OR:=ve v λsn=>Sf a (.val (.int .i64 0) H) λb o dn _=>SN (Ob dn sn) λn=>Vb H sz v n λnew=>
 cond (Nat.beq n 0) (.val (.int .i64 0) H) (Xv H b λr=>Z3 (H.may r b) (Z3 (Nat.ble r.fz o) (Z3 (Nat.ble (Nat.add o (Nat.mul n sz)) r.size) (.val (.int .i64 (.ofNat n)) (H.put b (.row (r.setCells (Xj r.cells o new))))))))
theorem It(x y:YG)(sz:Nat)(tm:TM)(H:Heap):DG x y sz tm H=z4 sz (x tm) (y tm) H:=rfl
theorem eQ{H:Heap}{b o c q n:Nat}{e1 e2:Option Nat}{r s:Row}{l m:List AV}(hr:H.t.get b=some (.row r))(hc:Cells r l)(how:r.own=true)(hro:H.ro<=b)(hfz:r.fz=0)(ho:o+n<=l.length)(hn:0<n)
  (hs:H.t.get c=some (.row s))(hm:Cells s m)(hq:q+n<=m.length):
  z4 1 (.slice b o n e1) (.slice c q n e2) H=.val (nI .i64 n) (H.put b (.row (r.setCells (Xj r.cells o ((m.drop q).take n))))):=by
 show SN (Ob n n) (λn=>Vb H 1 (.slice c q _ e2) n λnew=>cond (Nat.beq n 0) (.val (.int .i64 0) H) (Xv H b λr=>Z3 (H.may r b) (Z3 (Nat.ble r.fz o) (Z3 (Nat.ble (o+n*1) r.size) (.val (.int .i64 (.ofNat n)) (H.put b (.row (r.setCells (Xj r.cells o new)))))))))=_
 have e:Ob n n=n:=by unfold Ob;rw[Zg (Zq _)];rfl
 have e2:Nat.beq n 0=false:=by rw[Y1];exact Ze (by omega)
 have h1:H.may r b=true:=by unfold Heap.may;rw[how,Zg hro];rfl
 rw[Qo,e]
 unfold Vb
 rw[e2]
 simp only[cond_false]
 unfold Xv
 rw[hs,hr]
 simp only[Xf]
 show Z3 (Nat.ble (q+n*1) s.size) _=_
 rw[Xf,hm.size,Zg hq,show Nat.mul n 1=n from Xf n,hm.load hq,h1,hfz,Zg (ZB _),hc.size,Zg ho]
 rfl
noncomputable def Oh(k:List AV->OR)(ps:List (Nat×Nat×AV)):List AV->OR:=List.rec (λcells=>k cells) (λp _ ih cells=>
 Z3 (Nat.ble 1 p.2.1)<|Z3 (Nat.beq (Xc p.2.2.cells) p.2.1) (Z3 (Nat.ble (Nat.add p.1 p.2.1) (Xc cells)) (ih (Ng p.1 cells++(p.2.2.cells++Og (Nat.add p.1 p.2.1) cells))))) ps
theorem Eh(tm:TM)(k:List AV->OR): ∀(ps:List wh) (cells:List AV),ye tm k ps cells=Oh k (ps.map λp=>(p.off,p.sz,p.x tm)) cells
 |[],_=>rfl
 |p::ps,cells=>by
  show Z3 (Nat.ble 1 p.sz) (Z3 (Nat.beq (Xc (p.x tm).cells) p.sz) (Z3 (Nat.ble (Nat.add p.off p.sz) (Xc cells)) (ye tm k ps (Ng p.off cells++((p.x tm).cells++Og (Nat.add p.off p.sz) cells)))))=_
  rw[Eh tm k ps]
  rfl
noncomputable def Rz(zs:List AV)(ps:List (Nat×Nat×AV))(H:Heap):OR:=Z3 (Nat.ble 1 (Xc zs))<|Oh (λcs=>.val (.agg cs) H) ps zs
theorem TK(zs:List AV)(ps:List wh)(tm:TM)(H:Heap):TV zs ps tm H=Rz zs (ps.map λp=>(p.off,p.sz,p.x tm)) H:=by
 unfold TV Rz
 rw[Eh]
noncomputable def UL(e sz n:Nat)(zs:List AV)(ps:List (Nat×Nat×AV))(H:Heap):OR:=Z3 (Nat.ble 1 sz)<|Z3 (Nat.beq (Xc zs) (Nat.mul n sz))<|Oh (λcs=>.val (.slice H.nx 0 n none) (H.newRow e sz cs true)) ps zs
theorem ZX(e sz n:Nat)(zs:List AV)(ps:List wh)(tm:TM)(H:Heap):Vp e sz n zs ps tm H=UL e sz n zs (ps.map λp=>(p.off,p.sz,p.x tm)) H:=by
 unfold Vp UL
 rw[Eh]
theorem Pk(e:Nat)(z v:AV)(h:v.cells=[v])(H:Heap):UL e 1 1 [z] [(0,1,v)] H=.val (.slice H.nx 0 1 none) (H.newRow e 1 [v] true):=by
 show Z3 (Nat.beq (Xc v.cells) 1) (Z3 (Nat.ble 1 1) (.val _ (H.newRow e 1 (v.cells++[]) true)))=_
 rw[h];rfl
noncomputable def U2(e sz bytes:Nat)(a v:AV)(H:Heap):OR:=Z3 (Nat.ble 1 sz)<|Z3 (Nat.ble 1 bytes)<|ve v λn=>Vb H sz v n λnew=>Ol a e sz bytes H n new
theorem ZW(x y:YG)(e sz bytes:Nat)(tm:TM)(H:Heap):WZ x y e sz bytes tm H=U2 e sz bytes (x tm) (y tm) H:=rfl
def Src(H:Heap)(v:AV)(l:List AV):Prop:= ∀k:Nat->List AV->OR,(ve v λn=>Vb H 1 v n λnew=>k n new)=k l.length l
theorem Src.nils(H:Heap):Src H .nils []:=λ_=>rfl
theorem Src.none(H:Heap)(b o:Nat)(c:Option Nat):Src H (.slice b o 0 c) []:=λ_=>rfl
theorem Src.row{H:Heap}{b o:Nat}{c:Option Nat}{r:Row}{l:List AV}(hr:H.t.get b=some (.row r))(hf:o+l.length<=r.size)(hg: ∀i,i<l.length->r.get (o+i)=l.getD i .unk):Src H (.slice b o l.length c) l:=by
 intro k
 show(Vb H 1 (.slice b o l.length c) l.length λnew=>k l.length new)=_
 unfold Vb
 rw[Y1]
 by_cases h0:l.length=0
 ·rw[Zj h0]
  have:l=[]:=XM.1 h0
  subst this;rfl
 ·rw[Ze h0]
  unfold Xv
  simp only[hr,cond_false,Xf]
  show Z3 (Nat.ble (o+l.length*1) r.size) (k l.length (Vr r o (l.length*1)))=_
  rw[Xf,Zg hf]
  have:Vr r o l.length=l:=by
   refine WM λj=>?_
   by_cases hj:j<l.length
   ·rw[Rw r _ o j hj,hg j hj,Zf,Zn hj];rfl
   ·rw[Xh (by rw[Rf];omega),Xh (by omega)]
  rw[this];rfl
theorem SV{H:Heap}{e bytes:Nat}{a v:AV}{l:List AV}(hb:1<=bytes)(h:Src H v l):U2 e 1 bytes a v H=Ol a e 1 bytes H l.length l:=by
 show Z3 (Nat.ble 1 1) (Z3 (Nat.ble 1 bytes) _)=_
 rw[Zg hb]
 exact h λn new=>Ol a e 1 bytes H n new
theorem zQ(e bytes:Nat)(H:Heap):Ol .nils e 1 bytes H 0 []=.val .nils H:=rfl
theorem Jm{e:Nat}{H:Heap}{l:List AV}(h0:0<l.length)(hl:l.length<=140737488355328):Ol .nils e 1 1 H l.length l=.val (.slice H.nx 0 l.length none) (H.newRow e 1 l false):=by
 show cond (Nat.beq l.length 0) _ (Z3 (Nat.ble (l.length*1) 140737488355328) _)=_
 rw[Y1,Ze (by omega),Xf,Zg hl];rfl
structure kI(H:Heap)(b e:Nat)(l:List AV)(r:Row):Prop extends Own H b e l r where
 exact_:r.exact=false
 low:b<H.nx
theorem BQ{H:Heap}{e:Nat}{l:List AV}(hro:H.ro<=H.nx):kI (H.newRow e 1 l false) H.nx e l ⟨e,1,Xc l,T.ofList l,.unk,0,false,true,false⟩:=
 ⟨⟨by rw[T1,VX,if_pos rfl],rfl,rfl,rfl,rfl,rfl,Cells.new ..,hro⟩,rfl,YK _⟩
theorem kO{H:Heap}{b e:Nat}{l m:List AV}{r:Row}(g:kI H b e l r)(hm:0<m.length)(hl:l.length+m.length<=140737488355328):
  ∃H' r',Ol (.slice b 0 l.length none) e 1 1 H m.length m=.val (.slice H.nx 0 (l.length+m.length) none) H'∧kI H' H.nx e (l++m) r'∧ZE H H' [b]∧H'.nx=H.nx+1:=by
 have hsz:r.size=l.length:=g.cells.size
 have hcap:W4 r 0 none=l.length:=by
  show cond (Nat.beq r.sz 1) (r.size - 0) _=_
  rw[g.sz,hsz];rfl
 have Ox:H.may r b=true:=by unfold Heap.may;rw[g.own,Zg g.ro];rfl
 refine⟨⟨Nat.succ H.nx,(H.t.del b).set H.nx (.row ⟨r.elem,1,(l.length+m.length)*1,Xj r.cells (l.length*1) m,r.dflt,r.fz,r.sm,true,false⟩),H.ro⟩,⟨r.elem,1,(l.length+m.length)*1,Xj r.cells (l.length*1) m,r.dflt,r.fz,r.sm,true,false⟩,?_,⟨⟨by rw[T.get_set,if_pos rfl],g.elem,rfl,rfl,g.fz,g.sm,?_,Yl g.ro (Pg g.low)⟩,rfl,YK _⟩,⟨Ws _,rfl,λc hc hn=>?_⟩,rfl⟩
 ·show Xv H b (λr=>Z3 (L9 r 1 none) (cond (Nat.ble (Nat.add l.length m.length) (W4 r 0 none)) (Jl H _ b 0 l.length m.length 1 none r m) (Ni H e b 0 l.length m.length 1 1 none r m)))=_
  unfold Xv
  simp only[g.at_]
  have h1:L9 r 1 none=true:=by show Nat.beq r.sz 1=true;rw[g.sz];rfl
  have h2:Nat.ble (Nat.add l.length m.length) (W4 r 0 none)=false:=by
   rw[hcap]
   cases h:Nat.ble (Nat.add l.length m.length) l.length with
   |false=>rfl
   |true=>have:=Yh h;have:l.length+m.length<=l.length:=this;omega
  rw[h1,h2]
  show Z3 (Nat.ble ((l.length+m.length)*1) 140737488355328) (Z3 (Nat.ble (0+l.length*1) r.size) (cond r.exact _ (Hm H e b 0 l.length m.length 1 r m)))=_
  rw[Xf,Zg hl,hsz,Xf,Zb,Zg (Zq _),g.exact_]
  show Z3 (Nat.beq r.elem e) (Z3 (H.may r b) (Z3 (Nat.ble r.fz (l.length*1)) (Z3 (Nat.beq (l.length*1) r.size) (Z3 (Nat.beq 0 0) _))))=_
  rw[g.elem,Xd,Ox,g.fz,Zg (ZB _),hsz,Xf,Xd]
  show OR.val (.slice H.nx 0 (l.length+m.length) none) ⟨Nat.succ H.nx,(H.t.del b).set H.nx (.row ⟨e,1,(l.length+m.length)*1,Xj r.cells (l.length*1) m,r.dflt,0,r.sm,true,false⟩),H.ro⟩=_
  rw[Xf,Xf]
 ·refine⟨by show(l.length+m.length)*1=_;rw[Zm];omega,λi hi=>?_⟩
  rw[Zm] at hi
  rw[Row.get_eq]
  show((Xj r.cells (l.length*1) m).get i).getD r.dflt=_
  rw[Xf,Qg,Zf]
  by_cases h1:l.length<=i
  ·rw[if_pos ⟨h1,by omega⟩,Yz h1,Zn (show i - l.length<m.length by omega)];rfl
  ·rw[if_neg (by omega),Yt (by omega)]
   have:=g.cells.get i (by omega)
   rw[Row.get_eq,Zf] at this
   exact this
 ·show((H.t.del b).set H.nx _).get c=_
  rw[T.get_set,if_neg (by omega),T.get_del,if_neg (λe=>hn (by simp[e]))]
section
variable {P:Program}
theorem pg{l:List AV}(h:sameL l l=true)(n:Nat)(t:T Obj):UR (.val (.agg l) ⟨n,t,n⟩) (.agg l) n=true:=Sp _ _ _ (by unfold same;exact h)
theorem sX(s:List UInt8):same (.str s) (.str s)=true:=by
 unfold same;rw[Qi];simp
theorem pi(s:List UInt8)(n:Nat)(t:T Obj):UR (.val (.str s) ⟨n,t,n⟩) (.str s) n=true:=Sp _ _ _ (sX s)
theorem Yj(b o n:Nat)(c:Option Nat)(k:Nat)(t:T Obj):UR (.val (.slice b o n c) ⟨k,t,k⟩) (.slice b o n c) k=true:=Sp _ _ _ (by
 unfold same
 rw[Xd,Xd,Xd]
 cases c with
 |none=>rfl
 |some x=>show Nat.beq x x=true;exact Xd x)
theorem O4(n:Nat)(t:T Obj):UR (.val .nils ⟨n,t,n⟩) .nils n=true:=Sp _ _ _ (by unfold same;rfl)
variable (ds:List Yd) (f:VA) (e:YG) (b:Bool) (os:List (Yd×YG)) (dst:Yd) (i bef:Nat) (nx:PK) (c:Ctx) (rs:List RD) (tm:TM) (H:Heap) (x:X)
theorem rO:Rq ds ⟨f,some (e,b),os,dst,.free,i,bef⟩ nx c rs tm H x=Tn (e tm) b (cond (Qw H.nx tm os) (Jt ⟨f,some (e,b),os,dst,.free,i,bef⟩ nx rs tm H x (f (Pd tm os) ⟨H.nx,.leaf,H.nx⟩)) .fail) (nx rs (dst tm XE) H x):=rfl
theorem rP:Rq ds ⟨f,some (e,b),os,dst,.read,i,bef⟩ nx c rs tm H x=Tn (e tm) b (I2 ⟨f,some (e,b),os,dst,.read,i,bef⟩ nx rs tm H x (f (Pd tm os) ⟨H.nx,H.t,H.nx⟩)) (nx rs (dst tm XE) H x):=rfl
theorem oB:Rq ds ⟨f,some (e,b),os,dst,.eff,i,bef⟩ nx c rs tm H x=cond (still tm H rs) (Tn (e tm) b (GD ds ⟨f,some (e,b),os,dst,.eff,i,bef⟩ nx rs c tm x (f (Pd tm os) H)) (nx (Th bef rs) (dst tm XE) H x)) .fail:=rfl
theorem js(g:Option (YG×Bool))(kd:Gl)(v:AV)(o:Obj)(hw:wrO o=true):Jt ⟨f,g,os,dst,kd,i,bef⟩ nx rs tm H x (.val v ((⟨H.nx,.leaf,H.nx⟩:Heap).new o))=nx rs (dst tm v) (H.new o) x:=by
 show cond (Nat.beq (H.nx+1) H.nx) _ (cond (Nat.beq (H.nx+1) (Nat.succ H.nx)) (aX (((T.leaf:T Obj).set H.nx o).get H.nx) λo=>nx rs (dst tm v) (H.new o) x) .fail)=_
 rw[Y1,Ze (by omega),Y1,Zj rfl,T.get_set,if_pos rfl]
 show cond (wrO o) _ _=_
 rw[hw];rfl
end
theorem zV{lib:Nat->List AV->Heap->Option CR}{fs:T CF}{fuel n f:Nat}{args:List AV}{H:Heap}{r:CR}(h:lib f args H=some r):Z8 lib fs fuel (n+1) f args H=r:=by
 show mQ (lib f args H) _=_
 rw[h];rfl
section
variable {P:Program}
theorem mM{call:Nat->List AV->Heap->CR}(hcall:SC P call){f:FuncId}{args:List AV}{H H':Heap}{v:AV}(hrun:call f args H=.ret v H')(k:ZE H H' [])(hlow:Wu 0 v=true)
  {σ:Mp}{w:World}{vs:List Value}(hs:WU P σ H w)(hv:Xk σ args vs):Kc P σ H w (.ret v H) ((callFunc f ⟨vs⟩).run P w):=by
 have hcr:=hcall f _ H σ w vs hs hv
 rw[hrun] at hcr
 refine Ends.mono (λu' w' hx=>?_) (λ_ _ hx=>hx) hcr
 obtain⟨σ2,h1,t⟩:=hx
 refine⟨σ,?_,t.drop hs λb hb=>k.get b hb (by simp)⟩
 exact(YY.cut hlow h1).mono λy _ hy=>by have:=(Mp.cut_some hy).1;omega
end
noncomputable def mP(a:AV)(H:Heap):OR:=O9 a λs=>SN (Xc s) λn=>.val (.int .i64 (.ofNat n)) H
theorem iz(x:YG)(tm:TM)(H:Heap):Wn x tm H=mP (x tm) H:=rfl
theorem ZP(s:List UInt8)(H:Heap):mP (.str s) H=.val (nI .i64 s.length) H:=by
 show SN (Xc s) (λn=>OR.val (.int .i64 (.ofNat n)) H)=_
 rw[Qo,Xb];rfl
noncomputable def M0(a i:AV)(H:Heap):OR:=SX i λi=>O9 a λs=>Sr (tQ s i) λb=>SN b.toNat λn=>.val (.int .u8 (.ofNat n)) H
theorem tV(x y:YG)(tm:TM)(H:Heap):XW x y tm H=M0 (x tm) (y tm) H:=rfl
theorem Mj{s:List UInt8}{i:Nat}(h:i<s.length)(k:IntKind)(H:Heap):M0 (.str s) (nI k i) H=.val (X8 (s.getD i 0)) H:=by
 show Sr (tQ s i) _=_
 rw[vz,Zn h]
 show SN s[i].toNat (λn=>OR.val (.int .u8 (.ofNat n)) H)=_
 rw[Qo,Zf,Zn h];rfl
noncomputable def EP(a:AV)(lo hi:Option AV)(H:Heap):OR:=O9 a λs=>Nj hi (Xc s) (Xc s) λh=>Nj lo 0 h λl=>.val (.str (IS l (KZ h s))) H
theorem pI(x:YG)(lo hi:Option YG)(tm:TM)(H:Heap):Vv x lo hi none tm H=EP (x tm) (lo.map λf=>f tm) (hi.map λf=>f tm) H:=by
 cases lo<;>cases hi<;>rfl
theorem Yb{s:List UInt8}{n:Nat}(h:n<=s.length)(k:IntKind)(H:Heap):EP (.str s) none (some (nI k n)) H=.val (.str (s.take n)) H:=by
 show Z3 (Nat.ble n (Xc s)) (OR.val (.str (IS 0 (KZ n s))) H)=_
 rw[Xb,Zg h,My];rfl
theorem Lu{a b:List UInt8}(h:a.length+b.length<=4611686018427387904)(H:Heap):RI (.str a) (.str b) H=.val (.str (a++b)) H:=by
 show Z3 (Nat.ble (Nat.add (Xc a) (Xc b)) 4611686018427387904) _=_
 rw[Xb,Xb,Zg (show Nat.add a.length b.length<=_ from h)];rfl
theorem YE(a b:List UInt8)(H:Heap):MU Js false (.str a) (.str b) H=.val (.bool (decide (a=b))) H:=by
 show Rr (J6 a b) H=_
 rw[T4,Qi]
 congr 2
 by_cases h:a=b<;>simp[h]
theorem Xa(a b:List UInt8)(H:Heap):MU Js true (.str a) (.str b) H=.val (.bool (!decide (a=b))) H:=by
 show Rr (cond (J6 a b) false true) H=_
 rw[T4,Qi]
 congr 2
 by_cases h:a=b<;>simp[h]
structure Below(n:Nat)(H H':Heap):Prop where
 nx:H.nx<=H'.nx
 ro:H'.ro=H.ro
 get: ∀c,c<n->c<H.nx->H'.t.get c=H.t.get c
theorem Below.refl(n:Nat)(H:Heap):Below n H H:=⟨Zq _,rfl,λ_ _ _=>rfl⟩
theorem Below.trans{n:Nat}{H H' H'':Heap}(a:Below n H H')(b:Below n H' H''):Below n H H'':=
 ⟨Yl a.nx b.nx,b.ro.trans a.ro,λc h1 h2=>(b.get c h1 (ZZ h2 a.nx)).trans (a.get c h1 h2)⟩
theorem Below.put{n b:Nat}{H:Heap}{o:Obj}(h:n<=b):Below n H (H.put b o):=⟨Zq _,rfl,λc h1 _=>by rw[U5,if_neg (by omega)]⟩
theorem Below.new(n:Nat)(H:Heap)(o:Obj):Below n H (H.new o):=⟨Ws _,rfl,λc _ h2=>by rw[VX,if_neg (by omega)]⟩
theorem Below.mono{n m:Nat}{H H':Heap}(a:Below n H H')(h:m<=n):Below m H H':=⟨a.nx,a.ro,λc h1 h2=>a.get c (by omega) h2⟩
theorem ZE.below{H0 H H':Heap}{n:Nat}(k:ZE H0 H [])(b:Below n H H')(h:H0.nx<=n):ZE H0 H' []:=
 ⟨Yl k.nx b.nx,b.ro.trans k.ro,λc h1 h2=>(b.get c (by omega) (ZZ h1 k.nx)).trans (k.get c h1 h2)⟩
def Znb(H:Heap)(v:AV)(l:List UInt8)(lo:Nat):Prop:= ∃b r,v=.slice b 0 l.length none∧kI H b 5 (l.map X8) r∧lo<=b
def Buf(H:Heap)(v:AV)(l:List UInt8)(lo:Nat):Prop:=(l=[]∧v=.nils)∨(l≠[]∧Znb H v l lo)
theorem Buf.below{H H':Heap}{v:AV}{l:List UInt8}{lo:Nat}(h:Buf H v l lo)(hp: ∀c,lo<=c->c<H.nx->H'.t.get c=H.t.get c)(hro:H'.ro=H.ro)(hnx:H.nx<=H'.nx):Buf H' v l lo:=by
 rcases h with h|⟨hne,b,r,rfl,g,hb⟩
 ·exact .inl h
 ·exact .inr ⟨hne,b,r,rfl,⟨⟨by rw[hp b hb g.low];exact g.at_,g.elem,g.sz,g.own,g.fz,g.sm,g.cells,by rw[hro];exact g.ro⟩,g.exact_,ZZ g.low hnx⟩,hb⟩
theorem ZJ(k:IntKind)(a b:Nat)(H:Heap):Te SQ VW (nI k a) (nI k b) H=.val (.bool (decide (b<a))) H:=by
 show Z3 (Oz k k) (Rr (yT (.ofNat b) (.ofNat a)) H)=_
 rw[X4,T4,M1];rfl
theorem ZK(k:IntKind)(a b:Nat)(H:Heap):Te PR Sk (nI k a) (nI k b) H=.val (.bool (decide (a<=b))) H:=by
 show Z3 (Oz k k) (Rr (!yT (.ofNat b) (.ofNat a)) H)=_
 rw[X4,T4,M1]
 show OR.val (.bool (!decide (b<a))) H=_
 congr 2
 by_cases h:b<a
 ·rw[Zj h,Ze (by omega)];rfl
 ·rw[Ze h,Zj (by omega)];rfl
theorem Zep(b c:AV)(H:Heap):AC (.bool true) b c H=.val b H:=rfl
theorem Zeo(b c:AV)(H:Heap):AC (.bool false) b c H=.val c H:=rfl
theorem Zhy(b:Bool)(H:Heap):aI (.bool b) H=.val (.bool (cond b false true)) H:=rfl
theorem Ad(n:Nat)(l:List AV):Wu n (.agg l)=RL n l:=rfl
theorem py(n:Nat):Wu n XE=true:=rfl
theorem au(n:Nat)(s:List UInt8):Wu n (.str s)=true:=rfl
noncomputable def zu(mx:Bool)(l:List AV)(H:Heap):OR:=match l with
 |.int k a::l=>min2 mx k a H l
 |_=>.fail
theorem Po(mx:Bool)(args:List YG)(tm:TM)(H:Heap):TS mx args tm H=zu mx (evs tm args) H:=rfl
theorem TJ(a b:Nat)(H:Heap):zu false [nI .i64 a,nI .i64 b] H=.val (nI .i64 (min a b)) H:=by
 show Z3 (Oz .i64 .i64) (min2 false .i64 (cond (cond false (yT (.ofNat a) (.ofNat b)) (yT (.ofNat b) (.ofNat a))) (.ofNat b) (.ofNat a)) H [])=_
 rw[X4,M1,M1]
 show OR.val (.int .i64 (cond (decide (b<a)) (.ofNat b) (.ofNat a))) H=_
 by_cases h:b<a
 ·rw[Zj h,U9 (by omega)];rfl
 ·rw[Ze h,Wh (by omega)];rfl
noncomputable def De(i:Nat)(a:AV)(H:Heap):OR:=lC a λvs=>Sr (Fa vs i) λv=>.val v H
theorem iw(x:YG)(i:Nat)(tm:TM)(H:Heap):WJ x i tm H=De i (x tm) H:=rfl
theorem ZcJ(a:AV)(l:List AV)(H:Heap):De 0 (.tup (a::l)) H=.val a H:=rfl
theorem ZcK(a b:AV)(l:List AV)(H:Heap):De 1 (.tup (a::b::l)) H=.val b H:=rfl
theorem ZcL(a b c:AV)(l:List AV)(H:Heap):De 2 (.tup (a::b::c::l)) H=.val c H:=rfl
theorem ZcH(a b:Bool)(H:Heap):MU fw false (.bool a) (.bool b) H=.val (.bool (decide (a=b))) H:=by cases a<;>cases b<;>rfl
theorem Ml(a:TM->Heap->X->WL)(n:Nat)(tm:TM)(H:Heap)(x:X):WP a (n+1) tm H x=QY (a tm H x) (WP a n):=rfl
noncomputable def ZfD(a:AV)(H:Heap):OR:=match a with
 |.nilp=>.val .nilp H
 |.ptr b o=>Xv H b λr=>Z3 (Nat.ble (Nat.succ o) r.size) (.val (.ptr b o) H)
 |_=>.fail
theorem iC(x:YG)(tm:TM)(H:Heap):y8 x tm H=ZfD (x tm) H:=rfl
noncomputable def ZfC(u n:Nat)(a:AV)(H:Heap):OR:=match a with
 |.nilp=>.val .nilp H
 |.ptr b o=>Xv H b λr=>Z3 r.exact (Z3 (Nat.beq r.elem u) (Z3 (Nat.beq o 0) (Z3 (Nat.ble n r.size) (.val (.ptr b o) H))))
 |_=>.fail
theorem iB(x:YG)(u n:Nat)(tm:TM)(H:Heap):y7 x u n tm H=ZfC u n (x tm) H:=rfl
noncomputable def kE(a:AV)(H:Heap):OR:=Sf a (.val .nilp H) λb o _ cap=>Option.rec (Xv H b λr=>Z3 (Nat.ble (Nat.succ o) r.size) (.val (.ptr b o) H)) (λc=>Z3 (Nat.ble 1 c) (.val (.ptr b o) H)) cap
theorem sj(x:YG)(tm:TM)(H:Heap):CK x tm H=kE (x tm) H:=rfl
noncomputable def ZfU(e:Nat)(a n:AV)(H:Heap):OR:=SX n λn=>cond (Nat.beq n 0) (match a with|.nilp=>.val (.str []) H|.ptr .. =>.val (.str []) H|_=>.fail)
 (Z3 (Nat.ble n 140737488355328)<|Qx a λb o=>Xv H b λr=>Z3 (Nat.beq r.elem e)<|Z3 (cond r.sm false (H.may r b)) (Z3 (Nat.ble (Nat.add o n) r.size) (OQ (λs=>.val (.str s)
  (H.put b (.row ⟨r.elem,r.sz,r.size,r.cells,r.dflt,cond (Nat.ble r.fz (Nat.add o n)) (Nat.add o n) r.fz,r.sm,r.own,r.exact⟩))) (Vr r o n))))
theorem iE(x y:YG)(e:Nat)(tm:TM)(H:Heap):li x y e tm H=ZfU e (x tm) (y tm) H:=rfl
theorem A6: ∀(l:List UInt8) (k:List UInt8->OR),OQ k (l.map X8)=k l
 |[],k=>rfl
 |x::l,k=>by
  show OQ (λs=>k (UInt8.ofNat x.toNat::s)) (l.map X8)=_
  rw[A6 l]
  simp
namespace T
variable {α:Type}
theorem Gc(x:α)(l:T α)(v:Option α)(r:T α)(bs:List Bool):setB x (node l v r) (true::bs)=node (setB x l bs) v r:=rfl
theorem Gb(x:α)(l:T α)(v:Option α)(r:T α)(bs:List Bool):setB x (node l v r) (false::bs)=node l v (setB x r bs):=rfl
theorem xy(x:α)(bs:List Bool):setB x leaf bs=single x bs:=rfl
theorem ri(x:α)(bs:List Bool):single x (true::bs)=node (single x bs) none leaf:=rfl
theorem rh(x:α)(bs:List Bool):single x (false::bs)=node leaf none (single x bs):=rfl
theorem J1(x y:α): ∀bs:List Bool,setB y (single x bs) bs=single y bs
 |[]=>rfl
 |true::bs=>by rw[ri,Gc,J1 x y bs,ri]
 |false::bs=>by rw[rh,Gb,J1 x y bs,rh]
theorem EN(x y:α): ∀(t:T α) (bs:List Bool),setB y (setB x t bs) bs=setB y t bs
 |leaf,bs=>by rw[xy,J1,xy]
 |node l v r,[]=>rfl
 |node l v r,true::bs=>by rw[Gc,Gc,Gc,EN x y l bs]
 |node l v r,false::bs=>by rw[Gb,Gb,Gb,EN x y r bs]
theorem set_set(t:T α)(n:Nat)(x y:α):(t.set n x).set n y=t.set n y:=EN x y t (bits n)
theorem Pb(a b:α)(l:List α):Ty (a::b::l)=a::Ty l:=by simp[Ty]
theorem Aq: ∀(l:List α) (i:Nat) (v:α),Ty (l.set (2*i) v)=(Ty l).set i v
 |[],_,_=>by simp[Ty]
 |[a],0,_=>by simp[Ty]
 |[a],i+1,v=>by
  rw[show 2*(i+1)=2*i+1+1 by omega];simp[Ty]
 |a::b::l,0,v=>by simp[Ty]
 |a::b::l,i+1,v=>by
  rw[show 2*(i+1)=2*i+1+1 by omega,U1,U1,Pb,Pb,Aq l i v,U1]
theorem Kx: ∀(l:List α) (i:Nat) (v:α),Ty (l.set (2*i+1) v)=Ty l
 |[],_,_=>by simp[Ty]
 |[a],i,_=>by simp[Ty]
 |a::b::l,0,v=>by simp[Ty]
 |a::b::l,i+1,v=>by
  rw[show 2*(i+1)+1=(2*i+1)+1+1 by omega,U1,U1,Pb,Pb,Kx l i v]
theorem qa(l:List α)(i:Nat)(v:α):(l.set (i+1) v).tail=l.tail.set i v:=by cases l<;>rfl
theorem gW(l:List α)(v:α):(l.set 0 v).tail=l.tail:=by cases l<;>rfl
theorem Rn(l:List α):(Ty l).length=(l.length+1)/2:=by
 have: ∀(n:Nat) (l:List α),l.length<=n->(Ty l).length=(l.length+1)/2:=by
  intro n
  induction n with
  |zero=>intro l h;cases l with|nil=>simp[Ty]|cons=>simp at h
  |succ n ih=>
   intro l h
   match l,h with
   |[],_=>simp[Ty]
   |[a],_=>simp[Ty]
   |a::b::l,h=>
    rw[Pb,Zl,ih l (by simp at h;omega)]
    simp only[Zl];omega
 exact this _ l (Zq _)
theorem Qs(f:Nat)(x:α)(l:List α):Sd (f+1) (x::l)=node (Sd f (Ty l)) (some x) (Sd f (Ty l.tail)):=rfl
theorem s8: ∀(f:Nat) (l:List α) (i:Nat) (v:α),l.length<=f->i<l.length->(Sd f l).set i v=Sd f (l.set i v):=by
 intro f
 induction f with
 |zero=>intro l i v h hi;omega
 |succ f ih=>
  intro l i v h hi
  cases l with
  |nil=>cases hi
  |cons x l=>
   rw[Qs]
   by_cases h0:i=0
   ·subst h0;rfl
   ·obtain⟨j,rfl⟩: ∃j,i=j+1:=⟨i - 1,by omega⟩
    rw[U1,Qs]
    simp only[Zl] at h hi
    unfold set
    by_cases h1:(j+1) % 2=1
    ·obtain⟨m,rfl⟩: ∃m,j=2*m:=⟨j/2,by omega⟩
     rw[Bd h1,Gc,show(2*m+1)/2=m by omega]
     have:=ih (Ty l) m v (by rw[Rn];omega) (by rw[Rn];omega)
     unfold set at this
     rw[this,Aq]
     cases m with
     |zero=>rw[gW]
     |succ m=>rw[show 2*(m+1)=2*m+1+1 by omega,qa,Kx]
    ·obtain⟨m,rfl⟩: ∃m,j=2*m+1:=⟨j/2,by omega⟩
     rw[F5 (by omega) (by omega),Gb,show(2*m+1+1)/2 - 1=m by omega]
     have:=ih (Ty l.tail) m v (by rw[Rn,Tv];omega) (by rw[Rn,Tv];omega)
     unfold set at this
     rw[this,Kx,qa,Aq]
theorem vC: ∀(f g:Nat) (l:List α),l.length<=f->l.length<=g->Sd f l=Sd g l:=by
 intro f
 induction f with
 |zero=>
  intro g l h _
  have:l=[]:=XM.1 (by omega)
  subst this
  cases g<;>rfl
 |succ f ih=>
  intro g l h hg
  cases l with
  |nil=>cases g<;>rfl
  |cons x l=>
   cases g with
   |zero=>simp at hg
   |succ g=>
    simp only[Zl] at h hg
    rw[Qs,Qs,ih g (Ty l) (by rw[Rn];omega) (by rw[Rn];omega),ih g (Ty l.tail) (by rw[Rn,Tv];omega) (by rw[Rn,Tv];omega)]
theorem LQ: ∀(l:List α) (v:α),Ty (l++[v])=if l.length % 2=0 then Ty l++[v] else Ty l
 |[],v=>by simp[Ty]
 |[a],v=>by simp[Ty]
 |a::b::l,v=>by
  rw[XP,XP,Pb,Pb,LQ l v]
  simp only[Zl,show(l.length+1+1) % 2=l.length % 2 by omega]
  split<;>rfl
theorem vJ: ∀(f:Nat) (l:List α) (v:α),l.length<f->(Sd f l).set l.length v=Sd f (l++[v]):=by
 intro f
 induction f with
 |zero=>intro l v h;cases h
 |succ f ih=>
  intro l v h
  cases l with
  |nil=>
   cases f<;>rfl
  |cons x l=>
   rw[XP,Qs,Qs]
   simp only[Zl] at h ⊢
   unfold set
   by_cases h1:(l.length+1) % 2=1
   ·rw[Bd h1,Gc,show(l.length+1)/2=(Ty l).length by rw[Rn]]
    have:=ih (Ty l) v (by rw[Rn];omega)
    unfold set at this
    rw[this,LQ,if_pos (by omega)]
    cases l with
    |nil=>rfl
    |cons y l=>
     simp only[Zl] at h1
     rw[XP,List.tail_cons,List.tail_cons,LQ,if_neg (by omega)]
   ·have h2:l≠[]:=by intro e;subst e;simp at h1
    rw[F5 (by omega) (by omega),Gb,show(l.length+1)/2 - 1=(Ty l.tail).length by rw[Rn,Tv];have:=Uy.2 h2;omega]
    have:=ih (Ty l.tail) v (by rw[Rn,Tv];have:=Uy.2 h2;omega)
    unfold set at this
    rw[this,LQ l v,if_neg (by omega)]
    cases l with
    |nil=>exact absurd rfl h2
    |cons y l=>
     simp only[Zl] at h1
     rw[XP,List.tail_cons,List.tail_cons,LQ,if_pos (by omega)]
theorem set_ofList{l:List α}{i:Nat}(v:α)(h:i<l.length):(ofList l).set i v=ofList (l.set i v):=by
 unfold ofList
 rw[G4,G4,Uj]
 exact s8 _ l i v (Zq _) h
theorem push_ofList(l:List α)(v:α):(ofList l).set l.length v=ofList (l++[v]):=by
 unfold ofList
 rw[G4,G4,vC l.length (l.length+1) l (Zq _) (Ws _),vJ _ l v (YK _)]
 simp
end T
def lay(l:List AV):Nat->List AV->List AV
 |_,[]=>l
 |o,v::vs=>lay (l.set o v) (o+1) vs
theorem wY: ∀(l:List AV) (o:Nat) (vs:List AV),(lay l o vs).length=l.length
 |_,_,[]=>rfl
 |l,o,v::vs=>by
  show(lay (l.set o v) (o+1) vs).length=_
  rw[wY,Uj]
theorem AU: ∀(l:List AV) (o:Nat) (vs:List AV),o+vs.length<=l.length->Xj (T.ofList l) o vs=T.ofList (lay l o vs)
 |_,_,[],_=>rfl
 |l,o,v::vs,h=>by
  simp only[Zl] at h
  show Xj ((T.ofList l).set o v) (o+1) vs=T.ofList (lay (l.set o v) (o+1) vs)
  rw[T.set_ofList v (by omega),AU (l.set o v) (o+1) vs (by rw[Uj];omega)]
theorem D5: ∀(l:List AV) (vs:List AV),Xj (T.ofList l) l.length vs=T.ofList (l++vs)
 |l,[]=>by rw[Zr];rfl
 |l,v::vs=>by
  show Xj ((T.ofList l).set l.length v) (l.length+1) vs=_
  rw[T.push_ofList]
  have:=D5 (l++[v]) vs
  rw[Zm] at this
  rw[show l.length+1=l.length+[v].length from rfl,this,XB];rfl
theorem Et: ∀(l:List AV) (o:Nat) (vs:List AV),o+vs.length<=l.length->lay l o vs=l.take o++(vs++l.drop (o+vs.length))
 |l,o,[],h=>by show l=_;simp
 |l,o,v::vs,h=>by
  simp only[Zl] at h
  show lay (l.set o v) (o+1) vs=_
  rw[Et (l.set o v) (o+1) vs (by rw[Uj];omega),List.set_eq_take_append_cons_drop,if_pos (by omega)]
  have e1:(l.take o++v::l.drop (o+1)).take (o+1)=l.take o++[v]:=by
   rw[List.take_append,YS (by rw[Z4];omega),Z4,Wh (by omega),show o+1 - o=1 by omega];rfl
  have e2:(l.take o++v::l.drop (o+1)).drop (o+1+vs.length)=l.drop (o+(v::vs).length):=by
   rw[List.drop_append,Vt (by rw[Z4];omega),Zx,Z4,Wh (by omega),show o+1+vs.length - o=vs.length+1 by omega,Zu,SE,Zl]
   congr 1;omega
  rw[e1,e2];simp
section
def rG(e sz:Nat)(l:List AV)(fz:Nat)(sm own ex:Bool):Obj:=.row ⟨e,sz,Xc l,T.ofList l,.unk,fz,sm,own,ex⟩
theorem vM(e sz:Nat)(l:List AV)(fz:Nat)(sm own ex:Bool)(i:Nat):Row.get ⟨e,sz,Xc l,T.ofList l,.unk,fz,sm,own,ex⟩ i=l.getD i .unk:=by
 rw[Row.get_eq]
 show((T.ofList l).get i).getD .unk=_
 rw[T.get_ofList,Zf]
theorem Fs(e sz:Nat)(l:List AV)(fz:Nat)(sm own ex:Bool):Cells ⟨e,sz,Xc l,T.ofList l,.unk,fz,sm,own,ex⟩ l:=Cells.new ..
def ld1(x:Option Obj)(o:Nat)(H:Heap):OR:=match x with|some (.row r)=>Z3 (Nat.ble (Nat.succ o) r.size) (.val (r.get o) H)|_=>.fail
theorem yX(b o:Nat)(H:Heap):TI (.ptr b o) H=ld1 (H.t.get b) o H:=rfl
theorem Vo{o:Nat}{l:List AV}(h:o<l.length)(e sz fz:Nat)(sm own ex:Bool)(H:Heap):ld1 (some (rG e sz l fz sm own ex)) o H=.val (l.getD o .unk) H:=by
 show Z3 (Nat.ble (Nat.succ o) (Xc l)) (.val (Row.get ⟨e,sz,Xc l,T.ofList l,.unk,fz,sm,own,ex⟩ o) H)=_
 rw[Xb,Zg (show Nat.succ o<=l.length from h)]
 show OR.val (Row.get ⟨e,sz,l.length,T.ofList l,.unk,fz,sm,own,ex⟩ o) H=_
 rw[<-Xb,vM]
def wZ(n:Nat)(x:Option Obj)(o:Nat)(H:Heap):OR:=match x with|some (.row r)=>Z3 (Nat.ble (Nat.add o n) r.size) (.val (.agg (Vr r o n)) H)|_=>.fail
theorem am(n b o:Nat)(H:Heap):JH n (.ptr b o) H=wZ n (H.t.get b) o H:=rfl
theorem To{n o:Nat}{l:List AV}(h:o+n<=l.length)(e sz fz:Nat)(sm own ex:Bool)(H:Heap):wZ n (some (rG e sz l fz sm own ex)) o H=.val (.agg ((l.drop o).take n)) H:=by
 show Z3 (Nat.ble (o+n) (Xc l)) (.val (.agg (Vr ⟨e,sz,Xc l,T.ofList l,.unk,fz,sm,own,ex⟩ o n)) H)=_
 rw[(Fs e sz l fz sm own ex).load h,Xb,Zg h];rfl
def oA(n:Nat)(x:Option Obj)(b o:Nat)(v:AV)(H:Heap):OR:=match x with
 |some (.row r)=>Z3 (Nat.ble 1 n)<|Z3 (H.may r b) (Z3 (Nat.ble (Nat.add o n) r.size) (Z3 (Nat.ble r.fz o) (Z3 (Nat.beq (Xc v.cells) n) (.val XE (H.put b (.row (r.setCells (Xj r.cells o v.cells))))))))
 |_=>.fail
theorem gR(n b o:Nat)(v:AV)(H:Heap):RE n (.ptr b o) v H=oA n (H.t.get b) b o v H:=rfl
theorem Za8{n b o:Nat}{l:List AV}{v:AV}{H:Heap}{fz:Nat}(hn:1<=n)(hv:v.cells.length=n)(ho:o+n<=l.length)(hro:H.ro<=b)(hfz:fz<=o)(e sz:Nat)(sm ex:Bool):
  oA n (some (rG e sz l fz sm true ex)) b o v H=.val XE (H.put b (rG e sz (lay l o v.cells) fz sm true ex)):=by
 show Z3 (Nat.ble 1 n) (Z3 (cond true (Nat.ble H.ro b) false) (Z3 (Nat.ble (o+n) (Xc l)) (Z3 (Nat.ble fz o) (Z3 (Nat.beq (Xc v.cells) n) (.val XE (H.put b (.row ⟨e,sz,Xc l,Xj (T.ofList l) o v.cells,.unk,fz,sm,true,ex⟩)))))))=_
 rw[Zg hn,Zg hro,Xb,Zg ho,Zg hfz,Xb,hv,Xd,AU l o v.cells (by omega)]
 unfold rG
 rw[Xb,wY];rfl
theorem KK{b o:Nat}{l:List AV}{v:AV}{H:Heap}{fz:Nat}(hv:v.cells=[v])(ho:o<l.length)(hro:H.ro<=b)(hfz:fz<=o)(e sz:Nat)(sm ex:Bool):
  oA 1 (some (rG e sz l fz sm true ex)) b o v H=.val XE (H.put b (rG e sz (l.set o v) fz sm true ex)):=by
 rw[Za8 (Zq 1) (by rw[hv];rfl) ho hro hfz,hv];rfl
theorem XY(H:Heap)(b:Nat)(o:Obj):(H.put b o).t.get b=some o:=by rw[U5,if_pos rfl]
theorem Q7{b c:Nat}(h: ¬b=c)(H:Heap)(o:Obj):(H.put b o).t.get c=H.t.get c:=by rw[U5,if_neg h]
theorem YB{H:Heap}{c:Nat}(h:H.nx=c)(o:Obj):(H.new o).t.get c=some o:=by rw[VX,if_pos h]
theorem Ma{H:Heap}{c:Nat}(h: ¬H.nx=c)(o:Obj):(H.new o).t.get c=H.t.get c:=by rw[VX,if_neg h]
theorem lH(H:Heap)(b:Nat)(o o':Obj):(H.put b o).put b o'=H.put b o':=by
 unfold Heap.put;simp only[T.set_set]
theorem Sy{H:Heap}{b:Nat}(h:H.nx=b)(o o':Obj):(H.new o).put b o'=H.new o':=by
 subst h;unfold Heap.put Heap.new;simp only[T.set_set]
theorem YC(H:Heap)(e sz:Nat)(l:List AV)(ex:Bool):H.newRow e sz l ex=H.new (rG e sz l 0 false true ex):=rfl
theorem DF(e:Nat)(c:AV)(cs:List AV)(tm:TM)(H:Heap):V9 e (c::cs) tm H=.val (.ptr H.nx 0) (H.new (rG e 1 (c::cs) 0 false true true)):=by
 rw[Al _ _ (by rw[Xb];simp)];rfl
def II(e:Nat)(a:AV)(H:Heap):OR:=Z3 (Nat.ble 1 (Xc a.cells))<|.val (.ptr H.nx 0) (H.newRow e 1 a.cells true)
theorem SA(x:YG)(e:Nat)(tm:TM)(H:Heap):IM x e tm H=II e (x tm) H:=rfl
theorem nj{a:AV}{l:List AV}(h:a.cells=l)(h1:1<=l.length)(e:Nat)(H:Heap):II e a H=.val (.ptr H.nx 0) (H.new (rG e 1 l 0 false true true)):=by
 subst h
 show Z3 (Nat.ble 1 (Xc a.cells)) _=_
 rw[Xb,Zg h1];rfl
theorem qD(l:List AV):(AV.agg l).cells=l:=rfl
theorem V7{l:List AV}(h1:1<=l.length)(e:Nat)(H:Heap):II e (.agg l) H=.val (.ptr H.nx 0) (H.new (rG e 1 l 0 false true true)):=nj (qD l) h1 e H
theorem fS{a:AV}(h:a.cells=[a])(e:Nat)(H:Heap):II e a H=.val (.ptr H.nx 0) (H.new (rG e 1 [a] 0 false true true)):=nj h (Zq 1) e H
theorem Bv(b:Bool):(AV.bool b).cells=[.bool b]:=rfl
theorem YF(k:IntKind)(n:Int):(AV.int k n).cells=[.int k n]:=rfl
theorem uu(k:IntKind)(n:Nat):(nI k n).cells=[nI k n]:=rfl
theorem zZ(x:UInt8):(X8 x).cells=[X8 x]:=rfl
theorem Eg(s:List UInt8):(AV.str s).cells=[.str s]:=rfl
theorem By:AV.nilp.cells=[.nilp]:=rfl
theorem zY(b o:Nat):(AV.ptr b o).cells=[.ptr b o]:=rfl
theorem Bz:AV.nils.cells=[.nils]:=rfl
theorem E7(b o n:Nat)(c:Option Nat):(AV.slice b o n c).cells=[.slice b o n c]:=rfl
theorem zX(b:Nat):(AV.map b).cells=[.map b]:=rfl
theorem Bw(f:Nat)(a b:List AV):(AV.func f a b).cells=[.func f a b]:=rfl
theorem E6(t:Nat)(v:AV):(AV.iface t v).cells=[.iface t v]:=rfl
theorem Bx:AV.nili.cells=[.nili]:=rfl
theorem zW(l:List AV):(AV.agg l).cells=l:=rfl
theorem Wo{a:TM->Heap->X->WL}{x:X}(I:Nat->TM->Heap->Prop)(Q:Out->TM->Heap->Prop)
  (step: ∀m tm H,I m tm H-> ∃o tm' H',a tm H x=.ok o tm' H' x∧((o=.normal∧ ∃k,k<m∧I k tm' H')∨(o≠.normal∧Q o tm' H'))):
  ∀(F m:Nat) (tm:TM) (H:Heap),m<F->I m tm H-> ∃o tm' H',WP a F tm H x=.ok o tm' H' x∧o≠.normal∧Q o tm' H'
 |0,m,_,_,h,_=>by omega
 |F+1,m,tm,H,h,hi=>by
  obtain⟨o,tm',H',h1,h2⟩:=step m tm H hi
  rcases h2 with⟨rfl,k,hk,h3⟩|⟨h2,h3⟩
  ·obtain⟨o2,g9,H2,e,h4,h5⟩:=Wo I Q step F k tm' H' (by omega) h3
   refine⟨o2,g9,H2,?_,h4,h5⟩
   show QY (a tm H x) (WP a F)=_
   rw[h1];exact e
  ·refine⟨o,tm',H',?_,h2,h3⟩
   show QY (a tm H x) (WP a F)=_
   rw[h1]
   cases o with
   |normal=>exact absurd rfl h2
   |_=>rfl
theorem Wd{a:TM->Heap->X->WL}{F:Nat}{H:Heap}{x:X}{L:WL}{P:TM->Prop}{Q:Out->TM->Heap->Prop}(lp: ∀T,P T-> ∃o tm' H',WP a F T H x=.ok o tm' H' x∧o≠.normal∧Q o tm' H'){T:TM}(hL:WP a F T H x=L)(hi:P T):
  ∃o tm' H',L=.ok o tm' H' x∧o≠.normal∧Q o tm' H':=by
 obtain⟨o,b,c,e,j⟩:=lp T hi
 exact⟨o,b,c,hL.symm.trans e,j⟩
end
theorem Yf:(∀(f:VA) (dst:Yd) (next:D) (c:Ctx) (tm:TM) (H:Heap) (x:X),Za f dst next c tm H x=OY (next c) dst c tm H x (f tm H))∧(∀(next:TM->Heap->X->WL) (dst:Yd) (c:Ctx) (tm:TM) (H:Heap) (x:X) (v:AV) (H':Heap),OY next dst c tm H x (.val v H')=next (dst tm v) H' x)∧(∀(next:TM->Heap->X->WL) (dst:Yd) (c:Ctx) (tm:TM) (H:Heap) (x:X) (f:Nat) (args:List AV) (H':Heap),OY next dst c tm H x (.oth (.call f args H'))=Au next dst tm x (c.call f args H'))∧(∀(next:TM->Heap->X->WL) (dst:Yd) (tm:TM) (x:X) (v:AV) (H:Heap),Au next dst tm x (.ret v H)=next (dst tm v) H x)∧(∀(a b:D) (c:Ctx) (tm:TM) (H:Heap) (x:X),Zi a b c tm H x=QY (a c tm H x) (b c))∧(∀(tm:TM) (H:Heap) (x:X) (k:TM->Heap->X->WL),QY (.ok .normal tm H x) k=k tm H x)∧(∀(tm:TM) (H:Heap) (x:X) (k:TM->Heap->X->WL),QY (.ok .ret tm H x) k=.ok .ret tm H x)∧(∀(i:Nat) (tm:TM) (H:Heap) (x:X) (k:TM->Heap->X->WL),QY (.ok (.exit i) tm H x) k=.ok (.exit i) tm H x)∧(∀(c:Ctx) (tm:TM) (H:Heap) (x:X),Zc c tm H x=.ok .normal tm H x)∧(∀(c:Ctx) (tm:TM) (H:Heap) (x:X),YX c tm H x=.ok .ret tm H x)∧(∀(i:Nat) (c:Ctx) (tm:TM) (H:Heap) (x:X),WV i c tm H x=.ok (.exit i) tm H x)∧(∀(q:YG) (a b:D) (c:Ctx) (tm:TM) (H:Heap) (x:X),Yo q a b c tm H x=wV (q tm) λv=>Gz (a c) (b c) v tm H x)∧(∀(b:Bool) (k:Bool->WL),wV (.bool b) k=k b)∧(∀(a b:TM->Heap->X->WL) (tm:TM) (H:Heap) (x:X),Gz a b true tm H x=a tm H x)∧(∀(a b:TM->Heap->X->WL) (tm:TM) (H:Heap) (x:X),Gz a b false tm H x=b tm H x)∧(∀(i:Nat) (a:D) (c:Ctx) (tm:TM) (H:Heap) (x:X),YT i a c tm H x=PU i (a c tm H x))∧(∀(a:D) (c:Ctx) (tm:TM) (H:Heap) (x:X),W5 a c tm H x=WP (a c) c.fuel tm H x)∧(∀(i:Nat) (tm:TM) (H:Heap) (x:X),PU i (.ok .normal tm H x)=.ok .normal tm H x)∧(∀(i:Nat) (tm:TM) (H:Heap) (x:X),PU i (.ok (.exit i) tm H x)=.ok .normal tm H x)∧(∀(i:Nat) (tm:TM) (H:Heap) (x:X),PU i (.ok .ret tm H x)=.ok .ret tm H x)∧(∀(tm:TM) (v:AV),d0 tm v=tm)∧(∀(v:AV) (tm:TM),k v tm=v)∧(∀(tm:TM),evs tm []=[])∧(∀(tm:TM) (f:YG) (l:List YG),evs tm (f::l)=f tm::evs tm l)∧(∀(x:YG) (tm:TM) (H:Heap),Zk x tm H=.val (x tm) H)∧(∀(x:YG) (tm:TM) (H:Heap),zz x tm H=pE (x tm) H)∧(∀(x:YG) (k:IntKind) (tm:TM) (H:Heap),Sw x k tm H=PS k (x tm) H)∧(∀(x y:YG) (tm:TM) (H:Heap),Y4 x y tm H=RI (x tm) (y tm) H)∧(∀(x y:YG) (tm:TM) (H:Heap),VF x y tm H=J8 (x tm) (y tm) H)∧(∀(x y:YG) (tm:TM) (H:Heap),Oc x y tm H=aF (x tm) (y tm) H)∧(∀(x y:YG) (tm:TM) (H:Heap),HV x y tm H=Zal (x tm) (y tm) H)∧(∀(x y:YG) (tm:TM) (H:Heap),Fh x y tm H=vN (x tm) (y tm) H)∧(∀(x y:YG) (f:Nat->Nat->Nat->Nat) (tm:TM) (H:Heap),U4 x y f tm H=KS f (x tm) (y tm) H)∧(∀(x y:YG) (tm:TM) (H:Heap),iD x y tm H=ZeE (x tm) (y tm) H)∧(∀(x y:YG) (tm:TM) (H:Heap),MF x y tm H=re (x tm) (y tm) H)∧(∀(x:YG) (tm:TM) (H:Heap),lj x tm H=Zb1 (x tm) H)∧(∀(x y:YG) (f:Int->Int->Bool) (g:List UInt8->List UInt8->Bool) (tm:TM) (H:Heap),Xi x y f g tm H=Te f g (x tm) (y tm) H)∧(∀(x y:YG) (f:AV->AV->Option Bool) (neg:Bool) (tm:TM) (H:Heap),UG x y f neg tm H=MU f neg (x tm) (y tm) H)∧(∀(x:YG) (tm:TM) (H:Heap),Ns x tm H=aI (x tm) H)∧(∀(x y z:YG) (tm:TM) (H:Heap),XA x y z tm H=AC (x tm) (y tm) (z tm) H)∧(∀(f:Nat) (args:List YG) (tm:TM) (H:Heap),ZT f args tm H=.oth (.call f (evs tm args) H))∧(∀(yes no:WL),Tn (.bool true) true yes no=yes)∧(∀(yes no:WL),Tn (.bool false) true yes no=no)∧(∀(yes no:WL),Tn (.bool false) false yes no=yes)∧(∀(yes no:WL),Tn (.bool true) false yes no=no)∧(∀(g:YG) (b:Bool) (f:VA) (dst:Yd) (next:D) (c:Ctx) (tm:TM) (H:Heap) (x:X),Z5 g b f dst next c tm H x=Tn (g tm) b (OY (next c) dst c tm H x (f tm H)) (next c (dst tm XE) H x))∧(∀(n:Nat) (l:List AV),Wu n (.agg l)=RL n l)∧(∀(n:Nat),Wu n XE=true)∧(∀(n:Nat) (s:List UInt8),Wu n (.str s)=true)∧(∀(n:Nat) (k:IntKind) (m:Nat),Wu n (nI k m)=true)∧(∀(n:Nat) (x:UInt32),Wu n (Y2 x)=true)∧(∀(n:Nat) (x:UInt8),Wu n (X8 x)=true)∧(∀(n:Nat) (x:Bool),Wu n (.bool x)=true)∧(∀(sz:Nat) (x:YG) (lo hi:Option YG) (tm:TM) (H:Heap),RC sz x lo hi none tm H=Ss sz (x tm) (lo.map λf=>f tm) (hi.map λf=>f tm) H)∧(∀(mx:Bool) (args:List YG) (tm:TM) (H:Heap),TS mx args tm H=zu mx (evs tm args) H)∧(∀(zs:List AV) (ps:List wh) (tm:TM) (H:Heap),TV zs ps tm H=Rz zs (ps.map λp=>(p.off,p.sz,p.x tm)) H)∧(∀(e sz n:Nat) (zs:List AV) (ps:List wh) (tm:TM) (H:Heap),Vp e sz n zs ps tm H=UL e sz n zs (ps.map λp=>(p.off,p.sz,p.x tm)) H)∧(∀(x y:YG) (e sz bytes:Nat) (tm:TM) (H:Heap),WZ x y e sz bytes tm H=U2 e sz bytes (x tm) (y tm) H)∧(∀(x y:YG) (sz:Nat) (tm:TM) (H:Heap),DG x y sz tm H=z4 sz (x tm) (y tm) H)∧(∀(n sz:Nat) (x:YG) (lo hi:Option YG) (tm:TM) (H:Heap),QE n sz x lo hi none tm H=KG n sz (x tm) (lo.map λf=>f tm) (hi.map λf=>f tm) H)∧(∀(x:YG) (tm:TM) (H:Heap),Wn x tm H=mP (x tm) H)∧(∀(x y:YG) (tm:TM) (H:Heap),XW x y tm H=M0 (x tm) (y tm) H)∧(∀(x:YG) (lo hi:Option YG) (tm:TM) (H:Heap),Vv x lo hi none tm H=EP (x tm) (lo.map λf=>f tm) (hi.map λf=>f tm) H)∧(∀(x:YG) (i:Nat) (tm:TM) (H:Heap),WJ x i tm H=De i (x tm) H)∧(∀(b c:AV) (H:Heap),AC (.bool true) b c H=.val b H)∧(∀(b c:AV) (H:Heap),AC (.bool false) b c H=.val c H)∧(∀(b:Bool) (H:Heap),aI (.bool b) H=.val (.bool (cond b false true)) H)∧(∀(x:YG) (tm:TM) (H:Heap),Yr x tm H=TI (x tm) H)∧(∀(x:YG) (n:Nat) (tm:TM) (H:Heap),Uk x n tm H=JH n (x tm) H)∧(∀(x y:YG) (n:Nat) (tm:TM) (H:Heap),Xy x y n tm H=RE n (x tm) (y tm) H)∧(∀(x:YG) (n:Nat) (tm:TM) (H:Heap),Xz x n tm H=Zd6 n (x tm) H)∧(∀(x y:YG) (n sz:Nat) (tm:TM) (H:Heap),VE x y n sz tm H=yS n sz (x tm) (y tm) H)∧(∀(x y:YG) (sz:Nat) (tm:TM) (H:Heap),Vn x y sz tm H=IZ sz (x tm) (y tm) H)∧(∀(x:YG) (tm:TM) (H:Heap),Tx x tm H=ZdW (x tm) H)∧(∀(x:YG) (tm:TM) (H:Heap),X9 x tm H=lenV (x tm) H)∧(∀(e n:Nat) (v:AV) (tm:TM) (H:Heap),RH e n v tm H=.val (.ptr H.nx 0) (H.new (.row ⟨e,1,n,.leaf,v,0,false,true,true⟩)))∧(∀(x:YG) (e:Nat) (tm:TM) (H:Heap),IM x e tm H=II e (x tm) H)∧(∀(e:Nat) (c:AV) (cs:List AV) (tm:TM) (H:Heap),V9 e (c::cs) tm H=.val (.ptr H.nx 0) (H.new (rG e 1 (c::cs) 0 false true true)))∧(∀(n b o:Nat) (H:Heap),Zd6 n (.ptr b o) H=.val (.ptr b (o+n)) H)∧(∀(b o:Nat) (H:Heap),ZdW (.ptr b o) H=.val (.ptr b o) H)∧(∀(b o n:Nat) (c:Option Nat) (H:Heap),lenV (.slice b o n c) H=.val (nI .i64 n) H)∧(∀(H:Heap),lenV .slice0 H=.val (nI .i64 0) H)∧(∀(H:Heap),lenV .nils H=.val (nI .i64 0) H)∧(∀(H:Heap) (b:Nat) (o:Obj),(H.put b o).nx=H.nx)∧(∀(H:Heap) (b:Nat) (o:Obj),(H.put b o).ro=H.ro)∧(∀(H:Heap) (o:Obj),(H.new o).nx=H.nx+1)∧(∀(H:Heap) (o:Obj),(H.new o).ro=H.ro)∧(∀(H:Heap) (b:Nat) (o:Obj),(H.put b o).t.get b=some o)∧(∀(H:Heap) (b:Nat) (o o':Obj),(H.put b o).put b o'=H.put b o')∧(∀(H:Heap) (e sz:Nat) (l:List AV) (ex:Bool),H.newRow e sz l ex=H.new (rG e sz l 0 false true ex))∧(∀(b o:Nat) (H:Heap),TI (.ptr b o) H=ld1 (H.t.get b) o H)∧(∀(n b o:Nat) (H:Heap),JH n (.ptr b o) H=wZ n (H.t.get b) o H)∧(∀(n b o:Nat) (v:AV) (H:Heap),RE n (.ptr b o) v H=oA n (H.t.get b) b o v H)∧(∀(b:Bool),(AV.bool b).cells=[.bool b])∧(∀(k:IntKind) (n:Int),(AV.int k n).cells=[.int k n])∧(∀(k:IntKind) (n:Nat),(nI k n).cells=[nI k n])∧(∀(x:UInt8),(X8 x).cells=[X8 x])∧(∀(s:List UInt8),(AV.str s).cells=[.str s])∧(AV.nilp.cells=[.nilp])∧(∀(b o:Nat),(AV.ptr b o).cells=[.ptr b o])∧(AV.nils.cells=[.nils])∧(∀(b o n:Nat) (c:Option Nat),(AV.slice b o n c).cells=[.slice b o n c])∧(∀(b:Nat),(AV.map b).cells=[.map b])∧(∀(f:Nat) (a b:List AV),(AV.func f a b).cells=[.func f a b])∧(∀(t:Nat) (v:AV),(AV.iface t v).cells=[.iface t v])∧(AV.nili.cells=[.nili])∧(∀(l:List AV),(AV.agg l).cells=l)∧(∀(l:List PI) (c:Ctx) (tm:TM) (H:Heap) (x:X),W7 l c tm H x=Ut (l.map (·.dst)) JM l c [] tm H x)∧(∀(ds:List Yd) (fin:PK) (c:Ctx) (rs:List RD) (tm:TM) (H:Heap) (x:X),Ut ds fin [] c rs tm H x=cond (still tm H rs) (fin rs tm H x) .fail)∧(∀(ds:List Yd) (fin:PK) (p:PI) (l:List PI) (c:Ctx) (rs:List RD) (tm:TM) (H:Heap) (x:X),Ut ds fin (p::l) c rs tm H x=Rq ds p (Ut ds fin l c) c rs tm H x)∧(∀(rs:List RD) (tm:TM) (H:Heap) (x:X),JM rs tm H x=.ok .normal tm H x)∧(∀(ds:List Yd) (f:VA) (os:List (Yd×YG)) (dst:Yd) (i bef:Nat) (nx:PK) (c:Ctx) (rs:List RD) (tm:TM) (H:Heap) (x:X),Rq ds ⟨f,none,os,dst,.free,i,bef⟩ nx c rs tm H x=cond (Qw H.nx tm os) (Jt ⟨f,none,os,dst,.free,i,bef⟩ nx rs tm H x (f (Pd tm os) ⟨H.nx,.leaf,H.nx⟩)) .fail)∧(∀(ds:List Yd) (f:VA) (os:List (Yd×YG)) (dst:Yd) (i bef:Nat) (nx:PK) (c:Ctx) (rs:List RD) (tm:TM) (H:Heap) (x:X),Rq ds ⟨f,none,os,dst,.read,i,bef⟩ nx c rs tm H x=I2 ⟨f,none,os,dst,.read,i,bef⟩ nx rs tm H x (f (Pd tm os) ⟨H.nx,H.t,H.nx⟩))∧(∀(ds:List Yd) (f:VA) (os:List (Yd×YG)) (dst:Yd) (i bef:Nat) (nx:PK) (c:Ctx) (rs:List RD) (tm:TM) (H:Heap) (x:X),Rq ds ⟨f,none,os,dst,.eff,i,bef⟩ nx c rs tm H x=cond (still tm H rs) (GD ds ⟨f,none,os,dst,.eff,i,bef⟩ nx rs c tm x (f (Pd tm os) H)) .fail)∧(∀(ds:List Yd) (f:VA) (e:YG) (b:Bool) (os:List (Yd×YG)) (dst:Yd) (i bef:Nat) (nx:PK) (c:Ctx) (rs:List RD) (tm:TM) (H:Heap) (x:X),Rq ds ⟨f,some (e,b),os,dst,.free,i,bef⟩ nx c rs tm H x=Tn (e tm) b (cond (Qw H.nx tm os) (Jt ⟨f,some (e,b),os,dst,.free,i,bef⟩ nx rs tm H x (f (Pd tm os) ⟨H.nx,.leaf,H.nx⟩)) .fail) (nx rs (dst tm XE) H x))∧(∀(ds:List Yd) (f:VA) (e:YG) (b:Bool) (os:List (Yd×YG)) (dst:Yd) (i bef:Nat) (nx:PK) (c:Ctx) (rs:List RD) (tm:TM) (H:Heap) (x:X),Rq ds ⟨f,some (e,b),os,dst,.read,i,bef⟩ nx c rs tm H x=Tn (e tm) b (I2 ⟨f,some (e,b),os,dst,.read,i,bef⟩ nx rs tm H x (f (Pd tm os) ⟨H.nx,H.t,H.nx⟩)) (nx rs (dst tm XE) H x))∧(∀(ds:List Yd) (f:VA) (e:YG) (b:Bool) (os:List (Yd×YG)) (dst:Yd) (i bef:Nat) (nx:PK) (c:Ctx) (rs:List RD) (tm:TM) (H:Heap) (x:X),Rq ds ⟨f,some (e,b),os,dst,.eff,i,bef⟩ nx c rs tm H x=cond (still tm H rs) (Tn (e tm) b (GD ds ⟨f,some (e,b),os,dst,.eff,i,bef⟩ nx rs c tm x (f (Pd tm os) H)) (nx (Th bef rs) (dst tm XE) H x)) .fail)∧(∀(ds:List Yd) (f:VA) (os:List (Yd×YG)) (dst:Yd) (i bef:Nat) (nx:PK) (c:Ctx) (rs:List RD) (tm:TM) (x:X) (g:Option (YG×Bool)) (kd:Gl) (v:AV) (H':Heap),GD ds ⟨f,g,os,dst,kd,i,bef⟩ nx rs c tm x (.val v H')=nx (Th bef rs) (dst tm v) H' x)∧(∀(ds:List Yd) (f:VA) (os:List (Yd×YG)) (dst:Yd) (i bef:Nat) (nx:PK) (c:Ctx) (rs:List RD) (tm:TM) (x:X) (g:Option (YG×Bool)) (kd:Gl) (H':Heap) (q:Nat) (args:List AV),GD ds ⟨f,g,os,dst,kd,i,bef⟩ nx rs c tm x (.oth (.call q args H'))=AG ds ⟨f,g,os,dst,kd,i,bef⟩ nx rs tm x (c.call q args H'))∧(∀(ds:List Yd) (f:VA) (os:List (Yd×YG)) (dst:Yd) (i bef:Nat) (nx:PK) (rs:List RD) (tm:TM) (x:X) (g:Option (YG×Bool)) (kd:Gl) (v:AV) (H':Heap),AG ds ⟨f,g,os,dst,kd,i,bef⟩ nx rs tm x (.ret v H')=nx (Th bef rs) (dst tm v) H' x)∧(∀(b:Nat),Th b []=[])∧(∀(f:VA) (os:List (Yd×YG)) (dst:Yd) (i bef:Nat) (rs:List RD) (g:Option (YG×Bool)) (kd:Gl) (v:AV) (b:Nat),Th b (⟨⟨f,g,os,dst,kd,i,bef⟩,v⟩::rs)=cond (Nat.testBit b i) (Th b rs) (⟨⟨f,g,os,dst,kd,i,bef⟩,v⟩::Th b rs))∧(∀(tm:TM) (H:Heap),still tm H []=true)∧(∀(f:VA) (os:List (Yd×YG)) (dst:Yd) (i bef:Nat) (rs:List RD) (tm:TM) (H:Heap) (g:Option (YG×Bool)) (kd:Gl) (v:AV),still tm H (⟨⟨f,g,os,dst,kd,i,bef⟩,v⟩::rs)=cond (sL ⟨⟨f,g,os,dst,kd,i,bef⟩,v⟩ tm H) (still tm H rs) false)∧(∀(f:VA) (os:List (Yd×YG)) (dst:Yd) (i bef:Nat) (tm:TM) (H:Heap) (g:Option (YG×Bool)) (kd:Gl) (v:AV),sL ⟨⟨f,g,os,dst,kd,i,bef⟩,v⟩ tm H=UR (f (Pd tm os) ⟨H.nx,H.t,H.nx⟩) v H.nx)∧(∀(v:UInt32) (n:Nat) (t:T Obj),UR (.val (Y2 v) ⟨n,t,n⟩) (Y2 v) n=true)∧(∀(v:UInt8) (n:Nat) (t:T Obj),UR (.val (X8 v) ⟨n,t,n⟩) (X8 v) n=true)∧(∀(k:IntKind) (v:Nat) (n:Nat) (t:T Obj),UR (.val (nI k v) ⟨n,t,n⟩) (nI k v) n=true)∧(∀(s:List UInt8) (n:Nat) (t:T Obj),UR (.val (.str s) ⟨n,t,n⟩) (.str s) n=true)∧(∀(n:Nat) (t:T Obj),UR (.val .nils ⟨n,t,n⟩) .nils n=true)∧(∀(b o n:Nat) (c:Option Nat) (k:Nat) (t:T Obj),UR (.val (.slice b o n c) ⟨k,t,k⟩) (.slice b o n c) k=true)∧(∀(n:Nat) (tm:TM),Qw n tm []=true)∧(∀(n:Nat) (tm:TM) (s:Yd) (g:YG) (os:List (Yd×YG)),Qw n tm ((s,g)::os)=cond (Wu n (g tm)) (Qw n tm os) false)∧(∀(tm:TM),Pd tm []=OM)∧(∀(tm:TM) (s:Yd) (g:YG) (os:List (Yd×YG)),Pd tm ((s,g)::os)=s (Pd tm os) (g tm))∧(∀(a:AV) (l:List AV) (H:Heap),De 0 (.tup (a::l)) H=.val a H)∧(∀(a b:AV) (l:List AV) (H:Heap),De 1 (.tup (a::b::l)) H=.val b H)∧(∀(a b c:AV) (l:List AV) (H:Heap),De 2 (.tup (a::b::c::l)) H=.val c H)∧(∀(dc:Option AV->Nat->List AV->Heap->DR) (rs:List (YG×Option (Nat×Bool))) (tm:TM) (H:Heap) (rc:Option AV),K8 dc rs (.ok .ret tm H ⟨[],rc⟩)=results rs tm H)∧(∀(dc:Option AV->Nat->List AV->Heap->DR) (rs:List (YG×Option (Nat×Bool))) (tm:TM) (H:Heap) (rc:Option AV),K8 dc rs (.ok .normal tm H ⟨[],rc⟩)=results rs tm H)∧(∀(f:YG) (tm:TM) (H:Heap),results [(f,none)] tm H=.ret (f tm) H)∧(∀(tm:TM) (H:Heap),results [] tm H=.ret (.tup []) H)∧(∀(a b:UInt32) (H:Heap),RI (Y2 a) (Y2 b) H=.val (Y2 (a+b)) H)∧(Rk []=OM)∧(∀(a:AV),Rk [a]=st0 OM a)∧(∀(a b:AV),Rk [a,b]=st1 (st0 OM a) b)∧(∀(a b c:AV),Rk [a,b,c]=st2 (st1 (st0 OM a) b) c)∧(∀(a b c d:AV),Rk [a,b,c,d]=Tc (st2 (st1 (st0 OM a) b) c) d)∧(∀(a b:List UInt8) (H:Heap),MU Js false (.str a) (.str b) H=.val (.bool (decide (a=b))) H)∧(∀(a b:List UInt8) (H:Heap),MU Js true (.str a) (.str b) H=.val (.bool (!decide (a=b))) H)∧(∀(a b:Bool) (H:Heap),MU fw false (.bool a) (.bool b) H=.val (.bool (decide (a=b))) H)∧(∀(k:IntKind) (a b:Nat) (H:Heap),Te Wf Xo (nI k a) (nI k b) H=.val (.bool (decide (a<b))) H)∧(∀(k:IntKind) (a b:Nat) (H:Heap),Te Re Vi (nI k a) (nI k b) H=.val (.bool (decide (b<=a))) H)∧(∀(k:IntKind) (a b:Nat) (H:Heap),Te SQ VW (nI k a) (nI k b) H=.val (.bool (decide (b<a))) H)∧(∀(k:IntKind) (a b:Nat) (H:Heap),Te PR Sk (nI k a) (nI k b) H=.val (.bool (decide (a<=b))) H)∧(∀(k:IntKind) (a b:Nat) (H:Heap),MU UB false (nI k a) (nI k b) H=.val (.bool (decide (a=b))) H)∧(∀(k:IntKind) (a b:Nat) (H:Heap),MU UB true (nI k a) (nI k b) H=.val (.bool (decide (a≠b))) H)∧(∀(s:List UInt8) (H:Heap),mP (.str s) H=.val (nI .i64 s.length) H)∧(∀(x:YG) (tm:TM) (H:Heap),y8 x tm H=ZfD (x tm) H)∧(∀(x:YG) (u n:Nat) (tm:TM) (H:Heap),y7 x u n tm H=ZfC u n (x tm) H)∧(∀(x:YG) (tm:TM) (H:Heap),CK x tm H=kE (x tm) H)∧(∀(x y:YG) (e:Nat) (tm:TM) (H:Heap),li x y e tm H=ZfU e (x tm) (y tm) H):=⟨@X2, @X1, @Rt, @Se, @X5, @YI, @gZ, @TQ, @XI, @Qc, @SL, @W0, @W1, @TF, @VS, @W6, @Rx, @V3, @WI, @pp, @Nl, @TH, @PL, @RS, @Vd, @Fg, @LP, @Ry, @JP, @Ff, @tY, @Fi, @OF, @Fj, @JO, @y9, @US, @CH, @tX, @y6, @Sq, @jE, @jC, @yQ, @jD, @sZ, @Ad, @py, @au, @G5, @G6, @mU, @yZ, @RZ, @Po, @TK, @ZX, @ZW, @It, @Mq, @iz, @tV, @pI, @iw, @Zep, @Zeo, @Zhy, @TL, @NZ, @Tb, @O8, @NY, @ED, @O7, @Pn, @RY, @SA, @DF, @Vk, @Us, @V8, @tx, @B9, @Ll, @p5, @JK, @aH, @XY, @lH, @YC, @yX, @am, @gR, @Bv, @YF, @uu, @zZ, @Eg, @By, @zY, @Bz, @E7, @zX, @Bw, @E6, @Bx, @zW, @Ki, @Iv, @KA, @Iq, @KL, @KM, @IC, @rO, @rP, @oB, @GF, @yc, @sP, @Ih, @Kt, @ID, @KN, @Fu, @Ks, @jR, @jQ, @pi, @O4, @Yj, @Ik, @Kv, @CP, @Fz, @ZcJ, @ZcK, @ZcL, @QR, @DL, @Pq, @Fw, @Cx, @oW, @Ib, @Ic, @Zci, @Zcj, @YE, @Xa, @ZcH, @Zy, @ZM, @ZJ, @ZK, @YN, @Y7, @ZP, @iC, @iB, @sj, @iE⟩
theorem Xr:(∀{α:Type} (f:α->α) (n:N8 α),N8.a0 (N8.u0 f n)=f (N8.a0 n))∧(∀{α:Type} (f:α->α) (n:N8 α),N8.a0 (N8.u1 f n)=N8.a0 n)∧(∀{α:Type} (f:α->α) (n:N8 α),N8.a0 (N8.u2 f n)=N8.a0 n)∧(∀{α:Type} (f:α->α) (n:N8 α),N8.a0 (N8.u3 f n)=N8.a0 n)∧(∀{α:Type} (f:α->α) (n:N8 α),N8.a0 (N8.u4 f n)=N8.a0 n)∧(∀{α:Type} (f:α->α) (n:N8 α),N8.a0 (N8.u5 f n)=N8.a0 n)∧(∀{α:Type} (f:α->α) (n:N8 α),N8.a0 (N8.u6 f n)=N8.a0 n)∧(∀{α:Type} (f:α->α) (n:N8 α),N8.a0 (N8.u7 f n)=N8.a0 n)∧(∀{α:Type} (f:α->α) (n:N8 α),N8.a1 (N8.u0 f n)=N8.a1 n)∧(∀{α:Type} (f:α->α) (n:N8 α),N8.a1 (N8.u1 f n)=f (N8.a1 n))∧(∀{α:Type} (f:α->α) (n:N8 α),N8.a1 (N8.u2 f n)=N8.a1 n)∧(∀{α:Type} (f:α->α) (n:N8 α),N8.a1 (N8.u3 f n)=N8.a1 n)∧(∀{α:Type} (f:α->α) (n:N8 α),N8.a1 (N8.u4 f n)=N8.a1 n)∧(∀{α:Type} (f:α->α) (n:N8 α),N8.a1 (N8.u5 f n)=N8.a1 n)∧(∀{α:Type} (f:α->α) (n:N8 α),N8.a1 (N8.u6 f n)=N8.a1 n)∧(∀{α:Type} (f:α->α) (n:N8 α),N8.a1 (N8.u7 f n)=N8.a1 n)∧(∀{α:Type} (f:α->α) (n:N8 α),N8.a2 (N8.u0 f n)=N8.a2 n)∧(∀{α:Type} (f:α->α) (n:N8 α),N8.a2 (N8.u1 f n)=N8.a2 n)∧(∀{α:Type} (f:α->α) (n:N8 α),N8.a2 (N8.u2 f n)=f (N8.a2 n))∧(∀{α:Type} (f:α->α) (n:N8 α),N8.a2 (N8.u3 f n)=N8.a2 n)∧(∀{α:Type} (f:α->α) (n:N8 α),N8.a2 (N8.u4 f n)=N8.a2 n)∧(∀{α:Type} (f:α->α) (n:N8 α),N8.a2 (N8.u5 f n)=N8.a2 n)∧(∀{α:Type} (f:α->α) (n:N8 α),N8.a2 (N8.u6 f n)=N8.a2 n)∧(∀{α:Type} (f:α->α) (n:N8 α),N8.a2 (N8.u7 f n)=N8.a2 n)∧(∀{α:Type} (f:α->α) (n:N8 α),N8.a3 (N8.u0 f n)=N8.a3 n)∧(∀{α:Type} (f:α->α) (n:N8 α),N8.a3 (N8.u1 f n)=N8.a3 n)∧(∀{α:Type} (f:α->α) (n:N8 α),N8.a3 (N8.u2 f n)=N8.a3 n)∧(∀{α:Type} (f:α->α) (n:N8 α),N8.a3 (N8.u3 f n)=f (N8.a3 n))∧(∀{α:Type} (f:α->α) (n:N8 α),N8.a3 (N8.u4 f n)=N8.a3 n)∧(∀{α:Type} (f:α->α) (n:N8 α),N8.a3 (N8.u5 f n)=N8.a3 n)∧(∀{α:Type} (f:α->α) (n:N8 α),N8.a3 (N8.u6 f n)=N8.a3 n)∧(∀{α:Type} (f:α->α) (n:N8 α),N8.a3 (N8.u7 f n)=N8.a3 n)∧(∀{α:Type} (f:α->α) (n:N8 α),N8.a4 (N8.u0 f n)=N8.a4 n)∧(∀{α:Type} (f:α->α) (n:N8 α),N8.a4 (N8.u1 f n)=N8.a4 n)∧(∀{α:Type} (f:α->α) (n:N8 α),N8.a4 (N8.u2 f n)=N8.a4 n)∧(∀{α:Type} (f:α->α) (n:N8 α),N8.a4 (N8.u3 f n)=N8.a4 n)∧(∀{α:Type} (f:α->α) (n:N8 α),N8.a4 (N8.u4 f n)=f (N8.a4 n))∧(∀{α:Type} (f:α->α) (n:N8 α),N8.a4 (N8.u5 f n)=N8.a4 n)∧(∀{α:Type} (f:α->α) (n:N8 α),N8.a4 (N8.u6 f n)=N8.a4 n)∧(∀{α:Type} (f:α->α) (n:N8 α),N8.a4 (N8.u7 f n)=N8.a4 n)∧(∀{α:Type} (f:α->α) (n:N8 α),N8.a5 (N8.u0 f n)=N8.a5 n)∧(∀{α:Type} (f:α->α) (n:N8 α),N8.a5 (N8.u1 f n)=N8.a5 n)∧(∀{α:Type} (f:α->α) (n:N8 α),N8.a5 (N8.u2 f n)=N8.a5 n)∧(∀{α:Type} (f:α->α) (n:N8 α),N8.a5 (N8.u3 f n)=N8.a5 n)∧(∀{α:Type} (f:α->α) (n:N8 α),N8.a5 (N8.u4 f n)=N8.a5 n)∧(∀{α:Type} (f:α->α) (n:N8 α),N8.a5 (N8.u5 f n)=f (N8.a5 n))∧(∀{α:Type} (f:α->α) (n:N8 α),N8.a5 (N8.u6 f n)=N8.a5 n)∧(∀{α:Type} (f:α->α) (n:N8 α),N8.a5 (N8.u7 f n)=N8.a5 n)∧(∀{α:Type} (f:α->α) (n:N8 α),N8.a6 (N8.u0 f n)=N8.a6 n)∧(∀{α:Type} (f:α->α) (n:N8 α),N8.a6 (N8.u1 f n)=N8.a6 n)∧(∀{α:Type} (f:α->α) (n:N8 α),N8.a6 (N8.u2 f n)=N8.a6 n)∧(∀{α:Type} (f:α->α) (n:N8 α),N8.a6 (N8.u3 f n)=N8.a6 n)∧(∀{α:Type} (f:α->α) (n:N8 α),N8.a6 (N8.u4 f n)=N8.a6 n)∧(∀{α:Type} (f:α->α) (n:N8 α),N8.a6 (N8.u5 f n)=N8.a6 n)∧(∀{α:Type} (f:α->α) (n:N8 α),N8.a6 (N8.u6 f n)=f (N8.a6 n))∧(∀{α:Type} (f:α->α) (n:N8 α),N8.a6 (N8.u7 f n)=N8.a6 n)∧(∀{α:Type} (f:α->α) (n:N8 α),N8.a7 (N8.u0 f n)=N8.a7 n)∧(∀{α:Type} (f:α->α) (n:N8 α),N8.a7 (N8.u1 f n)=N8.a7 n)∧(∀{α:Type} (f:α->α) (n:N8 α),N8.a7 (N8.u2 f n)=N8.a7 n)∧(∀{α:Type} (f:α->α) (n:N8 α),N8.a7 (N8.u3 f n)=N8.a7 n)∧(∀{α:Type} (f:α->α) (n:N8 α),N8.a7 (N8.u4 f n)=N8.a7 n)∧(∀{α:Type} (f:α->α) (n:N8 α),N8.a7 (N8.u5 f n)=N8.a7 n)∧(∀{α:Type} (f:α->α) (n:N8 α),N8.a7 (N8.u6 f n)=N8.a7 n)∧(∀{α:Type} (f:α->α) (n:N8 α),N8.a7 (N8.u7 f n)=f (N8.a7 n)):=⟨@N8.g00, @N8.g01, @N8.g02, @N8.g03, @N8.g04, @N8.g05, @N8.g06, @N8.g07, @N8.g10, @N8.g11, @N8.g12, @N8.g13, @N8.g14, @N8.g15, @N8.g16, @N8.g17, @N8.g20, @N8.g21, @N8.g22, @N8.g23, @N8.g24, @N8.g25, @N8.g26, @N8.g27, @N8.g30, @N8.g31, @N8.g32, @N8.g33, @N8.g34, @N8.g35, @N8.g36, @N8.g37, @N8.g40, @N8.g41, @N8.g42, @N8.g43, @N8.g44, @N8.g45, @N8.g46, @N8.g47, @N8.g50, @N8.g51, @N8.g52, @N8.g53, @N8.g54, @N8.g55, @N8.g56, @N8.g57, @N8.g60, @N8.g61, @N8.g62, @N8.g63, @N8.g64, @N8.g65, @N8.g66, @N8.g67, @N8.g70, @N8.g71, @N8.g72, @N8.g73, @N8.g74, @N8.g75, @N8.g76, @N8.g77⟩
theorem Sb{j:IntKind}{a:Nat}(h:a<9223372036854775808)(H:Heap):PS .i64 (nI j a) H=.val (nI .i64 a) H:=by
 show UX .i64 (.ofNat a) H=_
 rw[Wb,J9 h];rfl
theorem gI{j:IntKind}{a b:Nat}(h:b<64)(H:Heap):re (nI .i64 a) (nI j b) H=.val (nI .i64 (a/2^b)) H:=by
 show QB (.ofNat (Nat.div a (Nat.pow 2 (Ob b 64)))) (λn=>OR.val (.int .i64 n) H)=_
 have:Ob b 64=b:=by unfold Ob;rw[Zg (by omega)];rfl
 rw[SM,this];rfl
theorem QT{a b:Nat}(h:0<b)(h2:a<18446744073709551616)(H:Heap):Zal (nI .u64 a) (nI .u64 b) H=.val (nI .u64 (a/b)) H:=by
 show Z3 (Oz .u64 .u64) (cond (FW (.ofNat b) (.ofNat 0)) .fail (UX .u64 (.ofNat (Nat.div a b)) H))=_
 rw[X4,ON,Ze (by omega),Wb,show(Int.ofNat (Nat.div a b))=Int.ofNat (a/b) from rfl,Nh,YD (TZ (PC a b) h2)];rfl
theorem QV{a b:Nat}(h:0<b)(H:Heap):vN (nI .u64 a) (nI .u64 b) H=.val (nI .u64 (a % b)) H:=by
 show Z3 (Oz .u64 .u64) (cond (FW (.ofNat b) (.ofNat 0)) .fail (QB (.ofNat (Nat.mod a b)) λn=>.val (.int .u64 n) H))=_
 rw[X4,ON,Ze (by omega),SM];rfl
theorem PT{j:IntKind}{a:Nat}(h:a<18446744073709551616)(H:Heap):PS .u64 (nI j a) H=.val (nI .u64 a) H:=by
 show UX .u64 (.ofNat a) H=_
 rw[Wb,Nh,YD h];rfl
theorem TA{j:IntKind}{a b:Nat}(h:b<64)(H:Heap):re (nI .u64 a) (nI j b) H=.val (nI .u64 (a/2^b)) H:=by
 show QB (.ofNat (Nat.div a (Nat.pow 2 (Ob b 64)))) (λn=>OR.val (.int .u64 n) H)=_
 have:Ob b 64=b:=by unfold Ob;rw[Zg (by omega)];rfl
 rw[SM,this];rfl
theorem Uo{a b:Nat}(h:a+b<4294967296)(H:Heap):RI (nI .u32 a) (nI .u32 b) H=.val (nI .u32 (a+b)) H:=by
 show Z3 (Oz .u32 .u32) (UX .u32 (tf (.ofNat a) (.ofNat b)) H)=_
 rw[X4,Wb,G1,P5,YD h];rfl
theorem QQ{a b:Nat}(h:a*b<4294967296)(H:Heap):aF (nI .u32 a) (nI .u32 b) H=.val (nI .u32 (a*b)) H:=by
 show Z3 (Oz .u32 .u32) (UX .u32 (zq (.ofNat a) (.ofNat b)) H)=_
 rw[X4,Wb,G2,P5,YD h];rfl
theorem QS{a b:Nat}(h:0<b)(h2:a<4294967296)(H:Heap):Zal (nI .u32 a) (nI .u32 b) H=.val (nI .u32 (a/b)) H:=by
 show Z3 (Oz .u32 .u32) (cond (FW (.ofNat b) (.ofNat 0)) .fail (UX .u32 (.ofNat (Nat.div a b)) H))=_
 rw[X4,ON,Ze (by omega),Wb,show(Int.ofNat (Nat.div a b))=Int.ofNat (a/b) from rfl,P5,YD (TZ (PC a b) h2)];rfl
theorem QU{a b:Nat}(h:0<b)(H:Heap):vN (nI .u32 a) (nI .u32 b) H=.val (nI .u32 (a % b)) H:=by
 show Z3 (Oz .u32 .u32) (cond (FW (.ofNat b) (.ofNat 0)) .fail (QB (.ofNat (Nat.mod a b)) λn=>.val (.int .u32 n) H))=_
 rw[X4,ON,Ze (by omega),SM];rfl
theorem QP{j:IntKind}{a:Nat}(h:a<4294967296)(H:Heap):PS .u32 (nI j a) H=.val (nI .u32 a) H:=by
 show UX .u32 (.ofNat a) H=_
 rw[Wb,P5,YD h];rfl
theorem Zeu{a b:Nat}(h:0<b)(H:Heap):vN (nI .u8 a) (nI .u8 b) H=.val (nI .u8 (a % b)) H:=by
 show Z3 (Oz .u8 .u8) (cond (FW (.ofNat b) (.ofNat 0)) .fail (QB (.ofNat (Nat.mod a b)) λn=>.val (.int .u8 n) H))=_
 rw[X4,ON,Ze (by omega),SM];rfl
theorem YV{j:IntKind}{a:Nat}(h:a<256)(H:Heap):PS .u8 (nI j a) H=.val (nI .u8 a) H:=by
 show UX .u8 (.ofNat a) H=_
 rw[Wb,CT,YD h];rfl
theorem M2(j:IntKind)(a:Nat)(H:Heap):PS .u8 (nI j a) H=.val (nI .u8 (a % 256)) H:=by
 show UX .u8 (.ofNat a) H=_
 rw[Wb,CT];rfl
theorem vj(k:IntKind)(m b:Nat)(H:Heap):Te Wf Xo (.int k (.negSucc m)) (nI k b) H=.val (.bool true) H:=by
 show Z3 (Oz k k) (Rr true H)=_
 rw[X4];rfl
theorem vd(k:IntKind)(m b:Nat)(H:Heap):Te PR Sk (nI k b) (.int k (.negSucc m)) H=.val (.bool false) H:=by
 show Z3 (Oz k k) (Rr (!yT (.negSucc m) (.ofNat b)) H)=_
 rw[X4];rfl
theorem we(n:Int):IntKind.u64.wrap n=n % 18446744073709551616:=by
 unfold IntKind.wrap
 simp[IntKind.bits,IntKind.signed]
theorem wc{z:Int}(h1: -9223372036854775808<=z)(h2:z<9223372036854775808):IntKind.i64.wrap z=z:=by
 unfold IntKind.wrap
 simp[IntKind.bits,IntKind.signed]
 omega
theorem bN(k j:IntKind)(n:Int)(H:Heap):PS k (.int j n) H=UX k n H:=rfl
theorem HK{m:Nat}(h:m<9223372036854775808)(H:Heap):PS .u64 (.int .i64 (.negSucc m)) H=.val (nI .u64 (18446744073709551615 - m)) H:=by
 have e1:IntKind.u64.wrap (.negSucc m)=Int.ofNat (18446744073709551615 - m):=by
  rw[Int.negSucc_eq,we,Y9]
  omega
 rw[bN,Wb,e1];unfold nI;rfl
theorem O6{u:Nat}(h0:0<u)(h:u<18446744073709551616)(H:Heap):pE (nI .u64 u) H=.val (nI .u64 (18446744073709551616 - u)) H:=by
 show UX .u64 (IL 0 (.ofNat u)) H=_
 rw[Wb]
 congr 2
 have e:IL 0 (.ofNat u)= -(u:Int):=by
  show cond (Nat.ble u 0) (Int.ofNat (Nat.sub 0 u)) (Int.ofNat 0 - Int.ofNat u)=_
  cases hb:Nat.ble u 0 with
  |true=>have:=Yh hb;omega
  |false=>show(0:Int) - u=_;omega
 rw[e,we,Y9]
 omega
theorem aG{u:Nat}(h0:0<u)(h:u<=9223372036854775808)(H:Heap):pE (nI .i64 u) H=.val (.int .i64 (.negSucc (u - 1))) H:=by
 show UX .i64 (IL 0 (.ofNat u)) H=_
 rw[Wb]
 congr 2
 have e:IL 0 (.ofNat u)= -(u:Int):=by
  show cond (Nat.ble u 0) (Int.ofNat (Nat.sub 0 u)) (Int.ofNat 0 - Int.ofNat u)=_
  cases hb:Nat.ble u 0 with
  |true=>have:=Yh hb;omega
  |false=>show(0:Int) - u=_;omega
 rw[e]
 rw[wc (by omega) (by omega)];omega
theorem vr(H:Heap):pE (nI .i64 0) H=.val (nI .i64 0) H:=rfl
theorem xz{s:List UInt8}{p q:Nat}(h1:p<=q)(h2:q<=s.length)(k j:IntKind)(H:Heap):EP (.str s) (some (nI k p)) (some (nI j q)) H=.val (.str ((s.take q).drop p)) H:=by
 show Z3 (Nat.ble q (Xc s)) (Z3 (Nat.ble p q) (OR.val (.str (IS p (KZ q s))) H))=_
 rw[Xb,Zg h2,Zg h1,My,GA];rfl
theorem Ya{s:List UInt8}{p:Nat}(h1:p<=s.length)(k:IntKind)(H:Heap):EP (.str s) (some (nI k p)) none H=.val (.str (s.drop p)) H:=by
 show Z3 (Nat.ble p (Xc s)) (OR.val (.str (IS p (KZ (Xc s) s))) H)=_
 rw[Xb,Zg h1,My,GA,WO];rfl
theorem Ye{s:List UInt8}{i:Nat}(h:i<s.length)(k:IntKind)(H:Heap):M0 (.str s) (nI k i) H=.val (nI .u8 (s.getD i 0).toNat) H:=Mj h k H
section
variable (f:VA) (os:List (Yd×YG)) (dst:Yd) (i bef:Nat) (nx:PK) (rs:List RD) (tm:TM) (H:Heap) (x:X) (g:Option (YG×Bool)) (kd:Gl) (v:AV)
theorem Z0{m:Nat}(h:H.nx=m):Jt ⟨f,g,os,dst,kd,i,bef⟩ nx rs tm H x (.val v ⟨m,.leaf,m⟩)=nx rs (dst tm v) H x:=by subst h;exact Ig ..
theorem Z1{m:Nat}(h:H.nx=m)(t:T Obj)(k:Nat):I2 ⟨f,g,os,dst,kd,i,bef⟩ nx rs tm H x (.val v ⟨m,t,k⟩)=nx (⟨⟨f,g,os,dst,kd,i,bef⟩,v⟩::rs) (dst tm v) H x:=by
 subst h
 show cond (Nat.beq H.nx H.nx) _ _=_
 rw[Xd];rfl
theorem Yc{m:Nat}(h:H.nx=m)(o:Obj)(hw:wrO o=true):Jt ⟨f,g,os,dst,kd,i,bef⟩ nx rs tm H x (.val v ((⟨m,.leaf,m⟩:Heap).new o))=nx rs (dst tm v) (H.new o) x:=by subst h;exact js _ _ _ _ _ _ _ _ _ _ _ _ _ _ hw
end
theorem Zb0(e sz:Nat)(l:List AV)(fz:Nat)(sm ex:Bool):wrO (rG e sz l fz sm true ex)=true:=rfl
def Row.st(r:Row)(o:Nat)(v:AV):Row:=r.setCells (r.cells.set o v)
theorem Row.st_size(r:Row)(o:Nat)(v:AV):(r.st o v).size=r.size:=rfl
theorem Row.st_own(r:Row)(o:Nat)(v:AV):(r.st o v).own=r.own:=rfl
theorem Row.st_fz(r:Row)(o:Nat)(v:AV):(r.st o v).fz=r.fz:=rfl
theorem Row.st_get(r:Row)(o:Nat)(v:AV)(i:Nat):(r.st o v).get i=if o=i then v else r.get i:=by
 rw[Row.get_eq,Row.get_eq]
 show((r.cells.set o v).get i).getD r.dflt=_
 rw[T.get_set]
 split<;>rfl
theorem Y8{r:Row}{o:Nat}(h:o<r.size)(H:Heap):ld1 (some (.row r)) o H=.val (r.get o) H:=by
 show Z3 (Nat.ble (Nat.succ o) r.size) (.val (r.get o) H)=_
 rw[Zg (show Nat.succ o<=r.size from h)];rfl
theorem U6{r:Row}{b o:Nat}{v:AV}{H:Heap}(hv:v.cells=[v])(ho:o<r.size)(how:r.own=true)(hro:H.ro<=b)(hfz:r.fz<=o):oA 1 (some (.row r)) b o v H=.val XE (H.put b (.row (r.st o v))):=by
 show Z3 (Nat.ble 1 1) (Z3 (cond r.own (Nat.ble H.ro b) false) (Z3 (Nat.ble (o+1) r.size) (Z3 (Nat.ble r.fz o) (Z3 (Nat.beq (Xc v.cells) 1) (.val XE (H.put b (.row (r.setCells (Xj r.cells o v.cells)))))))))=_
 rw[how,cond_true,Zg hro,Zg (show o+1<=r.size from ho),Zg hfz,hv];rfl
def oE(a:AV)(H:Heap):OR:=onZ a (.val (.str []) H)<|Sf a (.val (.str []) H) λb o n _=>cond (Nat.beq n 0) (.val (.str []) H) (Xv H b λr=>Z3 (Nat.ble (Nat.add o n) r.size) (OQ (λs=>.val (.str s) H) (Vr r o n)))
theorem Fk(x:YG)(tm:TM)(H:Heap):si x tm H=oE (x tm) H:=rfl
theorem FP{H:Heap}{b o n:Nat}{c:Option Nat}{r:Row}{l:List UInt8}(hr:H.t.get b=some (.row r))(hl:l.length=n)(hf:o+n<=r.size)(hg: ∀i,i<n->r.get (o+i)=X8 (l.getD i 0)):oE (.slice b o n c) H=.val (.str l) H:=by
 subst hl
 by_cases h0:l.length=0
 ·have:l=[]:=XM.1 h0
  subst this;rfl
 ·show cond (Nat.beq l.length 0) _ (Xv H b _)=_
  rw[Y1,Ze h0]
  show Xv H b _=_
  unfold Xv
  rw[hr]
  show Z3 (Nat.ble (o+l.length) r.size) (OQ _ (Vr r o l.length))=_
  have:Vr r o l.length=l.map X8:=by
   refine WM λi=>?_
   by_cases hi:i<l.length
   ·rw[Rw r l.length o i hi,hg i hi,YO,Zn hi,Zf,Zn hi];rfl
   ·rw[Xh (by rw[Rf];omega),Xh (by rw[Zt];omega)]
  rw[Zg hf,this,A6];rfl
def wx(e:Nat)(a:AV)(H:Heap):OR:=O9 a λs=>.val (.slice H.nx 0 (Xc s) none) (H.new (.row ⟨e,1,Xc s,T.ofList (Ex s),.unk,0,true,true,false⟩))
theorem YZ(x:YG)(e:Nat)(tm:TM)(H:Heap):Am x e tm H=wx e (x tm) H:=rfl
theorem YH(e:Nat)(s:List UInt8)(H:Heap):wx e (.str s) H=.val (.slice H.nx 0 s.length none) (H.new (rG e 1 (s.map X8) 0 true true false)):=by
 show OR.val (.slice H.nx 0 (Xc s) none) (H.new (.row ⟨e,1,Xc s,T.ofList (Ex s),.unk,0,true,true,false⟩))=_
 have:Ex s=s.map X8:=by rw[CD];rfl
 unfold rG
 rw[this,Xb,Xb,Zt]
theorem iy(x:YG)(t:Nat)(tm:TM)(H:Heap):Nr x t tm H=.val (.iface t (x tm)) H:=rfl
theorem Fc(f:Nat)(a b:List YG)(tm:TM)(H:Heap):Fb f a b tm H=.val (.func f (evs tm a) (evs tm b)) H:=rfl
def nr(P:Program)(a:AV)(args:List AV)(H:Heap):OR:=match a with
 |.func f x y=>.oth (.call f (x++(args++y)) H)
 |.meth n r=>Q1 r .fail λu v=>In P n u λg=>.oth (.call g (v::args) H)
 |.yield b=>.oth (.yield b args H)
 |_=>.fail
theorem LN(x:YG)(P:Program)(args:List YG)(tm:TM)(H:Heap):Mo x P args tm H=nr P (x tm) (evs tm args) H:=rfl
theorem Z6(P:Program)(f:Nat)(x y args:List AV)(H:Heap):nr P (.func f x y) args H=.oth (.call f (x++(args++y)) H):=rfl
theorem Zgt(lit:Bool)(g:Nat->AV->AV->Option Bool)(neg:Bool)(t:Nat)(v:AV)(H:Heap):MU (fx lit g) neg (.iface t v) .nili H=.val (.bool neg) H:=by cases neg<;>rfl
theorem Zgu(g:Nat->AV->AV->Option Bool)(neg:Bool)(H:Heap):MU (fx true g) neg .nili .nili H=.val (.bool (!neg)) H:=by cases neg<;>rfl
def Zej(neg:Bool)(r:Option Bool)(H:Heap):OR:=match r with|some b=>.val (.bool (cond neg (!b) b)) H|none=>.fail
theorem iQ(neg b:Bool)(H:Heap):Zej neg (some b) H=.val (.bool (cond neg (!b) b)) H:=rfl
theorem Zgs(lit:Bool)(g:Nat->AV->AV->Option Bool)(neg:Bool)(t:Nat)(v w:AV)(H:Heap):MU (fx lit g) neg (.iface t v) (.iface t w) H=Zej neg (g t v w) H:=by
 show Sr (cond (Nat.beq t t) (g t v w) (some false)) _=_
 rw[Xd,cond_true]
 cases g t v w with
 |none=>rfl
 |some b=>
  show Rr (cond neg (cond b false true) b) H=_
  rw[T4];cases neg<;>cases b<;>rfl
theorem Ac(n:Nat):RL n []=true:=rfl
theorem Ij(n:Nat)(v:AV)(l:List AV):RL n (v::l)=cond (Wu n v) (RL n l) false:=rfl
theorem px(n t:Nat)(v:AV):Wu n (.iface t v)=Wu n v:=rfl
theorem aw(n:Nat)(l:List AV):Wu n (.tup l)=RL n l:=rfl
theorem ph(b o n:Nat)(t:T Obj):UR (.val (.ptr b o) ⟨n,t,n⟩) (.ptr b o) n=true:=Sp _ _ _ (by unfold same;rw[Xd,Xd];rfl)
theorem ic(n:Nat):Wu n .nili=true:=rfl
theorem ie(n:Nat):Wu n .nils=true:=rfl
theorem aq(n:Nat)(k:IntKind)(z:Int):Wu n (.int k z)=true:=rfl
def Ie(t:Nat)(zv:AV)(ok:Bool)(a:AV)(H:Heap):OR:=Q1 a (PF zv ok H none) λu v=>PF zv ok H (cond (Nat.beq u t) (some v) none)
theorem pG(x:YG)(t:Nat)(zv:AV)(ok:Bool)(tm:TM)(H:Heap):CG x t zv ok tm H=Ie t zv ok (x tm) H:=rfl
theorem qu(t:Nat)(zv:AV)(H:Heap):Ie t zv true .nili H=.val (.tup [zv,.bool false]) H:=rfl
theorem qw(t:Nat)(zv v:AV)(H:Heap):Ie t zv true (.iface t v) H=.val (.tup [v,.bool true]) H:=by
 show PF zv true H (cond (Nat.beq t t) (some v) none)=_
 rw[Xd];rfl
def Zel(a:AV)(H:Heap):OR:=Q1 a .fail λ_ _=>.oth (.pan a H)
theorem iA(x:YG)(tm:TM)(H:Heap):Nt x tm H=Zel (x tm) H:=rfl
theorem Zem(t:Nat)(v:AV)(H:Heap):Zel (.iface t v) H=.oth (.pan (.iface t v) H):=rfl
theorem dL(next:TM->Heap->X->WL)(dst:Yd)(c:Ctx)(tm:TM)(H:Heap)(x:X)(v:AV)(H':Heap):OY next dst c tm H x (.oth (.pan v H'))=.ok (.pan v) tm H' x:=rfl
theorem aW(next:TM->Heap->X->WL)(dst:Yd)(tm:TM)(x:X)(v:AV)(H:Heap):Au next dst tm x (.pan v H)=.ok (.pan v) tm H x:=rfl
theorem gY(v:AV)(tm:TM)(H:Heap)(x:X)(k:TM->Heap->X->WL):QY (.ok (.pan v) tm H x) k=.ok (.pan v) tm H x:=rfl
theorem po(i:Nat)(v:AV)(tm:TM)(H:Heap)(x:X):PU i (.ok (.pan v) tm H x)=.ok (.pan v) tm H x:=rfl
theorem Zad(dc:Option AV->Nat->List AV->Heap->DR)(rs:List (YG×Option (Nat×Bool)))(v:AV)(tm:TM)(H:Heap)(rc:Option AV):K8 dc rs (.ok (.pan v) tm H ⟨[],rc⟩)=.pan v H:=rfl
theorem Zas(ds:List Yd)(p:PI)(nx:PK)(rs:List RD)(tm:TM)(x:X)(v:AV)(H:Heap):AG ds p nx rs tm x (.pan v H)=.ok (.pan v) (PJ tm ds) H x:=rfl
def uC(H:Heap)(vs:List AV):CR:=match vs with|[v]=>.ret v H|vs=>.ret (.tup vs) H
theorem sO(rs:List (YG×Option (Nat×Bool)))(tm:TM)(H:Heap):results rs tm H=Nc tm H (uC H) rs:=rfl
theorem ZgA(H:Heap)(v:AV):uC H [v]=.ret v H:=rfl
theorem Zgz(H:Heap):uC H []=.ret (.tup []) H:=rfl
theorem ZgB(H:Heap)(v w:AV)(l:List AV):uC H (v::w::l)=.ret (.tup (v::w::l)) H:=rfl
theorem gh(tm:TM)(H:Heap)(k:List AV->CR):Nc tm H k []=k []:=rfl
def rV(n:Nat)(ag:Bool)(o:Option Obj)(off:Nat)(k:AV->CR):CR:=match o with
 |some (.row r)=>cond (Nat.ble (Nat.add off n) r.size) (cond ag (k (.agg (Vr r off n))) (k (r.get off))) .fail
 |_=>.fail
def Zev(H:Heap)(a:AV)(n:Nat)(ag:Bool)(k:AV->CR):CR:=match a with
 |.ptr b o=>rV n ag (H.t.get b) o k
 |_=>.fail
theorem Zar(H:Heap)(b o n:Nat)(ag:Bool)(k:AV->CR):Zev H (.ptr b o) n ag k=rV n ag (H.t.get b) o k:=rfl
theorem od(f:YG)(tm:TM)(H:Heap)(k:List AV->CR)(l:List (YG×Option (Nat×Bool))):Nc tm H k ((f,none)::l)=Nc tm H (λvs=>k (f tm::vs)) l:=rfl
theorem oe(f:YG)(n:Nat)(ag:Bool)(tm:TM)(H:Heap)(k:List AV->CR)(l:List (YG×Option (Nat×Bool))):Nc tm H k ((f,some (n,ag))::l)=Zev H (f tm) n ag (λv=>Nc tm H (λvs=>k (v::vs)) l):=rfl
theorem ZhU{n e sz:Nat}{l:List AV}{fz:Nat}{sm own ex:Bool}(hn:l.length=n)(k:AV->CR):rV n true (some (rG e sz l fz sm own ex)) 0 k=k (.agg l):=by
 subst hn
 show cond (Nat.ble (0+l.length) (Xc l)) (k (.agg (Vr ⟨e,sz,Xc l,T.ofList l,.unk,fz,sm,own,ex⟩ 0 l.length))) .fail=_
 rw[(Fs e sz l fz sm own ex).load (by omega),ZC,WO,Xb,Zb,Zg (Zq _)];rfl
theorem it(x:YG)(args:List YG)(tm:TM)(H:Heap):An x args tm H=.oth (.defer (x tm) (evs tm args)):=rfl
theorem tZ(tm:TM)(H:Heap):Ao tm H=.oth .recov:=rfl
theorem qW(next:TM->Heap->X->WL)(dst:Yd)(cl y rg fu)(tm:TM)(H:Heap)(x:X)(f:Nat)(a b args:List AV):OY next dst ⟨cl,y,rg,fu,false⟩ tm H x (.oth (.defer (.func f a b) args))=next (dst tm XE) H ⟨(.func f a b,args)::x.df,x.rc⟩:=rfl
theorem uH(next:TM->Heap->X->WL)(dst:Yd)(cl y rg fu)(tm:TM)(H:Heap)(df:List (AV×List AV)):OY next dst ⟨cl,y,rg,fu,false⟩ tm H ⟨df,none⟩ (.oth .recov)=next (dst tm .nili) H ⟨df,none⟩:=rfl
theorem uI(next:TM->Heap->X->WL)(dst:Yd)(cl y rg fu)(tm:TM)(H:Heap)(df:List (AV×List AV))(v:AV):OY next dst ⟨cl,y,rg,fu,false⟩ tm H ⟨df,some v⟩ (.oth .recov)=next (dst tm v) H ⟨df,none⟩:=rfl
theorem iT(dc:Option AV->Nat->List AV->Heap->DR)(rs:List (YG×Option (Nat×Bool)))(tm:TM)(H:Heap)(d:AV×List AV)(l:List (AV×List AV))(rc:Option AV):K8 dc rs (.ok .ret tm H ⟨d::l,rc⟩)=deferred dc rs tm (d::l) none H:=rfl
theorem iS(dc:Option AV->Nat->List AV->Heap->DR)(rs:List (YG×Option (Nat×Bool)))(v:AV)(tm:TM)(H:Heap)(d:AV×List AV)(l:List (AV×List AV))(rc:Option AV):K8 dc rs (.ok (.pan v) tm H ⟨d::l,rc⟩)=deferred dc rs tm (d::l) (some v) H:=rfl
def BC(dc:Option AV->Nat->List AV->Heap->DR)(rs:List (YG×Option (Nat×Bool)))(tm:TM)(l:List (AV×List AV))(pn:Option AV)(r:DR):CR:=match r with
 |.ret _ H rec=>deferred dc rs tm l (cond rec none pn) H
 |_=>.fail
theorem zj(dc:Option AV->Nat->List AV->Heap->DR)(rs:List (YG×Option (Nat×Bool)))(tm:TM)(g:Nat)(a b args:List AV)(l:List (AV×List AV))(pn:Option AV)(H:Heap):deferred dc rs tm ((.func g a b,args)::l) pn H=BC dc rs tm l pn (dc pn g (a++(args++b)) H):=by
 show(match dc pn g (a++(args++b)) H with|.ret _ H rec=>deferred dc rs tm l (cond rec none pn) H|_=>.fail)=_
 unfold BC
 cases dc pn g (a++(args++b)) H<;>rfl
theorem qM(dc:Option AV->Nat->List AV->Heap->DR)(rs:List (YG×Option (Nat×Bool)))(tm:TM)(l:List (AV×List AV))(pn:Option AV)(v:AV)(H:Heap)(rec:Bool):BC dc rs tm l pn (.ret v H rec)=deferred dc rs tm l (cond rec none pn) H:=rfl
theorem wF(dc:Option AV->Nat->List AV->Heap->DR)(rs:List (YG×Option (Nat×Bool)))(tm:TM)(H:Heap):deferred dc rs tm [] none H=results rs tm H:=rfl
theorem wG(dc:Option AV->Nat->List AV->Heap->DR)(rs:List (YG×Option (Nat×Bool)))(tm:TM)(v:AV)(H:Heap):deferred dc rs tm [] (some v) H=.pan v H:=rfl
def ZkS{α β:Type}(o:Option α)(d:β)(k:α->β):β:=match o with|some x=>k x|none=>d
theorem iR{α β:Type}(x:α)(d:β)(k:α->β):ZkS (some x) d k=k x:=rfl
def pR(rc:Option AV)(x:X)(r:CR):DR:=match r with|.ret v H=>.ret v H (LS rc x)|_=>.fail
theorem Zac(rc:Option AV)(x:X)(v:AV)(H:Heap):pR rc x (.ret v H)=.ret v H (LS rc x):=rfl
theorem DK(rc:Option AV)(rs:List (YG×Option (Nat×Bool)))(tm:TM)(H:Heap)(q:Option AV):EG rc rs (.ok .normal tm H ⟨[],q⟩)=pR rc ⟨[],q⟩ (results rs tm H):=by
 show(match([]:List (AV×List AV)),results rs tm H with|[],.ret v H=>DR.ret v H (LS rc ⟨[],q⟩)|_,_=>.fail)=_
 unfold pR
 cases results rs tm H<;>rfl
theorem Zab(rc:Option AV)(rs:List (YG×Option (Nat×Bool)))(tm:TM)(H:Heap)(q:Option AV):EG rc rs (.ok .ret tm H ⟨[],q⟩)=pR rc ⟨[],q⟩ (results rs tm H):=DK rc rs tm H q
theorem Zaa(rc:Option AV)(rs:List (YG×Option (Nat×Bool)))(v:AV)(tm:TM)(H:Heap)(q:Option AV):EG rc rs (.ok (.pan v) tm H ⟨[],q⟩)=.pan v H (LS rc ⟨[],q⟩):=rfl
theorem ZhW(v:AV)(l:List (AV×List AV)):LS (some v) ⟨l,none⟩=true:=rfl
theorem ZhV(x:X):LS none x=false:=rfl
theorem oX(a b c d e:AV):Rk [a,b,c,d,e]=XL (Tc (st2 (st1 (st0 OM a) b) c) d) e:=rfl
theorem NV(k:List AV->OR)(cells:List AV):Oh k [] cells=k cells:=rfl
theorem qR(k:List AV->OR)(o n:Nat)(v:AV)(ps:List (Nat×Nat×AV))(cells:List AV):Oh k ((o,n,v)::ps) cells=Z3 (Nat.ble 1 n) (Z3 (Nat.beq (Xc v.cells) n) (Z3 (Nat.ble (Nat.add o n) (Xc cells)) (Oh k ps (Ng o cells++(v.cells++Og (Nat.add o n) cells))))):=rfl
theorem bY{cells l:List AV}{o:Nat}(h:o+l.length<=cells.length):Ng o cells++(l++Og (Nat.add o l.length) cells)=lay cells o l:=by
 rw[Et cells o l h]
 have h1:Ng o cells=cells.take o:=Ka ..
 have h2:Og (o+l.length) cells=cells.drop (o+l.length):=Lx ..
 rw[h1]
 show _++(_++Og (o+l.length) cells)=_
 rw[h2]
theorem BF{k:List AV->OR}{o n:Nat}{v:AV}{l:List AV}{ps:List (Nat×Nat×AV)}{cells:List AV}(hv:v.cells=l)(hl:l.length=n)(hn:1<=n)(h:o+n<=cells.length):Oh k ((o,n,v)::ps) cells=Oh k ps (lay cells o l):=by
 subst hv;subst hl
 rw[qR,Zg hn,Xb,Xd,Xb,Zg (show Nat.add o v.cells.length<=cells.length from h),bY h];rfl
theorem Tw{k:List AV->OR}{o:Nat}{v:AV}{ps:List (Nat×Nat×AV)}{cells:List AV}(hv:v.cells=[v])(h:o<cells.length):Oh k ((o,1,v)::ps) cells=Oh k ps (cells.set o v):=BF hv rfl (Zq 1) h
theorem Ei{k:List AV->OR}{o n:Nat}{l:List AV}{ps:List (Nat×Nat×AV)}{cells:List AV}(hl:l.length=n)(hn:1<=n)(h:o+n<=cells.length):Oh k ((o,n,.agg l)::ps) cells=Oh k ps (lay cells o l):=BF rfl hl hn h
theorem MP(z:AV)(zs:List AV)(ps:List (Nat×Nat×AV))(H:Heap):Rz (z::zs) ps H=Oh (λcs=>.val (.agg cs) H) ps (z::zs):=by
 show Z3 (Nat.ble 1 (Xc (z::zs))) _=_
 rw[Xb,Zg (by simp)];rfl
theorem Hu{e sz n:Nat}{zs:List AV}{ps:List (Nat×Nat×AV)}{H:Heap}(h1:1<=sz)(h2:zs.length=n*sz):UL e sz n zs ps H=Oh (λcs=>.val (.slice H.nx 0 n none) (H.newRow e sz cs true)) ps zs:=by
 show Z3 (Nat.ble 1 sz) (Z3 (Nat.beq (Xc zs) (Nat.mul n sz)) _)=_
 rw[Zg h1,Xb,h2,show Nat.mul n sz=n*sz from rfl,Xd];rfl
theorem ZV:(∀(x:YG) (args:List YG) (tm:TM) (H:Heap),An x args tm H=.oth (.defer (x tm) (evs tm args)))∧
 (∀(tm:TM) (H:Heap),Ao tm H=.oth .recov)∧
 (∀(next:TM->Heap->X->WL) (dst:Yd) (cl y rg fu) (tm:TM) (H:Heap) (x:X) (f:Nat) (a b args:List AV),OY next dst ⟨cl,y,rg,fu,false⟩ tm H x (.oth (.defer (.func f a b) args))=next (dst tm XE) H ⟨(.func f a b,args)::x.df,x.rc⟩)∧
 (∀(next:TM->Heap->X->WL) (dst:Yd) (cl y rg fu) (tm:TM) (H:Heap) (df:List (AV×List AV)),OY next dst ⟨cl,y,rg,fu,false⟩ tm H ⟨df,none⟩ (.oth .recov)=next (dst tm .nili) H ⟨df,none⟩)∧
 (∀(next:TM->Heap->X->WL) (dst:Yd) (cl y rg fu) (tm:TM) (H:Heap) (df:List (AV×List AV)) (v:AV),OY next dst ⟨cl,y,rg,fu,false⟩ tm H ⟨df,some v⟩ (.oth .recov)=next (dst tm v) H ⟨df,none⟩)∧
 (∀(dc:Option AV->Nat->List AV->Heap->DR) (rs:List (YG×Option (Nat×Bool))) (tm:TM) (H:Heap) (d:AV×List AV) (l:List (AV×List AV)) (rc:Option AV),K8 dc rs (.ok .ret tm H ⟨d::l,rc⟩)=deferred dc rs tm (d::l) none H)∧
 (∀(dc:Option AV->Nat->List AV->Heap->DR) (rs:List (YG×Option (Nat×Bool))) (v:AV) (tm:TM) (H:Heap) (d:AV×List AV) (l:List (AV×List AV)) (rc:Option AV),K8 dc rs (.ok (.pan v) tm H ⟨d::l,rc⟩)=deferred dc rs tm (d::l) (some v) H)∧
 (∀(dc:Option AV->Nat->List AV->Heap->DR) (rs:List (YG×Option (Nat×Bool))) (tm:TM) (g:Nat) (a b args:List AV) (l:List (AV×List AV)) (pn:Option AV) (H:Heap),deferred dc rs tm ((.func g a b,args)::l) pn H=BC dc rs tm l pn (dc pn g (a++(args++b)) H))∧
 (∀(dc:Option AV->Nat->List AV->Heap->DR) (rs:List (YG×Option (Nat×Bool))) (tm:TM) (l:List (AV×List AV)) (pn:Option AV) (v:AV) (H:Heap) (rec:Bool),BC dc rs tm l pn (.ret v H rec)=deferred dc rs tm l (cond rec none pn) H)∧
 (∀(dc:Option AV->Nat->List AV->Heap->DR) (rs:List (YG×Option (Nat×Bool))) (tm:TM) (H:Heap),deferred dc rs tm [] none H=results rs tm H)∧
 (∀(dc:Option AV->Nat->List AV->Heap->DR) (rs:List (YG×Option (Nat×Bool))) (tm:TM) (v:AV) (H:Heap),deferred dc rs tm [] (some v) H=.pan v H)∧
 (∀{α β:Type} (x:α) (d:β) (k:α->β),ZkS (some x) d k=k x)∧
 (∀(rc:Option AV) (x:X) (v:AV) (H:Heap),pR rc x (.ret v H)=.ret v H (LS rc x))∧
 (∀(rc:Option AV) (rs:List (YG×Option (Nat×Bool))) (tm:TM) (H:Heap) (q:Option AV),EG rc rs (.ok .normal tm H ⟨[],q⟩)=pR rc ⟨[],q⟩ (results rs tm H))∧
 (∀(rc:Option AV) (rs:List (YG×Option (Nat×Bool))) (tm:TM) (H:Heap) (q:Option AV),EG rc rs (.ok .ret tm H ⟨[],q⟩)=pR rc ⟨[],q⟩ (results rs tm H))∧
 (∀(rc:Option AV) (rs:List (YG×Option (Nat×Bool))) (v:AV) (tm:TM) (H:Heap) (q:Option AV),EG rc rs (.ok (.pan v) tm H ⟨[],q⟩)=.pan v H (LS rc ⟨[],q⟩))∧
 (∀(v:AV) (l:List (AV×List AV)),LS (some v) ⟨l,none⟩=true)∧
 (∀(x:X),LS none x=false)∧
 (∀{a:AV} (h:a.cells=[a]) (e:Nat) (H:Heap),II e a H=.val (.ptr H.nx 0) (H.new (rG e 1 [a] 0 false true true)))∧
 (∀{l:List AV} (h1:1<=l.length) (e:Nat) (H:Heap),II e (.agg l) H=.val (.ptr H.nx 0) (H.new (rG e 1 l 0 false true true)))∧
 (∀{b c:Nat} (h: ¬b=c) (H:Heap) (o:Obj),(H.put b o).t.get c=H.t.get c)∧
 (∀{H:Heap} {c:Nat} (h: ¬H.nx=c) (o:Obj),(H.new o).t.get c=H.t.get c)∧
 (∀{H:Heap} {c:Nat} (h:H.nx=c) (o:Obj),(H.new o).t.get c=some o)∧
 (∀{H:Heap} {b:Nat} (h:H.nx=b) (o o':Obj),(H.new o).put b o'=H.new o')∧
 (∀(neg b:Bool) (H:Heap),Zej neg (some b) H=.val (.bool (cond neg (!b) b)) H)∧
 (∀(lit:Bool) (g:Nat->AV->AV->Option Bool) (neg:Bool) (t:Nat) (v w:AV) (H:Heap),MU (fx lit g) neg (.iface t v) (.iface t w) H=Zej neg (g t v w) H)∧
 (∀(n:Nat),RL n []=true)∧
 (∀(n:Nat) (v:AV) (l:List AV),RL n (v::l)=cond (Wu n v) (RL n l) false)∧
 (∀(n t:Nat) (v:AV),Wu n (.iface t v)=Wu n v)∧
 (∀(n:Nat) (l:List AV),Wu n (.tup l)=RL n l)∧
 (∀(b o n:Nat) (t:T Obj),UR (.val (.ptr b o) ⟨n,t,n⟩) (.ptr b o) n=true)∧
 (∀(n:Nat),Wu n .nili=true)∧
 (∀(n:Nat),Wu n .nils=true)∧
 (∀(n:Nat) (k:IntKind) (z:Int),Wu n (.int k z)=true)∧
 (∀(k:List AV->OR) (cells:List AV),Oh k [] cells=k cells)∧
 (∀{k:List AV->OR} {o:Nat} {v:AV} {ps:List (Nat×Nat×AV)} {cells:List AV} (hv:v.cells=[v]) (h:o<cells.length),Oh k ((o,1,v)::ps) cells=Oh k ps (cells.set o v))∧
 (∀(z:AV) (zs:List AV) (ps:List (Nat×Nat×AV)) (H:Heap),Rz (z::zs) ps H=Oh (λcs=>.val (.agg cs) H) ps (z::zs))∧
 (∀(e sz:Nat) (l:List AV) (fz:Nat) (sm ex:Bool),wrO (rG e sz l fz sm true ex)=true)∧
 (∀(x:YG) (e:Nat) (tm:TM) (H:Heap),Am x e tm H=wx e (x tm) H)∧
 (∀(e:Nat) (s:List UInt8) (H:Heap),wx e (.str s) H=.val (.slice H.nx 0 s.length none) (H.new (rG e 1 (s.map X8) 0 true true false)))∧
 (∀(x:YG) (t:Nat) (tm:TM) (H:Heap),Nr x t tm H=.val (.iface t (x tm)) H)∧
 (∀(f:Nat) (a b:List YG) (tm:TM) (H:Heap),Fb f a b tm H=.val (.func f (evs tm a) (evs tm b)) H)∧
 (∀(x:YG) (P:Program) (args:List YG) (tm:TM) (H:Heap),Mo x P args tm H=nr P (x tm) (evs tm args) H)∧
 (∀(P:Program) (f:Nat) (x y args:List AV) (H:Heap),nr P (.func f x y) args H=.oth (.call f (x++(args++y)) H))∧
 (∀(lit:Bool) (g:Nat->AV->AV->Option Bool) (neg:Bool) (t:Nat) (v:AV) (H:Heap),MU (fx lit g) neg (.iface t v) .nili H=.val (.bool neg) H)∧
 (∀(g:Nat->AV->AV->Option Bool) (neg:Bool) (H:Heap),MU (fx true g) neg .nili .nili H=.val (.bool (!neg)) H)∧
 (∀(x:YG) (t:Nat) (zv:AV) (ok:Bool) (tm:TM) (H:Heap),CG x t zv ok tm H=Ie t zv ok (x tm) H)∧
 (∀(t:Nat) (zv:AV) (H:Heap),Ie t zv true .nili H=.val (.tup [zv,.bool false]) H)∧
 (∀(t:Nat) (zv v:AV) (H:Heap),Ie t zv true (.iface t v) H=.val (.tup [v,.bool true]) H)∧
 (∀(x:YG) (tm:TM) (H:Heap),Nt x tm H=Zel (x tm) H)∧
 (∀(t:Nat) (v:AV) (H:Heap),Zel (.iface t v) H=.oth (.pan (.iface t v) H))∧
 (∀(next:TM->Heap->X->WL) (dst:Yd) (c:Ctx) (tm:TM) (H:Heap) (x:X) (v:AV) (H':Heap),OY next dst c tm H x (.oth (.pan v H'))=.ok (.pan v) tm H' x)∧
 (∀(next:TM->Heap->X->WL) (dst:Yd) (tm:TM) (x:X) (v:AV) (H:Heap),Au next dst tm x (.pan v H)=.ok (.pan v) tm H x)∧
 (∀(v:AV) (tm:TM) (H:Heap) (x:X) (k:TM->Heap->X->WL),QY (.ok (.pan v) tm H x) k=.ok (.pan v) tm H x)∧
 (∀(i:Nat) (v:AV) (tm:TM) (H:Heap) (x:X),PU i (.ok (.pan v) tm H x)=.ok (.pan v) tm H x)∧
 (∀(dc:Option AV->Nat->List AV->Heap->DR) (rs:List (YG×Option (Nat×Bool))) (v:AV) (tm:TM) (H:Heap) (rc:Option AV),K8 dc rs (.ok (.pan v) tm H ⟨[],rc⟩)=.pan v H)∧
 (∀(ds:List Yd) (p:PI) (nx:PK) (rs:List RD) (tm:TM) (x:X) (v:AV) (H:Heap),AG ds p nx rs tm x (.pan v H)=.ok (.pan v) (PJ tm ds) H x)∧
 (∀(rs:List (YG×Option (Nat×Bool))) (tm:TM) (H:Heap),results rs tm H=Nc tm H (uC H) rs)∧
 (∀(H:Heap) (v:AV),uC H [v]=.ret v H)∧
 (∀(H:Heap),uC H []=.ret (.tup []) H)∧
 (∀(H:Heap) (v w:AV) (l:List AV),uC H (v::w::l)=.ret (.tup (v::w::l)) H)∧
 (∀(tm:TM) (H:Heap) (k:List AV->CR),Nc tm H k []=k [])∧
 (∀(f:YG) (tm:TM) (H:Heap) (k:List AV->CR) (l:List (YG×Option (Nat×Bool))),Nc tm H k ((f,none)::l)=Nc tm H (λvs=>k (f tm::vs)) l)∧
 (∀(f:YG) (n:Nat) (ag:Bool) (tm:TM) (H:Heap) (k:List AV->CR) (l:List (YG×Option (Nat×Bool))),Nc tm H k ((f,some (n,ag))::l)=Zev H (f tm) n ag (λv=>Nc tm H (λvs=>k (v::vs)) l))∧
 (∀(H:Heap) (b o n:Nat) (ag:Bool) (k:AV->CR),Zev H (.ptr b o) n ag k=rV n ag (H.t.get b) o k)∧
 (∀(x:YG) (tm:TM) (H:Heap),si x tm H=oE (x tm) H):=⟨@it, @tZ, @qW, @uH, @uI, @iT, @iS, @zj, @qM, @wF, @wG, @iR, @Zac, @DK, @Zab, @Zaa, @ZhW, @ZhV, @fS, @V7, @Q7, @Ma, @YB, @Sy, @iQ, @Zgs, @Ac, @Ij, @px, @aw, @ph, @ic, @ie, @aq, @NV, @Tw, @MP, @Zb0, @YZ, @YH, @iy, @Fc, @LN, @Z6, @Zgt, @Zgu, @pG, @qu, @qw, @iA, @Zem, @dL, @aW, @gY, @po, @Zad, @Zas, @sO, @ZgA, @Zgz, @ZgB, @gh, @od, @oe, @Zar, @Fk⟩
theorem Xl:(∀(e sz:Nat) (l:List AV) (fz:Nat) (sm ex:Bool),wrO (rG e sz l fz sm true ex)=true)∧
 (∀(H:Heap) (b:Nat) (o:Obj),(H.put b o).nx=H.nx)∧
 (∀(H:Heap) (o:Obj),(H.new o).nx=H.nx+1)∧
 (∀(H:Heap) (b:Nat) (o:Obj),(H.put b o).ro=H.ro)∧
 (∀(H:Heap) (o:Obj),(H.new o).ro=H.ro)∧
 (∀(b:Bool),(AV.bool b).cells=[.bool b])∧
 (∀(k:IntKind) (n:Int),(AV.int k n).cells=[.int k n])∧
 (∀(k:IntKind) (n:Nat),(nI k n).cells=[nI k n])∧
 (∀(x:UInt8),(X8 x).cells=[X8 x])∧
 (∀(s:List UInt8),(AV.str s).cells=[.str s])∧
 (AV.nilp.cells=[.nilp])∧
 (∀(b o:Nat),(AV.ptr b o).cells=[.ptr b o])∧
 (AV.nils.cells=[.nils])∧
 (∀(b o n:Nat) (c:Option Nat),(AV.slice b o n c).cells=[.slice b o n c])∧
 (∀(b:Nat),(AV.map b).cells=[.map b])∧
 (∀(f:Nat) (a b:List AV),(AV.func f a b).cells=[.func f a b])∧
 (∀(t:Nat) (v:AV),(AV.iface t v).cells=[.iface t v])∧
 (AV.nili.cells=[.nili])∧
 (∀(l:List AV),(AV.agg l).cells=l)∧
 (∀(r:Row) (o:Nat) (v:AV),(r.st o v).size=r.size)∧
 (∀(r:Row) (o:Nat) (v:AV),(r.st o v).own=r.own)∧
 (∀(r:Row) (o:Nat) (v:AV),(r.st o v).fz=r.fz)∧
 (∀(l:List AV) (o:Nat) (vs:List AV),(lay l o vs).length=l.length):=⟨@Zb0, @Ll, @JK, @p5, @aH, @Bv, @YF, @uu, @zZ, @Eg, @By, @zY, @Bz, @E7, @zX, @Bw, @E6, @Bx, @zW, @Row.st_size, @Row.st_own, @Row.st_fz, @wY⟩
theorem Yv:((!true)=false)∧((!false)=true)∧(∀{α:Type} (l:List α),[]++l=l)∧(∀{α:Type} (l:List α),l++[]=l)∧(∀{α β:Type} (f:α->β),Option.map f none=none)∧(∀{α β:Type} (f:α->β) (a:α),Option.map f (some a)=some (f a))∧(∀{α β:Type} (f:α->β) (a:α) (l:List α),List.map f (a::l)=f a::List.map f l)∧(∀{α β:Type} (f:α->β),List.map f []=[])∧(∀{α:Type} (a b:α),cond true a b=a)∧(∀{α:Type} (a b:α),cond false a b=b)∧(∀(x i:Nat),x.testBit i=decide (x/2^i % 2=1))∧(∀h:Decidable True, @decide True h=true)∧(∀h:Decidable False, @decide False h=false)∧(∀n:Nat,0+n=n)∧
 (∀{α:Type} (a d:α) (l:List α),(a::l).getD 0 d=a)∧(∀{α:Type} (a d:α) (l:List α) (n:Nat),(a::l).getD (n+1) d=l.getD n d)∧(∀{α:Type} (a b:α) (l:List α),(a::l).set 0 b=b::l)∧(∀{α:Type} (a b:α) (l:List α) (n:Nat),(a::l).set (n+1) b=a::l.set n b):=
 ⟨ZU,ZS,λ_=>rfl,Zr,λ_=>rfl,λ_ _=>rfl,λ_ _ _=>rfl,λ_=>rfl,λ_ _=>rfl,λ_ _=>rfl,λ_ _=>VH,λ_=>Zj trivial,λ_=>Ze id,Zb,λ_ _ _=>rfl,λ_ _ _ _=>rfl,λ_ _ _=>rfl,λ_ _ _ _=>rfl⟩
theorem Xm:(∀{α:Type} (a:α) (l:List α),(a::l).length=l.length+1)∧(∀{α:Type},([]:List α).length=0)∧(∀{α:Type} (l:List α) (n:Nat) (a:α),(l.set n a).length=l.length)∧(∀{α β:Type} (f:α->β) (l:List α),(l.map f).length=l.length):=
 ⟨λ_ _=>rfl,rfl,λ_ _ _=>Uj,λ_ _=>Zt ..⟩
section
variable {P:Program}
def Zho(n:Nat):Obj->Prop
 |.row r=> ∀i,i<r.size->Wu n (r.get i)=true
 |.map es _=> ∀x∈es,Wu n x.key=true∧Wu n x.val=true
 |.siter _ _=>True
 |.loop=>True
 |_=>False
theorem U7.cutX{σ:Mp}{n:Nat}{o:Obj}{l:Loc}{c:Go.Obj}(h:Zho n o)(r:U7 σ o l c):U7 (σ.cut n) o l c:=by
 cases o with
 |row q=>
  obtain⟨cs,fr,rfl,r⟩:=r
  refine⟨cs,fr,rfl,r.sz,r.sz1,r.fits,r.room,r.exact,λi hi=>?_,r.one,r.frz,r.frs⟩
  obtain⟨v,h1,h2⟩:=r.cell i hi
  exact⟨v,h1,YY.cut (h i hi) h2⟩
 |map es clock=>
  obtain⟨ents,e,h1,h2⟩:=r
  exact⟨ents,e,Y5.cutE h h1,h2⟩
 |siter s pos=>exact r
 |loop=>exact r
 |miter _ _ _=>exact h.elim
 |cmap _=>exact h.elim
structure Less(H H' G:Heap):Prop where
 nx:H.nx<=G.nx
 ro:G.ro=H.ro
 old: ∀b,b<H.nx->G.t.get b=H'.t.get b
 new: ∀b o,H.nx<=b->G.t.get b=some o->H.t.get b=some o∨(b<G.nx∧H'.t.get b=some o)
 low: ∀b o,G.t.get b=some o->H.t.get b=some o∨Zho G.nx o
theorem Tr.less{σ σ':Mp}{H H' G:Heap}{w w':World}(hs:WU P σ H w)(t:Tr P σ H w σ' H' w')(g:Less H H' G):Tr P σ H w (σ'.cut G.nx) G w':=by
 have hex:Ext σ (σ'.cut G.nx):=λb l hb=>by
  have:=hs.dom b l hb
  rw[Mp.cut_lt (ZZ this g.nx)]
  exact t.ext b l hb
 have hcut: ∀{b l},σ'.cut G.nx b=some l->σ' b=some l:=λh=>(Mp.cut_some h).2
 have hin: ∀b o,G.t.get b=some o->H'.t.get b=some o:=λb o h=>by
  by_cases hb:b<H.nx
  ·rw[<-g.old b hb];exact h
  ·rcases g.new b o (by omega) h with h1|h1
   ·exact absurd (hs.low b o h1) hb
   ·exact h1.2
 have hs':WU P (σ'.cut G.nx) G w':=by
  refine⟨λb l h=>(Mp.cut_some h).1,λb o h=>?_,λb o l hb hl=>?_,λb b' o o' l l' h1 h2 h3 h4 e=>t.sim.inj b b' o o' l l' (hin _ _ h1) (hin _ _ h2) (hcut h3) (hcut h4) e,λq hq=>?_,by rw[g.ro];exact Yl hs.ro g.nx⟩
  ·by_cases hb:b<H.nx
   ·exact ZZ hb g.nx
   ·rcases g.new b o (by omega) h with h1|h1
    ·exact absurd (hs.low b o h1) hb
    ·exact h1.1
  ·obtain⟨c,h2,h3⟩:=t.sim.alive b o l (hin b o hb) (hcut hl)
   refine⟨c,h2,?_⟩
   rcases g.low b o hb with h5|h4
   ·cases hσ:σ b with
    |none=>
     have:=(t.pend b (hs.low b o h5) hσ).2
     rw[hcut hl] at this;cases this
    |some l0=>
     have e:=t.ext b l0 hσ
     rw[hcut hl] at e;cases e
     obtain⟨c0,_,h1⟩:=hs.alive b o l h5 hσ
     exact(h1.back t.ext h3).mono hex
   ·exact h3.cutX h4
  ·obtain⟨l,h1,h2,h3⟩:=hs.glob q hq
   exact⟨l,hex _ _ h1,h2,h3⟩
 refine⟨hex,hs',t.size,t.frame,λb l hw hl hlt=>?_,g.nx,g.ro,λb hb=>?_,t.tape,t.os,t.out,λb hb hn=>?_⟩
 ·obtain⟨h1,o,h2,h3⟩:=hw
  exact t.wr b l ⟨by rw[t.ro,<-g.ro];exact h1,o,hin b o h2,h3⟩ (hcut hl) hlt
 ·rw[g.old b (ZZ hb hs.ro)]
  exact t.low b hb
 ·obtain⟨h1,h2⟩:=t.pend b hb hn
  refine⟨by rw[g.old b hb,h1],?_⟩
  rw[Mp.cut_lt (ZZ hb g.nx)];exact h2
def ZeX(H:Heap):CR->CR->Prop
 |.ret v H',.ret u G=>u=v∧Less H H' G∧Wu G.nx v=true
 |.pan v H',.pan u G=>u=v∧Less H H' G∧Wu G.nx v=true
 |_,_=>False
theorem ZdC{call:Nat->List AV->Heap->CR}(hcall:SC P call){f:FuncId}{args:List AV}{H:Heap}{r:CR}(g:ZeX H (call f args H) r)
  {σ:Mp}{w:World}{vs:List Value}(hs:WU P σ H w)(hv:Xk σ args vs):Kc P σ H w r ((callFunc f ⟨vs⟩).run P w):=by
 have hcr:=hcall f _ H σ w vs hs hv
 generalize call f args H=q at g hcr
 cases q with
 |fail=>cases r<;>exact g.elim
 |ret v H'=>
  cases r with
  |ret u G=>
   obtain⟨rfl,g,hlow⟩:=g
   refine Ends.mono (λu' w' hx=>?_) (λ_ _ hx=>hx) hcr
   obtain⟨σ2,h1,t⟩:=hx
   exact⟨σ2.cut G.nx,YY.cut hlow h1,t.less hs g⟩
  |_=>exact g.elim
 |pan v H'=>
  cases r with
  |pan u G=>
   obtain⟨rfl,g,hlow⟩:=g
   refine Ends.mono (λ_ _ hx=>hx) (λu' w' hx=>?_) hcr
   obtain⟨σ2,h1,t⟩:=hx
   exact⟨σ2.cut G.nx,YY.cut hlow h1,t.less hs g⟩
  |_=>exact g.elim
theorem Less.put{H:Heap}{b:Nat}{o:Obj}(hb:b<H.nx)(ho:Zho H.nx o){H':Heap}(h: ∀c,c<H.nx->H'.t.get c=(H.put b o).t.get c):Less H H' (H.put b o):=by
 refine⟨Zq _,rfl,λc hc=>(h c hc).symm,λc q hc hq=>.inl ?_,λc q hq=>?_⟩
 ·rw[U5,if_neg (by omega)] at hq;exact hq
 ·rw[U5] at hq
  split at hq
  ·cases hq;exact .inr ho
  ·exact .inl hq
theorem Less.same{H H':Heap}(h: ∀c,c<H.nx->H'.t.get c=H.t.get c):Less H H' H:=
 ⟨Zq _,rfl,λc hc=>(h c hc).symm,λ_ _ _ hq=>.inl hq,λ_ _ hq=>.inl hq⟩
end
section
variable {P:Program}
abbrev Lib:=Nat->List AV->Heap->Option CR
def B8(SR:Nat->Nat)(Qv:Lib)(call:Nat->List AV->Heap->CR)(lib:Lib)(k:Nat):Lib:=λf args H=>
 open Classical in if SR f=k then
  (match Qv f args H with
  |some r=>if ZeX H (call f args H) r then some r else lib f args H
  |none=>if ∃v H',call f args H=.ret v H'∧ZE H H' []∧Wu 0 v=true then(match call f args H with|.ret v _=>some (.ret v H)|_=>none) else lib f args H)
 else lib f args H
theorem bZ{SR:Nat->Nat}{Qv:Lib}{call:Nat->List AV->Heap->CR}{lib:Lib}{k:Nat}(hcall:SC P call)(hl:OT P lib):OT P (B8 SR Qv call lib k):=by
 intro f args H r h σ w vs hs hv
 unfold B8 at h
 split at h
 ·split at h
  ·split at h
   ·rename_i hc
    cases h
    exact ZdC hcall hc hs hv
   ·exact hl f args H r h σ w vs hs hv
  ·split at h
   ·rename_i hc
    obtain⟨v,H',h1,h2,h3⟩:=hc
    rw[h1] at h
    cases h
    exact mM hcall h1 h2 h3 hs hv
   ·exact hl f args H r h σ w vs hs hv
 ·exact hl f args H r h σ w vs hs hv
theorem HL{SR:Nat->Nat}{Qv:Lib}{call:Nat->List AV->Heap->CR}{lib:Lib}{k f:Nat}(h:SR f≠k)(args:List AV)(H:Heap):B8 SR Qv call lib k f args H=lib f args H:=by
 unfold B8;rw[if_neg h]
theorem pm{SR:Nat->Nat}{Qv:Lib}{call:Nat->List AV->Heap->CR}{lib:Lib}{k f:Nat}{args:List AV}{H H':Heap}{v:AV}(h:SR f=k)(hs:Qv f args H=none)(hr:call f args H=.ret v H')(g:ZE H H' [])(hv:Wu 0 v=true):B8 SR Qv call lib k f args H=some (.ret v H):=by
 unfold B8;rw[if_pos h,hs]
 simp only
 rw[if_pos ⟨v,H',hr,g,hv⟩,hr]
def Eu(Zo:Lib)(fs:T CF)(fuel:Nat)(SR:Nat->Nat)(Qv:Lib):Nat->Lib
 |0=>Zo
 |k+1=>B8 SR Qv (Z8 (Eu Zo fs fuel SR Qv k) fs fuel 900) (Eu Zo fs fuel SR Qv k) (k+1)
variable {Zo:Lib} {fs:T CF} {fuel:Nat} {SR:Nat->Nat} {Qv:Lib}
theorem vg(hc: ∀lib,OT P lib->SC P (Z8 lib fs fuel 900))(h0:OT P Zo): ∀k,OT P (Eu Zo fs fuel SR Qv k)
 |0=>h0
 |k+1=>bZ (hc _ (vg hc h0 k)) (vg hc h0 k)
theorem tz{f:Nat}(args:List AV)(H:Heap): ∀k,k<SR f->Eu Zo fs fuel SR Qv k f args H=Zo f args H
 |0,_=>rfl
 |k+1,h=>(HL (by omega) args H).trans (tz args H k (by omega))
theorem Ev{f:Nat}(h:SR f=0)(args:List AV)(H:Heap): ∀k,Eu Zo fs fuel SR Qv k f args H=Zo f args H
 |0=>rfl
 |k+1=>(HL (by omega) args H).trans (Ev h args H k)
theorem ZdD{f r:Nat}(h:SR f=r)(args:List AV)(H:Heap): ∀k,r<=k->Eu Zo fs fuel SR Qv k f args H=Eu Zo fs fuel SR Qv r f args H:=by
 intro k hk
 induction k with
 |zero=>rw[Nat.le_zero.1 hk]
 |succ k ih=>
  by_cases e:r=k+1
  ·rw[e]
  ·exact(HL (by omega) args H).trans (ih (by omega))
theorem Z2{f k:Nat}(h0: ∀l H,Zo f l H=none)(h:k<SR f∨SR f=0)(args:List AV)(H:Heap):Eu Zo fs fuel SR Qv k f args H=none:=by
 rcases h with h|h
 ·rw[tz args H k h,h0]
 ·rw[Ev h args H k,h0]
theorem OW{f k n:Nat}{args:List AV}{H:Heap}{r:CR}(h:SR f=0)(hr:Zo f args H=some r):Z8 (Eu Zo fs fuel SR Qv k) fs fuel (n+1) f args H=r:=
 zV (by rw[Ev h];exact hr)
theorem Xp{f r k n:Nat}{args:List AV}{H H':Heap}{v:AV}(h:SR f=r+1)(hs:Qv f args H=none)(hr:Z8 (Eu Zo fs fuel SR Qv r) fs fuel 900 f args H=.ret v H')(g:ZE H H' [])(hv:Wu 0 v=true)(hk:r+1<=k):
  Z8 (Eu Zo fs fuel SR Qv k) fs fuel (n+1) f args H=.ret v H:=
 zV (by rw[ZdD h args H k hk];exact pm h hs hr g hv)
end
end
end Go.AI
