/- Equations to run code with: proved, conditions as named. -/
import Derived.Test.YtfkkljjgkopkfaaGreatDoorP6
import Derived.Test.YtfkkljjgkopkfaaGreatDoorP5
set_option maxRecDepth 1000000
set_option maxHeartbeats 0
set_option linter.all false
namespace Go.AI
open Go
noncomputable section
section
variable {α:Type}
namespace N8
def g00(f:α->α)(n:N8 α):a0 (u0 f n)=f (a0 n):=rfl
def g01(f:α->α)(n:N8 α):a0 (u1 f n)=a0 n:=rfl
def g02(f:α->α)(n:N8 α):a0 (u2 f n)=a0 n:=rfl
def g03(f:α->α)(n:N8 α):a0 (u3 f n)=a0 n:=rfl
def g04(f:α->α)(n:N8 α):a0 (u4 f n)=a0 n:=rfl
def g05(f:α->α)(n:N8 α):a0 (u5 f n)=a0 n:=rfl
def g06(f:α->α)(n:N8 α):a0 (u6 f n)=a0 n:=rfl
def g07(f:α->α)(n:N8 α):a0 (u7 f n)=a0 n:=rfl
def g10(f:α->α)(n:N8 α):a1 (u0 f n)=a1 n:=rfl
def g11(f:α->α)(n:N8 α):a1 (u1 f n)=f (a1 n):=rfl
def g12(f:α->α)(n:N8 α):a1 (u2 f n)=a1 n:=rfl
def g13(f:α->α)(n:N8 α):a1 (u3 f n)=a1 n:=rfl
def g14(f:α->α)(n:N8 α):a1 (u4 f n)=a1 n:=rfl
def g15(f:α->α)(n:N8 α):a1 (u5 f n)=a1 n:=rfl
def g16(f:α->α)(n:N8 α):a1 (u6 f n)=a1 n:=rfl
def g17(f:α->α)(n:N8 α):a1 (u7 f n)=a1 n:=rfl
def g20(f:α->α)(n:N8 α):a2 (u0 f n)=a2 n:=rfl
def g21(f:α->α)(n:N8 α):a2 (u1 f n)=a2 n:=rfl
def g22(f:α->α)(n:N8 α):a2 (u2 f n)=f (a2 n):=rfl
def g23(f:α->α)(n:N8 α):a2 (u3 f n)=a2 n:=rfl
def g24(f:α->α)(n:N8 α):a2 (u4 f n)=a2 n:=rfl
def g25(f:α->α)(n:N8 α):a2 (u5 f n)=a2 n:=rfl
def g26(f:α->α)(n:N8 α):a2 (u6 f n)=a2 n:=rfl
def g27(f:α->α)(n:N8 α):a2 (u7 f n)=a2 n:=rfl
def g30(f:α->α)(n:N8 α):a3 (u0 f n)=a3 n:=rfl
def g31(f:α->α)(n:N8 α):a3 (u1 f n)=a3 n:=rfl
def g32(f:α->α)(n:N8 α):a3 (u2 f n)=a3 n:=rfl
def g33(f:α->α)(n:N8 α):a3 (u3 f n)=f (a3 n):=rfl
def g34(f:α->α)(n:N8 α):a3 (u4 f n)=a3 n:=rfl
def g35(f:α->α)(n:N8 α):a3 (u5 f n)=a3 n:=rfl
def g36(f:α->α)(n:N8 α):a3 (u6 f n)=a3 n:=rfl
def g37(f:α->α)(n:N8 α):a3 (u7 f n)=a3 n:=rfl
def g40(f:α->α)(n:N8 α):a4 (u0 f n)=a4 n:=rfl
def g41(f:α->α)(n:N8 α):a4 (u1 f n)=a4 n:=rfl
def g42(f:α->α)(n:N8 α):a4 (u2 f n)=a4 n:=rfl
def g43(f:α->α)(n:N8 α):a4 (u3 f n)=a4 n:=rfl
def g44(f:α->α)(n:N8 α):a4 (u4 f n)=f (a4 n):=rfl
def g45(f:α->α)(n:N8 α):a4 (u5 f n)=a4 n:=rfl
def g46(f:α->α)(n:N8 α):a4 (u6 f n)=a4 n:=rfl
def g47(f:α->α)(n:N8 α):a4 (u7 f n)=a4 n:=rfl
def g50(f:α->α)(n:N8 α):a5 (u0 f n)=a5 n:=rfl
def g51(f:α->α)(n:N8 α):a5 (u1 f n)=a5 n:=rfl
def g52(f:α->α)(n:N8 α):a5 (u2 f n)=a5 n:=rfl
def g53(f:α->α)(n:N8 α):a5 (u3 f n)=a5 n:=rfl
def g54(f:α->α)(n:N8 α):a5 (u4 f n)=a5 n:=rfl
def g55(f:α->α)(n:N8 α):a5 (u5 f n)=f (a5 n):=rfl
def g56(f:α->α)(n:N8 α):a5 (u6 f n)=a5 n:=rfl
def g57(f:α->α)(n:N8 α):a5 (u7 f n)=a5 n:=rfl
def g60(f:α->α)(n:N8 α):a6 (u0 f n)=a6 n:=rfl
def g61(f:α->α)(n:N8 α):a6 (u1 f n)=a6 n:=rfl
def g62(f:α->α)(n:N8 α):a6 (u2 f n)=a6 n:=rfl
def g63(f:α->α)(n:N8 α):a6 (u3 f n)=a6 n:=rfl
def g64(f:α->α)(n:N8 α):a6 (u4 f n)=a6 n:=rfl
def g65(f:α->α)(n:N8 α):a6 (u5 f n)=a6 n:=rfl
def g66(f:α->α)(n:N8 α):a6 (u6 f n)=f (a6 n):=rfl
def g67(f:α->α)(n:N8 α):a6 (u7 f n)=a6 n:=rfl
def g70(f:α->α)(n:N8 α):a7 (u0 f n)=a7 n:=rfl
def g71(f:α->α)(n:N8 α):a7 (u1 f n)=a7 n:=rfl
def g72(f:α->α)(n:N8 α):a7 (u2 f n)=a7 n:=rfl
def g73(f:α->α)(n:N8 α):a7 (u3 f n)=a7 n:=rfl
def g74(f:α->α)(n:N8 α):a7 (u4 f n)=a7 n:=rfl
def g75(f:α->α)(n:N8 α):a7 (u5 f n)=a7 n:=rfl
def g76(f:α->α)(n:N8 α):a7 (u6 f n)=a7 n:=rfl
def g77(f:α->α)(n:N8 α):a7 (u7 f n)=f (a7 n):=rfl
end N8
end
section
def pI(f:Us)(dst:VJ)(next:D)(c:Ctx)(tm:TM)(H:Heap)(x:X):Za f dst next c tm H x=Kj (next c) dst c tm H x (f tm H):=rfl
def pH(g:WI)(b:Bool)(f:Us)(dst:VJ)(next:D)(c:Ctx)(tm:TM)(H:Heap)(x:X):ZF g b f dst next c tm H x=Qd (g tm) b (Kj (next c) dst c tm H x (f tm H)) (next c (dst tm Y9) H x):=rfl
def xd(yes no:UG):Qd (.bool true) true yes no=yes:=rfl
def xa(yes no:UG):Qd (.bool false) false yes no=yes:=rfl
def xc(yes no:UG):Qd (.bool true) false yes no=no:=rfl
def xb(yes no:UG):Qd (.bool false) true yes no=no:=rfl
def sU(next:TM->Heap->X->UG)(dst:VJ)(c:Ctx)(tm:TM)(H:Heap)(x:X)(v:AV)(H':Heap):Kj next dst c tm H x (.val v H')=next (dst tm v) H' x:=rfl
def yS(next:TM->Heap->X->UG)(dst:VJ)(c:Ctx)(tm:TM)(H:Heap)(x:X)(f:Nat)(args:List AV)(H':Heap):Kj next dst c tm H x (.oth (.call f args H'))=qO next dst tm x (c.call f args H'):=rfl
def Fv(next:TM->Heap->X->UG)(dst:VJ)(tm:TM)(x:X)(v:AV)(H:Heap):qO next dst tm x (.ret v H)=next (dst tm v) H x:=rfl
def pG(a b:D)(c:Ctx)(tm:TM)(H:Heap)(x:X):Zf a b c tm H x=Ll (a c tm H x) (b c):=rfl
def UW(tm:TM)(H:Heap)(x:X)(k:TM->Heap->X->UG):Ll (.ok .normal tm H x) k=k tm H x:=rfl
def vk(tm:TM)(H:Heap)(x:X)(k:TM->Heap->X->UG):Ll (.ok .ret tm H x) k=.ok .ret tm H x:=rfl
def zA(i:Nat)(tm:TM)(H:Heap)(x:X)(k:TM->Heap->X->UG):Ll (.ok (.exit i) tm H x) k=.ok (.exit i) tm H x:=rfl
def xD(c:Ctx)(tm:TM)(H:Heap)(x:X):Zb c tm H x=.ok .normal tm H x:=rfl
def pj(c:Ctx)(tm:TM)(H:Heap)(x:X):ZT c tm H x=.ok .ret tm H x:=rfl
def yL(i:Nat)(c:Ctx)(tm:TM)(H:Heap)(x:X):WK i c tm H x=.ok (.exit i) tm H x:=rfl
def yx(q:WI)(a b:D)(c:Ctx)(tm:TM)(H:Heap)(x:X):ZH q a b c tm H x=nS (q tm) λv=>yy (a c) (b c) v tm H x:=rfl
def xh(b:Bool)(k:Bool->UG):nS (.bool b) k=k b:=rfl
def Bq(a b:TM->Heap->X->UG)(tm:TM)(H:Heap)(x:X):yy a b true tm H x=a tm H x:=rfl
def Dc(a b:TM->Heap->X->UG)(tm:TM)(H:Heap)(x:X):yy a b false tm H x=b tm H x:=rfl
def Bb(i:Nat)(a:D)(c:Ctx)(tm:TM)(H:Heap)(x:X):Z2 i a c tm H x=LM i (a c tm H x):=rfl
def xq(a:D)(c:Ctx)(tm:TM)(H:Heap)(x:X):WL a c tm H x=Vq (a c) c.fu tm H x:=rfl
def II(i:Nat)(tm:TM)(H:Heap)(x:X):LM i (.ok .normal tm H x)=.ok .normal tm H x:=rfl
def Tv(i:Nat)(tm:TM)(H:Heap)(x:X):LM i (.ok (.exit i) tm H x)=.ok .normal tm H x:=by
 show @Bool.rec (λ_=>UG) (.ok (.exit i) tm H x) (.ok .normal tm H x) (Nat.beq i i)=_;rw[YD]
def Ag(i:Nat)(tm:TM)(H:Heap)(x:X):LM i (.ok .ret tm H x)=.ok .ret tm H x:=rfl
def bK(tm:TM)(v:AV):d0 tm v=tm:=rfl
def Zf9(v:AV)(tm:TM):k v tm=v:=rfl
def ZcP:Qb []=ot:=rfl
def kh(a:AV):Qb [a]=st0 ot a:=rfl
def ki(a b:AV):Qb [a,b]=st1 (st0 ot a) b:=rfl
def kj(a b c:AV):Qb [a,b,c]=st2 (st1 (st0 ot a) b) c:=rfl
def kl(a b c d:AV):Qb [a,b,c,d]=VS (st2 (st1 (st0 ot a) b) c) d:=rfl
def kZ(tm:TM):evs tm []=[]:=rfl
def sF(tm:TM)(f:WI)(l:List WI):evs tm (f::l)=f tm::evs tm l:=rfl
def tY{lib:Nat->List AV->Heap->Option CR}{fs:T CF}{Zk n f:Nat}{args:List AV}{H:Heap}{cf:CF}(hl:lib f args H=none)(hf:fs.get f=some cf):ZA lib fs Zk (n+1) f args H=
  EK (λpn g as H=>EJ .fail fs g λcg=>AP pn cg.rs (cg.body ⟨ZA lib fs Zk n,Qu,RS,Zk,false⟩ (Qb as) H ⟨[],pn⟩))
   cf.rs (cf.body ⟨ZA lib fs Zk n,Qu,RS,Zk,false⟩ (Qb args) H ⟨[],none⟩):=by
 show jI (lib f args H) _=_;rw[hl];unfold EJ;rw[hf];rfl
def qV(dc:Option AV->Nat->List AV->Heap->DR)(rs:List (WI×Option (Nat×Bool)))(tm:TM)(H:Heap)(rc:Option AV):EK dc rs (.ok .ret tm H ⟨[],rc⟩)=results rs tm H:=rfl
def DI(dc:Option AV->Nat->List AV->Heap->DR)(rs:List (WI×Option (Nat×Bool)))(tm:TM)(H:Heap)(rc:Option AV):EK dc rs (.ok .normal tm H ⟨[],rc⟩)=results rs tm H:=rfl
def DN(f:WI)(tm:TM)(H:Heap):results [(f,none)] tm H=.ret (f tm) H:=rfl
def results_none(tm:TM)(H:Heap):results [] tm H=.ret (.tup []) H:=rfl
def jZ(x:WI)(tm:TM)(H:Heap):ZI x tm H=.val (x tm) H:=rfl
noncomputable def qu(a:AV)(H:Heap):OR:=Qo a λk a=>Tp k (Ff 0 a) H
noncomputable def O1(k:IntKind)(a:AV)(H:Heap):OR:=Qo a λ_ a=>Tp k a H
noncomputable def Sr(a b:AV)(H:Heap):OR:=match a with
 |.int j a=>Qo b λl b=>ZJ (PV j l) (Tp j (rn a b) H)
 |.str a=>OD b λb=>ZJ (Nat.ble (Nat.add (YN a) (YN b)) 4611686018427387904) (.val (.str (a++b)) H)
 |_=>.fail
noncomputable def Mh(a b:AV)(H:Heap):OR:=Es a b λk a b=>Tp k (Ff a b) H
noncomputable def eK(a b:AV)(H:Heap):OR:=Es a b λk a b=>Tp k (B4 a b) H
noncomputable def Ze1(a b:AV)(H:Heap):OR:=Es a b λk a b=>cond (Dw b 0) .fail (Tp k (Zig a b) H)
noncomputable def dG(a b:AV)(H:Heap):OR:=Es a b λk a b=>cond (Dw b 0) .fail (OX (Zii a b) λn=>.val (.int k n) H)
noncomputable def Gt(f:Nat->Nat->Nat->Nat)(a b:AV)(H:Heap):OR:=Es a b λk a b=>Tp k (.ofNat (f (Uh k) (U1 (Uh k) a) (U1 (Uh k) b))) H
noncomputable def Zjp(a b:AV)(H:Heap):OR:=Qo a λk a=>SA b λb=>Tp k (B4 a (.ofNat (Nat.pow 2 (cond (Nat.ble b 64) b 64)))) H
noncomputable def Ze8(a b:AV)(H:Heap):OR:=Qo a λk a=>SA b λb=>OX (Zim a (O3 b (ko k))) λn=>.val (.int k n) H
noncomputable def Zmx(a:AV)(H:Heap):OR:=Qo a λk a=>Tp k (.ofNat (Nat.sub (Nat.sub (Uh k) 1) (U1 (Uh k) a))) H
noncomputable def T2(f:Int->Int->Bool)(g:Zd->Zd->Bool)(a b:AV)(H:Heap):OR:=match a with
 |.int j a=>Qo b λl b=>ZJ (PV j l) (S9 (f a b) H)
 |.str a=>OD b λb=>S9 (g a b) H
 |_=>.fail
noncomputable def NL(f:AV->AV->Option Bool)(neg:Bool)(a b:AV)(H:Heap):OR:=Tu (f a b) λb=>S9 (cond neg (cond b false true) b) H
noncomputable def ZlL(a:AV)(H:Heap):OR:=EI a λb=>.val (.bool (cond b false true)) H
noncomputable def ZbG(a b c:AV)(H:Heap):OR:=EI a λt=>.val (cond t b c) H
def Fq(x:WI)(tm:TM)(H:Heap):ux x tm H=qu (x tm) H:=rfl
def qC(x:WI)(k:IntKind)(tm:TM)(H:Heap):Tx x k tm H=O1 k (x tm) H:=rfl
def xF(x y:WI)(tm:TM)(H:Heap):Yz x y tm H=Sr (x tm) (y tm) H:=rfl
def qN(x y:WI)(tm:TM)(H:Heap):Vs x y tm H=Mh (x tm) (y tm) H:=rfl
def AE(x y:WI)(tm:TM)(H:Heap):OC x y tm H=eK (x tm) (y tm) H:=rfl
def qJ(x y:WI)(tm:TM)(H:Heap):HU x y tm H=Ze1 (x tm) (y tm) H:=rfl
def qK(x y:WI)(tm:TM)(H:Heap):Cf x y tm H=dG (x tm) (y tm) H:=rfl
def M9(x y:WI)(f:Nat->Nat->Nat->Nat)(tm:TM)(H:Heap):N5 x y f tm H=Gt f (x tm) (y tm) H:=rfl
def AH(x y:WI)(tm:TM)(H:Heap):Za9 x y tm H=Zjp (x tm) (y tm) H:=rfl
def qM(x y:WI)(tm:TM)(H:Heap):HV x y tm H=Ze8 (x tm) (y tm) H:=rfl
def xT(x:WI)(tm:TM)(H:Heap):Zgl x tm H=Zmx (x tm) H:=rfl
def qB(x y:WI)(f:Int->Int->Bool)(g:Zd->Zd->Bool)(tm:TM)(H:Heap):Yk x y f g tm H=T2 f g (x tm) (y tm) H:=rfl
def jY(x y:WI)(f:AV->AV->Option Bool)(neg:Bool)(tm:TM)(H:Heap):Wf x y f neg tm H=NL f neg (x tm) (y tm) H:=rfl
def qF(x:WI)(tm:TM)(H:Heap):S6 x tm H=ZlL (x tm) H:=rfl
def xS(x y z:WI)(tm:TM)(H:Heap):Yo x y z tm H=ZbG (x tm) (y tm) (z tm) H:=rfl
def Ay(f:Nat)(args:List WI)(tm:TM)(H:Heap):Zv f args tm H=.oth (.call f (evs tm args) H):=rfl
def TY(b:Bool)(H:Heap):S9 b H=.val (.bool b) H:=by cases b<;>rfl
def Wo(k:IntKind)(n:Int)(H:Heap):Tp k n H=.val (.int k (k.wrap n)) H:=by simp only[Tp,PP,Mj]
def E3(k:IntKind)(m n:Nat):vq k m (.ofNat n)=.ofNat (n % m):=by
 show cond (Nat.ble m n) (Int.ofNat (Nat.mod n m)) (.ofNat n)=_;cases h:Nat.ble m n with
 |true=>rfl
 |false=>
  have:n<m:=by
   have h2: ¬m<=n:=λhh=>by rw[Zj hh] at h;cases h
   omega
  rw[Yd this];rfl
def uZ(n:Nat):IntKind.u8.wrap (.ofNat n)=.ofNat (n % 256):=by rw[<-Mj];exact E3 .u8 256 n
def JF(n:Nat):IntKind.u32.wrap (.ofNat n)=.ofNat (n % 4294967296):=by rw[<-Mj];exact E3 .u32 4294967296 n
def Ml(n:Nat):IntKind.u64.wrap (.ofNat n)=.ofNat (n % 18446744073709551616):=by rw[<-Mj];exact E3 .u64 18446744073709551616 n
def Mk{n:Nat}(h:n<9223372036854775808):IntKind.i64.wrap (.ofNat n)=.ofNat n:=by
 rw[<-Mj];show cond (Nat.ble 9223372036854775808 n) _ (Int.ofNat n)=_;cases h2:Nat.ble 9223372036854775808 n with
 |true=>have:=ZS h2;omega
 |false=>rfl
def Fe(a b:Nat):rn (.ofNat a) (.ofNat b)=.ofNat (a+b):=rfl
def K7(a b:Nat):B4 (.ofNat a) (.ofNat b)=.ofNat (a*b):=rfl
def B8{a b:Nat}(h:b<=a):Ff (.ofNat a) (.ofNat b)=.ofNat (a - b):=by
 show cond (Nat.ble b a) (Int.ofNat (Nat.sub a b)) (Int.ofNat a - Int.ofNat b)=_;rw[Zj h];rfl
def JS(a b:Nat):rq (.ofNat a) (.ofNat b)=decide (a<b):=by
 show Nat.ble (Nat.succ a) b=_;cases h:Nat.ble (Nat.succ a) b with
 |true=>have:=ZS h;exact(Zi this).symm
 |false=>
  have h2: ¬Nat.succ a<=b:=λhh=>by rw[Zj hh] at h;cases h
  exact(Zc h2).symm
def MA(a b:Nat):Dw (.ofNat a) (.ofNat b)=decide (a=b):=Yl a b
def XG(k:IntKind):PV k k=true:=by cases k<;>rfl
def i64(n:Nat):AV:=nI .i64 n
def Vk(x:UInt8):AV:=.int .u8 (.ofNat x.toNat)
def uU(x:UInt32):AV:=.int .u32 (.ofNat x.toNat)
def Zfn(x:UInt64):AV:=.int .u64 (.ofNat x.toNat)
def Y0{a b:Nat}(h:a+b<9223372036854775808)(H:Heap):Sr (nI .i64 a) (nI .i64 b) H=.val (nI .i64 (a+b)) H:=by
 show ZJ (PV .i64 .i64) (Tp .i64 (rn (.ofNat a) (.ofNat b)) H)=_;rw[XG,Wo,Fe,Mk h];rfl
def Wz{a b:Nat}(h:b<=a)(h2:a<9223372036854775808)(H:Heap):Mh (nI .i64 a) (nI .i64 b) H=.val (nI .i64 (a - b)) H:=by
 show ZJ (PV .i64 .i64) (Tp .i64 (Ff (.ofNat a) (.ofNat b)) H)=_;rw[XG,Wo,B8 h,Mk (by omega)];rfl
def Ar{a b:Nat}(h:a*b<9223372036854775808)(H:Heap):eK (nI .i64 a) (nI .i64 b) H=.val (nI .i64 (a*b)) H:=by
 show ZJ (PV .i64 .i64) (Tp .i64 (B4 (.ofNat a) (.ofNat b)) H)=_;rw[XG,Wo,K7,Mk h];rfl
def mZ{a b:Nat}(h:0<b)(H:Heap):dG (nI .i64 a) (nI .i64 b) H=.val (nI .i64 (a % b)) H:=by
 show ZJ (PV .i64 .i64) (cond (Dw (.ofNat b) (.ofNat 0)) .fail (OX (.ofNat (Nat.mod a b)) λn=>.val (.int .i64 n) H))=_;rw[XG,MA,Zc (by omega),PP];rfl
def ZbJ{a b:Nat}(h:0<b)(h2:a<9223372036854775808)(H:Heap):Ze1 (nI .i64 a) (nI .i64 b) H=.val (nI .i64 (a/b)) H:=by
 show ZJ (PV .i64 .i64) (cond (Dw (.ofNat b) (.ofNat 0)) .fail (Tp .i64 (.ofNat (Nat.div a b)) H))=_;rw[XG,MA,Zc (by omega),Wo,show(Int.ofNat (Nat.div a b))=Int.ofNat (a/b) from rfl,Mk (UD (Ri a b) h2)];rfl
def ZE(k:IntKind)(a b:Nat)(H:Heap):T2 XF Yt (nI k a) (nI k b) H=.val (.bool (decide (a<b))) H:=by
 show ZJ (PV k k) (S9 (rq (.ofNat a) (.ofNat b)) H)=_;rw[XG,TY,JS];rfl
def Yr(k:IntKind)(a b:Nat)(H:Heap):T2 UQ Wd (nI k a) (nI k b) H=.val (.bool (decide (b<=a))) H:=by
 show ZJ (PV k k) (S9 (!rq (.ofNat a) (.ofNat b)) H)=_;rw[XG,TY,JS];show OR.val (.bool (!decide (a<b))) H=_
 congr 2
 by_cases h:a<b
 ·rw[Zi h,Zc (by omega)];rfl
 ·rw[Zc h,Zi (by omega)];rfl
def UI(k:IntKind)(a b:Nat)(H:Heap):NL WX true (nI k a) (nI k b) H=.val (.bool (decide (a≠b))) H:=by
 show Tu (cond (PV k k) (some (Dw (.ofNat a) (.ofNat b))) none) _=_;rw[XG,MA];show S9 (cond true (cond (decide (a=b)) false true) (decide (a=b))) H=_;rw[TY]
 congr 2
 by_cases h:a=b
 ·rw[Zi h,Zc (by omega)];rfl
 ·rw[Zc h,Zi h];rfl
def YQ(k:IntKind)(a b:Nat)(H:Heap):NL WX false (nI k a) (nI k b) H=.val (.bool (decide (a=b))) H:=by
 show Tu (cond (PV k k) (some (Dw (.ofNat a) (.ofNat b))) none) _=_;rw[XG,MA];exact TY _ _
def lZ(a b:UInt32)(H:Heap):Sr (uU a) (uU b) H=.val (uU (a+b)) H:=by
 show ZJ (PV .u32 .u32) (Tp .u32 (rn (.ofNat a.toNat) (.ofNat b.toNat)) H)=_;rw[XG,Wo,Fe,JF];unfold uU;rw[UInt32.toNat_add];rfl
end
structure Cells(r:Row)(l:List AV):Prop where
 size:r.size=l.length
 get: ∀i,i<l.length->r.get i=l.getD i .unk
def Cells.load{r:Row}{l:List AV}(h:Cells r l){o n:Nat}(hn:o+n<=l.length):Vw r o n=(l.drop o).take n:=by
 refine Y7 λj=>?_
 by_cases hj:j<n
 ·rw[Sp r n o j hj,Yu hj,Y8,h.get (o+j) (by omega),Ze]
  rw[Zm (show o+j<l.length by omega)];rfl
 ·rw[Z8 (by rw[UV];omega),Z8 (by rw[Zy,Ye];omega)]
def Cells.store{r:Row}{l:List AV}(h:Cells r l){o:Nat}{vs:List AV}(ho:o+vs.length<=l.length):Cells (r.setCells (XV r.cells o vs)) (l.take o++(vs++l.drop (o+vs.length))):=by
 have hlen:(l.take o++(vs++l.drop (o+vs.length))).length=l.length:=by
  rw[Zh,Zh,Zy,Ye];omega
 refine⟨by rw[hlen];exact h.size,λi hi=>?_⟩;rw[hlen] at hi;rw[Row.get_eq];show((XV r.cells o vs).get i).getD r.dflt=_;rw[SM,Ze]
 by_cases h1:o<=i∧i<o+vs.length
 ·rw[if_pos h1,Z0 (by rw[Zy];omega),Zy,Xy (by omega),ZW (by omega),
   Zm (show i - o<vs.length by omega)];rfl
 ·rw[if_neg h1]
  have h2:=h.get i hi;rw[Row.get_eq,Ze] at h2;rw[h2]
  by_cases h3:i<o
  ·rw[ZW (by rw[Zy];omega),Yu h3]
  ·rw[Z0 (by rw[Zy];omega),Zy,Xy (by omega),Z0 (by omega),Y8,
    show o+vs.length+(i - o - vs.length)=i by omega]
def Cells.new(e sz:Nat)(l:List AV)(fz:Nat)(sm own ex:Bool):Cells ⟨e,sz,YN l,T.ofList l,.unk,fz,sm,own,ex⟩ l:=by
 refine⟨Yw l,λi hi=>?_⟩;rw[Row.get_eq];show((T.ofList l).get i).getD .unk=_;rw[T.get_ofList,Ze]
def Cells.zero(e n:Nat)(v:AV)(fz:Nat)(sm own ex:Bool):Cells ⟨e,1,n,.leaf,v,fz,sm,own,ex⟩ (List.replicate n v):=by
 refine⟨by simp,λi hi=>?_⟩;rw[ZB] at hi;rw[Row.get_eq];show((T.leaf:T AV).get i).getD v=_;rw[T.get_leaf,Ze,XJ,if_pos hi];rfl
structure Own(H:Heap)(b e:Nat)(l:List AV)(r:Row):Prop where
 at_:H.t.get b=some (.row r)
 elem:r.elem=e
 sz:r.sz=1
 own:r.own=true
 fz:r.fz=0
 sm:r.sm=false
 cells:Cells r l
 ro:H.ro<=b
noncomputable def uf(a:AV)(H:Heap):OR:=Qp a λb o=>Yx H b λr=>ZJ (Nat.ble (Nat.succ o) r.size) (.val (r.get o) H)
noncomputable def jK(n:Nat)(a:AV)(H:Heap):OR:=Qp a λb o=>Yx H b λr=>ZJ (Nat.ble (Nat.add o n) r.size) (.val (.agg (Vw r o n)) H)
noncomputable def Zcg(n:Nat)(a v:AV)(H:Heap):OR:=Qp a λb o=>Yx H b λr=>
 ZJ (Nat.ble 1 n)<|ZJ (H.may r b) (ZJ (Nat.ble (Nat.add o n) r.size) (ZJ (Nat.ble r.fz o) (ZJ (Nat.beq (YN v.cells) n)
  (.val Y9 (H.put b (.row (r.setCells (XV r.cells o v.cells))))))))
def ZlP(n:Nat)(a:AV)(H:Heap):OR:=Qp a λb o=>.val (.ptr b (Nat.add o n)) H
def rp(n sz:Nat)(a i:AV)(H:Heap):OR:=SA i λi=>Qp a λb o=>ZJ (Nat.ble (Nat.succ i) n) (.val (.ptr b (Nat.add o (Nat.mul i sz))) H)
def Dv(sz:Nat)(a i:AV)(H:Heap):OR:=SA i λi=>Td a .fail λb o len _=>ZJ (Nat.ble (Nat.succ i) len) (.val (.ptr b (Nat.add o (Nat.mul i sz))) H)
def ZlK(a:AV)(H:Heap):OR:=um a (.val a H)
noncomputable def Kq(a:AV)(H:Heap):OR:=onZ a (.val (.int .i64 0) H)<|Td a (.val (.int .i64 0) H) λ_ _ n _=>Ts n λn=>.val (.int .i64 (.ofNat n)) H
def AC(x:WI)(tm:TM)(H:Heap):ZP x tm H=uf (x tm) H:=rfl
def ED(x:WI)(n:Nat)(tm:TM)(H:Heap):UE x n tm H=jK n (x tm) H:=rfl
def AJ(x y:WI)(n:Nat)(tm:TM)(H:Heap):YB x y n tm H=Zcg n (x tm) (y tm) H:=rfl
def qG(x:WI)(n:Nat)(tm:TM)(H:Heap):YG x n tm H=ZlP n (x tm) H:=rfl
def xK(x y:WI)(n sz:Nat)(tm:TM)(H:Heap):N7 x y n sz tm H=rp n sz (x tm) (y tm) H:=rfl
def xL(x y:WI)(sz:Nat)(tm:TM)(H:Heap):Wn x y sz tm H=Dv sz (x tm) (y tm) H:=rfl
def qE(x:WI)(tm:TM)(H:Heap):Um x tm H=ZlK (x tm) H:=rfl
def xN(x:WI)(tm:TM)(H:Heap):Xf x tm H=Kq (x tm) H:=rfl
def DC(e n:Nat)(v:AV)(tm:TM)(H:Heap):JZ e n v tm H=.val (.ptr H.nx 0) (H.new (.row ⟨e,1,n,.leaf,v,0,false,true,true⟩)):=rfl
def Av(e:Nat)(cs:List AV)(h:1<=YN cs)(tm:TM)(H:Heap):VN e cs tm H=.val (.ptr H.nx 0) (H.newRow e 1 cs true):=by
 show ZJ (Nat.ble 1 (YN cs)) _=_;rw[Zj h];rfl
def XR(n b o:Nat)(H:Heap):ZlP n (.ptr b o) H=.val (.ptr b (o+n)) H:=rfl
def XA(b o:Nat)(H:Heap):ZlK (.ptr b o) H=.val (.ptr b o) H:=rfl
def WH(b o n:Nat)(c:Option Nat)(H:Heap):Kq (.slice b o n c) H=.val (nI .i64 n) H:=by
 show Ts n (λn=>OR.val (.int .i64 (.ofNat n)) H)=_;rw[Sm];rfl
def DA(H:Heap):Kq .slice0 H=.val (nI .i64 0) H:=rfl
def N0(H:Heap):Kq .nils H=.val (nI .i64 0) H:=rfl
def PT{n i:Nat}(h:i<n)(b o:Nat)(k:IntKind)(H:Heap):rp n 1 (.ptr b o) (nI k i) H=.val (.ptr b (o+i)) H:=by
 show ZJ (Nat.ble (Nat.succ i) n) (.val (.ptr b (o+i*1)) H)=_;rw[Zj h,Y6];rfl
def XP{n i:Nat}(h:i<n)(b o:Nat)(c:Option Nat)(k:IntKind)(H:Heap):Dv 1 (.slice b o n c) (nI k i) H=.val (.ptr b (o+i)) H:=by
 show ZJ (Nat.ble (Nat.succ i) n) (.val (.ptr b (o+i*1)) H)=_;rw[Zj h,Y6];rfl
def ma{H:Heap}{b o:Nat}{r:Row}{l:List AV}(hr:H.t.get b=some (.row r))(hc:Cells r l)(ho:o<l.length):uf (.ptr b o) H=.val (l.getD o .unk) H:=by
 show Yx H b _=_;unfold Yx;rw[hr];show ZJ (Nat.ble (Nat.succ o) r.size) _=_;rw[hc.size,Zj ho,hc.get o ho];rfl
def eD{H:Heap}{b o n:Nat}{r:Row}{l:List AV}(hr:H.t.get b=some (.row r))(hc:Cells r l)(ho:o+n<=l.length):jK n (.ptr b o) H=.val (.agg ((l.drop o).take n)) H:=by
 show Yx H b _=_;unfold Yx;rw[hr];show ZJ (Nat.ble (o+n) r.size) _=_;rw[hc.size,Zj ho,hc.load ho];rfl
def LU(H:Heap)(b c:Nat)(o:Obj):(H.put b o).t.get c=if b=c then some o else H.t.get c:=T.get_set _ _ _ _
def MD(H:Heap)(c:Nat)(o:Obj):(H.new o).t.get c=if H.nx=c then some o else H.t.get c:=T.get_set _ _ _ _
def N9(H:Heap)(b:Nat)(o:Obj):(H.put b o).nx=H.nx:=rfl
def uI(H:Heap)(b:Nat)(o:Obj):(H.put b o).ro=H.ro:=rfl
def EB(H:Heap)(o:Obj):(H.new o).nx=H.nx+1:=rfl
def ul(H:Heap)(o:Obj):(H.new o).ro=H.ro:=rfl
def EA(H:Heap)(e sz:Nat)(l:List AV)(ex:Bool):H.newRow e sz l ex=H.new (.row ⟨e,sz,YN l,T.ofList l,.unk,0,false,true,ex⟩):=rfl
def Bu(l:List PI)(c:Ctx)(tm:TM)(H:Heap)(x:X):W5 l c tm H x=To (l.map (·.dst)) Fo l c [] tm H x:=rfl
def wi(ds:List VJ)(fin:PK)(c:Ctx)(rs:List RD)(tm:TM)(H:Heap)(x:X):To ds fin [] c rs tm H x=cond (still tm H rs) (fin rs tm H x) .fail:=rfl
def AS(ds:List VJ)(fin:PK)(p:PI)(l:List PI)(c:Ctx)(rs:List RD)(tm:TM)(H:Heap)(x:X):To ds fin (p::l) c rs tm H x=PC ds p (To ds fin l c) c rs tm H x:=rfl
def xE(rs:List RD)(tm:TM)(H:Heap)(x:X):Fo rs tm H x=.ok .normal tm H x:=rfl
section
variable (ds:List VJ) (f:Us) (os:List (VJ×WI)) (dst:VJ) (i bef:Nat) (nx:PK) (c:Ctx) (rs:List RD) (tm:TM) (H:Heap) (x:X)
def zq:PC ds ⟨f,none,os,dst,.free,i,bef⟩ nx c rs tm H x=cond (Ou H.nx tm os) (GS ⟨f,none,os,dst,.free,i,bef⟩ nx rs tm H x (f (OG tm os) ⟨H.nx,.leaf,H.nx⟩)) .fail:=rfl
def zr:PC ds ⟨f,none,os,dst,.read,i,bef⟩ nx c rs tm H x=AY ⟨f,none,os,dst,.read,i,bef⟩ nx rs tm H x (f (OG tm os) ⟨H.nx,H.t,H.nx⟩):=rfl
def wY:PC ds ⟨f,none,os,dst,.eff,i,bef⟩ nx c rs tm H x=cond (still tm H rs) (zR ds ⟨f,none,os,dst,.eff,i,bef⟩ nx rs c tm x (f (OG tm os) H)) .fail:=rfl
variable (g:Option (WI×Bool)) (kd:th) (v:AV) (H':Heap)
def fc:GS ⟨f,g,os,dst,kd,i,bef⟩ nx rs tm H x (.val v ⟨H.nx,.leaf,H.nx⟩)=nx rs (dst tm v) H x:=by
 show cond (Nat.beq H.nx H.nx) (nx rs (dst tm v) H x) _=_;rw[YD];rfl
def sy:zR ds ⟨f,g,os,dst,kd,i,bef⟩ nx rs c tm x (.val v H')=nx (Sx bef rs) (dst tm v) H' x:=rfl
def yH(q:Nat)(args:List AV):zR ds ⟨f,g,os,dst,kd,i,bef⟩ nx rs c tm x (.oth (.call q args H'))=pk ds ⟨f,g,os,dst,kd,i,bef⟩ nx rs tm x (c.call q args H'):=rfl
def po:pk ds ⟨f,g,os,dst,kd,i,bef⟩ nx rs tm x (.ret v H')=nx (Sx bef rs) (dst tm v) H' x:=rfl
def xk(b:Nat):Sx b []=[]:=rfl
def Aa(b:Nat):Sx b (⟨⟨f,g,os,dst,kd,i,bef⟩,v⟩::rs)=cond (Nat.testBit b i) (Sx b rs) (⟨⟨f,g,os,dst,kd,i,bef⟩,v⟩::Sx b rs):=rfl
def wZ:still tm H []=true:=rfl
def zt:still tm H (⟨⟨f,g,os,dst,kd,i,bef⟩,v⟩::rs)=cond (dD ⟨⟨f,g,os,dst,kd,i,bef⟩,v⟩ tm H) (still tm H rs) false:=rfl
noncomputable def Vo(r:OR)(w:AV)(n:Nat):Bool:=OR.rec (λv H1=>cond (Nat.beq H1.nx n) (same v w) false) (λ_=>false) r
def qZ:dD ⟨⟨f,g,os,dst,kd,i,bef⟩,v⟩ tm H=Vo (f (OG tm os) ⟨H.nx,H.t,H.nx⟩) v H.nx:=rfl
end
def VM(v:AV)(n:Nat)(t:T Obj)(h:same v v=true):Vo (.val v ⟨n,t,n⟩) v n=true:=by
 show cond (Nat.beq n n) (same v v) false=true;rw[YD,h];rfl
def Li(k:IntKind)(n:Int):same (.int k n) (.int k n)=true:=by
 show cond (PV k k) (Dw n n) false=true;rw[XG,Pc];simp
def ZbZ(x:UInt32):same (uU x) (uU x)=true:=Li ..
def Ze7(x:UInt8):same (Vk x) (Vk x)=true:=Li ..
def CL(k:IntKind)(n:Nat):same (nI k n) (nI k n)=true:=Li ..
def B7(v:UInt32)(n:Nat)(t:T Obj):Vo (.val (uU v) ⟨n,t,n⟩) (uU v) n=true:=VM _ _ _ (ZbZ v)
def xi(v:UInt8)(n:Nat)(t:T Obj):Vo (.val (Vk v) ⟨n,t,n⟩) (Vk v) n=true:=VM _ _ _ (Ze7 v)
def Ny(k:IntKind)(v:Nat)(n:Nat)(t:T Obj):Vo (.val (nI k v) ⟨n,t,n⟩) (nI k v) n=true:=VM _ _ _ (CL k v)
def xu(n:Nat)(tm:TM):Ou n tm []=true:=rfl
def Ak(n:Nat)(tm:TM)(s:VJ)(g:WI)(os:List (VJ×WI)):Ou n tm ((s,g)::os)=cond (WZ n (g tm)) (Ou n tm os) false:=rfl
def jM(n:Nat)(k:IntKind)(m:Nat):WZ n (nI k m)=true:=rfl
def qi(n:Nat)(x:UInt32):WZ n (uU x)=true:=rfl
def jN(n:Nat)(x:UInt8):WZ n (Vk x)=true:=rfl
def xv(n:Nat)(x:Bool):WZ n (.bool x)=true:=rfl
def YW{n b:Nat}(h:b<n)(o:Nat):WZ n (.ptr b o)=true:=Zj h
def Vh{n b:Nat}(h:b<n)(o l:Nat)(c:Option Nat):WZ n (.slice b o l c)=true:=Zj h
def it(tm:TM):OG tm []=ot:=rfl
def pv(tm:TM)(s:VJ)(g:WI)(os:List (VJ×WI)):OG tm ((s,g)::os)=s (OG tm os) (g tm):=rfl
def Pa(tm:TM):Z6 tm=N8.a0 (N8.a0 (N8.a0 tm)):=rfl
def Kp(tm:TM):Xn tm=N8.a1 (N8.a0 (N8.a0 tm)):=rfl
def zU(tm:TM):Va tm=N8.a2 (N8.a0 (N8.a0 tm)):=rfl
def Il(tm:TM):V0 tm=N8.a3 (N8.a0 (N8.a0 tm)):=rfl
def Pt(tm:TM):Xo tm=N8.a4 (N8.a0 (N8.a0 tm)):=rfl
def G7(tm:TM):Xi tm=N8.a5 (N8.a0 (N8.a0 tm)):=rfl
def re(tm:TM):XL tm=N8.a6 (N8.a0 (N8.a0 tm)):=rfl
def G8(tm:TM):XE tm=N8.a7 (N8.a0 (N8.a0 tm)):=rfl
def G9(tm:TM):Xt tm=N8.a0 (N8.a1 (N8.a0 tm)):=rfl
def fx(tm:TM):Wv tm=N8.a1 (N8.a1 (N8.a0 tm)):=rfl
def Du(tm:TM):YH tm=N8.a2 (N8.a1 (N8.a0 tm)):=rfl
def jt(tm:TM):Y1 tm=N8.a3 (N8.a1 (N8.a0 tm)):=rfl
def sZ(tm:TM):Y2 tm=N8.a4 (N8.a1 (N8.a0 tm)):=rfl
def ju(tm:TM):YS tm=N8.a5 (N8.a1 (N8.a0 tm)):=rfl
def ZkR(tm:TM):Xl tm=N8.a6 (N8.a1 (N8.a0 tm)):=rfl
def ZfU(tm:TM):Xs tm=N8.a7 (N8.a1 (N8.a0 tm)):=rfl
def jv(tm:TM):Xr tm=N8.a0 (N8.a2 (N8.a0 tm)):=rfl
def aY(tm:TM):XK tm=N8.a1 (N8.a2 (N8.a0 tm)):=rfl
def ZkS(tm:TM):X1 tm=N8.a2 (N8.a2 (N8.a0 tm)):=rfl
def ZkT(tm:TM):VB tm=N8.a3 (N8.a3 (N8.a0 tm)):=rfl
def ZkU(tm:TM):Vg tm=N8.a4 (N8.a3 (N8.a0 tm)):=rfl
def ZkV(tm:TM):W8 tm=N8.a5 (N8.a3 (N8.a0 tm)):=rfl
def ZkW(tm:TM):Sb tm=N8.a7 (N8.a4 (N8.a0 tm)):=rfl
def ZfV(tm:TM):Sn tm=N8.a0 (N8.a5 (N8.a0 tm)):=rfl
def ZfW(tm:TM):SG tm=N8.a1 (N8.a5 (N8.a0 tm)):=rfl
def ZkX(tm:TM):Sc tm=N8.a2 (N8.a5 (N8.a0 tm)):=rfl
def ZkY(tm:TM):Re tm=N8.a5 (N8.a5 (N8.a0 tm)):=rfl
def ZkZ(tm:TM):QX tm=N8.a7 (N8.a7 (N8.a0 tm)):=rfl
def Zk0(tm:TM):Nl tm=N8.a0 (N8.a0 (N8.a1 tm)):=rfl
def ZfX(tm:TM):Ps tm=N8.a1 (N8.a0 (N8.a1 tm)):=rfl
def ZfY(tm:TM):RR tm=N8.a2 (N8.a0 (N8.a1 tm)):=rfl
def Zk1(tm:TM):G6 tm=N8.a3 (N8.a4 (N8.a1 tm)):=rfl
def ZhY(tm:TM):NQ tm=N8.a4 (N8.a4 (N8.a1 tm)):=rfl
def ZhZ(tm:TM):NR tm=N8.a5 (N8.a4 (N8.a1 tm)):=rfl
def Zh0(tm:TM):Kd tm=N8.a1 (N8.a5 (N8.a1 tm)):=rfl
def Zh1(tm:TM):KX tm=N8.a2 (N8.a5 (N8.a1 tm)):=rfl
def Zh2(tm:TM):M1 tm=N8.a3 (N8.a5 (N8.a1 tm)):=rfl
def Zh3(tm:TM):jr tm=N8.a7 (N8.a5 (N8.a2 tm)):=rfl
structure Zu(H H':Heap)(S:List Nat):Prop where
 nx:H.nx<=H'.nx
 ro:H'.ro=H.ro
 get: ∀c,c<H.nx->c∉S->H'.t.get c=H.t.get c
def Zu.refl(H:Heap)(S:List Nat):Zu H H S:=⟨Zs _,rfl,λ_ _ _=>rfl⟩
def Zu.trans{H H' H'':Heap}{S S':List Nat}(a:Zu H H' S)(b:Zu H' H'' S')(h: ∀c,c∈S'->c<H.nx->c∈S):Zu H H'' S:=
 ⟨Yb a.nx b.nx,b.ro.trans a.ro,λc hc hn=>(b.get c (ZK hc a.nx) (λhh=>hn (h c hh hc))).trans (a.get c hc hn)⟩
def Zu.put{H:Heap}{b:Nat}{o:Obj}{S:List Nat}(h:b<H.nx->b∈S):Zu H (H.put b o) S:=
 ⟨Zs _,rfl,λc hc hn=>by rw[LU,if_neg (λ(e:b=c)=>hn (by rw[<-e];exact h (by omega)))]⟩
def Zu.new(H:Heap)(o:Obj)(S:List Nat):Zu H (H.new o) S:=
 ⟨Ve _,rfl,λc hc _=>by rw[MD,if_neg (by omega)]⟩
def Zu.then_put{H H':Heap}{b:Nat}{o:Obj}{S:List Nat}(k:Zu H H' S)(h:b<H.nx->b∈S):Zu H (H'.put b o) S:=
 ⟨k.nx,k.ro,λc hc hn=>by rw[LU,if_neg (λ(e:b=c)=>hn (by rw[<-e];exact h (by omega)))];exact k.get c hc hn⟩
def Zu.then_new{H H':Heap}{S:List Nat}(k:Zu H H' S)(o:Obj):Zu H (H'.new o) S:=
 ⟨Nat.le_succ_of_le k.nx,k.ro,λc hc hn=>by rw[MD,if_neg (by have:=k.nx;omega)];exact k.get c hc hn⟩
def Zu.trans'{H H' H'':Heap}{S':List Nat}(a:Zu H H' [])(b:Zu H' H'' S'):Zu H H'' S':=
 ⟨Yb a.nx b.nx,b.ro.trans a.ro,λc hc hn=>(b.get c (ZK hc a.nx) hn).trans (a.get c hc (by simp))⟩
structure Bytes(H:Heap)(b o:Nat)(cap:Option Nat)(l:Zd)(r:Row):Prop where
 at_:H.t.get b=some (.row r)
 sz:r.sz=1
 fits:o+l.length<=r.size
 get: ∀i,i<l.length->r.get (o+i)=Vk (l.getD i 0)
 cap: ∀c,cap=some c->l.length<=c∧o+c<=r.size
def OU(x:Option AV)(d top:Nat)(k:Nat->OR):OR:=match x with|none=>k d|some v=>SA v λn=>ZJ (Nat.ble n top) (k n)
noncomputable def Uo(sz:Nat)(a:AV)(lo hi:Option AV)(H:Heap):OR:=
 onZ a (OU hi 0 0 λh=>OU lo 0 h λ_=>.val .slice0 H)<|Td a (OU hi 0 0 λh=>OU lo 0 h λ_=>.val .nils H) λb o len cap=>Yx H b λr=>ZJ (Oa r sz cap) (OU hi len (Wa r o cap) λh=>OU lo 0 h λl=>ZJ (Nat.ble l (Wa r o cap))<|
  cond (Nat.beq l (Wa r o cap)) (Option.rec (.val (.slice H.nx 0 (Nat.sub h l) none) ⟨Nat.succ H.nx,H.t,H.ro⟩) (λ_=>.val (.slice b o (Nat.sub h l) (some 0)) H) cap)
   (.val (.slice b (Nat.add o (Nat.mul l sz)) (Nat.sub h l) (Option.rec none (λc=>some (Nat.sub c l)) cap)) H))
def Th(sz:Nat)(x:WI)(lo hi:Option WI)(tm:TM)(H:Heap):Tt sz x lo hi none tm H=Uo sz (x tm) (lo.map λf=>f tm) (hi.map λf=>f tm) H:=by
 cases lo<;>cases hi<;>rfl
def OW(cap:Option Nat)(l:Nat):Option Nat:=cap.map λc=>c - l
noncomputable def O5(n sz:Nat)(a:AV)(lo hi:Option AV)(H:Heap):OR:=Qp a λb o=>OU hi n n λh=>OU lo 0 h λl=>
 cond (Nat.beq l n) (.val (.slice b o (Nat.sub h l) (some (Nat.sub n l))) H) (.val (.slice b (Nat.add o (Nat.mul l sz)) (Nat.sub h l) (some (Nat.sub n l))) H)
def SK(n sz:Nat)(x:WI)(lo hi:Option WI)(tm:TM)(H:Heap):QE n sz x lo hi none tm H=O5 n sz (x tm) (lo.map λf=>f tm) (hi.map λf=>f tm) H:=by
 cases lo<;>cases hi<;>rfl
def dP{n l:Nat}(h:l<n)(b o:Nat)(k:IntKind)(H:Heap):O5 n 1 (.ptr b o) (some (nI k l)) none H=.val (.slice b (o+l) (n - l) (some (n - l))) H:=by
 show ZJ (Nat.ble l n) (cond (Nat.beq l n) _ _)=_;rw[Zj (QH h),Yl,Zc (by omega)];show OR.val (.slice b (o+l*1) (n - l) (some (n - l))) H=_;rw[Y6]
def wJ{n m:Nat}(h:m<=n)(h0:0<n)(b o:Nat)(k:IntKind)(H:Heap):O5 n 1 (.ptr b o) none (some (nI k m)) H=.val (.slice b o m (some n)) H:=by
 show ZJ (Nat.ble m n) (ZJ (Nat.ble 0 m) (cond (Nat.beq 0 n) _ _))=_;rw[Zj h,Zj (ZN _),Yl,Zc (by omega)];show OR.val (.slice b (o+0*1) (m - 0) (some (n - 0))) H=_;rw[Vl];rfl
noncomputable def yA(sz:Nat)(a v:AV)(H:Heap):OR:=ub v λsn=>Td a (.val (.int .i64 0) H) λb o dn _=>Ts (O3 dn sn) λn=>Ww H sz v n λnew=>
 cond (Nat.beq n 0) (.val (.int .i64 0) H) (Yx H b λr=>ZJ (H.may r b) (ZJ (Nat.ble r.fz o) (ZJ (Nat.ble (Nat.add o (Nat.mul n sz)) r.size) (.val (.int .i64 (.ofNat n)) (H.put b (.row (r.setCells (XV r.cells o new))))))))
def NC(x y:WI)(sz:Nat)(tm:TM)(H:Heap):Az x y sz tm H=yA sz (x tm) (y tm) H:=rfl
noncomputable def NN(k:List AV->OR)(ps:List (Nat×Nat×AV)):List AV->OR:=List.rec (λcells=>k cells) (λp _ ih cells=>
 ZJ (Nat.ble 1 p.2.1)<|ZJ (Nat.beq (YN p.2.2.cells) p.2.1) (ZJ (Nat.ble (Nat.add p.1 p.2.1) (YN cells)) (ih (OQ p.1 cells++(p.2.2.cells++Py (Nat.add p.1 p.2.1) cells))))) ps
theorem Eg(tm:TM)(k:List AV->OR): ∀(ps:List oI) (cells:List AV),yM tm k ps cells=NN k (ps.map λp=>(p.off,p.sz,p.x tm)) cells
 |[],_=>rfl
 |p::ps,cells=>by
  show ZJ (Nat.ble 1 p.sz) (ZJ (Nat.beq (YN (p.x tm).cells) p.sz) (ZJ (Nat.ble (Nat.add p.off p.sz) (YN cells)) (yM tm k ps (OQ p.off cells++((p.x tm).cells++Py (Nat.add p.off p.sz) cells)))))=_;rw[Eg tm k ps];rfl
noncomputable def TS(zs:List AV)(ps:List (Nat×Nat×AV))(H:Heap):OR:=ZJ (Nat.ble 1 (YN zs))<|NN (λcs=>.val (.agg cs) H) ps zs
def Ud(zs:List AV)(ps:List oI)(tm:TM)(H:Heap):Vx zs ps tm H=TS zs (ps.map λp=>(p.off,p.sz,p.x tm)) H:=by
 unfold Vx TS;rw[Eg]
noncomputable def US(e sz n:Nat)(zs:List AV)(ps:List (Nat×Nat×AV))(H:Heap):OR:=ZJ (Nat.ble 1 sz)<|ZJ (Nat.beq (YN zs) (Nat.mul n sz))<|NN (λcs=>.val (.slice H.nx 0 n none) (H.newRow e sz cs true)) ps zs
def YO(e sz n:Nat)(zs:List AV)(ps:List oI)(tm:TM)(H:Heap):V5 e sz n zs ps tm H=US e sz n zs (ps.map λp=>(p.off,p.sz,p.x tm)) H:=by
 unfold V5 US;rw[Eg]
def E6(e:Nat)(z v:AV)(h:v.cells=[v])(H:Heap):US e 1 1 [z] [(0,1,v)] H=.val (.slice H.nx 0 1 none) (H.newRow e 1 [v] true):=by
 show ZJ (Nat.beq (YN v.cells) 1) (ZJ (Nat.ble 1 1) (.val _ (H.newRow e 1 (v.cells++[]) true)))=_;rw[h];rfl
noncomputable def TH(e sz bytes:Nat)(a v:AV)(H:Heap):OR:=ZJ (Nat.ble 1 sz)<|ZJ (Nat.ble 1 bytes)<|ub v λn=>Ww H sz v n λnew=>Oh a e sz bytes H n new
def Ys(x y:WI)(e sz bytes:Nat)(tm:TM)(H:Heap):WM x y e sz bytes tm H=TH e sz bytes (x tm) (y tm) H:=rfl
def Src(H:Heap)(v:AV)(l:List AV):Prop:= ∀k:Nat->List AV->OR,(ub v λn=>Ww H 1 v n λnew=>k n new)=k l.length l
def Src.nils(H:Heap):Src H .nils []:=λ_=>rfl
def Src.none(H:Heap)(b o:Nat)(c:Option Nat):Src H (.slice b o 0 c) []:=λ_=>rfl
def Src.row{H:Heap}{b o:Nat}{c:Option Nat}{r:Row}{l:List AV}(hr:H.t.get b=some (.row r))(hf:o+l.length<=r.size)(hg: ∀i,i<l.length->r.get (o+i)=l.getD i .unk):Src H (.slice b o l.length c) l:=by
 intro k;show(Ww H 1 (.slice b o l.length c) l.length λnew=>k l.length new)=_;unfold Ww;rw[Yl]
 by_cases h0:l.length=0
 ·rw[Zi h0]
  have:l=[]:=YF.1 h0;subst this;rfl
 ·rw[Zc h0]
  unfold Yx;simp only[hr,cond_false,Y6];show ZJ (Nat.ble (o+l.length*1) r.size) (k l.length (Vw r o (l.length*1)))=_;rw[Y6,Zj hf];have:Vw r o l.length=l:=by
   refine Y7 λj=>?_
   by_cases hj:j<l.length
   ·rw[Sp r _ o j hj,hg j hj,Ze,Zm hj];rfl
   ·rw[Z8 (by rw[UV];omega),Z8 (by omega)]
  rw[this];rfl
def Oi{H:Heap}{e bytes:Nat}{a v:AV}{l:List AV}(hb:1<=bytes)(h:Src H v l):TH e 1 bytes a v H=Oh a e 1 bytes H l.length l:=by
 show ZJ (Nat.ble 1 1) (ZJ (Nat.ble 1 bytes) _)=_;rw[Zj hb];exact h λn new=>Oh a e 1 bytes H n new
def tE{e:Nat}{H:Heap}{l:List AV}(h0:0<l.length)(hl:l.length<=140737488355328):Oh .nils e 1 1 H l.length l=.val (.slice H.nx 0 l.length none) (H.newRow e 1 l false):=by
 show cond (Nat.beq l.length 0) _ (ZJ (Nat.ble (l.length*1) 140737488355328) _)=_;rw[Yl,Zc (by omega),Y6,Zj hl];rfl
structure ZnM(H:Heap)(b e:Nat)(l:List AV)(r:Row):Prop extends Own H b e l r where
 exact_:r.exact=false
 low:b<H.nx
section
variable {P:Program}
def Hv{l:List AV}(h:sameL l l=true)(n:Nat)(t:T Obj):Vo (.val (.agg l) ⟨n,t,n⟩) (.agg l) n=true:=VM _ _ _ (by unfold same;exact h)
def Jn(s:Zd):same (.str s) (.str s)=true:=by
 unfold same;rw[SZ];simp
def Hw(s:Zd)(n:Nat)(t:T Obj):Vo (.val (.str s) ⟨n,t,n⟩) (.str s) n=true:=VM _ _ _ (Jn s)
def V3(b o n:Nat)(c:Option Nat)(k:Nat)(t:T Obj):Vo (.val (.slice b o n c) ⟨k,t,k⟩) (.slice b o n c) k=true:=VM _ _ _ (by
 unfold same
 rw[YD,YD,YD]
 cases c with
 |none=>rfl
 |some x=>show Nat.beq x x=true;exact YD x)
def Sw(n:Nat)(t:T Obj):Vo (.val .nils ⟨n,t,n⟩) .nils n=true:=VM _ _ _ (by unfold same;rfl)
variable (ds:List VJ) (f:Us) (e:WI) (b:Bool) (os:List (VJ×WI)) (dst:VJ) (i bef:Nat) (nx:PK) (c:Ctx) (rs:List RD) (tm:TM) (H:Heap) (x:X)
def D4:PC ds ⟨f,some (e,b),os,dst,.free,i,bef⟩ nx c rs tm H x=Qd (e tm) b (cond (Ou H.nx tm os) (GS ⟨f,some (e,b),os,dst,.free,i,bef⟩ nx rs tm H x (f (OG tm os) ⟨H.nx,.leaf,H.nx⟩)) .fail) (nx rs (dst tm Y9) H x):=rfl
def D5:PC ds ⟨f,some (e,b),os,dst,.read,i,bef⟩ nx c rs tm H x=Qd (e tm) b (AY ⟨f,some (e,b),os,dst,.read,i,bef⟩ nx rs tm H x (f (OG tm os) ⟨H.nx,H.t,H.nx⟩)) (nx rs (dst tm Y9) H x):=rfl
def zp:PC ds ⟨f,some (e,b),os,dst,.eff,i,bef⟩ nx c rs tm H x=cond (still tm H rs) (Qd (e tm) b (zR ds ⟨f,some (e,b),os,dst,.eff,i,bef⟩ nx rs c tm x (f (OG tm os) H)) (nx (Sx bef rs) (dst tm Y9) H x)) .fail:=rfl
def fa(g:Option (WI×Bool))(kd:th)(v:AV)(o:Obj)(hw:wrO o=true):GS ⟨f,g,os,dst,kd,i,bef⟩ nx rs tm H x (.val v ((⟨H.nx,.leaf,H.nx⟩:Heap).new o))=nx rs (dst tm v) (H.new o) x:=by
 show cond (Nat.beq (H.nx+1) H.nx) _ (cond (Nat.beq (H.nx+1) (Nat.succ H.nx)) (Zbr (((T.leaf:T Obj).set H.nx o).get H.nx) λo=>nx rs (dst tm v) (H.new o) x) .fail)=_;rw[Yl,Zc (by omega),Yl,Zi rfl,T.get_set,if_pos rfl];show cond (wrO o) _ _=_;rw[hw];rfl
end
def yv{lib:Nat->List AV->Heap->Option CR}{fs:T CF}{Zk n f:Nat}{args:List AV}{H:Heap}{r:CR}(h:lib f args H=some r):ZA lib fs Zk (n+1) f args H=r:=by
 show jI (lib f args H) _=_;rw[h];rfl
section
variable {P:Program}
def Zd7{call:Nat->List AV->Heap->CR}(hcall:PD P call){f:FuncId}{args:List AV}{H H':Heap}{v:AV}(hrun:call f args H=.ret v H')(k:Zu H H' [])(hlow:WZ 0 v=true)
  {σ:Mp}{w:World}{vs:List Value}(hs:WW P σ H w)(hv:YR σ args vs):Ki P σ H w (.ret v H) ((callFunc f ⟨vs⟩).run P w):=by
 have hcr:=hcall f _ H σ w vs hs hv;rw[hrun] at hcr;refine Ends.mono (λu' w' hx=>?_) (λ_ _ hx=>hx) hcr;obtain⟨σ2,h1,t⟩:=hx;refine⟨σ,?_,t.drop hs λb hb=>k.get b hb (by simp)⟩;exact(Ym.cut hlow h1).mono λy _ hy=>by have:=(Mp.cut_some hy).1;omega
end
noncomputable def Zgc(a:AV)(H:Heap):OR:=OD a λs=>Ts (YN s) λn=>.val (.int .i64 (.ofNat n)) H
def xP(x:WI)(tm:TM)(H:Heap):Xu x tm H=Zgc (x tm) H:=rfl
def ZZ(s:Zd)(H:Heap):Zgc (.str s) H=.val (nI .i64 s.length) H:=by
 show Ts (YN s) (λn=>OR.val (.int .i64 (.ofNat n)) H)=_;rw[Sm,Yw];rfl
noncomputable def JR(a i:AV)(H:Heap):OR:=SA i λi=>OD a λs=>Tu (qw s i) λb=>Ts b.toNat λn=>.val (.int .u8 (.ofNat n)) H
def DF(x y:WI)(tm:TM)(H:Heap):Xj x y tm H=JR (x tm) (y tm) H:=rfl
def LJ{s:Zd}{i:Nat}(h:i<s.length)(k:IntKind)(H:Heap):JR (.str s) (nI k i) H=.val (Vk (s.getD i 0)) H:=by
 show Tu (qw s i) _=_;rw[uo,Zm h];show Ts s[i].toNat (λn=>OR.val (.int .u8 (.ofNat n)) H)=_;rw[Sm,Ze,Zm h];rfl
noncomputable def ET(a:AV)(lo hi:Option AV)(H:Heap):OR:=OD a λs=>OU hi (YN s) (YN s) λh=>OU lo 0 h λl=>.val (.str (Iw l (Lj h s))) H
def HW(x:WI)(lo hi:Option WI)(tm:TM)(H:Heap):Wy x lo hi none tm H=ET (x tm) (lo.map λf=>f tm) (hi.map λf=>f tm) H:=by
 cases lo<;>cases hi<;>rfl
def Tj{s:Zd}{n:Nat}(h:n<=s.length)(k:IntKind)(H:Heap):ET (.str s) none (some (nI k n)) H=.val (.str (s.take n)) H:=by
 show ZJ (Nat.ble n (YN s)) (OR.val (.str (Iw 0 (Lj n s))) H)=_;rw[Yw,Zj h,OP];rfl
def Q1{a b:Zd}(h:a.length+b.length<=4611686018427387904)(H:Heap):Sr (.str a) (.str b) H=.val (.str (a++b)) H:=by
 show ZJ (Nat.ble (Nat.add (YN a) (YN b)) 4611686018427387904) _=_;rw[Yw,Yw,Zj (show Nat.add a.length b.length<=_ from h)];rfl
def Wi(a b:Zd)(H:Heap):NL QJ false (.str a) (.str b) H=.val (.bool (decide (a=b))) H:=by
 show S9 (Mf a b) H=_;rw[TY,SZ]
 congr 2
 by_cases h:a=b<;>simp[h]
def VL(a b:Zd)(H:Heap):NL QJ true (.str a) (.str b) H=.val (.bool (!decide (a=b))) H:=by
 show S9 (cond (Mf a b) false true) H=_;rw[TY,SZ]
 congr 2
 by_cases h:a=b<;>simp[h]
structure Below(n:Nat)(H H':Heap):Prop where
 nx:H.nx<=H'.nx
 ro:H'.ro=H.ro
 get: ∀c,c<n->c<H.nx->H'.t.get c=H.t.get c
def Below.refl(n:Nat)(H:Heap):Below n H H:=⟨Zs _,rfl,λ_ _ _=>rfl⟩
def Below.trans{n:Nat}{H H' H'':Heap}(a:Below n H H')(b:Below n H' H''):Below n H H'':=
 ⟨Yb a.nx b.nx,b.ro.trans a.ro,λc h1 h2=>(b.get c h1 (ZK h2 a.nx)).trans (a.get c h1 h2)⟩
def Below.put{n b:Nat}{H:Heap}{o:Obj}(h:n<=b):Below n H (H.put b o):=⟨Zs _,rfl,λc h1 _=>by rw[LU,if_neg (by omega)]⟩
def Below.new(n:Nat)(H:Heap)(o:Obj):Below n H (H.new o):=⟨Ve _,rfl,λc _ h2=>by rw[MD,if_neg (by omega)]⟩
def Below.mono{n m:Nat}{H H':Heap}(a:Below n H H')(h:m<=n):Below m H H':=⟨a.nx,a.ro,λc h1 h2=>a.get c (by omega) h2⟩
def Zu.below{H0 H H':Heap}{n:Nat}(k:Zu H0 H [])(b:Below n H H')(h:H0.nx<=n):Zu H0 H' []:=
 ⟨Yb k.nx b.nx,b.ro.trans k.ro,λc h1 h2=>(b.get c (by omega) (ZK h1 k.nx)).trans (k.get c h1 h2)⟩
def Zoa(H:Heap)(v:AV)(l:Zd)(lo:Nat):Prop:= ∃b r,v=.slice b 0 l.length none∧ZnM H b 5 (l.map Vk) r∧lo<=b
def Buf(H:Heap)(v:AV)(l:Zd)(lo:Nat):Prop:=(l=[]∧v=.nils)∨(l≠[]∧Zoa H v l lo)
def Buf.below{H H':Heap}{v:AV}{l:Zd}{lo:Nat}(h:Buf H v l lo)(hp: ∀c,lo<=c->c<H.nx->H'.t.get c=H.t.get c)(hro:H'.ro=H.ro)(hnx:H.nx<=H'.nx):Buf H' v l lo:=by
 rcases h with h|⟨hne,b,r,rfl,g,hb⟩
 ·exact .inl h
 ·exact .inr ⟨hne,b,r,rfl,⟨⟨by rw[hp b hb g.low];exact g.at_,g.elem,g.sz,g.own,g.fz,g.sm,g.cells,by rw[hro];exact g.ro⟩,g.exact_,ZK g.low hnx⟩,hb⟩
def Yn(k:IntKind)(a b:Nat)(H:Heap):T2 U9 W1 (nI k a) (nI k b) H=.val (.bool (decide (b<a))) H:=by
 show ZJ (PV k k) (S9 (rq (.ofNat b) (.ofNat a)) H)=_;rw[XG,TY,JS];rfl
def Y4(k:IntKind)(a b:Nat)(H:Heap):T2 Ro U5 (nI k a) (nI k b) H=.val (.bool (decide (a<=b))) H:=by
 show ZJ (PV k k) (S9 (!rq (.ofNat b) (.ofNat a)) H)=_;rw[XG,TY,JS];show OR.val (.bool (!decide (b<a))) H=_
 congr 2
 by_cases h:b<a
 ·rw[Zi h,Zc (by omega)];rfl
 ·rw[Zc h,Zi (by omega)];rfl
def ik(b c:AV)(H:Heap):ZbG (.bool true) b c H=.val b H:=rfl
def ij(b c:AV)(H:Heap):ZbG (.bool false) b c H=.val c H:=rfl
def Za5(b:Bool)(H:Heap):ZlL (.bool b) H=.val (.bool (cond b false true)) H:=rfl
def qe(n:Nat)(l:List AV):WZ n (.agg l)=Pu n l:=rfl
def Am(n:Nat):WZ n Y9=true:=rfl
def qg(n:Nat)(s:Zd):WZ n (.str s)=true:=rfl
noncomputable def ZaV(mx:Bool)(l:List AV)(H:Heap):OR:=match l with
 |.int k a::l=>min2 mx k a H l
 |_=>.fail
def T5(mx:Bool)(args:List WI)(tm:TM)(H:Heap):SJ mx args tm H=ZaV mx (evs tm args) H:=rfl
def N3(a b:Nat)(H:Heap):ZaV false [nI .i64 a,nI .i64 b] H=.val (nI .i64 (min a b)) H:=by
 show ZJ (PV .i64 .i64) (min2 false .i64 (cond (cond false (rq (.ofNat a) (.ofNat b)) (rq (.ofNat b) (.ofNat a))) (.ofNat b) (.ofNat a)) H [])=_;rw[XG,JS,JS];show OR.val (.int .i64 (cond (decide (b<a)) (.ofNat b) (.ofNat a))) H=_
 by_cases h:b<a
 ·rw[Zi h,SP (by omega)];rfl
 ·rw[Zc h,Xy (by omega)];rfl
noncomputable def ja(i:Nat)(a:AV)(H:Heap):OR:=ic a λvs=>Tu (HN vs i) λv=>.val v H
def xI(x:WI)(i:Nat)(tm:TM)(H:Heap):Yy x i tm H=ja i (x tm) H:=rfl
def jc(a:AV)(l:List AV)(H:Heap):ja 0 (.tup (a::l)) H=.val a H:=rfl
def jd(a b:AV)(l:List AV)(H:Heap):ja 1 (.tup (a::b::l)) H=.val b H:=rfl
def je(a b c:AV)(l:List AV)(H:Heap):ja 2 (.tup (a::b::c::l)) H=.val c H:=rfl
def kU(a b:Bool)(H:Heap):NL gX false (.bool a) (.bool b) H=.val (.bool (decide (a=b))) H:=by cases a<;>cases b<;>rfl
def P2(a:TM->Heap->X->UG)(n:Nat)(tm:TM)(H:Heap)(x:X):Vq a (n+1) tm H x=Ll (a tm H x) (Vq a n):=rfl
def Zds(b o:Nat)(H:Heap):NL zT false (.ptr b o) .nilp H=.val (.bool false) H:=rfl
def nv(H:Heap):NL zT false .nilp .nilp H=.val (.bool true) H:=rfl
def an(b o:Nat)(H:Heap):NL zT true (.ptr b o) (.ptr b o) H=.val (.bool false) H:=by
 show Tu (cond (Nat.beq b b) (some (Nat.beq o o)) none) (λb=>S9 (cond true (cond b false true) b) H)=_;rw[YD,YD];rfl
noncomputable def Zgo(a:AV)(H:Heap):OR:=match a with
 |.nilp=>.val .nilp H
 |.ptr b o=>Yx H b λr=>ZJ (Nat.ble (Nat.succ o) r.size) (.val (.ptr b o) H)
 |_=>.fail
def EF(x:WI)(tm:TM)(H:Heap):qI x tm H=Zgo (x tm) H:=rfl
noncomputable def Zgn(u n:Nat)(a:AV)(H:Heap):OR:=match a with
 |.nilp=>.val .nilp H
 |.ptr b o=>Yx H b λr=>ZJ r.exact (ZJ (Nat.beq r.elem u) (ZJ (Nat.beq o 0) (ZJ (Nat.ble n r.size) (.val (.ptr b o) H))))
 |_=>.fail
def EE(x:WI)(u n:Nat)(tm:TM)(H:Heap):qH x u n tm H=Zgn u n (x tm) H:=rfl
noncomputable def iR(a:AV)(H:Heap):OR:=Td a (.val .nilp H) λb o _ cap=>Option.rec (Yx H b λr=>ZJ (Nat.ble (Nat.succ o) r.size) (.val (.ptr b o) H)) (λc=>ZJ (Nat.ble 1 c) (.val (.ptr b o) H)) cap
def Je(x:WI)(tm:TM)(H:Heap):uy x tm H=iR (x tm) H:=rfl
noncomputable def ZgK(e:Nat)(a n:AV)(H:Heap):OR:=SA n λn=>cond (Nat.beq n 0) (match a with|.nilp=>.val (.str []) H|.ptr .. =>.val (.str []) H|_=>.fail)
 (ZJ (Nat.ble n 140737488355328)<|Qp a λb o=>Yx H b λr=>ZJ (Nat.beq r.elem e)<|ZJ (cond r.sm false (H.may r b)) (ZJ (Nat.ble (Nat.add o n) r.size) (Pn (λs=>.val (.str s)
  (H.put b (.row ⟨r.elem,r.sz,r.size,r.cells,r.dflt,cond (Nat.ble r.fz (Nat.add o n)) (Nat.add o n) r.fz,r.sm,r.own,r.exact⟩))) (Vw r o n))))
def EG(x y:WI)(e:Nat)(tm:TM)(H:Heap):Zba x y e tm H=ZgK e (x tm) (y tm) H:=rfl
theorem Gm: ∀(l:Zd) (k:Zd->OR),Pn k (l.map Vk)=k l
 |[],k=>rfl
 |x::l,k=>by
  show Pn (λs=>k (UInt8.ofNat x.toNat::s)) (l.map Vk)=_;rw[Gm l];simp
namespace T
variable {α:Type}
def Gd(x:α)(l:T α)(v:Option α)(r:T α)(bs:List Bool):setB x (node l v r) (true::bs)=node (setB x l bs) v r:=rfl
def Gc(x:α)(l:T α)(v:Option α)(r:T α)(bs:List Bool):setB x (node l v r) (false::bs)=node l v (setB x r bs):=rfl
def wI(x:α)(bs:List Bool):setB x leaf bs=single x bs:=rfl
def pO(x:α)(bs:List Bool):single x (true::bs)=node (single x bs) none leaf:=rfl
def pN(x:α)(bs:List Bool):single x (false::bs)=node leaf none (single x bs):=rfl
theorem Jp(x y:α): ∀bs:List Bool,setB y (single x bs) bs=single y bs
 |[]=>rfl
 |true::bs=>by rw[pO,Gd,Jp x y bs,pO]
 |false::bs=>by rw[pN,Gc,Jp x y bs,pN]
theorem ER(x y:α): ∀(t:T α) (bs:List Bool),setB y (setB x t bs) bs=setB y t bs
 |leaf,bs=>by rw[wI,Jp,wI]
 |node l v r,[]=>rfl
 |node l v r,true::bs=>by rw[Gd,Gd,Gd,ER x y l bs]
 |node l v r,false::bs=>by rw[Gc,Gc,Gc,ER x y r bs]
def set_set(t:T α)(n:Nat)(x y:α):(t.set n x).set n y=t.set n y:=ER x y t (bits n)
def QF(a b:α)(l:List α):Ty (a::b::l)=a::Ty l:=by simp[Ty]
theorem AM: ∀(l:List α) (i:Nat) (v:α),Ty (l.set (2*i) v)=(Ty l).set i v
 |[],_,_=>by simp[Ty]
 |[a],0,_=>by simp[Ty]
 |[a],i+1,v=>by
  rw[show 2*(i+1)=2*i+1+1 by omega];simp[Ty]
 |a::b::l,0,v=>by simp[Ty]
 |a::b::l,i+1,v=>by
  rw[show 2*(i+1)=2*i+1+1 by omega,VR,VR,QF,QF,AM l i v,VR]
theorem LR: ∀(l:List α) (i:Nat) (v:α),Ty (l.set (2*i+1) v)=Ty l
 |[],_,_=>by simp[Ty]
 |[a],i,_=>by simp[Ty]
 |a::b::l,0,v=>by simp[Ty]
 |a::b::l,i+1,v=>by
  rw[show 2*(i+1)+1=(2*i+1)+1+1 by omega,VR,VR,QF,QF,LR l i v]
def oh(l:List α)(i:Nat)(v:α):(l.set (i+1) v).tail=l.tail.set i v:=by cases l<;>rfl
def cd(l:List α)(v:α):(l.set 0 v).tail=l.tail:=by cases l<;>rfl
def SW(l:List α):(Ty l).length=(l.length+1)/2:=by
 have: ∀(n:Nat) (l:List α),l.length<=n->(Ty l).length=(l.length+1)/2:=by
  intro n
  induction n with
  |zero=>intro l h;cases l with|nil=>simp[Ty]|cons=>simp at h
  |succ n ih=>
   intro l h
   match l,h with
   |[],_=>simp[Ty]
   |[a],_=>simp[Ty]
   |a::b::l,h=>
    rw[QF,ZL,ih l (by simp at h;omega)];simp only[ZL];omega
 exact this _ l (Zs _)
def RV(f:Nat)(x:α)(l:List α):T6 (f+1) (x::l)=node (T6 f (Ty l)) (some x) (T6 f (Ty l.tail)):=rfl
def pK: ∀(f:Nat) (l:List α) (i:Nat) (v:α),l.length<=f->i<l.length->(T6 f l).set i v=T6 f (l.set i v):=by
 intro f
 induction f with
 |zero=>intro l i v h hi;omega
 |succ f ih=>
  intro l i v h hi;cases l with
  |nil=>cases hi
  |cons x l=>
   rw[RV]
   by_cases h0:i=0
   ·subst h0;rfl
   ·obtain⟨j,rfl⟩: ∃j,i=j+1:=⟨i - 1,by omega⟩
    rw[VR,RV];simp only[ZL] at h hi;unfold set
    by_cases h1:(j+1) % 2=1
    ·obtain⟨m,rfl⟩: ∃m,j=2*m:=⟨j/2,by omega⟩
     rw[C8 h1,Gd,show(2*m+1)/2=m by omega];have:=ih (Ty l) m v (by rw[SW];omega) (by rw[SW];omega);unfold set at this;rw[this,AM];cases m with
     |zero=>rw[cd]
     |succ m=>rw[show 2*(m+1)=2*m+1+1 by omega,oh,LR]
    ·obtain⟨m,rfl⟩: ∃m,j=2*m+1:=⟨j/2,by omega⟩
     rw[F7 (by omega) (by omega),Gc,show(2*m+1+1)/2 - 1=m by omega];have:=ih (Ty l.tail) m v (by rw[SW,Tw];omega) (by rw[SW,Tw];omega);unfold set at this;rw[this,LR,oh,AM]
def uz: ∀(f g:Nat) (l:List α),l.length<=f->l.length<=g->T6 f l=T6 g l:=by
 intro f
 induction f with
 |zero=>
  intro g l h _;have:l=[]:=YF.1 (by omega);subst this;cases g<;>rfl
 |succ f ih=>
  intro g l h hg;cases l with
  |nil=>cases g<;>rfl
  |cons x l=>
   cases g with
   |zero=>simp at hg
   |succ g=>
    simp only[ZL] at h hg;rw[RV,RV,ih g (Ty l) (by rw[SW];omega) (by rw[SW];omega),ih g (Ty l.tail) (by rw[SW,Tw];omega) (by rw[SW,Tw];omega)]
theorem Lc: ∀(l:List α) (v:α),Ty (l++[v])=if l.length % 2=0 then Ty l++[v] else Ty l
 |[],v=>by simp[Ty]
 |[a],v=>by simp[Ty]
 |a::b::l,v=>by
  rw[WE,WE,QF,QF,Lc l v];simp only[ZL,show(l.length+1+1) % 2=l.length % 2 by omega]
  split<;>rfl
def uF: ∀(f:Nat) (l:List α) (v:α),l.length<f->(T6 f l).set l.length v=T6 f (l++[v]):=by
 intro f
 induction f with
 |zero=>intro l v h;cases h
 |succ f ih=>
  intro l v h;cases l with
  |nil=>
   cases f<;>rfl
  |cons x l=>
   rw[WE,RV,RV];simp only[ZL] at h ⊢;unfold set
   by_cases h1:(l.length+1) % 2=1
   ·rw[C8 h1,Gd,show(l.length+1)/2=(Ty l).length by rw[SW]]
    have:=ih (Ty l) v (by rw[SW];omega);unfold set at this;rw[this,Lc,if_pos (by omega)];cases l with
    |nil=>rfl
    |cons y l=>
     simp only[ZL] at h1;rw[WE,List.tail_cons,List.tail_cons,Lc,if_neg (by omega)]
   ·have h2:l≠[]:=by intro e;subst e;simp at h1
    rw[F7 (by omega) (by omega),Gc,show(l.length+1)/2 - 1=(Ty l.tail).length by rw[SW,Tw];have:=Ws.2 h2;omega];have:=ih (Ty l.tail) v (by rw[SW,Tw];have:=Ws.2 h2;omega);unfold set at this;rw[this,Lc l v,if_neg (by omega)];cases l with
    |nil=>exact absurd rfl h2
    |cons y l=>
     simp only[ZL] at h1;rw[WE,List.tail_cons,List.tail_cons,Lc,if_pos (by omega)]
def set_ofList{l:List α}{i:Nat}(v:α)(h:i<l.length):(ofList l).set i v=ofList (l.set i v):=by
 unfold ofList;rw[Fh,Fh,Tf];exact pK _ l i v (Zs _) h
def push_ofList(l:List α)(v:α):(ofList l).set l.length v=ofList (l++[v]):=by
 unfold ofList;rw[Fh,Fh,uz l.length (l.length+1) l (Zs _) (Ve _),uF _ l v (ZU _)];simp
end T
def lay(l:List AV):Nat->List AV->List AV
 |_,[]=>l
 |o,v::vs=>lay (l.set o v) (o+1) vs
theorem Cx: ∀(l:List AV) (o:Nat) (vs:List AV),(lay l o vs).length=l.length
 |_,_,[]=>rfl
 |l,o,v::vs=>by
  show(lay (l.set o v) (o+1) vs).length=_;rw[Cx,Tf]
theorem zu: ∀(l:List AV) (o:Nat) (vs:List AV),o+vs.length<=l.length->XV (T.ofList l) o vs=T.ofList (lay l o vs)
 |_,_,[],_=>rfl
 |l,o,v::vs,h=>by
  simp only[ZL] at h;show XV ((T.ofList l).set o v) (o+1) vs=T.ofList (lay (l.set o v) (o+1) vs);rw[T.set_ofList v (by omega),zu (l.set o v) (o+1) vs (by rw[Tf];omega)]
theorem D6: ∀(l:List AV) (vs:List AV),XV (T.ofList l) l.length vs=T.ofList (l++vs)
 |l,[]=>by rw[ZM];rfl
 |l,v::vs=>by
  show XV ((T.ofList l).set l.length v) (l.length+1) vs=_;rw[T.push_ofList];have:=D6 (l++[v]) vs;rw[Zh] at this;rw[show l.length+1=l.length+[v].length from rfl,this,Yq];rfl
theorem Ad: ∀(l:List AV) (o:Nat) (vs:List AV),o+vs.length<=l.length->lay l o vs=l.take o++(vs++l.drop (o+vs.length))
 |l,o,[],h=>by show l=_;simp
 |l,o,v::vs,h=>by
  simp only[ZL] at h;show lay (l.set o v) (o+1) vs=_;rw[Ad (l.set o v) (o+1) vs (by rw[Tf];omega),List.set_eq_take_append_cons_drop,if_pos (by omega)];have e1:(l.take o++v::l.drop (o+1)).take (o+1)=l.take o++[v]:=by
   rw[List.take_append,Z1 (by rw[Zy];omega),Zy,Xy (by omega),show o+1 - o=1 by omega];rfl
  have e2:(l.take o++v::l.drop (o+1)).drop (o+1+vs.length)=l.drop (o+(v::vs).length):=by
   rw[List.drop_append,Uz (by rw[Zy];omega),ZQ,Zy,Xy (by omega),show o+1+vs.length - o=vs.length+1 by omega,Wq,Sj,ZL]
   congr 1;omega
  rw[e1,e2];simp
section
def rG(e sz:Nat)(l:List AV)(fz:Nat)(sm own ex:Bool):Obj:=.row ⟨e,sz,YN l,T.ofList l,.unk,fz,sm,own,ex⟩
def EL(e sz:Nat)(l:List AV)(fz:Nat)(sm own ex:Bool)(i:Nat):Row.get ⟨e,sz,YN l,T.ofList l,.unk,fz,sm,own,ex⟩ i=l.getD i .unk:=by
 rw[Row.get_eq];show((T.ofList l).get i).getD .unk=_;rw[T.get_ofList,Ze]
def Le(e sz:Nat)(l:List AV)(fz:Nat)(sm own ex:Bool):Cells ⟨e,sz,YN l,T.ofList l,.unk,fz,sm,own,ex⟩ l:=Cells.new ..
def ld1(x:Option Obj)(o:Nat)(H:Heap):OR:=match x with|some (.row r)=>ZJ (Nat.ble (Nat.succ o) r.size) (.val (r.get o) H)|_=>.fail
def Ew(b o:Nat)(H:Heap):uf (.ptr b o) H=ld1 (H.t.get b) o H:=rfl
def XQ{o:Nat}{l:List AV}(h:o<l.length)(e sz fz:Nat)(sm own ex:Bool)(H:Heap):ld1 (some (rG e sz l fz sm own ex)) o H=.val (l.getD o .unk) H:=by
 show ZJ (Nat.ble (Nat.succ o) (YN l)) (.val (Row.get ⟨e,sz,YN l,T.ofList l,.unk,fz,sm,own,ex⟩ o) H)=_;rw[Yw,Zj (show Nat.succ o<=l.length from h)];show OR.val (Row.get ⟨e,sz,l.length,T.ofList l,.unk,fz,sm,own,ex⟩ o) H=_;rw[<-Yw,EL]
def zI(n:Nat)(x:Option Obj)(o:Nat)(H:Heap):OR:=match x with|some (.row r)=>ZJ (Nat.ble (Nat.add o n) r.size) (.val (.agg (Vw r o n)) H)|_=>.fail
def rZ(n b o:Nat)(H:Heap):jK n (.ptr b o) H=zI n (H.t.get b) o H:=rfl
def Tg{n o:Nat}{l:List AV}(h:o+n<=l.length)(e sz fz:Nat)(sm own ex:Bool)(H:Heap):zI n (some (rG e sz l fz sm own ex)) o H=.val (.agg ((l.drop o).take n)) H:=by
 show ZJ (Nat.ble (o+n) (YN l)) (.val (.agg (Vw ⟨e,sz,YN l,T.ofList l,.unk,fz,sm,own,ex⟩ o n)) H)=_;rw[(Le e sz l fz sm own ex).load h,Yw,Zj h];rfl
def F3(n:Nat)(x:Option Obj)(b o:Nat)(v:AV)(H:Heap):OR:=match x with
 |some (.row r)=>ZJ (Nat.ble 1 n)<|ZJ (H.may r b) (ZJ (Nat.ble (Nat.add o n) r.size) (ZJ (Nat.ble r.fz o) (ZJ (Nat.beq (YN v.cells) n) (.val Y9 (H.put b (.row (r.setCells (XV r.cells o v.cells))))))))
 |_=>.fail
def vb(n b o:Nat)(v:AV)(H:Heap):Zcg n (.ptr b o) v H=F3 n (H.t.get b) b o v H:=rfl
def lG{n b o:Nat}{l:List AV}{v:AV}{H:Heap}{fz:Nat}(hn:1<=n)(hv:v.cells.length=n)(ho:o+n<=l.length)(hro:H.ro<=b)(hfz:fz<=o)(e sz:Nat)(sm ex:Bool):
  F3 n (some (rG e sz l fz sm true ex)) b o v H=.val Y9 (H.put b (rG e sz (lay l o v.cells) fz sm true ex)):=by
 show ZJ (Nat.ble 1 n) (ZJ (cond true (Nat.ble H.ro b) false) (ZJ (Nat.ble (o+n) (YN l)) (ZJ (Nat.ble fz o) (ZJ (Nat.beq (YN v.cells) n) (.val Y9 (H.put b (.row ⟨e,sz,YN l,XV (T.ofList l) o v.cells,.unk,fz,sm,true,ex⟩)))))))=_;rw[Zj hn,Zj hro,Yw,Zj ho,Zj hfz,Yw,hv,YD,zu l o v.cells (by omega)];unfold rG;rw[Yw,Cx];rfl
def Te{b o:Nat}{l:List AV}{v:AV}{H:Heap}{fz:Nat}(hv:v.cells=[v])(ho:o<l.length)(hro:H.ro<=b)(hfz:fz<=o)(e sz:Nat)(sm ex:Bool):
  F3 1 (some (rG e sz l fz sm true ex)) b o v H=.val Y9 (H.put b (rG e sz (l.set o v) fz sm true ex)):=by
 rw[lG (Zs 1) (by rw[hv];rfl) ho hro hfz,hv];rfl
def Yp(H:Heap)(b:Nat)(o:Obj):(H.put b o).t.get b=some o:=by rw[LU,if_pos rfl]
def UO{b c:Nat}(h: ¬b=c)(H:Heap)(o:Obj):(H.put b o).t.get c=H.t.get c:=by rw[LU,if_neg h]
def ZR{H:Heap}{c:Nat}(h:H.nx=c)(o:Obj):(H.new o).t.get c=some o:=by rw[MD,if_pos h]
def SF{H:Heap}{c:Nat}(h: ¬H.nx=c)(o:Obj):(H.new o).t.get c=H.t.get c:=by rw[MD,if_neg h]
def ip(H:Heap)(b:Nat)(o o':Obj):(H.put b o).put b o'=H.put b o':=by
 unfold Heap.put;simp only[T.set_set]
def TJ{H:Heap}{b:Nat}(h:H.nx=b)(o o':Obj):(H.new o).put b o'=H.new o':=by
 subst h;unfold Heap.put Heap.new;simp only[T.set_set]
def NA(H:Heap)(e sz:Nat)(l:List AV)(ex:Bool):H.newRow e sz l ex=H.new (rG e sz l 0 false true ex):=rfl
def DD(e:Nat)(c:AV)(cs:List AV)(tm:TM)(H:Heap):VN e (c::cs) tm H=.val (.ptr H.nx 0) (H.new (rG e 1 (c::cs) 0 false true true)):=by
 rw[Av _ _ (by rw[Yw];simp)];rfl
def MW(e:Nat)(a:AV)(H:Heap):OR:=ZJ (Nat.ble 1 (YN a.cells))<|.val (.ptr H.nx 0) (H.newRow e 1 a.cells true)
def UJ(x:WI)(e:Nat)(tm:TM)(H:Heap):Jb x e tm H=MW e (x tm) H:=rfl
def ku{a:AV}{l:List AV}(h:a.cells=l)(h1:1<=l.length)(e:Nat)(H:Heap):MW e a H=.val (.ptr H.nx 0) (H.new (rG e 1 l 0 false true true)):=by
 subst h;show ZJ (Nat.ble 1 (YN a.cells)) _=_;rw[Yw,Zj h1];rfl
def oV(l:List AV):(AV.agg l).cells=l:=rfl
def W4{l:List AV}(h1:1<=l.length)(e:Nat)(H:Heap):MW e (.agg l) H=.val (.ptr H.nx 0) (H.new (rG e 1 l 0 false true true)):=ku (oV l) h1 e H
def Gw{a:AV}(h:a.cells=[a])(e:Nat)(H:Heap):MW e a H=.val (.ptr H.nx 0) (H.new (rG e 1 [a] 0 false true true)):=ku h (Zs 1) e H
def Lu(b:Bool):(AV.bool b).cells=[.bool b]:=rfl
def JK(k:IntKind)(n:Int):(AV.int k n).cells=[.int k n]:=rfl
def GI(k:IntKind)(n:Nat):(nI k n).cells=[nI k n]:=rfl
def JO(x:UInt8):(Vk x).cells=[Vk x]:=rfl
def JN(s:Zd):(AV.str s).cells=[.str s]:=rfl
def Lx:AV.nilp.cells=[.nilp]:=rfl
def JM(b o:Nat):(AV.ptr b o).cells=[.ptr b o]:=rfl
def Ly:AV.nils.cells=[.nils]:=rfl
def Mu(b o n:Nat)(c:Option Nat):(AV.slice b o n c).cells=[.slice b o n c]:=rfl
def JL(b:Nat):(AV.map b).cells=[.map b]:=rfl
def Lv(f:Nat)(a b:List AV):(AV.func f a b).cells=[.func f a b]:=rfl
def Mt(t:Nat)(v:AV):(AV.iface t v).cells=[.iface t v]:=rfl
def Lw:AV.nili.cells=[.nili]:=rfl
def JJ(l:List AV):(AV.agg l).cells=l:=rfl
theorem Y5{a:TM->Heap->X->UG}{x:X}(I:Nat->TM->Heap->Prop)(Q:Out->TM->Heap->Prop)
  (step: ∀m tm H,I m tm H-> ∃o tm' H',a tm H x=.ok o tm' H' x∧((o=.normal∧ ∃k,k<m∧I k tm' H')∨(o≠.normal∧Q o tm' H'))):
  ∀(F m:Nat) (tm:TM) (H:Heap),m<F->I m tm H-> ∃o tm' H',Vq a F tm H x=.ok o tm' H' x∧o≠.normal∧Q o tm' H'
 |0,m,_,_,h,_=>by omega
 |F+1,m,tm,H,h,hi=>by
  obtain⟨o,tm',H',h1,h2⟩:=step m tm H hi;rcases h2 with⟨rfl,k,hk,h3⟩|⟨h2,h3⟩
  ·obtain⟨o2,tm2,H2,e,h4,h5⟩:=Y5 I Q step F k tm' H' (by omega) h3
   refine⟨o2,tm2,H2,?_,h4,h5⟩;show Ll (a tm H x) (Vq a F)=_;rw[h1];exact e
  ·refine⟨o,tm',H',?_,h2,h3⟩
   show Ll (a tm H x) (Vq a F)=_;rw[h1];cases o with
   |normal=>exact absurd rfl h2
   |_=>rfl
def YP{a:TM->Heap->X->UG}{F:Nat}{H:Heap}{x:X}{L:UG}{P:TM->Prop}{Q:Out->TM->Heap->Prop}(lp: ∀T,P T-> ∃o tm' H',Vq a F T H x=.ok o tm' H' x∧o≠.normal∧Q o tm' H'){T:TM}(hL:Vq a F T H x=L)(hi:P T):
  ∃o tm' H',L=.ok o tm' H' x∧o≠.normal∧Q o tm' H':=by
 obtain⟨o,b,c,e,j⟩:=lp T hi;exact⟨o,b,c,hL.symm.trans e,j⟩
end
def ZG:type_of% @pI∧type_of% @sU∧type_of% @yS∧type_of% @Fv∧type_of% @pG∧type_of% @UW∧type_of% @vk∧type_of% @zA∧type_of% @xD∧type_of% @pj∧type_of% @yL∧type_of% @yx∧type_of% @xh∧type_of% @Bq∧type_of% @Dc∧type_of% @Bb∧type_of% @xq∧type_of% @II∧type_of% @Tv∧type_of% @Ag∧type_of% @bK∧type_of% @Zf9∧type_of% @kZ∧type_of% @sF∧type_of% @jZ∧type_of% @Fq∧type_of% @qC∧type_of% @xF∧type_of% @qN∧type_of% @AE∧type_of% @qJ∧type_of% @qK∧type_of% @M9∧type_of% @AH∧type_of% @qM∧type_of% @xT∧type_of% @qB∧type_of% @jY∧type_of% @qF∧type_of% @xS∧type_of% @Ay∧type_of% @xd∧type_of% @xb∧type_of% @xa∧type_of% @xc∧type_of% @pH∧type_of% @qe∧type_of% @Am∧type_of% @qg∧type_of% @jM∧type_of% @qi∧type_of% @jN∧type_of% @xv∧type_of% @Th∧type_of% @T5∧type_of% @Ud∧type_of% @YO∧type_of% @Ys∧type_of% @NC∧type_of% @SK∧type_of% @xP∧type_of% @DF∧type_of% @HW∧type_of% @xI∧type_of% @ik∧type_of% @ij∧type_of% @Za5∧type_of% @AC∧type_of% @ED∧type_of% @AJ∧type_of% @qG∧type_of% @xK∧type_of% @xL∧type_of% @qE∧type_of% @xN∧type_of% @DC∧type_of% @UJ∧type_of% @DD∧type_of% @XR∧type_of% @XA∧type_of% @WH∧type_of% @DA∧type_of% @N0∧type_of% @N9∧type_of% @uI∧type_of% @EB∧type_of% @ul∧type_of% @Yp∧type_of% @ip∧type_of% @NA∧type_of% @Ew∧type_of% @rZ∧type_of% @vb∧type_of% @Lu∧type_of% @JK∧type_of% @GI∧type_of% @JO∧type_of% @JN∧type_of% @Lx∧type_of% @JM∧type_of% @Ly∧type_of% @Mu∧type_of% @JL∧type_of% @Lv∧type_of% @Mt∧type_of% @Lw∧type_of% @JJ∧type_of% @Bu∧type_of% @wi∧type_of% @AS∧type_of% @xE∧type_of% @zq∧type_of% @zr∧type_of% @wY∧type_of% @D4∧type_of% @D5∧type_of% @zp∧type_of% @sy∧type_of% @yH∧type_of% @po∧type_of% @xk∧type_of% @Aa∧type_of% @wZ∧type_of% @zt∧type_of% @qZ∧type_of% @B7∧type_of% @xi∧type_of% @Ny∧type_of% @Hw∧type_of% @Sw∧type_of% @V3∧type_of% @xu∧type_of% @Ak∧type_of% @it∧type_of% @pv∧type_of% @jc∧type_of% @jd∧type_of% @je∧type_of% @qV∧type_of% @DI∧type_of% @DN∧type_of% @results_none∧type_of% @lZ∧(Qb []=ot)∧type_of% @kh∧type_of% @ki∧type_of% @kj∧type_of% @kl∧type_of% @Wi∧type_of% @VL∧type_of% @kU∧type_of% @ZE∧type_of% @Yr∧type_of% @Yn∧type_of% @Y4∧type_of% @YQ∧type_of% @UI∧type_of% @ZZ∧type_of% @EF∧type_of% @EE∧type_of% @Je∧type_of% @EG:=
 ⟨@pI, @sU, @yS, @Fv, @pG, @UW, @vk, @zA, @xD, @pj, @yL, @yx, @xh, @Bq, @Dc, @Bb, @xq, @II, @Tv, @Ag, @bK, @Zf9, @kZ, @sF, @jZ, @Fq, @qC, @xF, @qN, @AE, @qJ, @qK, @M9, @AH, @qM, @xT, @qB, @jY, @qF, @xS, @Ay, @xd, @xb, @xa, @xc, @pH, @qe, @Am, @qg, @jM, @qi, @jN, @xv, @Th, @T5, @Ud, @YO, @Ys, @NC, @SK, @xP, @DF, @HW, @xI, @ik, @ij, @Za5, @AC, @ED, @AJ, @qG, @xK, @xL, @qE, @xN, @DC, @UJ, @DD, @XR, @XA, @WH, @DA, @N0, @N9, @uI, @EB, @ul, @Yp, @ip, @NA, @Ew, @rZ, @vb, @Lu, @JK, @GI, @JO, @JN, @Lx, @JM, @Ly, @Mu, @JL, @Lv, @Mt, @Lw, @JJ, @Bu, @wi, @AS, @xE, @zq, @zr, @wY, @D4, @D5, @zp, @sy, @yH, @po, @xk, @Aa, @wZ, @zt, @qZ, @B7, @xi, @Ny, @Hw, @Sw, @V3, @xu, @Ak, @it, @pv, @jc, @jd, @je, @qV, @DI, @DN, @results_none, @lZ, @ZcP, @kh, @ki, @kj, @kl, @Wi, @VL, @kU, @ZE, @Yr, @Yn, @Y4, @YQ, @UI, @ZZ, @EF, @EE, @Je, @EG⟩
def Yj:type_of% @N8.g00∧type_of% @N8.g01∧type_of% @N8.g02∧type_of% @N8.g03∧type_of% @N8.g04∧type_of% @N8.g05∧type_of% @N8.g06∧type_of% @N8.g07∧type_of% @N8.g10∧type_of% @N8.g11∧type_of% @N8.g12∧type_of% @N8.g13∧type_of% @N8.g14∧type_of% @N8.g15∧type_of% @N8.g16∧type_of% @N8.g17∧type_of% @N8.g20∧type_of% @N8.g21∧type_of% @N8.g22∧type_of% @N8.g23∧type_of% @N8.g24∧type_of% @N8.g25∧type_of% @N8.g26∧type_of% @N8.g27∧type_of% @N8.g30∧type_of% @N8.g31∧type_of% @N8.g32∧type_of% @N8.g33∧type_of% @N8.g34∧type_of% @N8.g35∧type_of% @N8.g36∧type_of% @N8.g37∧type_of% @N8.g40∧type_of% @N8.g41∧type_of% @N8.g42∧type_of% @N8.g43∧type_of% @N8.g44∧type_of% @N8.g45∧type_of% @N8.g46∧type_of% @N8.g47∧type_of% @N8.g50∧type_of% @N8.g51∧type_of% @N8.g52∧type_of% @N8.g53∧type_of% @N8.g54∧type_of% @N8.g55∧type_of% @N8.g56∧type_of% @N8.g57∧type_of% @N8.g60∧type_of% @N8.g61∧type_of% @N8.g62∧type_of% @N8.g63∧type_of% @N8.g64∧type_of% @N8.g65∧type_of% @N8.g66∧type_of% @N8.g67∧type_of% @N8.g70∧type_of% @N8.g71∧type_of% @N8.g72∧type_of% @N8.g73∧type_of% @N8.g74∧type_of% @N8.g75∧type_of% @N8.g76∧type_of% @N8.g77:=
 ⟨@N8.g00, @N8.g01, @N8.g02, @N8.g03, @N8.g04, @N8.g05, @N8.g06, @N8.g07, @N8.g10, @N8.g11, @N8.g12, @N8.g13, @N8.g14, @N8.g15, @N8.g16, @N8.g17, @N8.g20, @N8.g21, @N8.g22, @N8.g23, @N8.g24, @N8.g25, @N8.g26, @N8.g27, @N8.g30, @N8.g31, @N8.g32, @N8.g33, @N8.g34, @N8.g35, @N8.g36, @N8.g37, @N8.g40, @N8.g41, @N8.g42, @N8.g43, @N8.g44, @N8.g45, @N8.g46, @N8.g47, @N8.g50, @N8.g51, @N8.g52, @N8.g53, @N8.g54, @N8.g55, @N8.g56, @N8.g57, @N8.g60, @N8.g61, @N8.g62, @N8.g63, @N8.g64, @N8.g65, @N8.g66, @N8.g67, @N8.g70, @N8.g71, @N8.g72, @N8.g73, @N8.g74, @N8.g75, @N8.g76, @N8.g77⟩
def V1{j:IntKind}{a:Nat}(h:a<9223372036854775808)(H:Heap):O1 .i64 (nI j a) H=.val (nI .i64 a) H:=by
 show Tp .i64 (.ofNat a) H=_;rw[Wo,Mk h];rfl
def dN{j:IntKind}{a b:Nat}(h:b<64)(H:Heap):Ze8 (nI .i64 a) (nI j b) H=.val (nI .i64 (a/2^b)) H:=by
 show OX (.ofNat (Nat.div a (Nat.pow 2 (O3 b 64)))) (λn=>OR.val (.int .i64 n) H)=_;have:O3 b 64=b:=by unfold O3;rw[Zj (by omega)];rfl
 rw[PP,this];rfl
def p9{a b:Nat}(h:b<=a)(h2:a<18446744073709551616)(H:Heap):Mh (nI .u64 a) (nI .u64 b) H=.val (nI .u64 (a - b)) H:=by
 show ZJ (PV .u64 .u64) (Tp .u64 (Ff (.ofNat a) (.ofNat b)) H)=_;rw[XG,Wo,B8 h,Ml,Yd (by omega)];rfl
def qs{a b:Nat}(h:a*b<18446744073709551616)(H:Heap):eK (nI .u64 a) (nI .u64 b) H=.val (nI .u64 (a*b)) H:=by
 show ZJ (PV .u64 .u64) (Tp .u64 (B4 (.ofNat a) (.ofNat b)) H)=_;rw[XG,Wo,K7,Ml,Yd h];rfl
def ZbK{a b:Nat}(h:0<b)(h2:a<18446744073709551616)(H:Heap):Ze1 (nI .u64 a) (nI .u64 b) H=.val (nI .u64 (a/b)) H:=by
 show ZJ (PV .u64 .u64) (cond (Dw (.ofNat b) (.ofNat 0)) .fail (Tp .u64 (.ofNat (Nat.div a b)) H))=_;rw[XG,MA,Zc (by omega),Wo,show(Int.ofNat (Nat.div a b))=Int.ofNat (a/b) from rfl,Ml,Yd (UD (Ri a b) h2)];rfl
def ZbP{a b:Nat}(h:0<b)(H:Heap):dG (nI .u64 a) (nI .u64 b) H=.val (nI .u64 (a % b)) H:=by
 show ZJ (PV .u64 .u64) (cond (Dw (.ofNat b) (.ofNat 0)) .fail (OX (.ofNat (Nat.mod a b)) λn=>.val (.int .u64 n) H))=_;rw[XG,MA,Zc (by omega),PP];rfl
def T4{j:IntKind}{a:Nat}(h:a<18446744073709551616)(H:Heap):O1 .u64 (nI j a) H=.val (nI .u64 a) H:=by
 show Tp .u64 (.ofNat a) H=_;rw[Wo,Ml,Yd h];rfl
def QQ{j:IntKind}{a b:Nat}(h:b<64)(H:Heap):Ze8 (nI .u64 a) (nI j b) H=.val (nI .u64 (a/2^b)) H:=by
 show OX (.ofNat (Nat.div a (Nat.pow 2 (O3 b 64)))) (λn=>OR.val (.int .u64 n) H)=_;have:O3 b 64=b:=by unfold O3;rw[Zj (by omega)];rfl
 rw[PP,this];rfl
def RX{j:IntKind}{a b:Nat}(h:b<=64)(H:Heap):Zjp (nI .u64 a) (nI j b) H=.val (nI .u64 (a*2^b % 18446744073709551616)) H:=by
 show Tp .u64 (B4 (.ofNat a) (.ofNat (Nat.pow 2 (cond (Nat.ble b 64) b 64)))) H=_;rw[Wo,K7,Ml,Zj h];rfl
def TB{a b:Nat}(h:a+b<4294967296)(H:Heap):Sr (nI .u32 a) (nI .u32 b) H=.val (nI .u32 (a+b)) H:=by
 show ZJ (PV .u32 .u32) (Tp .u32 (rn (.ofNat a) (.ofNat b)) H)=_;rw[XG,Wo,Fe,JF,Yd h];rfl
def N4{a b:Nat}(h:a*b<4294967296)(H:Heap):eK (nI .u32 a) (nI .u32 b) H=.val (nI .u32 (a*b)) H:=by
 show ZJ (PV .u32 .u32) (Tp .u32 (B4 (.ofNat a) (.ofNat b)) H)=_;rw[XG,Wo,K7,JF,Yd h];rfl
def Ma{a b:Nat}(h:0<b)(h2:a<4294967296)(H:Heap):Ze1 (nI .u32 a) (nI .u32 b) H=.val (nI .u32 (a/b)) H:=by
 show ZJ (PV .u32 .u32) (cond (Dw (.ofNat b) (.ofNat 0)) .fail (Tp .u32 (.ofNat (Nat.div a b)) H))=_;rw[XG,MA,Zc (by omega),Wo,show(Int.ofNat (Nat.div a b))=Int.ofNat (a/b) from rfl,JF,Yd (UD (Ri a b) h2)];rfl
def Mc{a b:Nat}(h:0<b)(H:Heap):dG (nI .u32 a) (nI .u32 b) H=.val (nI .u32 (a % b)) H:=by
 show ZJ (PV .u32 .u32) (cond (Dw (.ofNat b) (.ofNat 0)) .fail (OX (.ofNat (Nat.mod a b)) λn=>.val (.int .u32 n) H))=_;rw[XG,MA,Zc (by omega),PP];rfl
def SS{j:IntKind}{a:Nat}(h:a<4294967296)(H:Heap):O1 .u32 (nI j a) H=.val (nI .u32 a) H:=by
 show Tp .u32 (.ofNat a) H=_;rw[Wo,JF,Yd h];rfl
def FW{a b:Nat}(h:b<=a)(h2:a<256)(H:Heap):Mh (nI .u8 a) (nI .u8 b) H=.val (nI .u8 (a - b)) H:=by
 show ZJ (PV .u8 .u8) (Tp .u8 (Ff (.ofNat a) (.ofNat b)) H)=_;rw[XG,Wo,B8 h,uZ,Yd (by omega)];rfl
def MC{j:IntKind}{a:Nat}(h:a<256)(H:Heap):O1 .u8 (nI j a) H=.val (nI .u8 a) H:=by
 show Tp .u8 (.ofNat a) H=_;rw[Wo,uZ,Yd h];rfl
def MB(j:IntKind)(a:Nat)(H:Heap):O1 .u8 (nI j a) H=.val (nI .u8 (a % 256)) H:=by
 show Tp .u8 (.ofNat a) H=_;rw[Wo,uZ];rfl
def Zej(k:IntKind)(m b:Nat)(H:Heap):T2 XF Yt (.int k (.negSucc m)) (nI k b) H=.val (.bool true) H:=by
 show ZJ (PV k k) (S9 true H)=_;rw[XG];rfl
def Zeb(k:IntKind)(m b:Nat)(H:Heap):T2 Ro U5 (nI k b) (.int k (.negSucc m)) H=.val (.bool false) H:=by
 show ZJ (PV k k) (S9 (!rq (.negSucc m) (.ofNat b)) H)=_;rw[XG];rfl
def vr(n:Int):IntKind.u64.wrap n=n % 18446744073709551616:=by
 unfold IntKind.wrap;simp[IntKind.bits,IntKind.signed]
def E4{z:Int}(h1: -9223372036854775808<=z)(h2:z<9223372036854775808):IntKind.i64.wrap z=z:=by
 unfold IntKind.wrap;simp[IntKind.bits,IntKind.signed];omega
def ry(k j:IntKind)(n:Int)(H:Heap):O1 k (.int j n) H=Tp k n H:=rfl
def nR{m:Nat}(h:m<9223372036854775808)(H:Heap):O1 .u64 (.int .i64 (.negSucc m)) H=.val (nI .u64 (18446744073709551615 - m)) H:=by
 have e1:IntKind.u64.wrap (.negSucc m)=Int.ofNat (18446744073709551615 - m):=by
  rw[Int.negSucc_eq,vr,YA];omega
 rw[ry,Wo,e1];unfold nI;rfl
def Za4{u:Nat}(h0:0<u)(h:u<18446744073709551616)(H:Heap):qu (nI .u64 u) H=.val (nI .u64 (18446744073709551616 - u)) H:=by
 show Tp .u64 (Ff 0 (.ofNat u)) H=_;rw[Wo]
 congr 2
 have e:Ff 0 (.ofNat u)= -(u:Int):=by
  show cond (Nat.ble u 0) (Int.ofNat (Nat.sub 0 u)) (Int.ofNat 0 - Int.ofNat u)=_;cases hb:Nat.ble u 0 with
  |true=>have:=ZS hb;omega
  |false=>show(0:Int) - u=_;omega
 rw[e,vr,YA];omega
def qv{u:Nat}(h0:0<u)(h:u<=9223372036854775808)(H:Heap):qu (nI .i64 u) H=.val (.int .i64 (.negSucc (u - 1))) H:=by
 show Tp .i64 (Ff 0 (.ofNat u)) H=_;rw[Wo]
 congr 2
 have e:Ff 0 (.ofNat u)= -(u:Int):=by
  show cond (Nat.ble u 0) (Int.ofNat (Nat.sub 0 u)) (Int.ofNat 0 - Int.ofNat u)=_;cases hb:Nat.ble u 0 with
  |true=>have:=ZS hb;omega
  |false=>show(0:Int) - u=_;omega
 rw[e];rw[E4 (by omega) (by omega)];omega
def Fm(H:Heap):qu (nI .i64 0) H=.val (nI .i64 0) H:=rfl
def wK{s:Zd}{p q:Nat}(h1:p<=q)(h2:q<=s.length)(k j:IntKind)(H:Heap):ET (.str s) (some (nI k p)) (some (nI j q)) H=.val (.str ((s.take q).drop p)) H:=by
 show ZJ (Nat.ble q (YN s)) (ZJ (Nat.ble p q) (OR.val (.str (Iw p (Lj q s))) H))=_;rw[Yw,Zj h2,Zj h1,OP,GM];rfl
def Vy{s:Zd}{p:Nat}(h1:p<=s.length)(k:IntKind)(H:Heap):ET (.str s) (some (nI k p)) none H=.val (.str (s.drop p)) H:=by
 show ZJ (Nat.ble p (YN s)) (OR.val (.str (Iw p (Lj (YN s) s))) H)=_;rw[Yw,Zj h1,OP,GM,Vb];rfl
def X7{s:Zd}{i:Nat}(h:i<s.length)(k:IntKind)(H:Heap):JR (.str s) (nI k i) H=.val (nI .u8 (s.getD i 0).toNat) H:=LJ h k H
section
variable (f:Us) (os:List (VJ×WI)) (dst:VJ) (i bef:Nat) (nx:PK) (rs:List RD) (tm:TM) (H:Heap) (x:X) (g:Option (WI×Bool)) (kd:th) (v:AV)
def Xc{m:Nat}(h:H.nx=m):GS ⟨f,g,os,dst,kd,i,bef⟩ nx rs tm H x (.val v ⟨m,.leaf,m⟩)=nx rs (dst tm v) H x:=by subst h;exact fc ..
def XZ{m:Nat}(h:H.nx=m)(t:T Obj)(k:Nat):AY ⟨f,g,os,dst,kd,i,bef⟩ nx rs tm H x (.val v ⟨m,t,k⟩)=nx (⟨⟨f,g,os,dst,kd,i,bef⟩,v⟩::rs) (dst tm v) H x:=by
 subst h;show cond (Nat.beq H.nx H.nx) _ _=_;rw[YD];rfl
def M0{m:Nat}(h:H.nx=m)(o:Obj)(hw:wrO o=true):GS ⟨f,g,os,dst,kd,i,bef⟩ nx rs tm H x (.val v ((⟨m,.leaf,m⟩:Heap).new o))=nx rs (dst tm v) (H.new o) x:=by subst h;exact fa _ _ _ _ _ _ _ _ _ _ _ _ _ _ hw
end
def uY(e sz:Nat)(l:List AV)(fz:Nat)(sm ex:Bool):wrO (rG e sz l fz sm true ex)=true:=rfl
def Row.st(r:Row)(o:Nat)(v:AV):Row:=r.setCells (r.cells.set o v)
def Row.st_size(r:Row)(o:Nat)(v:AV):(r.st o v).size=r.size:=rfl
def Row.st_own(r:Row)(o:Nat)(v:AV):(r.st o v).own=r.own:=rfl
def Row.st_fz(r:Row)(o:Nat)(v:AV):(r.st o v).fz=r.fz:=rfl
def Row.st_get(r:Row)(o:Nat)(v:AV)(i:Nat):(r.st o v).get i=if o=i then v else r.get i:=by
 rw[Row.get_eq,Row.get_eq];show((r.cells.set o v).get i).getD r.dflt=_;rw[T.get_set]
 split<;>rfl
def Qt{r:Row}{o:Nat}(h:o<r.size)(H:Heap):ld1 (some (.row r)) o H=.val (r.get o) H:=by
 show ZJ (Nat.ble (Nat.succ o) r.size) (.val (r.get o) H)=_;rw[Zj (show Nat.succ o<=r.size from h)];rfl
def Qa{r:Row}{b o:Nat}{v:AV}{H:Heap}(hv:v.cells=[v])(ho:o<r.size)(how:r.own=true)(hro:H.ro<=b)(hfz:r.fz<=o):F3 1 (some (.row r)) b o v H=.val Y9 (H.put b (.row (r.st o v))):=by
 show ZJ (Nat.ble 1 1) (ZJ (cond r.own (Nat.ble H.ro b) false) (ZJ (Nat.ble (o+1) r.size) (ZJ (Nat.ble r.fz o) (ZJ (Nat.beq (YN v.cells) 1) (.val Y9 (H.put b (.row (r.setCells (XV r.cells o v.cells)))))))))=_;rw[how,cond_true,Zj hro,Zj (show o+1<=r.size from ho),Zj hfz,hv];rfl
def lI(a:AV)(H:Heap):OR:=onZ a (.val (.str []) H)<|Td a (.val (.str []) H) λb o n _=>cond (Nat.beq n 0) (.val (.str []) H) (Yx H b λr=>ZJ (Nat.ble (Nat.add o n) r.size) (Pn (λs=>.val (.str s) H) (Vw r o n)))
def RU(x:WI)(tm:TM)(H:Heap):Cg x tm H=lI (x tm) H:=rfl
def JD{H:Heap}{b o n:Nat}{c:Option Nat}{r:Row}{l:Zd}(hr:H.t.get b=some (.row r))(hl:l.length=n)(hf:o+n<=r.size)(hg: ∀i,i<n->r.get (o+i)=Vk (l.getD i 0)):lI (.slice b o n c) H=.val (.str l) H:=by
 subst hl
 by_cases h0:l.length=0
 ·have:l=[]:=YF.1 h0
  subst this;rfl
 ·show cond (Nat.beq l.length 0) _ (Yx H b _)=_
  rw[Yl,Zc h0];show Yx H b _=_;unfold Yx;rw[hr];show ZJ (Nat.ble (o+l.length) r.size) (Pn _ (Vw r o l.length))=_;have:Vw r o l.length=l.map Vk:=by
   refine Y7 λi=>?_
   by_cases hi:i<l.length
   ·rw[Sp r l.length o i hi,hg i hi,Z3,Zm hi,Ze,Zm hi];rfl
   ·rw[Z8 (by rw[UV];omega),Z8 (by rw[Zx];omega)]
  rw[Zj hf,this,Gm];rfl
def ba(e:Nat)(a:AV)(H:Heap):OR:=OD a λs=>.val (.slice H.nx 0 (YN s) none) (H.new (.row ⟨e,1,YN s,T.ofList (Hz s),.unk,0,true,true,false⟩))
def J1(x:WI)(e:Nat)(tm:TM)(H:Heap):Ax x e tm H=ba e (x tm) H:=rfl
def Lq(e:Nat)(s:Zd)(H:Heap):ba e (.str s) H=.val (.slice H.nx 0 s.length none) (H.new (rG e 1 (s.map Vk) 0 true true false)):=by
 show OR.val (.slice H.nx 0 (YN s) none) (H.new (.row ⟨e,1,YN s,T.ofList (Hz s),.unk,0,true,true,false⟩))=_;have:Hz s=s.map Vk:=by rw[Fj];rfl
 unfold rG;rw[this,Yw,Yw,Zx]
def xM(x:WI)(t:Nat)(tm:TM)(H:Heap):VF x t tm H=.val (.iface t (x tm)) H:=rfl
def OA(f:Nat)(a b:List WI)(tm:TM)(H:Heap):AB f a b tm H=.val (.func f (evs tm a) (evs tm b)) H:=rfl
def ZfB(P:Program)(a:AV)(args:List AV)(H:Heap):OR:=match a with
 |.func f x y=>.oth (.call f (x++(args++y)) H)
 |.meth n r=>Pf r .fail λu v=>Fk P n u λg=>.oth (.call g (v::args) H)
 |.yield b=>.oth (.yield b args H)
 |_=>.fail
def La(x:WI)(P:Program)(args:List WI)(tm:TM)(H:Heap):N6 x P args tm H=ZfB P (x tm) (evs tm args) H:=rfl
def Y3(P:Program)(f:Nat)(x y args:List AV)(H:Heap):ZfB P (.func f x y) args H=.oth (.call f (x++(args++y)) H):=rfl
def ac(lit:Bool)(g:Nat->AV->AV->Option Bool)(neg:Bool)(t:Nat)(v:AV)(H:Heap):NL (zS lit g) neg (.iface t v) .nili H=.val (.bool neg) H:=by cases neg<;>rfl
def ae(g:Nat->AV->AV->Option Bool)(neg:Bool)(H:Heap):NL (zS true g) neg .nili .nili H=.val (.bool (!neg)) H:=by cases neg<;>rfl
def ZlR(neg:Bool)(r:Option Bool)(H:Heap):OR:=match r with|some b=>.val (.bool (cond neg (!b) b)) H|none=>.fail
def xW(neg b:Bool)(H:Heap):ZlR neg (some b) H=.val (.bool (cond neg (!b) b)) H:=rfl
def aa(lit:Bool)(g:Nat->AV->AV->Option Bool)(neg:Bool)(t:Nat)(v w:AV)(H:Heap):NL (zS lit g) neg (.iface t v) (.iface t w) H=ZlR neg (g t v w) H:=by
 show Tu (cond (Nat.beq t t) (g t v w) (some false)) _=_;rw[YD,cond_true];cases g t v w with
 |none=>rfl
 |some b=>
  show S9 (cond neg (cond b false true) b) H=_;rw[TY];cases neg<;>cases b<;>rfl
def Fi(n:Nat):Pu n []=true:=rfl
def Ex(n:Nat)(v:AV)(l:List AV):Pu n (v::l)=cond (WZ n v) (Pu n l) false:=rfl
def Al(n t:Nat)(v:AV):WZ n (.iface t v)=WZ n v:=rfl
def qh(n:Nat)(l:List AV):WZ n (.tup l)=Pu n l:=rfl
def B6(b o n:Nat)(t:T Obj):Vo (.val (.ptr b o) ⟨n,t,n⟩) (.ptr b o) n=true:=VM _ _ _ (by unfold same;rw[YD,YD];rfl)
def xw(n:Nat):WZ n .nili=true:=rfl
def xx(n:Nat):WZ n .nils=true:=rfl
def qf(n:Nat)(k:IntKind)(z:Int):WZ n (.int k z)=true:=rfl
def vA(t:Nat)(zv:AV)(ok:Bool)(a:AV)(H:Heap):OR:=Pf a (Q5 zv ok H none) λu v=>Q5 zv ok H (cond (Nat.beq u t) (some v) none)
def Aw(x:WI)(t:Nat)(zv:AV)(ok:Bool)(tm:TM)(H:Heap):Cz x t zv ok tm H=vA t zv ok (x tm) H:=rfl
def C0(t:Nat)(zv:AV)(H:Heap):vA t zv true .nili H=.val (.tup [zv,.bool false]) H:=rfl
def C1(t:Nat)(zv v:AV)(H:Heap):vA t zv true (.iface t v) H=.val (.tup [v,.bool true]) H:=by
 show Q5 zv true H (cond (Nat.beq t t) (some v) none)=_;rw[YD];rfl
def ZlS(a:AV)(H:Heap):OR:=Pf a .fail λ_ _=>.oth (.pan a H)
def xR(x:WI)(tm:TM)(H:Heap):QD x tm H=ZlS (x tm) H:=rfl
def ie(t:Nat)(v:AV)(H:Heap):ZlS (.iface t v) H=.oth (.pan (.iface t v) H):=rfl
def sT(next:TM->Heap->X->UG)(dst:VJ)(c:Ctx)(tm:TM)(H:Heap)(x:X)(v:AV)(H':Heap):Kj next dst c tm H x (.oth (.pan v H'))=.ok (.pan v) tm H' x:=rfl
def qP(next:TM->Heap->X->UG)(dst:VJ)(tm:TM)(x:X)(v:AV)(H:Heap):qO next dst tm x (.pan v H)=.ok (.pan v) tm H x:=rfl
def vj(v:AV)(tm:TM)(H:Heap)(x:X)(k:TM->Heap->X->UG):Ll (.ok (.pan v) tm H x) k=.ok (.pan v) tm H x:=rfl
def Af(i:Nat)(v:AV)(tm:TM)(H:Heap)(x:X):LM i (.ok (.pan v) tm H x)=.ok (.pan v) tm H x:=rfl
def qU(dc:Option AV->Nat->List AV->Heap->DR)(rs:List (WI×Option (Nat×Bool)))(v:AV)(tm:TM)(H:Heap)(rc:Option AV):EK dc rs (.ok (.pan v) tm H ⟨[],rc⟩)=.pan v H:=rfl
def pm(ds:List VJ)(p:PI)(nx:PK)(rs:List RD)(tm:TM)(x:X)(v:AV)(H:Heap):pk ds p nx rs tm x (.pan v H)=.ok (.pan v) (KQ tm ds) H x:=rfl
def Zdw(H:Heap)(vs:List AV):CR:=match vs with|[v]=>.ret v H|vs=>.ret (.tup vs) H
def DM(rs:List (WI×Option (Nat×Bool)))(tm:TM)(H:Heap):results rs tm H=IL tm H (Zdw H) rs:=rfl
def aC(H:Heap)(v:AV):Zdw H [v]=.ret v H:=rfl
def aB(H:Heap):Zdw H []=.ret (.tup []) H:=rfl
def aD(H:Heap)(v w:AV)(l:List AV):Zdw H (v::w::l)=.ret (.tup (v::w::l)) H:=rfl
def ww(tm:TM)(H:Heap)(k:List AV->CR):IL tm H k []=k []:=rfl
def rV(n:Nat)(ag:Bool)(o:Option Obj)(off:Nat)(k:AV->CR):CR:=match o with
 |some (.row r)=>cond (Nat.ble (Nat.add off n) r.size) (cond ag (k (.agg (Vw r off n))) (k (r.get off))) .fail
 |_=>.fail
def Zl9(H:Heap)(a:AV)(n:Nat)(ag:Bool)(k:AV->CR):CR:=match a with
 |.ptr b o=>rV n ag (H.t.get b) o k
 |_=>.fail
def ph(H:Heap)(b o n:Nat)(ag:Bool)(k:AV->CR):Zl9 H (.ptr b o) n ag k=rV n ag (H.t.get b) o k:=rfl
def A1(f:WI)(tm:TM)(H:Heap)(k:List AV->CR)(l:List (WI×Option (Nat×Bool))):IL tm H k ((f,none)::l)=IL tm H (λvs=>k (f tm::vs)) l:=rfl
def A3(f:WI)(n:Nat)(ag:Bool)(tm:TM)(H:Heap)(k:List AV->CR)(l:List (WI×Option (Nat×Bool))):IL tm H k ((f,some (n,ag))::l)=Zl9 H (f tm) n ag (λv=>IL tm H (λvs=>k (v::vs)) l):=rfl
def ZbL{n e sz:Nat}{l:List AV}{fz:Nat}{sm own ex:Bool}(hn:l.length=n)(k:AV->CR):rV n true (some (rG e sz l fz sm own ex)) 0 k=k (.agg l):=by
 subst hn;show cond (Nat.ble (0+l.length) (YN l)) (k (.agg (Vw ⟨e,sz,YN l,T.ofList l,.unk,fz,sm,own,ex⟩ 0 l.length))) .fail=_;rw[(Le e sz l fz sm own ex).load (by omega),YL,Vb,Yw,Zl,Zj (Zs _)];rfl
def ZbM{e sz o:Nat}{l:List AV}{fz:Nat}{sm own ex:Bool}(hn:o<l.length)(k:AV->CR):rV 1 false (some (rG e sz l fz sm own ex)) o k=k (l.getD o .unk):=by
 show cond (Nat.ble (o+1) (YN l)) (k (Row.get ⟨e,sz,YN l,T.ofList l,.unk,fz,sm,own,ex⟩ o)) .fail=_;rw[EL,Yw,Zj (show o+1<=l.length from hn)];rfl
def xH(x:WI)(args:List WI)(tm:TM)(H:Heap):AA x args tm H=.oth (.defer (x tm) (evs tm args)):=rfl
def DG(tm:TM)(H:Heap):AG tm H=.oth .recov:=rfl
def BI(next:TM->Heap->X->UG)(dst:VJ)(cl y rg fu)(tm:TM)(H:Heap)(x:X)(f:Nat)(a b args:List AV):Kj next dst ⟨cl,y,rg,fu,false⟩ tm H x (.oth (.defer (.func f a b) args))=next (dst tm Y9) H ⟨(.func f a b,args)::x.df,x.rc⟩:=rfl
def Dl(next:TM->Heap->X->UG)(dst:VJ)(cl y rg fu)(tm:TM)(H:Heap)(df:List (AV×List AV)):Kj next dst ⟨cl,y,rg,fu,false⟩ tm H ⟨df,none⟩ (.oth .recov)=next (dst tm .nili) H ⟨df,none⟩:=rfl
def Dm(next:TM->Heap->X->UG)(dst:VJ)(cl y rg fu)(tm:TM)(H:Heap)(df:List (AV×List AV))(v:AV):Kj next dst ⟨cl,y,rg,fu,false⟩ tm H ⟨df,some v⟩ (.oth .recov)=next (dst tm v) H ⟨df,none⟩:=rfl
def xZ(dc:Option AV->Nat->List AV->Heap->DR)(rs:List (WI×Option (Nat×Bool)))(tm:TM)(H:Heap)(d:AV×List AV)(l:List (AV×List AV))(rc:Option AV):EK dc rs (.ok .ret tm H ⟨d::l,rc⟩)=deferred dc rs tm (d::l) none H:=rfl
def xY(dc:Option AV->Nat->List AV->Heap->DR)(rs:List (WI×Option (Nat×Bool)))(v:AV)(tm:TM)(H:Heap)(d:AV×List AV)(l:List (AV×List AV))(rc:Option AV):EK dc rs (.ok (.pan v) tm H ⟨d::l,rc⟩)=deferred dc rs tm (d::l) (some v) H:=rfl
def nu(dc:Option AV->Nat->List AV->Heap->DR)(rs:List (WI×Option (Nat×Bool)))(tm:TM)(l:List (AV×List AV))(pn:Option AV)(r:DR):CR:=match r with
 |.ret _ H rec=>deferred dc rs tm l (cond rec none pn) H
 |_=>.fail
def Iv(dc:Option AV->Nat->List AV->Heap->DR)(rs:List (WI×Option (Nat×Bool)))(tm:TM)(g:Nat)(a b args:List AV)(l:List (AV×List AV))(pn:Option AV)(H:Heap):deferred dc rs tm ((.func g a b,args)::l) pn H=nu dc rs tm l pn (dc pn g (a++(args++b)) H):=by
 show(match dc pn g (a++(args++b)) H with|.ret _ H rec=>deferred dc rs tm l (cond rec none pn) H|_=>.fail)=_;unfold nu;cases dc pn g (a++(args++b)) H<;>rfl
def Bt(dc:Option AV->Nat->List AV->Heap->DR)(rs:List (WI×Option (Nat×Bool)))(tm:TM)(l:List (AV×List AV))(pn:Option AV)(v:AV)(H:Heap)(rec:Bool):nu dc rs tm l pn (.ret v H rec)=deferred dc rs tm l (cond rec none pn) H:=rfl
def GK(dc:Option AV->Nat->List AV->Heap->DR)(rs:List (WI×Option (Nat×Bool)))(tm:TM)(H:Heap):deferred dc rs tm [] none H=results rs tm H:=rfl
def GL(dc:Option AV->Nat->List AV->Heap->DR)(rs:List (WI×Option (Nat×Bool)))(tm:TM)(v:AV)(H:Heap):deferred dc rs tm [] (some v) H=.pan v H:=rfl
def Zi9{α β:Type}(o:Option α)(d:β)(k:α->β):β:=match o with|some x=>k x|none=>d
def ib{α:Type}(d:α)(fs:T CF)(f:Nat)(k:CF->α):EJ d fs f k=Zi9 (fs.get f) d k:=by
 unfold EJ Zi9;cases fs.get f<;>rfl
def xX{α β:Type}(x:α)(d:β)(k:α->β):Zi9 (some x) d k=k x:=rfl
def ZeP(rc:Option AV)(x:X)(r:CR):DR:=match r with|.ret v H=>.ret v H (Im rc x)|_=>.fail
def qT(rc:Option AV)(x:X)(v:AV)(H:Heap):ZeP rc x (.ret v H)=.ret v H (Im rc x):=rfl
def Jg(rc:Option AV)(rs:List (WI×Option (Nat×Bool)))(tm:TM)(H:Heap)(q:Option AV):AP rc rs (.ok .normal tm H ⟨[],q⟩)=ZeP rc ⟨[],q⟩ (results rs tm H):=by
 show(match([]:List (AV×List AV)),results rs tm H with|[],.ret v H=>DR.ret v H (Im rc ⟨[],q⟩)|_,_=>.fail)=_;unfold ZeP;cases results rs tm H<;>rfl
def qS(rc:Option AV)(rs:List (WI×Option (Nat×Bool)))(tm:TM)(H:Heap)(q:Option AV):AP rc rs (.ok .ret tm H ⟨[],q⟩)=ZeP rc ⟨[],q⟩ (results rs tm H):=Jg rc rs tm H q
def qR(rc:Option AV)(rs:List (WI×Option (Nat×Bool)))(v:AV)(tm:TM)(H:Heap)(q:Option AV):AP rc rs (.ok (.pan v) tm H ⟨[],q⟩)=.pan v H (Im rc ⟨[],q⟩):=rfl
def ZbO(v:AV)(l:List (AV×List AV)):Im (some v) ⟨l,none⟩=true:=rfl
def ZbN(x:X):Im none x=false:=rfl
def ZcQ(a b c d e:AV):Qb [a,b,c,d,e]=YU (VS (st2 (st1 (st0 ot a) b) c) d) e:=rfl
def JQ(k:List AV->OR)(cells:List AV):NN k [] cells=k cells:=rfl
def nE(k:List AV->OR)(o n:Nat)(v:AV)(ps:List (Nat×Nat×AV))(cells:List AV):NN k ((o,n,v)::ps) cells=ZJ (Nat.ble 1 n) (ZJ (Nat.beq (YN v.cells) n) (ZJ (Nat.ble (Nat.add o n) (YN cells)) (NN k ps (OQ o cells++(v.cells++Py (Nat.add o n) cells))))):=rfl
def ZaC{cells l:List AV}{o:Nat}(h:o+l.length<=cells.length):OQ o cells++(l++Py (Nat.add o l.length) cells)=lay cells o l:=by
 rw[Ad cells o l h];have h1:OQ o cells=cells.take o:=Lk ..;have h2:Py (o+l.length) cells=cells.drop (o+l.length):=MY ..;rw[h1];show _++(_++Py (o+l.length) cells)=_;rw[h2]
def BC{k:List AV->OR}{o n:Nat}{v:AV}{l:List AV}{ps:List (Nat×Nat×AV)}{cells:List AV}(hv:v.cells=l)(hl:l.length=n)(hn:1<=n)(h:o+n<=cells.length):NN k ((o,n,v)::ps) cells=NN k ps (lay cells o l):=by
 subst hv;subst hl;rw[nE,Zj hn,Yw,YD,Yw,Zj (show Nat.add o v.cells.length<=cells.length from h),ZaC h];rfl
def Nw{k:List AV->OR}{o:Nat}{v:AV}{ps:List (Nat×Nat×AV)}{cells:List AV}(hv:v.cells=[v])(h:o<cells.length):NN k ((o,1,v)::ps) cells=NN k ps (cells.set o v):=BC hv rfl (Zs 1) h
def gZ{k:List AV->OR}{o n:Nat}{l:List AV}{ps:List (Nat×Nat×AV)}{cells:List AV}(hl:l.length=n)(hn:1<=n)(h:o+n<=cells.length):NN k ((o,n,.agg l)::ps) cells=NN k ps (lay cells o l):=BC rfl hl hn h
def Oj(z:AV)(zs:List AV)(ps:List (Nat×Nat×AV))(H:Heap):TS (z::zs) ps H=NN (λcs=>.val (.agg cs) H) ps (z::zs):=by
 show ZJ (Nat.ble 1 (YN (z::zs))) _=_;rw[Yw,Zj (by simp)];rfl
def Bc{e sz n:Nat}{zs:List AV}{ps:List (Nat×Nat×AV)}{H:Heap}(h1:1<=sz)(h2:zs.length=n*sz):US e sz n zs ps H=NN (λcs=>.val (.slice H.nx 0 n none) (H.newRow e sz cs true)) ps zs:=by
 show ZJ (Nat.ble 1 sz) (ZJ (Nat.beq (YN zs) (Nat.mul n sz)) _)=_;rw[Zj h1,Yw,h2,show Nat.mul n sz=n*sz from rfl,YD];rfl
def tA(a b:Nat)(H:Heap):Sr (nI .u64 a) (nI .u64 b) H=.val (nI .u64 ((a+b) % 18446744073709551616)) H:=by
 show ZJ (PV .u64 .u64) (Tp .u64 (rn (.ofNat a) (.ofNat b)) H)=_;rw[XG,Wo,Fe,Ml];rfl
def xo(H:Heap):O1 .i64 (nI .u64 9223372036854775808) H=.val (.int .i64 (.negSucc 9223372036854775807)) H:=by
 unfold nI;rw[ry,Wo]
 congr 2
def xB(H:Heap):qu (.int .i64 (.negSucc 9223372036854775807)) H=.val (.int .i64 (.negSucc 9223372036854775807)) H:=by
 have:qu (.int .i64 (.negSucc 9223372036854775807)) H=Tp .i64 (Ff 0 (.negSucc 9223372036854775807)) H:=by simp only[qu,Qo]
 rw[this,Wo]
 congr 2
def Zz:type_of% @xH∧type_of% @DG∧type_of% @BI∧type_of% @Dl∧type_of% @Dm∧type_of% @xZ∧type_of% @xY∧type_of% @Iv∧type_of% @Bt∧type_of% @GK∧type_of% @GL∧type_of% @xX∧type_of% @qT∧type_of% @Jg∧type_of% @qS∧type_of% @qR∧type_of% @ZbO∧type_of% @ZbN∧type_of% @Gw∧type_of% @W4∧type_of% @UO∧type_of% @SF∧type_of% @ZR∧type_of% @TJ∧type_of% @xW∧type_of% @aa∧type_of% @Fi∧type_of% @Ex∧type_of% @Al∧type_of% @qh∧type_of% @B6∧type_of% @xw∧type_of% @xx∧type_of% @qf∧type_of% @JQ∧type_of% @Nw∧type_of% @Oj∧type_of% @uY∧type_of% @J1∧type_of% @Lq∧type_of% @xM∧type_of% @OA∧type_of% @La∧type_of% @Y3∧type_of% @ac∧type_of% @ae∧type_of% @Aw∧type_of% @C0∧type_of% @C1∧type_of% @xR∧type_of% @ie∧type_of% @sT∧type_of% @qP∧type_of% @vj∧type_of% @Af∧type_of% @qU∧type_of% @pm∧type_of% @DM∧type_of% @aC∧type_of% @aB∧type_of% @aD∧type_of% @ww∧type_of% @A1∧type_of% @A3∧type_of% @ph∧type_of% @RU:=
 ⟨@xH, @DG, @BI, @Dl, @Dm, @xZ, @xY, @Iv, @Bt, @GK, @GL, @xX, @qT, @Jg, @qS, @qR, @ZbO, @ZbN, @Gw, @W4, @UO, @SF, @ZR, @TJ, @xW, @aa, @Fi, @Ex, @Al, @qh, @B6, @xw, @xx, @qf, @JQ, @Nw, @Oj, @uY, @J1, @Lq, @xM, @OA, @La, @Y3, @ac, @ae, @Aw, @C0, @C1, @xR, @ie, @sT, @qP, @vj, @Af, @qU, @pm, @DM, @aC, @aB, @aD, @ww, @A1, @A3, @ph, @RU⟩
def VV:type_of% @uY∧type_of% @N9∧type_of% @EB∧type_of% @uI∧type_of% @ul∧type_of% @Lu∧type_of% @JK∧type_of% @GI∧type_of% @JO∧type_of% @JN∧type_of% @Lx∧type_of% @JM∧type_of% @Ly∧type_of% @Mu∧type_of% @JL∧type_of% @Lv∧type_of% @Mt∧type_of% @Lw∧type_of% @JJ∧type_of% @Row.st_size∧type_of% @Row.st_own∧type_of% @Row.st_fz∧type_of% @Cx:=
 ⟨@uY, @N9, @EB, @uI, @ul, @Lu, @JK, @GI, @JO, @JN, @Lx, @JM, @Ly, @Mu, @JL, @Lv, @Mt, @Lw, @JJ, @Row.st_size, @Row.st_own, @Row.st_fz, @Cx⟩
def Yc:((!true)=false)∧((!false)=true)∧(∀{α:Type} (l:List α),[]++l=l)∧(∀{α:Type} (l:List α),l++[]=l)∧(∀{α β:Type} (f:α->β),Option.map f none=none)∧(∀{α β:Type} (f:α->β) (a:α),Option.map f (some a)=some (f a))∧(∀{α β:Type} (f:α->β) (a:α) (l:List α),List.map f (a::l)=f a::List.map f l)∧(∀{α β:Type} (f:α->β),List.map f []=[])∧(∀{α:Type} (a b:α),cond true a b=a)∧(∀{α:Type} (a b:α),cond false a b=b)∧(∀(x i:Nat),x.testBit i=decide (x/2^i % 2=1))∧(∀h:Decidable True, @decide True h=true)∧(∀h:Decidable False, @decide False h=false)∧(∀n:Nat,0+n=n)∧(∀{α:Type} (a d:α) (l:List α),(a::l).getD 0 d=a)∧(∀{α:Type} (a d:α) (l:List α) (n:Nat),(a::l).getD (n+1) d=l.getD n d)∧(∀{α:Type} (a b:α) (l:List α),(a::l).set 0 b=b::l)∧(∀{α:Type} (a b:α) (l:List α) (n:Nat),(a::l).set (n+1) b=a::l.set n b):=
 ⟨YI,YX,λ_=>rfl,ZM,λ_=>rfl,λ_ _=>rfl,λ_ _ _=>rfl,λ_=>rfl,λ_ _=>rfl,λ_ _=>rfl,λ_ _=>Nat.testBit_eq_decide_div_mod_eq,λ_=>Zi trivial,λ_=>Zc id,Zl,λ_ _ _=>rfl,λ_ _ _ _=>rfl,λ_ _ _=>rfl,λ_ _ _ _=>rfl⟩
def VW:(∀{α:Type} (a:α) (l:List α),(a::l).length=l.length+1)∧(∀{α:Type},([]:List α).length=0)∧(∀{α:Type} (l:List α) (n:Nat) (a:α),(l.set n a).length=l.length)∧(∀{α β:Type} (f:α->β) (l:List α),(l.map f).length=l.length):=
 ⟨λ_ _=>rfl,rfl,λ_ _ _=>Tf,λ_ _=>Zx ..⟩
section
variable {P:Program}
def Zix(n:Nat):Obj->Prop
 |.row r=> ∀i,i<r.size->WZ n (r.get i)=true
 |.map es _=> ∀x∈es,WZ n x.key=true∧WZ n x.val=true
 |.siter _ _=>True
 |.loop=>True
 |_=>False
def Tq.cutX{σ:Mp}{n:Nat}{o:Obj}{l:Loc}{c:Go.Obj}(h:Zix n o)(r:Tq σ o l c):Tq (σ.cut n) o l c:=by
 cases o with
 |row q=>
  obtain⟨cs,fr,rfl,r⟩:=r;refine⟨cs,fr,rfl,r.sz,r.sz1,r.fits,r.room,r.exact,λi hi=>?_,r.one,r.frz,r.frs⟩;obtain⟨v,h1,h2⟩:=r.cell i hi;exact⟨v,h1,Ym.cut (h i hi) h2⟩
 |map es clock=>
  obtain⟨ents,e,h1,h2⟩:=r;exact⟨ents,e,YE.cutE h h1,h2⟩
 |siter s pos=>exact r
 |loop=>exact r
 |miter _ _ _=>exact h.elim
 |cmap _=>exact h.elim
structure Less(H H' G:Heap):Prop where
 nx:H.nx<=G.nx
 ro:G.ro=H.ro
 old: ∀b,b<H.nx->G.t.get b=H'.t.get b
 new: ∀b o,H.nx<=b->G.t.get b=some o->H.t.get b=some o∨(b<G.nx∧H'.t.get b=some o)
 low: ∀b o,G.t.get b=some o->H.t.get b=some o∨Zix G.nx o
def Tr.less{σ σ':Mp}{H H' G:Heap}{w w':World}(hs:WW P σ H w)(t:Tr P σ H w σ' H' w')(g:Less H H' G):Tr P σ H w (σ'.cut G.nx) G w':=by
 have hex:Ext σ (σ'.cut G.nx):=λb l hb=>by
  have:=hs.dom b l hb;rw[Mp.cut_lt (ZK this g.nx)];exact t.ext b l hb
 have hcut: ∀{b l},σ'.cut G.nx b=some l->σ' b=some l:=λh=>(Mp.cut_some h).2;have hin: ∀b o,G.t.get b=some o->H'.t.get b=some o:=λb o h=>by
  by_cases hb:b<H.nx
  ·rw[<-g.old b hb];exact h
  ·rcases g.new b o (by omega) h with h1|h1
   ·exact absurd (hs.low b o h1) hb
   ·exact h1.2
 have hs':WW P (σ'.cut G.nx) G w':=by
  refine⟨λb l h=>(Mp.cut_some h).1,λb o h=>?_,λb o l hb hl=>?_,λb b' o o' l l' h1 h2 h3 h4 e=>t.sim.inj b b' o o' l l' (hin _ _ h1) (hin _ _ h2) (hcut h3) (hcut h4) e,λq hq=>?_,by rw[g.ro];exact Yb hs.ro g.nx⟩
  ·by_cases hb:b<H.nx
   ·exact ZK hb g.nx
   ·rcases g.new b o (by omega) h with h1|h1
    ·exact absurd (hs.low b o h1) hb
    ·exact h1.1
  ·obtain⟨c,h2,h3⟩:=t.sim.alive b o l (hin b o hb) (hcut hl)
   refine⟨c,h2,?_⟩;rcases g.low b o hb with h5|h4
   ·cases hσ:σ b with
    |none=>
     have:=(t.pend b (hs.low b o h5) hσ).2;rw[hcut hl] at this;cases this
    |some l0=>
     have e:=t.ext b l0 hσ;rw[hcut hl] at e;cases e;obtain⟨c0,_,h1⟩:=hs.alive b o l h5 hσ;exact(h1.back t.ext h3).mono hex
   ·exact h3.cutX h4
  ·obtain⟨l,h1,h2,h3⟩:=hs.glob q hq
   exact⟨l,hex _ _ h1,h2,h3⟩
 refine⟨hex,hs',t.size,t.frame,λb l hw hl hlt=>?_,g.nx,g.ro,λb hb=>?_,t.tape,t.os,t.out,λb hb hn=>?_⟩
 ·obtain⟨h1,o,h2,h3⟩:=hw
  exact t.wr b l ⟨by rw[t.ro,<-g.ro];exact h1,o,hin b o h2,h3⟩ (hcut hl) hlt
 ·rw[g.old b (ZK hb hs.ro)]
  exact t.low b hb
 ·obtain⟨h1,h2⟩:=t.pend b hb hn
  refine⟨by rw[g.old b hb,h1],?_⟩;rw[Mp.cut_lt (ZK hb g.nx)];exact h2
def Zfw(H:Heap):CR->CR->Prop
 |.ret v H',.ret u G=>u=v∧Less H H' G∧WZ G.nx v=true
 |.pan v H',.pan u G=>u=v∧Less H H' G∧WZ G.nx v=true
 |_,_=>False
def Zec{call:Nat->List AV->Heap->CR}(hcall:PD P call){f:FuncId}{args:List AV}{H:Heap}{r:CR}(g:Zfw H (call f args H) r)
  {σ:Mp}{w:World}{vs:List Value}(hs:WW P σ H w)(hv:YR σ args vs):Ki P σ H w r ((callFunc f ⟨vs⟩).run P w):=by
 have hcr:=hcall f _ H σ w vs hs hv;generalize call f args H=q at g hcr;cases q with
 |fail=>cases r<;>exact g.elim
 |ret v H'=>
  cases r with
  |ret u G=>
   obtain⟨rfl,g,hlow⟩:=g;refine Ends.mono (λu' w' hx=>?_) (λ_ _ hx=>hx) hcr;obtain⟨σ2,h1,t⟩:=hx;exact⟨σ2.cut G.nx,Ym.cut hlow h1,t.less hs g⟩
  |_=>exact g.elim
 |pan v H'=>
  cases r with
  |pan u G=>
   obtain⟨rfl,g,hlow⟩:=g;refine Ends.mono (λ_ _ hx=>hx) (λu' w' hx=>?_) hcr;obtain⟨σ2,h1,t⟩:=hx;exact⟨σ2.cut G.nx,Ym.cut hlow h1,t.less hs g⟩
  |_=>exact g.elim
def Less.put{H:Heap}{b:Nat}{o:Obj}(hb:b<H.nx)(ho:Zix H.nx o){H':Heap}(h: ∀c,c<H.nx->H'.t.get c=(H.put b o).t.get c):Less H H' (H.put b o):=by
 refine⟨Zs _,rfl,λc hc=>(h c hc).symm,λc q hc hq=>.inl ?_,λc q hq=>?_⟩
 ·rw[LU,if_neg (by omega)] at hq;exact hq
 ·rw[LU] at hq
  split at hq
  ·cases hq;exact .inr ho
  ·exact .inl hq
def Less.same{H H':Heap}(h: ∀c,c<H.nx->H'.t.get c=H.t.get c):Less H H' H:=
 ⟨Zs _,rfl,λc hc=>(h c hc).symm,λ_ _ _ hq=>.inl hq,λ_ _ hq=>.inl hq⟩
end
section
variable {P:Program}
abbrev Lib:=Nat->List AV->Heap->Option CR
def Ae(Ta:Nat->Nat)(Se:Lib)(call:Nat->List AV->Heap->CR)(lib:Lib)(k:Nat):Lib:=λf args H=>
 open Classical in if Ta f=k then
  (match Se f args H with
  |some r=>if Zfw H (call f args H) r then some r else lib f args H
  |none=>if ∃v H',call f args H=.ret v H'∧Zu H H' []∧WZ 0 v=true then(match call f args H with|.ret v _=>some (.ret v H)|_=>none) else lib f args H)
 else lib f args H
def ZaD{Ta:Nat->Nat}{Se:Lib}{call:Nat->List AV->Heap->CR}{lib:Lib}{k:Nat}(hcall:PD P call)(hl:Kb P lib):Kb P (Ae Ta Se call lib k):=by
 intro f args H r h σ w vs hs hv;unfold Ae at h
 split at h
 ·split at h
  ·split at h
   ·rename_i hc
    cases h;exact Zec hcall hc hs hv
   ·exact hl f args H r h σ w vs hs hv
  ·split at h
   ·rename_i hc
    obtain⟨v,H',h1,h2,h3⟩:=hc;rw[h1] at h;cases h;exact Zd7 hcall h1 h2 h3 hs hv
   ·exact hl f args H r h σ w vs hs hv
 ·exact hl f args H r h σ w vs hs hv
def Hy{Ta:Nat->Nat}{Se:Lib}{call:Nat->List AV->Heap->CR}{lib:Lib}{k f:Nat}(h:Ta f≠k)(args:List AV)(H:Heap):Ae Ta Se call lib k f args H=lib f args H:=by
 unfold Ae;rw[if_neg h]
def nZ{Ta:Nat->Nat}{Se:Lib}{call:Nat->List AV->Heap->CR}{lib:Lib}{k f:Nat}{args:List AV}{H H':Heap}{v:AV}(h:Ta f=k)(hs:Se f args H=none)(hr:call f args H=.ret v H')(g:Zu H H' [])(hv:WZ 0 v=true):Ae Ta Se call lib k f args H=some (.ret v H):=by
 unfold Ae;rw[if_pos h,hs];simp only;rw[if_pos ⟨v,H',hr,g,hv⟩,hr]
def Et(Zq:Lib)(fs:T CF)(Zk:Nat)(Ta:Nat->Nat)(Se:Lib):Nat->Lib
 |0=>Zq
 |k+1=>Ae Ta Se (ZA (Et Zq fs Zk Ta Se k) fs Zk 900) (Et Zq fs Zk Ta Se k) (k+1)
variable {Zq:Lib} {fs:T CF} {Zk:Nat} {Ta:Nat->Nat} {Se:Lib}
theorem uc(hc: ∀lib,Kb P lib->PD P (ZA lib fs Zk 900))(h0:Kb P Zq): ∀k,Kb P (Et Zq fs Zk Ta Se k)
 |0=>h0
 |k+1=>ZaD (hc _ (uc hc h0 k)) (uc hc h0 k)
theorem rS{f:Nat}(args:List AV)(H:Heap): ∀k,k<Ta f->Et Zq fs Zk Ta Se k f args H=Zq f args H
 |0,_=>rfl
 |k+1,h=>(Hy (by omega) args H).trans (rS args H k (by omega))
theorem Eu{f:Nat}(h:Ta f=0)(args:List AV)(H:Heap): ∀k,Et Zq fs Zk Ta Se k f args H=Zq f args H
 |0=>rfl
 |k+1=>(Hy (by omega) args H).trans (Eu h args H k)
def Zed{f r:Nat}(h:Ta f=r)(args:List AV)(H:Heap): ∀k,r<=k->Et Zq fs Zk Ta Se k f args H=Et Zq fs Zk Ta Se r f args H:=by
 intro k hk
 induction k with
 |zero=>rw[Nat.le_zero.1 hk]
 |succ k ih=>
  by_cases e:r=k+1
  ·rw[e]
  ·exact(Hy (by omega) args H).trans (ih (by omega))
def xp{f k:Nat}(h0: ∀l H,Zq f l H=none)(h:k<Ta f∨Ta f=0)(args:List AV)(H:Heap):Et Zq fs Zk Ta Se k f args H=none:=by
 rcases h with h|h
 ·rw[rS args H k h,h0]
 ·rw[Eu h args H k,h0]
def Qh{f k n:Nat}{args:List AV}{H:Heap}{r:CR}(h:Ta f=0)(hr:Zq f args H=some r):ZA (Et Zq fs Zk Ta Se k) fs Zk (n+1) f args H=r:=
 yv (by rw[Eu h];exact hr)
def Yh{f r k n:Nat}{args:List AV}{H H':Heap}{v:AV}(h:Ta f=r+1)(hs:Se f args H=none)(hr:ZA (Et Zq fs Zk Ta Se r) fs Zk 900 f args H=.ret v H')(g:Zu H H' [])(hv:WZ 0 v=true)(hk:r+1<=k):
  ZA (Et Zq fs Zk Ta Se k) fs Zk (n+1) f args H=.ret v H:=
 yv (by rw[Zed h args H k hk];exact nZ h hs hr g hv)
end
end
end Go.AI
