/- Running the interpreter's code on values that are not known: equations, proved without conditions but those that each names; what is looked up rank by rank. -/
import Derived.Test.YtbmdhpdcgbgcnaaGreatDoorP6
import Derived.Test.YtbmdhpdcgbgcnaaGreatDoorP5
set_option maxRecDepth 1000000
set_option maxHeartbeats 0
set_option linter.unusedVariables false
set_option linter.unusedSimpArgs false
namespace Go.AI
open Go
noncomputable section
section
variable {α:Type}
namespace N8
theorem g00(f:α->α)(n:N8 α):a0 (u0 f n)=f (a0 n):=rfl
theorem g01(f:α->α)(n:N8 α):a0 (u1 f n)=a0 n:=rfl
theorem g02(f:α->α)(n:N8 α):a0 (u2 f n)=a0 n:=rfl
theorem g03(f:α->α)(n:N8 α):a0 (u3 f n)=a0 n:=rfl
theorem g04(f:α->α)(n:N8 α):a0 (u4 f n)=a0 n:=rfl
theorem g05(f:α->α)(n:N8 α):a0 (u5 f n)=a0 n:=rfl
theorem g06(f:α->α)(n:N8 α):a0 (u6 f n)=a0 n:=rfl
theorem g07(f:α->α)(n:N8 α):a0 (u7 f n)=a0 n:=rfl
theorem g10(f:α->α)(n:N8 α):a1 (u0 f n)=a1 n:=rfl
theorem g11(f:α->α)(n:N8 α):a1 (u1 f n)=f (a1 n):=rfl
theorem g12(f:α->α)(n:N8 α):a1 (u2 f n)=a1 n:=rfl
theorem g13(f:α->α)(n:N8 α):a1 (u3 f n)=a1 n:=rfl
theorem g14(f:α->α)(n:N8 α):a1 (u4 f n)=a1 n:=rfl
theorem g15(f:α->α)(n:N8 α):a1 (u5 f n)=a1 n:=rfl
theorem g16(f:α->α)(n:N8 α):a1 (u6 f n)=a1 n:=rfl
theorem g17(f:α->α)(n:N8 α):a1 (u7 f n)=a1 n:=rfl
theorem g20(f:α->α)(n:N8 α):a2 (u0 f n)=a2 n:=rfl
theorem g21(f:α->α)(n:N8 α):a2 (u1 f n)=a2 n:=rfl
theorem g22(f:α->α)(n:N8 α):a2 (u2 f n)=f (a2 n):=rfl
theorem g23(f:α->α)(n:N8 α):a2 (u3 f n)=a2 n:=rfl
theorem g24(f:α->α)(n:N8 α):a2 (u4 f n)=a2 n:=rfl
theorem g25(f:α->α)(n:N8 α):a2 (u5 f n)=a2 n:=rfl
theorem g26(f:α->α)(n:N8 α):a2 (u6 f n)=a2 n:=rfl
theorem g27(f:α->α)(n:N8 α):a2 (u7 f n)=a2 n:=rfl
theorem g30(f:α->α)(n:N8 α):a3 (u0 f n)=a3 n:=rfl
theorem g31(f:α->α)(n:N8 α):a3 (u1 f n)=a3 n:=rfl
theorem g32(f:α->α)(n:N8 α):a3 (u2 f n)=a3 n:=rfl
theorem g33(f:α->α)(n:N8 α):a3 (u3 f n)=f (a3 n):=rfl
theorem g34(f:α->α)(n:N8 α):a3 (u4 f n)=a3 n:=rfl
theorem g35(f:α->α)(n:N8 α):a3 (u5 f n)=a3 n:=rfl
theorem g36(f:α->α)(n:N8 α):a3 (u6 f n)=a3 n:=rfl
theorem g37(f:α->α)(n:N8 α):a3 (u7 f n)=a3 n:=rfl
theorem g40(f:α->α)(n:N8 α):a4 (u0 f n)=a4 n:=rfl
theorem g41(f:α->α)(n:N8 α):a4 (u1 f n)=a4 n:=rfl
theorem g42(f:α->α)(n:N8 α):a4 (u2 f n)=a4 n:=rfl
theorem g43(f:α->α)(n:N8 α):a4 (u3 f n)=a4 n:=rfl
theorem g44(f:α->α)(n:N8 α):a4 (u4 f n)=f (a4 n):=rfl
theorem g45(f:α->α)(n:N8 α):a4 (u5 f n)=a4 n:=rfl
theorem g46(f:α->α)(n:N8 α):a4 (u6 f n)=a4 n:=rfl
theorem g47(f:α->α)(n:N8 α):a4 (u7 f n)=a4 n:=rfl
theorem g50(f:α->α)(n:N8 α):a5 (u0 f n)=a5 n:=rfl
theorem g51(f:α->α)(n:N8 α):a5 (u1 f n)=a5 n:=rfl
theorem g52(f:α->α)(n:N8 α):a5 (u2 f n)=a5 n:=rfl
theorem g53(f:α->α)(n:N8 α):a5 (u3 f n)=a5 n:=rfl
theorem g54(f:α->α)(n:N8 α):a5 (u4 f n)=a5 n:=rfl
theorem g55(f:α->α)(n:N8 α):a5 (u5 f n)=f (a5 n):=rfl
theorem g56(f:α->α)(n:N8 α):a5 (u6 f n)=a5 n:=rfl
theorem g57(f:α->α)(n:N8 α):a5 (u7 f n)=a5 n:=rfl
theorem g60(f:α->α)(n:N8 α):a6 (u0 f n)=a6 n:=rfl
theorem g61(f:α->α)(n:N8 α):a6 (u1 f n)=a6 n:=rfl
theorem g62(f:α->α)(n:N8 α):a6 (u2 f n)=a6 n:=rfl
theorem g63(f:α->α)(n:N8 α):a6 (u3 f n)=a6 n:=rfl
theorem g64(f:α->α)(n:N8 α):a6 (u4 f n)=a6 n:=rfl
theorem g65(f:α->α)(n:N8 α):a6 (u5 f n)=a6 n:=rfl
theorem g66(f:α->α)(n:N8 α):a6 (u6 f n)=f (a6 n):=rfl
theorem g67(f:α->α)(n:N8 α):a6 (u7 f n)=a6 n:=rfl
theorem g70(f:α->α)(n:N8 α):a7 (u0 f n)=a7 n:=rfl
theorem g71(f:α->α)(n:N8 α):a7 (u1 f n)=a7 n:=rfl
theorem g72(f:α->α)(n:N8 α):a7 (u2 f n)=a7 n:=rfl
theorem g73(f:α->α)(n:N8 α):a7 (u3 f n)=a7 n:=rfl
theorem g74(f:α->α)(n:N8 α):a7 (u4 f n)=a7 n:=rfl
theorem g75(f:α->α)(n:N8 α):a7 (u5 f n)=a7 n:=rfl
theorem g76(f:α->α)(n:N8 α):a7 (u6 f n)=a7 n:=rfl
theorem g77(f:α->α)(n:N8 α):a7 (u7 f n)=f (a7 n):=rfl
end N8
end
section
theorem iK(f:Vu)(dst:Yh)(next:D)(c:Ctx)(tm:TM)(H:Heap)(x:X):Za f dst next c tm H x=Pz (next c) dst c tm H x (f tm H):=rfl
theorem iJ(g:YF)(b:Bool)(f:Vu)(dst:Yh)(next:D)(c:Ctx)(tm:TM)(H:Heap)(x:X):Ya g b f dst next c tm H x=UY (g tm) b (Pz (next c) dst c tm H x (f tm H)) (next c (dst tm XL) H x):=rfl
theorem pa(yes no:WQ):UY (.bool true) true yes no=yes:=rfl
theorem qZ(yes no:WQ):UY (.bool false) false yes no=yes:=rfl
theorem q9(yes no:WQ):UY (.bool true) false yes no=no:=rfl
theorem q8(yes no:WQ):UY (.bool false) true yes no=no:=rfl
theorem lI(next:TM->Heap->X->WQ)(dst:Yh)(c:Ctx)(tm:TM)(H:Heap)(x:X)(v:AV)(H':Heap):Pz next dst c tm H x (.val v H')=next (dst tm v) H' x:=rfl
theorem qU(next:TM->Heap->X->WQ)(dst:Yh)(c:Ctx)(tm:TM)(H:Heap)(x:X)(f:Nat)(args:List AV)(H':Heap):Pz next dst c tm H x (.oth (.call f args H'))=Du next dst tm x (c.call f args H'):=rfl
theorem LB(next:TM->Heap->X->WQ)(dst:Yh)(tm:TM)(x:X)(v:AV)(H:Heap):Du next dst tm x (.ret v H)=next (dst tm v) H x:=rfl
theorem iI(a b:D)(c:Ctx)(tm:TM)(H:Heap)(x:X):Zg a b c tm H x=Q2 (a c tm H x) (b c):=rfl
theorem U1(tm:TM)(H:Heap)(x:X)(k:TM->Heap->X->WQ):Q2 (.ok .normal tm H x) k=k tm H x:=rfl
theorem nw(tm:TM)(H:Heap)(x:X)(k:TM->Heap->X->WQ):Q2 (.ok .ret tm H x) k=.ok .ret tm H x:=rfl
theorem tM(i:Nat)(tm:TM)(H:Heap)(x:X)(k:TM->Heap->X->WQ):Q2 (.ok (.exit i) tm H x) k=.ok (.exit i) tm H x:=rfl
theorem pT(c:Ctx)(tm:TM)(H:Heap)(x:X):Zc c tm H x=.ok .normal tm H x:=rfl
theorem il(c:Ctx)(tm:TM)(H:Heap)(x:X):YC c tm H x=.ok .ret tm H x:=rfl
theorem qH(i:Nat)(c:Ctx)(tm:TM)(H:Heap)(x:X):Vs i c tm H x=.ok (.exit i) tm H x:=rfl
theorem qx(q:YF)(a b:D)(c:Ctx)(tm:TM)(H:Heap)(x:X):Yi q a b c tm H x=zj (q tm) λv=>JH (a c) (b c) v tm H x:=rfl
theorem po(b:Bool)(k:Bool->WQ):zj (.bool b) k=k b:=rfl
theorem vM(a b:TM->Heap->X->WQ)(tm:TM)(H:Heap)(x:X):JH a b true tm H x=a tm H x:=rfl
theorem yN(a b:TM->Heap->X->WQ)(tm:TM)(H:Heap)(x:X):JH a b false tm H x=b tm H x:=rfl
theorem vy(i:Nat)(a:D)(c:Ctx)(tm:TM)(H:Heap)(x:X):YW i a c tm H x=QD i (a c tm H x):=rfl
theorem pJ(a:D)(c:Ctx)(tm:TM)(H:Heap)(x:X):Vm a c tm H x=Ue (a c) c.fuel tm H x:=rfl
theorem Co(i:Nat)(tm:TM)(H:Heap)(x:X):QD i (.ok .normal tm H x)=.ok .normal tm H x:=rfl
theorem TA(i:Nat)(tm:TM)(H:Heap)(x:X):QD i (.ok (.exit i) tm H x)=.ok .normal tm H x:=by
 show @Bool.rec (λ_=>WQ) (.ok (.exit i) tm H x) (.ok .normal tm H x) (Nat.beq i i)=_
 rw[Xu]
theorem ul(i:Nat)(tm:TM)(H:Heap)(x:X):QD i (.ok .ret tm H x)=.ok .ret tm H x:=rfl
theorem Zbg(tm:TM)(v:AV):d0 tm v=tm:=rfl
theorem ZeH(v:AV)(tm:TM):k v tm=v:=rfl
theorem fd:Sp []=NZ:=rfl
theorem fe(a:AV):Sp [a]=st0 NZ a:=rfl
theorem fh(a b:AV):Sp [a,b]=st1 (st0 NZ a) b:=rfl
theorem fi(a b c:AV):Sp [a,b,c]=st2 (st1 (st0 NZ a) b) c:=rfl
theorem fj(a b c d:AV):Sp [a,b,c,d]=VK (st2 (st1 (st0 NZ a) b) c) d:=rfl
theorem fX(tm:TM):evs tm []=[]:=rfl
theorem m7(tm:TM)(f:YF)(l:List YF):evs tm (f::l)=f tm::evs tm l:=rfl
theorem Z1{lib:Nat->List AV->Heap->Option CR}{fs:T CF}{fuel n f:Nat}{args:List AV}{H:Heap}{cf:CF}(hl:lib f args H=none)(hf:fs.get f=some cf):Z7 lib fs fuel (n+1) f args H=
  MM (λpn g as H=>HM .fail fs g λcg=>HN pn cg.rs (cg.body ⟨Z7 lib fs fuel n,UH,UZ,fuel,false⟩ (Sp as) H ⟨[],pn⟩))
   cf.rs (cf.body ⟨Z7 lib fs fuel n,UH,HU fs fuel (Z7 lib fs fuel n),fuel,false⟩ (Sp args) H ⟨[],none⟩):=by
 show rl (lib f args H) _=_
 rw[hl]
 unfold HM
 rw[hf]
 rfl
theorem jS(dc:Option AV->Nat->List AV->Heap->DR)(rs:List (YF×Option (Nat×Bool)))(tm:TM)(H:Heap)(rc:Option AV):MM dc rs (.ok .ret tm H ⟨[],rc⟩)=results rs tm H:=rfl
theorem xY(dc:Option AV->Nat->List AV->Heap->DR)(rs:List (YF×Option (Nat×Bool)))(tm:TM)(H:Heap)(rc:Option AV):MM dc rs (.ok .normal tm H ⟨[],rc⟩)=results rs tm H:=rfl
theorem wh(f:YF)(tm:TM)(H:Heap):results [(f,none)] tm H=.ret (f tm) H:=rfl
theorem z9(tm:TM)(H:Heap):results [] tm H=.ret (.tup []) H:=rfl
theorem cr(x:YF)(tm:TM)(H:Heap):Z4 x tm H=.val (x tm) H:=rfl
noncomputable def pR(a:AV)(H:Heap):OR:=Qh a λk a=>Ts k (FD 0 a) H
noncomputable def OY(k:IntKind)(a:AV)(H:Heap):OR:=Qh a λ_ a=>Ts k a H
noncomputable def SG(a b:AV)(H:Heap):OR:=match a with
 |.int j a=>Qh b λl b=>Yb (PR j l) (Ts j (v7 a b) H)
 |.str a=>PL b λb=>Yb (Nat.ble (Nat.add (Xa a) (Xa b)) 4611686018427387904) (.val (.str (a++b)) H)
 |_=>.fail
noncomputable def O3(a b:AV)(H:Heap):OR:=HA a b λk a b=>Ts k (FD a b) H
noncomputable def uC(a b:AV)(H:Heap):OR:=HA a b λk a b=>Ts k (zi a b) H
noncomputable def j0(a b:AV)(H:Heap):OR:=HA a b λk a b=>cond (GW b 0) .fail (Ts k (ZbV a b) H)
noncomputable def ii(a b:AV)(H:Heap):OR:=HA a b λk a b=>cond (GW b 0) .fail (PW (ZbW a b) λn=>.val (.int k n) H)
noncomputable def Ks(f:Nat->Nat->Nat->Nat)(a b:AV)(H:Heap):OR:=HA a b λk a b=>Ts k (.ofNat (f (UC k) (UK (UC k) a) (UK (UC k) b))) H
noncomputable def ZcO(a b:AV)(H:Heap):OR:=Qh a λk a=>T8 b λb=>Ts k (zi a (.ofNat (Nat.pow 2 (cond (Nat.ble b 64) b 64)))) H
noncomputable def iN(a b:AV)(H:Heap):OR:=Qh a λk a=>T8 b λb=>PW (Zb0 a (OZ b (si k))) λn=>.val (.int k n) H
noncomputable def ZaG(a:AV)(H:Heap):OR:=Qh a λk a=>Ts k (.ofNat (Nat.sub (Nat.sub (UC k) 1) (UK (UC k) a))) H
noncomputable def Tl(f:Int->Int->Bool)(g:List UInt8->List UInt8->Bool)(a b:AV)(H:Heap):OR:=match a with
 |.int j a=>Qh b λl b=>Yb (PR j l) (SF (f a b) H)
 |.str a=>PL b λb=>SF (g a b) H
 |_=>.fail
noncomputable def ND(f:AV->AV->Option Bool)(neg:Bool)(a b:AV)(H:Heap):OR:=TK (f a b) λb=>SF (cond neg (cond b false true) b) H
noncomputable def cd(a:AV)(H:Heap):OR:=HL a λb=>.val (.bool (cond b false true)) H
noncomputable def B2(a b c:AV)(H:Heap):OR:=HL a λt=>.val (cond t b c) H
theorem Do(x:YF)(tm:TM)(H:Heap):zP x tm H=pR (x tm) H:=rfl
theorem jm(x:YF)(k:IntKind)(tm:TM)(H:Heap):Sg x k tm H=OY k (x tm) H:=rfl
theorem pV(x y:YF)(tm:TM)(H:Heap):Xk x y tm H=SG (x tm) (y tm) H:=rfl
theorem jt(x y:YF)(tm:TM)(H:Heap):Vv x y tm H=O3 (x tm) (y tm) H:=rfl
theorem If(x y:YF)(tm:TM)(H:Heap):PJ x y tm H=uC (x tm) (y tm) H:=rfl
theorem jq(x y:YF)(tm:TM)(H:Heap):Ja x y tm H=j0 (x tm) (y tm) H:=rfl
theorem jr(x y:YF)(tm:TM)(H:Heap):FE x y tm H=ii (x tm) (y tm) H:=rfl
theorem NR(x y:YF)(f:Nat->Nat->Nat->Nat)(tm:TM)(H:Heap):Q0 x y f tm H=Ks f (x tm) (y tm) H:=rfl
theorem xS(x y:YF)(tm:TM)(H:Heap):cu x y tm H=ZcO (x tm) (y tm) H:=rfl
theorem js(x y:YF)(tm:TM)(H:Heap):Lz x y tm H=iN (x tm) (y tm) H:=rfl
theorem og(x:YF)(tm:TM)(H:Heap):ju x tm H=ZaG (x tm) H:=rfl
theorem jl(x y:YF)(f:Int->Int->Bool)(g:List UInt8->List UInt8->Bool)(tm:TM)(H:Heap):Y8 x y f g tm H=Tl f g (x tm) (y tm) H:=rfl
theorem cj(x y:YF)(f:AV->AV->Option Bool)(neg:Bool)(tm:TM)(H:Heap):VD x y f neg tm H=ND f neg (x tm) (y tm) H:=rfl
theorem jo(x:YF)(tm:TM)(H:Heap):Qm x tm H=cd (x tm) H:=rfl
theorem p9(x y z:YF)(tm:TM)(H:Heap):Xn x y z tm H=B2 (x tm) (y tm) (z tm) H:=rfl
theorem uG(f:Nat)(args:List YF)(tm:TM)(H:Heap):ZS f args tm H=.oth (.call f (evs tm args) H):=rfl
theorem T3(b:Bool)(H:Heap):SF b H=.val (.bool b) H:=by cases b<;>rfl
theorem Vb(k:IntKind)(n:Int)(H:Heap):Ts k n H=.val (.int k (k.wrap n)) H:=by simp only[Ts,Pa,OT]
theorem Gs(k:IntKind)(m n:Nat):AE k m (.ofNat n)=.ofNat (n % m):=by
 show cond (Nat.ble m n) (Int.ofNat (Nat.mod n m)) (.ofNat n)=_
 cases h:Nat.ble m n with
 |true=>rfl
 |false=>
  have:n<m:=by
   have h2: ¬m<=n:=λhh=>by rw[Zj hh] at h;cases h
   omega
  rw[YH this];rfl
theorem F9(n:Nat):IntKind.u8.wrap (.ofNat n)=.ofNat (n % 256):=by rw[<-OT];exact Gs .u8 256 n
theorem LW(n:Nat):IntKind.u32.wrap (.ofNat n)=.ofNat (n % 4294967296):=by rw[<-OT];exact Gs .u32 4294967296 n
theorem D7(n:Nat):IntKind.u64.wrap (.ofNat n)=.ofNat (n % 18446744073709551616):=by rw[<-OT];exact Gs .u64 18446744073709551616 n
theorem OU{n:Nat}(h:n<9223372036854775808):IntKind.i64.wrap (.ofNat n)=.ofNat n:=by
 rw[<-OT]
 show cond (Nat.ble 9223372036854775808 n) _ (Int.ofNat n)=_
 cases h2:Nat.ble 9223372036854775808 n with
 |true=>have:=Yn h2;omega
 |false=>rfl
theorem E6(a b:Nat):v7 (.ofNat a) (.ofNat b)=.ofNat (a+b):=rfl
theorem E8(a b:Nat):zi (.ofNat a) (.ofNat b)=.ofNat (a*b):=rfl
theorem xp{a b:Nat}(h:b<=a):FD (.ofNat a) (.ofNat b)=.ofNat (a - b):=by
 show cond (Nat.ble b a) (Int.ofNat (Nat.sub a b)) (Int.ofNat a - Int.ofNat b)=_
 rw[Zj h];rfl
theorem Ek(m n:Nat):UK m (.ofNat n)=n % m:=rfl
theorem L1(a b:Nat):xk (.ofNat a) (.ofNat b)=decide (a<b):=by
 show Nat.ble (Nat.succ a) b=_
 cases h:Nat.ble (Nat.succ a) b with
 |true=>have:=Yn h;exact(Zi this).symm
 |false=>
  have h2: ¬Nat.succ a<=b:=λhh=>by rw[Zj hh] at h;cases h
  exact(Ze h2).symm
theorem Nf(a b:Nat):GW (.ofNat a) (.ofNat b)=decide (a=b):=YZ a b
theorem Wb(k:IntKind):PR k k=true:=by cases k<;>rfl
def i64(n:Nat):AV:=nI .i64 n
def Vf(x:UInt8):AV:=.int .u8 (.ofNat x.toNat)
def Jq(x:UInt32):AV:=.int .u32 (.ofNat x.toNat)
def bK(x:UInt64):AV:=.int .u64 (.ofNat x.toNat)
theorem YB{a b:Nat}(h:a+b<9223372036854775808)(H:Heap):SG (nI .i64 a) (nI .i64 b) H=.val (nI .i64 (a+b)) H:=by
 show Yb (PR .i64 .i64) (Ts .i64 (v7 (.ofNat a) (.ofNat b)) H)=_
 rw[Wb,Vb,E6,OU h];rfl
theorem YQ{a b:Nat}(h:b<=a)(h2:a<9223372036854775808)(H:Heap):O3 (nI .i64 a) (nI .i64 b) H=.val (nI .i64 (a - b)) H:=by
 show Yb (PR .i64 .i64) (Ts .i64 (FD (.ofNat a) (.ofNat b)) H)=_
 rw[Wb,Vb,xp h,OU (by omega)];rfl
theorem Dh{a b:Nat}(h:a*b<9223372036854775808)(H:Heap):uC (nI .i64 a) (nI .i64 b) H=.val (nI .i64 (a*b)) H:=by
 show Yb (PR .i64 .i64) (Ts .i64 (zi (.ofNat a) (.ofNat b)) H)=_
 rw[Wb,Vb,E8,OU h];rfl
theorem ij{a b:Nat}(h:0<b)(H:Heap):ii (nI .i64 a) (nI .i64 b) H=.val (nI .i64 (a % b)) H:=by
 show Yb (PR .i64 .i64) (cond (GW (.ofNat b) (.ofNat 0)) .fail (PW (.ofNat (Nat.mod a b)) λn=>.val (.int .i64 n) H))=_
 rw[Wb,Nf,Ze (by omega),Pa];rfl
theorem ZcF{a b:Nat}(h:0<b)(h2:a<9223372036854775808)(H:Heap):j0 (nI .i64 a) (nI .i64 b) H=.val (nI .i64 (a/b)) H:=by
 show Yb (PR .i64 .i64) (cond (GW (.ofNat b) (.ofNat 0)) .fail (Ts .i64 (.ofNat (Nat.div a b)) H))=_
 rw[Wb,Nf,Ze (by omega),Vb,show(Int.ofNat (Nat.div a b))=Int.ofNat (a/b) from rfl,OU (Tu (SO a b) h2)];rfl
theorem Zu(k:IntKind)(a b:Nat)(H:Heap):Tl Wd Xl (nI k a) (nI k b) H=.val (.bool (decide (a<b))) H:=by
 show Yb (PR k k) (SF (xk (.ofNat a) (.ofNat b)) H)=_
 rw[Wb,T3,L1];rfl
theorem ZR(k:IntKind)(a b:Nat)(H:Heap):Tl Tp WT (nI k a) (nI k b) H=.val (.bool (decide (b<=a))) H:=by
 show Yb (PR k k) (SF (!xk (.ofNat a) (.ofNat b)) H)=_
 rw[Wb,T3,L1]
 show OR.val (.bool (!decide (a<b))) H=_
 congr 2
 by_cases h:a<b
 ·rw[Zi h,Ze (by omega)];rfl
 ·rw[Ze h,Zi (by omega)];rfl
theorem Y9(k:IntKind)(a b:Nat)(H:Heap):ND VU true (nI k a) (nI k b) H=.val (.bool (decide (a≠b))) H:=by
 show TK (cond (PR k k) (some (GW (.ofNat a) (.ofNat b))) none) _=_
 rw[Wb,Nf]
 show SF (cond true (cond (decide (a=b)) false true) (decide (a=b))) H=_
 rw[T3]
 congr 2
 by_cases h:a=b
 ·rw[Zi h,Ze (by omega)];rfl
 ·rw[Ze h,Zi h];rfl
theorem YL(k:IntKind)(a b:Nat)(H:Heap):ND VU false (nI k a) (nI k b) H=.val (.bool (decide (a=b))) H:=by
 show TK (cond (PR k k) (some (GW (.ofNat a) (.ofNat b))) none) _=_
 rw[Wb,Nf]
 exact T3 _ _
theorem gS(a b:UInt32)(H:Heap):SG (Jq a) (Jq b) H=.val (Jq (a+b)) H:=by
 show Yb (PR .u32 .u32) (Ts .u32 (v7 (.ofNat a.toNat) (.ofNat b.toNat)) H)=_
 rw[Wb,Vb,E6,LW];unfold Jq;rw[UInt32.toNat_add];rfl
end
structure Cells(r:Row)(l:List AV):Prop where
 size:r.size=l.length
 get: ∀i,i<l.length->r.get i=l.getD i .unk
theorem Cells.load{r:Row}{l:List AV}(h:Cells r l){o n:Nat}(hn:o+n<=l.length):W9 r o n=(l.drop o).take n:=by
 refine XP λj=>?_
 by_cases hj:j<n
 ·rw[TZ r n o j hj,XE hj,XN,h.get (o+j) (by omega),Zh]
  rw[Zp (show o+j<l.length by omega)];rfl
 ·rw[Y5 (by rw[TB];omega),Y5 (by rw[Z2,Xt];omega)]
theorem Cells.store{r:Row}{l:List AV}(h:Cells r l){o:Nat}{vs:List AV}(ho:o+vs.length<=l.length):Cells (r.setCells (WO r.cells o vs)) (l.take o++(vs++l.drop (o+vs.length))):=by
 have hlen:(l.take o++(vs++l.drop (o+vs.length))).length=l.length:=by
  rw[Zk,Zk,Z2,Xt];omega
 refine⟨by rw[hlen];exact h.size,λi hi=>?_⟩
 rw[hlen] at hi
 rw[Row.get_eq]
 show((WO r.cells o vs).get i).getD r.dflt=_
 rw[Qa,Zh]
 by_cases h1:o<=i∧i<o+vs.length
 ·rw[if_pos h1,YY (by rw[Z2];omega),Z2,WR (by omega),YN (by omega),
   Zp (show i - o<vs.length by omega)];rfl
 ·rw[if_neg h1]
  have h2:=h.get i hi
  rw[Row.get_eq,Zh] at h2
  rw[h2]
  by_cases h3:i<o
  ·rw[YN (by rw[Z2];omega),XE h3]
  ·rw[YY (by rw[Z2];omega),Z2,WR (by omega),YY (by omega),XN,
    show o+vs.length+(i - o - vs.length)=i by omega]
theorem Cells.new(e sz:Nat)(l:List AV)(fz:Nat)(sm own ex:Bool):Cells ⟨e,sz,Xa l,T.ofList l,.unk,fz,sm,own,ex⟩ l:=by
 refine⟨Y6 l,λi hi=>?_⟩
 rw[Row.get_eq]
 show((T.ofList l).get i).getD .unk=_
 rw[T.get_ofList,Zh]
theorem Cells.zero(e n:Nat)(v:AV)(fz:Nat)(sm own ex:Bool):Cells ⟨e,1,n,.leaf,v,fz,sm,own,ex⟩ (List.replicate n v):=by
 refine⟨by simp,λi hi=>?_⟩
 rw[Z5] at hi
 rw[Row.get_eq]
 show((T.leaf:T AV).get i).getD v=_
 rw[T.get_leaf,Zh,Wp,if_pos hi];rfl
structure Own(H:Heap)(b e:Nat)(l:List AV)(r:Row):Prop where
 at_:H.t.get b=some (.row r)
 elem:r.elem=e
 sz:r.sz=1
 own:r.own=true
 fz:r.fz=0
 sm:r.sm=false
 cells:Cells r l
 ro:H.ro<=b
noncomputable def HE(a:AV)(H:Heap):OR:=Rq a λb o=>XA H b λr=>Yb (Nat.ble (Nat.succ o) r.size) (.val (r.get o) H)
noncomputable def BN(n:Nat)(a:AV)(H:Heap):OR:=Rq a λb o=>XA H b λr=>Yb (Nat.ble (Nat.add o n) r.size) (.val (.agg (W9 r o n)) H)
noncomputable def yg(n:Nat)(a v:AV)(H:Heap):OR:=Rq a λb o=>XA H b λr=>
 Yb (Nat.ble 1 n)<|Yb (H.may r b) (Yb (Nat.ble (Nat.add o n) r.size) (Yb (Nat.ble r.fz o) (Yb (Nat.beq (Xa v.cells) n)
  (.val XL (H.put b (.row (r.setCells (WO r.cells o v.cells))))))))
def cB(n:Nat)(a:AV)(H:Heap):OR:=Rq a λb o=>.val (.ptr b (Nat.add o n)) H
def BJ(n sz:Nat)(a i:AV)(H:Heap):OR:=T8 i λi=>Rq a λb o=>Yb (Nat.ble (Nat.succ i) n) (.val (.ptr b (Nat.add o (Nat.mul i sz))) H)
def KA(sz:Nat)(a i:AV)(H:Heap):OR:=T8 i λi=>TD a .fail λb o len _=>Yb (Nat.ble (Nat.succ i) len) (.val (.ptr b (Nat.add o (Nat.mul i sz))) H)
def d5(a:AV)(H:Heap):OR:=zJ a (.val a H)
noncomputable def Ll(a:AV)(H:Heap):OR:=cN a (.val (.int .i64 0) H)<|TD a (.val (.int .i64 0) H) λ_ _ n _=>TX n λn=>.val (.int .i64 (.ofNat n)) H
theorem uI(x:YF)(tm:TM)(H:Heap):Yz x tm H=HE (x tm) H:=rfl
theorem Ol(x:YF)(n:Nat)(tm:TM)(H:Heap):To x n tm H=BN n (x tm) H:=rfl
theorem uJ(x y:YF)(n:Nat)(tm:TM)(H:Heap):Xr x y n tm H=yg n (x tm) (y tm) H:=rfl
theorem jp(x:YF)(n:Nat)(tm:TM)(H:Heap):XK x n tm H=cB n (x tm) H:=rfl
theorem pY(x y:YF)(n sz:Nat)(tm:TM)(H:Heap):PH x y n sz tm H=BJ n sz (x tm) (y tm) H:=rfl
theorem pZ(x y:YF)(sz:Nat)(tm:TM)(H:Heap):WW x y sz tm H=KA sz (x tm) (y tm) H:=rfl
theorem jn(x:YF)(tm:TM)(H:Heap):UL x tm H=d5 (x tm) H:=rfl
theorem p6(x:YF)(tm:TM)(H:Heap):Wf x tm H=Ll (x tm) H:=rfl
theorem xK(e n:Nat)(v:AV)(tm:TM)(H:Heap):Mf e n v tm H=.val (.ptr H.nx 0) (H.new (.row ⟨e,1,n,.leaf,v,0,false,true,true⟩)):=rfl
theorem Dl(e:Nat)(cs:List AV)(h:1<=Xa cs)(tm:TM)(H:Heap):V9 e cs tm H=.val (.ptr H.nx 0) (H.newRow e 1 cs true):=by
 show Yb (Nat.ble 1 (Xa cs)) _=_
 rw[Zj h];rfl
theorem UD(n b o:Nat)(H:Heap):cB n (.ptr b o) H=.val (.ptr b (o+n)) H:=rfl
theorem Uf(b o:Nat)(H:Heap):d5 (.ptr b o) H=.val (.ptr b o) H:=rfl
theorem SU(b o n:Nat)(c:Option Nat)(H:Heap):Ll (.slice b o n c) H=.val (nI .i64 n) H:=by
 show TX n (λn=>OR.val (.int .i64 (.ofNat n)) H)=_
 rw[Rf];rfl
theorem xr(H:Heap):Ll .slice0 H=.val (nI .i64 0) H:=rfl
theorem Db(H:Heap):Ll .nils H=.val (nI .i64 0) H:=rfl
theorem Yt{n i:Nat}(h:i<n)(b o:Nat)(k:IntKind)(H:Heap):BJ n 1 (.ptr b o) (nI k i) H=.val (.ptr b (o+i)) H:=by
 show Yb (Nat.ble (Nat.succ i) n) (.val (.ptr b (o+i*1)) H)=_
 rw[Zj h,XM];rfl
theorem Z0{n i:Nat}(h:i<n)(b o:Nat)(c:Option Nat)(k:IntKind)(H:Heap):KA 1 (.slice b o n c) (nI k i) H=.val (.ptr b (o+i)) H:=by
 show Yb (Nat.ble (Nat.succ i) n) (.val (.ptr b (o+i*1)) H)=_
 rw[Zj h,XM];rfl
theorem uo{H:Heap}{b o:Nat}{r:Row}{l:List AV}(hr:H.t.get b=some (.row r))(hc:Cells r l)(ho:o<l.length):HE (.ptr b o) H=.val (l.getD o .unk) H:=by
 show XA H b _=_
 unfold XA
 rw[hr]
 show Yb (Nat.ble (Nat.succ o) r.size) _=_
 rw[hc.size,Zj ho,hc.get o ho];rfl
theorem pI{H:Heap}{b o n:Nat}{r:Row}{l:List AV}(hr:H.t.get b=some (.row r))(hc:Cells r l)(ho:o+n<=l.length):BN n (.ptr b o) H=.val (.agg ((l.drop o).take n)) H:=by
 show XA H b _=_
 unfold XA
 rw[hr]
 show Yb (Nat.ble (o+n) r.size) _=_
 rw[hc.size,Zj ho,hc.load ho];rfl
theorem Mj(H:Heap)(b c:Nat)(o:Obj):(H.put b o).t.get c=if b=c then some o else H.t.get c:=T.get_set _ _ _ _
theorem Nh(H:Heap)(c:Nat)(o:Obj):(H.new o).t.get c=if H.nx=c then some o else H.t.get c:=T.get_set _ _ _ _
theorem Mk(H:Heap)(b:Nat)(o:Obj):(H.put b o).nx=H.nx:=rfl
theorem jZ(H:Heap)(b:Nat)(o:Obj):(H.put b o).ro=H.ro:=rfl
theorem zH(H:Heap)(o:Obj):(H.new o).nx=H.nx+1:=rfl
theorem ji(H:Heap)(o:Obj):(H.new o).ro=H.ro:=rfl
theorem HH(H:Heap)(e sz:Nat)(l:List AV)(ex:Bool):H.newRow e sz l ex=H.new (.row ⟨e,sz,Xa l,T.ofList l,.unk,0,false,true,ex⟩):=rfl
theorem vO(l:List PI)(c:Ctx)(tm:TM)(H:Heap)(x:X):Vj l c tm H x=Ug (l.map (·.dst)) Lu l c [] tm H x:=rfl
theorem oL(ds:List Yh)(fin:PK)(c:Ctx)(rs:List RD)(tm:TM)(H:Heap)(x:X):Ug ds fin [] c rs tm H x=cond (still tm H rs) (fin rs tm H x) .fail:=rfl
theorem uX(ds:List Yh)(fin:PK)(p:PI)(l:List PI)(c:Ctx)(rs:List RD)(tm:TM)(H:Heap)(x:X):Ug ds fin (p::l) c rs tm H x=Su ds p (Ug ds fin l c) c rs tm H x:=rfl
theorem pU(rs:List RD)(tm:TM)(H:Heap)(x:X):Lu rs tm H x=.ok .normal tm H x:=rfl
section
variable (ds:List Yh) (f:Vu) (os:List (Yh×YF)) (dst:Yh) (i bef:Nat) (nx:PK) (c:Ctx) (rs:List RD) (tm:TM) (H:Heap) (x:X)
theorem tD:Su ds ⟨f,none,os,dst,.free,i,bef⟩ nx c rs tm H x=cond (Rp H.nx tm os) (M2 ⟨f,none,os,dst,.free,i,bef⟩ nx rs tm H x (f (R0 tm os) ⟨H.nx,.leaf,H.nx⟩)) .fail:=rfl
theorem tE:Su ds ⟨f,none,os,dst,.read,i,bef⟩ nx c rs tm H x=Is ⟨f,none,os,dst,.read,i,bef⟩ nx rs tm H x (f (R0 tm os) ⟨H.nx,H.t,H.nx⟩):=rfl
theorem nh:Su ds ⟨f,none,os,dst,.eff,i,bef⟩ nx c rs tm H x=cond (still tm H rs) (JK ds ⟨f,none,os,dst,.eff,i,bef⟩ nx rs c tm x (f (R0 tm os) H)) .fail:=rfl
variable (g:Option (YF×Bool)) (kd:Js) (v:AV) (H':Heap)
theorem qN:M2 ⟨f,g,os,dst,kd,i,bef⟩ nx rs tm H x (.val v ⟨H.nx,.leaf,H.nx⟩)=nx rs (dst tm v) H x:=by
 show cond (Nat.beq H.nx H.nx) (nx rs (dst tm v) H x) _=_
 rw[Xu];rfl
theorem mS:JK ds ⟨f,g,os,dst,kd,i,bef⟩ nx rs c tm x (.val v H')=nx (UU bef rs) (dst tm v) H' x:=rfl
theorem qE(q:Nat)(args:List AV):JK ds ⟨f,g,os,dst,kd,i,bef⟩ nx rs c tm x (.oth (.call q args H'))=DF ds ⟨f,g,os,dst,kd,i,bef⟩ nx rs tm x (c.call q args H'):=rfl
theorem iq:DF ds ⟨f,g,os,dst,kd,i,bef⟩ nx rs tm x (.ret v H')=nx (UU bef rs) (dst tm v) H' x:=rfl
theorem pu(b:Nat):UU b []=[]:=rfl
theorem ue(b:Nat):UU b (⟨⟨f,g,os,dst,kd,i,bef⟩,v⟩::rs)=cond (Nat.testBit b i) (UU b rs) (⟨⟨f,g,os,dst,kd,i,bef⟩,v⟩::UU b rs):=rfl
theorem ni:still tm H []=true:=rfl
theorem tF:still tm H (⟨⟨f,g,os,dst,kd,i,bef⟩,v⟩::rs)=cond (x9 ⟨⟨f,g,os,dst,kd,i,bef⟩,v⟩ tm H) (still tm H rs) false:=rfl
noncomputable def Um(r:OR)(w:AV)(n:Nat):Bool:=OR.rec (λv H1=>cond (Nat.beq H1.nx n) (same v w) false) (λ_=>false) r
theorem j8:x9 ⟨⟨f,g,os,dst,kd,i,bef⟩,v⟩ tm H=Um (f (R0 tm os) ⟨H.nx,H.t,H.nx⟩) v H.nx:=rfl
end
theorem Td(v:AV)(n:Nat)(t:T Obj)(h:same v v=true):Um (.val v ⟨n,t,n⟩) v n=true:=by
 show cond (Nat.beq n n) (same v v) false=true
 rw[Xu,h];rfl
theorem Iw(k:IntKind)(n:Int):same (.int k n) (.int k n)=true:=by
 show cond (PR k k) (GW n n) false=true
 rw[Wb,Pf];simp
theorem iG(x:UInt32):same (Jq x) (Jq x)=true:=Iw ..
theorem bp(x:UInt8):same (Vf x) (Vf x)=true:=Iw ..
theorem bo(k:IntKind)(n:Nat):same (nI k n) (nI k n)=true:=Iw ..
theorem ud(v:UInt32)(n:Nat)(t:T Obj):Um (.val (Jq v) ⟨n,t,n⟩) (Jq v) n=true:=Td _ _ _ (iG v)
theorem pq(v:UInt8)(n:Nat)(t:T Obj):Um (.val (Vf v) ⟨n,t,n⟩) (Vf v) n=true:=Td _ _ _ (bp v)
theorem pp(k:IntKind)(v:Nat)(n:Nat)(t:T Obj):Um (.val (nI k v) ⟨n,t,n⟩) (nI k v) n=true:=Td _ _ _ (bo k v)
theorem pK(n:Nat)(tm:TM):Rp n tm []=true:=rfl
theorem ut(n:Nat)(tm:TM)(s:Yh)(g:YF)(os:List (Yh×YF)):Rp n tm ((s,g)::os)=cond (WC n (g tm)) (Rp n tm os) false:=rfl
theorem dP(n:Nat)(k:IntKind)(m:Nat):WC n (nI k m)=true:=rfl
theorem k9(n:Nat)(x:UInt32):WC n (Jq x)=true:=rfl
theorem dQ(n:Nat)(x:UInt8):WC n (Vf x)=true:=rfl
theorem pL(n:Nat)(x:Bool):WC n (.bool x)=true:=rfl
theorem ZJ{n b:Nat}(h:b<n)(o:Nat):WC n (.ptr b o)=true:=Zj h
theorem Yg{n b:Nat}(h:b<n)(o l:Nat)(c:Option Nat):WC n (.slice b o l c)=true:=Zj h
theorem bj(tm:TM):R0 tm []=NZ:=rfl
theorem iy(tm:TM)(s:Yh)(g:YF)(os:List (Yh×YF)):R0 tm ((s,g)::os)=s (R0 tm os) (g tm):=rfl
theorem Mc(tm:TM):YX tm=N8.a0 (N8.a0 (N8.a0 tm)):=rfl
theorem E2(tm:TM):Wj tm=N8.a1 (N8.a0 (N8.a0 tm)):=rfl
theorem Cl(tm:TM):VE tm=N8.a2 (N8.a0 (N8.a0 tm)):=rfl
theorem FC(tm:TM):V5 tm=N8.a3 (N8.a0 (N8.a0 tm)):=rfl
theorem PD(tm:TM):XY tm=N8.a4 (N8.a0 (N8.a0 tm)):=rfl
theorem A8(tm:TM):X2 tm=N8.a5 (N8.a0 (N8.a0 tm)):=rfl
theorem lX(tm:TM):WA tm=N8.a6 (N8.a0 (N8.a0 tm)):=rfl
theorem A9(tm:TM):Wt tm=N8.a7 (N8.a0 (N8.a0 tm)):=rfl
theorem qY(tm:TM):Wi tm=N8.a0 (N8.a1 (N8.a0 tm)):=rfl
theorem eJ(tm:TM):WV tm=N8.a1 (N8.a1 (N8.a0 tm)):=rfl
theorem xh(tm:TM):XD tm=N8.a2 (N8.a1 (N8.a0 tm)):=rfl
theorem lU(tm:TM):XQ tm=N8.a3 (N8.a1 (N8.a0 tm)):=rfl
theorem lV(tm:TM):XS tm=N8.a4 (N8.a1 (N8.a0 tm)):=rfl
theorem aI(tm:TM):XG tm=N8.a5 (N8.a1 (N8.a0 tm)):=rfl
theorem ZdW(tm:TM):X5 tm=N8.a6 (N8.a1 (N8.a0 tm)):=rfl
theorem ZdX(tm:TM):Wh tm=N8.a7 (N8.a1 (N8.a0 tm)):=rfl
theorem lW(tm:TM):X8 tm=N8.a0 (N8.a2 (N8.a0 tm)):=rfl
theorem aJ(tm:TM):WI tm=N8.a1 (N8.a2 (N8.a0 tm)):=rfl
theorem ZdY(tm:TM):Wv tm=N8.a2 (N8.a2 (N8.a0 tm)):=rfl
theorem ZdZ(tm:TM):Oc tm=N8.a5 (N8.a5 (N8.a0 tm)):=rfl
theorem Zd0(tm:TM):NJ tm=N8.a1 (N8.a0 (N8.a1 tm)):=rfl
theorem aK(tm:TM):NK tm=N8.a2 (N8.a0 (N8.a1 tm)):=rfl
theorem ZbE(tm:TM):M7 tm=N8.a1 (N8.a5 (N8.a1 tm)):=rfl
theorem ZbF(tm:TM):Ky tm=N8.a2 (N8.a5 (N8.a1 tm)):=rfl
theorem ZbG(tm:TM):M8 tm=N8.a3 (N8.a5 (N8.a1 tm)):=rfl
theorem ZbH(tm:TM):sO tm=N8.a7 (N8.a5 (N8.a2 tm)):=rfl
structure ZK(H H':Heap)(S:List Nat):Prop where
 nx:H.nx<=H'.nx
 ro:H'.ro=H.ro
 get: ∀c,c<H.nx->c∉S->H'.t.get c=H.t.get c
theorem ZK.refl(H:Heap)(S:List Nat):ZK H H S:=⟨Zz _,rfl,λ_ _ _=>rfl⟩
theorem ZK.trans{H H' H'':Heap}{S S':List Nat}(a:ZK H H' S)(b:ZK H' H'' S')(h: ∀c,c∈S'->c<H.nx->c∈S):ZK H H'' S:=
 ⟨YR a.nx b.nx,b.ro.trans a.ro,λc hc hn=>(b.get c (Yk hc a.nx) (λhh=>hn (h c hh hc))).trans (a.get c hc hn)⟩
theorem ZK.put{H:Heap}{b:Nat}{o:Obj}{S:List Nat}(h:b<H.nx->b∈S):ZK H (H.put b o) S:=
 ⟨Zz _,rfl,λc hc hn=>by rw[Mj,if_neg (λ(e:b=c)=>hn (by rw[<-e];exact h (by omega)))]⟩
theorem ZK.new(H:Heap)(o:Obj)(S:List Nat):ZK H (H.new o) S:=
 ⟨Vr _,rfl,λc hc _=>by rw[Nh,if_neg (by omega)]⟩
theorem ZK.then_put{H H':Heap}{b:Nat}{o:Obj}{S:List Nat}(k:ZK H H' S)(h:b<H.nx->b∈S):ZK H (H'.put b o) S:=
 ⟨k.nx,k.ro,λc hc hn=>by rw[Mj,if_neg (λ(e:b=c)=>hn (by rw[<-e];exact h (by omega)))];exact k.get c hc hn⟩
theorem ZK.then_new{H H':Heap}{S:List Nat}(k:ZK H H' S)(o:Obj):ZK H (H'.new o) S:=
 ⟨Nat.le_succ_of_le k.nx,k.ro,λc hc hn=>by rw[Nh,if_neg (by have:=k.nx;omega)];exact k.get c hc hn⟩
theorem ZK.trans'{H H' H'':Heap}{S':List Nat}(a:ZK H H' [])(b:ZK H' H'' S'):ZK H H'' S':=
 ⟨YR a.nx b.nx,b.ro.trans a.ro,λc hc hn=>(b.get c (Yk hc a.nx) hn).trans (a.get c hc (by simp))⟩
structure Bytes(H:Heap)(b o:Nat)(cap:Option Nat)(l:List UInt8)(r:Row):Prop where
 at_:H.t.get b=some (.row r)
 sz:r.sz=1
 fits:o+l.length<=r.size
 get: ∀i,i<l.length->r.get (o+i)=Vf (l.getD i 0)
 cap: ∀c,cap=some c->l.length<=c∧o+c<=r.size
def PU(x:Option AV)(d top:Nat)(k:Nat->OR):OR:=match x with|none=>k d|some v=>T8 v λn=>Yb (Nat.ble n top) (k n)
noncomputable def Th(sz:Nat)(a:AV)(lo hi:Option AV)(H:Heap):OR:=
 cN a (PU hi 0 0 λh=>PU lo 0 h λ_=>.val .slice0 H)<|TD a (PU hi 0 0 λh=>PU lo 0 h λ_=>.val .nils H) λb o len cap=>XA H b λr=>Yb (MU r sz cap) (PU hi len (VO r o cap) λh=>PU lo 0 h λl=>Yb (Nat.ble l (VO r o cap))<|
  cond (Nat.beq l (VO r o cap)) (Option.rec (.val (.slice H.nx 0 (Nat.sub h l) none) ⟨Nat.succ H.nx,H.t,H.ro⟩) (λ_=>.val (.slice b o (Nat.sub h l) (some 0)) H) cap)
   (.val (.slice b (Nat.add o (Nat.mul l sz)) (Nat.sub h l) (Option.rec none (λc=>some (Nat.sub c l)) cap)) H))
theorem SZ(sz:Nat)(x:YF)(lo hi:Option YF)(tm:TM)(H:Heap):T0 sz x lo hi none tm H=Th sz (x tm) (lo.map λf=>f tm) (hi.map λf=>f tm) H:=by
 cases lo<;>cases hi<;>rfl
def KT(cap:Option Nat)(l:Nat):Option Nat:=cap.map λc=>c - l
noncomputable def OM(n sz:Nat)(a:AV)(lo hi:Option AV)(H:Heap):OR:=Rq a λb o=>PU hi n n λh=>PU lo 0 h λl=>
 cond (Nat.beq l n) (.val (.slice b o (Nat.sub h l) (some (Nat.sub n l))) H) (.val (.slice b (Nat.add o (Nat.mul l sz)) (Nat.sub h l) (some (Nat.sub n l))) H)
theorem Po(n sz:Nat)(x:YF)(lo hi:Option YF)(tm:TM)(H:Heap):Rw n sz x lo hi none tm H=OM n sz (x tm) (lo.map λf=>f tm) (hi.map λf=>f tm) H:=by
 cases lo<;>cases hi<;>rfl
theorem Kh{n l:Nat}(h:l<n)(b o:Nat)(k:IntKind)(H:Heap):OM n 1 (.ptr b o) (some (nI k l)) none H=.val (.slice b (o+l) (n - l) (some (n - l))) H:=by
 show Yb (Nat.ble l n) (cond (Nat.beq l n) _ _)=_
 rw[Zj (O5 h),YZ,Ze (by omega)]
 show OR.val (.slice b (o+l*1) (n - l) (some (n - l))) H=_
 rw[XM]
theorem Kg{n m:Nat}(h:m<=n)(h0:0<n)(b o:Nat)(k:IntKind)(H:Heap):OM n 1 (.ptr b o) none (some (nI k m)) H=.val (.slice b o m (some n)) H:=by
 show Yb (Nat.ble m n) (Yb (Nat.ble 0 m) (cond (Nat.beq 0 n) _ _))=_
 rw[Zj h,Zj (ZA _),YZ,Ze (by omega)]
 show OR.val (.slice b (o+0*1) (m - 0) (some (n - 0))) H=_
 rw[Vi];rfl
noncomputable def yO(sz:Nat)(a v:AV)(H:Heap):OR:=zt v λsn=>TD a (.val (.int .i64 0) H) λb o dn _=>TX (OZ dn sn) λn=>WY H sz v n λnew=>
 cond (Nat.beq n 0) (.val (.int .i64 0) H) (XA H b λr=>Yb (H.may r b) (Yb (Nat.ble r.fz o) (Yb (Nat.ble (Nat.add o (Nat.mul n sz)) r.size) (.val (.int .i64 (.ofNat n)) (H.put b (.row (r.setCells (WO r.cells o new))))))))
theorem L8(x y:YF)(sz:Nat)(tm:TM)(H:Heap):G2 x y sz tm H=yO sz (x tm) (y tm) H:=rfl
noncomputable def QZ(k:List AV->OR)(ps:List (Nat×Nat×AV)):List AV->OR:=List.rec (λcells=>k cells) (λp _ ih cells=>
 Yb (Nat.ble 1 p.2.1)<|Yb (Nat.beq (Xa p.2.2.cells) p.2.1) (Yb (Nat.ble (Nat.add p.1 p.2.1) (Xa cells)) (ih (PQ p.1 cells++(p.2.2.cells++QY (Nat.add p.1 p.2.1) cells))))) ps
theorem Hh(tm:TM)(k:List AV->OR): ∀(ps:List AJ) (cells:List AV),Bb tm k ps cells=QZ k (ps.map λp=>(p.off,p.sz,p.x tm)) cells
 |[],_=>rfl
 |p::ps,cells=>by
  show Yb (Nat.ble 1 p.sz) (Yb (Nat.beq (Xa (p.x tm).cells) p.sz) (Yb (Nat.ble (Nat.add p.off p.sz) (Xa cells)) (Bb tm k ps (PQ p.off cells++((p.x tm).cells++QY (Nat.add p.off p.sz) cells)))))=_
  rw[Hh tm k ps]
  rfl
noncomputable def SA(zs:List AV)(ps:List (Nat×Nat×AV))(H:Heap):OR:=Yb (Nat.ble 1 (Xa zs))<|QZ (λcs=>.val (.agg cs) H) ps zs
theorem Te(zs:List AV)(ps:List AJ)(tm:TM)(H:Heap):Vz zs ps tm H=SA zs (ps.map λp=>(p.off,p.sz,p.x tm)) H:=by
 unfold Vz SA
 rw[Hh]
noncomputable def TQ(e sz n:Nat)(zs:List AV)(ps:List (Nat×Nat×AV))(H:Heap):OR:=Yb (Nat.ble 1 sz)<|Yb (Nat.beq (Xa zs) (Nat.mul n sz))<|QZ (λcs=>.val (.slice H.nx 0 n none) (H.newRow e sz cs true)) ps zs
theorem ZZ(e sz n:Nat)(zs:List AV)(ps:List AJ)(tm:TM)(H:Heap):VV e sz n zs ps tm H=TQ e sz n zs (ps.map λp=>(p.off,p.sz,p.x tm)) H:=by
 unfold VV TQ
 rw[Hh]
theorem Gv(e:Nat)(z v:AV)(h:v.cells=[v])(H:Heap):TQ e 1 1 [z] [(0,1,v)] H=.val (.slice H.nx 0 1 none) (H.newRow e 1 [v] true):=by
 show Yb (Nat.beq (Xa v.cells) 1) (Yb (Nat.ble 1 1) (.val _ (H.newRow e 1 (v.cells++[]) true)))=_
 rw[h];rfl
noncomputable def TP(e sz bytes:Nat)(a v:AV)(H:Heap):OR:=Yb (Nat.ble 1 sz)<|Yb (Nat.ble 1 bytes)<|zt v λn=>WY H sz v n λnew=>PS a e sz bytes H n new
theorem ZV(x y:YF)(e sz bytes:Nat)(tm:TM)(H:Heap):W5 x y e sz bytes tm H=TP e sz bytes (x tm) (y tm) H:=rfl
def Src(H:Heap)(v:AV)(l:List AV):Prop:= ∀k:Nat->List AV->OR,(zt v λn=>WY H 1 v n λnew=>k n new)=k l.length l
theorem Src.nils(H:Heap):Src H .nils []:=λ_=>rfl
theorem Src.none(H:Heap)(b o:Nat)(c:Option Nat):Src H (.slice b o 0 c) []:=λ_=>rfl
theorem Src.row{H:Heap}{b o:Nat}{c:Option Nat}{r:Row}{l:List AV}(hr:H.t.get b=some (.row r))(hf:o+l.length<=r.size)(hg: ∀i,i<l.length->r.get (o+i)=l.getD i .unk):Src H (.slice b o l.length c) l:=by
 intro k
 show(WY H 1 (.slice b o l.length c) l.length λnew=>k l.length new)=_
 unfold WY
 rw[YZ]
 by_cases h0:l.length=0
 ·rw[Zi h0]
  have:l=[]:=XH.1 h0
  subst this;rfl
 ·rw[Ze h0]
  unfold XA
  simp only[hr,cond_false,XM]
  show Yb (Nat.ble (o+l.length*1) r.size) (k l.length (W9 r o (l.length*1)))=_
  rw[XM,Zj hf]
  have:W9 r o l.length=l:=by
   refine XP λj=>?_
   by_cases hj:j<l.length
   ·rw[TZ r _ o j hj,hg j hj,Zh,Zp hj];rfl
   ·rw[Y5 (by rw[TB];omega),Y5 (by omega)]
  rw[this];rfl
theorem O6{H:Heap}{e bytes:Nat}{a v:AV}{l:List AV}(hb:1<=bytes)(h:Src H v l):TP e 1 bytes a v H=PS a e 1 bytes H l.length l:=by
 show Yb (Nat.ble 1 1) (Yb (Nat.ble 1 bytes) _)=_
 rw[Zj hb]
 exact h λn new=>PS a e 1 bytes H n new
theorem yu{e:Nat}{H:Heap}{l:List AV}(h0:0<l.length)(hl:l.length<=140737488355328):PS .nils e 1 1 H l.length l=.val (.slice H.nx 0 l.length none) (H.newRow e 1 l false):=by
 show cond (Nat.beq l.length 0) _ (Yb (Nat.ble (l.length*1) 140737488355328) _)=_
 rw[YZ,Ze (by omega),XM,Zj hl];rfl
structure ZgA(H:Heap)(b e:Nat)(l:List AV)(r:Row):Prop extends Own H b e l r where
 exact_:r.exact=false
 low:b<H.nx
section
variable {P:Program}
theorem iF(s:List UInt8):same (.str s) (.str s)=true:=by
 unfold same;rw[S9];simp
theorem uc(s:List UInt8)(n:Nat)(t:T Obj):Um (.val (.str s) ⟨n,t,n⟩) (.str s) n=true:=Td _ _ _ (iF s)
theorem Z8(b o n:Nat)(c:Option Nat)(k:Nat)(t:T Obj):Um (.val (.slice b o n c) ⟨k,t,k⟩) (.slice b o n c) k=true:=Td _ _ _ (by
 unfold same
 rw[Xu,Xu,Xu]
 cases c with
 |none=>rfl
 |some x=>show Nat.beq x x=true;exact Xu x)
theorem Qg(n:Nat)(t:T Obj):Um (.val .nils ⟨n,t,n⟩) .nils n=true:=Td _ _ _ (by unfold same;rfl)
variable (ds:List Yh) (f:Vu) (e:YF) (b:Bool) (os:List (Yh×YF)) (dst:Yh) (i bef:Nat) (nx:PK) (c:Ctx) (rs:List RD) (tm:TM) (H:Heap) (x:X)
theorem wR:Su ds ⟨f,some (e,b),os,dst,.free,i,bef⟩ nx c rs tm H x=UY (e tm) b (cond (Rp H.nx tm os) (M2 ⟨f,some (e,b),os,dst,.free,i,bef⟩ nx rs tm H x (f (R0 tm os) ⟨H.nx,.leaf,H.nx⟩)) .fail) (nx rs (dst tm XL) H x):=rfl
theorem wS:Su ds ⟨f,some (e,b),os,dst,.read,i,bef⟩ nx c rs tm H x=UY (e tm) b (Is ⟨f,some (e,b),os,dst,.read,i,bef⟩ nx rs tm H x (f (R0 tm os) ⟨H.nx,H.t,H.nx⟩)) (nx rs (dst tm XL) H x):=rfl
theorem tC:Su ds ⟨f,some (e,b),os,dst,.eff,i,bef⟩ nx c rs tm H x=cond (still tm H rs) (UY (e tm) b (JK ds ⟨f,some (e,b),os,dst,.eff,i,bef⟩ nx rs c tm x (f (R0 tm os) H)) (nx (UU bef rs) (dst tm XL) H x)) .fail:=rfl
theorem qM(g:Option (YF×Bool))(kd:Js)(v:AV)(o:Obj)(hw:wrO o=true):M2 ⟨f,g,os,dst,kd,i,bef⟩ nx rs tm H x (.val v ((⟨H.nx,.leaf,H.nx⟩:Heap).new o))=nx rs (dst tm v) (H.new o) x:=by
 show cond (Nat.beq (H.nx+1) H.nx) _ (cond (Nat.beq (H.nx+1) (Nat.succ H.nx)) (jL (((T.leaf:T Obj).set H.nx o).get H.nx) λo=>nx rs (dst tm v) (H.new o) x) .fail)=_
 rw[YZ,Ze (by omega),YZ,Zi rfl,T.get_set,if_pos rfl]
 show cond (wrO o) _ _=_
 rw[hw];rfl
end
theorem CV{lib:Nat->List AV->Heap->Option CR}{fs:T CF}{fuel n f:Nat}{args:List AV}{H:Heap}{r:CR}(h:lib f args H=some r):Z7 lib fs fuel (n+1) f args H=r:=by
 show rl (lib f args H) _=_
 rw[h];rfl
section
variable {P:Program}
theorem dB{call:Nat->List AV->Heap->CR}(hcall:Sa P call){f:FuncId}{args:List AV}{H H':Heap}{v:AV}(hrun:call f args H=.ret v H')(k:ZK H H' [])(hlow:WC 0 v=true)
  {σ:Mp}{w:World}{vs:List Value}(hs:WL P σ H w)(hv:Xj σ args vs):N0 P σ H w (.ret v H) ((callFunc f ⟨vs⟩).run P w):=by
 have hcr:=hcall f _ H σ w vs hs hv
 rw[hrun] at hcr
 refine Ends.mono (λu' w' hx=>?_) (λ_ _ hx=>hx) hcr
 obtain⟨σ2,h1,t⟩:=hx
 refine⟨σ,?_,t.drop hs λb hb=>k.get b hb (by simp)⟩
 exact(YU.cut hlow h1).mono λy _ hy=>by have:=(Mp.cut_some hy).1;omega
end
noncomputable def rk(a:AV)(H:Heap):OR:=PL a λs=>TX (Xa s) λn=>.val (.int .i64 (.ofNat n)) H
theorem p7(x:YF)(tm:TM)(H:Heap):Wc x tm H=rk (x tm) H:=rfl
theorem ZP(s:List UInt8)(H:Heap):rk (.str s) H=.val (nI .i64 s.length) H:=by
 show TX (Xa s) (λn=>OR.val (.int .i64 (.ofNat n)) H)=_
 rw[Rf,Y6];rfl
noncomputable def Md(a i:AV)(H:Heap):OR:=T8 i λi=>PL a λs=>TK (xJ s i) λb=>TX b.toNat λn=>.val (.int .u8 (.ofNat n)) H
theorem xP(x y:YF)(tm:TM)(H:Heap):XR x y tm H=Md (x tm) (y tm) H:=rfl
theorem Me{s:List UInt8}{i:Nat}(h:i<s.length)(k:IntKind)(H:Heap):Md (.str s) (nI k i) H=.val (Vf (s.getD i 0)) H:=by
 show TK (xJ s i) _=_
 rw[zL,Zp h]
 show TX s[i].toNat (λn=>OR.val (.int .u8 (.ofNat n)) H)=_
 rw[Rf,Zh,Zp h];rfl
noncomputable def Ji(a:AV)(lo hi:Option AV)(H:Heap):OR:=PL a λs=>PU hi (Xa s) (Xa s) λh=>PU lo 0 h λl=>.val (.str (Kt l (ME h s))) H
theorem Dp(x:YF)(lo hi:Option YF)(tm:TM)(H:Heap):W1 x lo hi none tm H=Ji (x tm) (lo.map λf=>f tm) (hi.map λf=>f tm) H:=by
 cases lo<;>cases hi<;>rfl
theorem Yd{s:List UInt8}{n:Nat}(h:n<=s.length)(k:IntKind)(H:Heap):Ji (.str s) none (some (nI k n)) H=.val (.str (s.take n)) H:=by
 show Yb (Nat.ble n (Xa s)) (OR.val (.str (Kt 0 (ME n s))) H)=_
 rw[Y6,Zj h,OP];rfl
theorem Nz{a b:List UInt8}(h:a.length+b.length<=4611686018427387904)(H:Heap):SG (.str a) (.str b) H=.val (.str (a++b)) H:=by
 show Yb (Nat.ble (Nat.add (Xa a) (Xa b)) 4611686018427387904) _=_
 rw[Y6,Y6,Zj (show Nat.add a.length b.length<=_ from h)];rfl
theorem YM(a b:List UInt8)(H:Heap):ND Mw false (.str a) (.str b) H=.val (.bool (decide (a=b))) H:=by
 show SF (LU a b) H=_
 rw[T3,S9]
 congr 2
 by_cases h:a=b<;>simp[h]
theorem Y7(a b:List UInt8)(H:Heap):ND Mw true (.str a) (.str b) H=.val (.bool (!decide (a=b))) H:=by
 show SF (cond (LU a b) false true) H=_
 rw[T3,S9]
 congr 2
 by_cases h:a=b<;>simp[h]
structure Below(n:Nat)(H H':Heap):Prop where
 nx:H.nx<=H'.nx
 ro:H'.ro=H.ro
 get: ∀c,c<n->c<H.nx->H'.t.get c=H.t.get c
theorem Below.refl(n:Nat)(H:Heap):Below n H H:=⟨Zz _,rfl,λ_ _ _=>rfl⟩
theorem Below.trans{n:Nat}{H H' H'':Heap}(a:Below n H H')(b:Below n H' H''):Below n H H'':=
 ⟨YR a.nx b.nx,b.ro.trans a.ro,λc h1 h2=>(b.get c h1 (Yk h2 a.nx)).trans (a.get c h1 h2)⟩
theorem Below.put{n b:Nat}{H:Heap}{o:Obj}(h:n<=b):Below n H (H.put b o):=⟨Zz _,rfl,λc h1 _=>by rw[Mj,if_neg (by omega)]⟩
theorem Below.new(n:Nat)(H:Heap)(o:Obj):Below n H (H.new o):=⟨Vr _,rfl,λc _ h2=>by rw[Nh,if_neg (by omega)]⟩
theorem Below.mono{n m:Nat}{H H':Heap}(a:Below n H H')(h:m<=n):Below m H H':=⟨a.nx,a.ro,λc h1 h2=>a.get c (by omega) h2⟩
theorem ZK.below{H0 H H':Heap}{n:Nat}(k:ZK H0 H [])(b:Below n H H')(h:H0.nx<=n):ZK H0 H' []:=
 ⟨YR k.nx b.nx,b.ro.trans k.ro,λc h1 h2=>(b.get c (by omega) (Yk h1 k.nx)).trans (k.get c h1 h2)⟩
def ZgV(H:Heap)(v:AV)(l:List UInt8)(lo:Nat):Prop:= ∃b r,v=.slice b 0 l.length none∧ZgA H b 5 (l.map Vf) r∧lo<=b
def Buf(H:Heap)(v:AV)(l:List UInt8)(lo:Nat):Prop:=(l=[]∧v=.nils)∨(l≠[]∧ZgV H v l lo)
theorem Buf.below{H H':Heap}{v:AV}{l:List UInt8}{lo:Nat}(h:Buf H v l lo)(hp: ∀c,lo<=c->c<H.nx->H'.t.get c=H.t.get c)(hro:H'.ro=H.ro)(hnx:H.nx<=H'.nx):Buf H' v l lo:=by
 rcases h with h|⟨hne,b,r,rfl,g,hb⟩
 ·exact .inl h
 ·exact .inr ⟨hne,b,r,rfl,⟨⟨by rw[hp b hb g.low];exact g.at_,g.elem,g.sz,g.own,g.fz,g.sm,g.cells,by rw[hro];exact g.ro⟩,g.exact_,Yk g.low hnx⟩,hb⟩
theorem ZM(k:IntKind)(a b:Nat)(H:Heap):Tl Tq Vn (nI k a) (nI k b) H=.val (.bool (decide (b<a))) H:=by
 show Yb (PR k k) (SF (xk (.ofNat b) (.ofNat a)) H)=_
 rw[Wb,T3,L1];rfl
theorem ZO(k:IntKind)(a b:Nat)(H:Heap):Tl QV TN (nI k a) (nI k b) H=.val (.bool (decide (a<=b))) H:=by
 show Yb (PR k k) (SF (!xk (.ofNat b) (.ofNat a)) H)=_
 rw[Wb,T3,L1]
 show OR.val (.bool (!decide (b<a))) H=_
 congr 2
 by_cases h:b<a
 ·rw[Zi h,Ze (by omega)];rfl
 ·rw[Ze h,Zi (by omega)];rfl
theorem cX(b c:AV)(H:Heap):B2 (.bool true) b c H=.val b H:=rfl
theorem cW(b c:AV)(H:Heap):B2 (.bool false) b c H=.val c H:=rfl
theorem Zci(b:Bool)(H:Heap):cd (.bool b) H=.val (.bool (cond b false true)) H:=rfl
theorem kW(n:Nat)(l:List AV):WC n (.agg l)=Rv n l:=rfl
theorem uv(n:Nat):WC n XL=true:=rfl
theorem kY(n:Nat)(s:List UInt8):WC n (.str s)=true:=rfl
noncomputable def pO(mx:Bool)(l:List AV)(H:Heap):OR:=match l with
 |.int k a::l=>min2 mx k a H l
 |_=>.fail
theorem SY(mx:Bool)(args:List YF)(tm:TM)(H:Heap):Si mx args tm H=pO mx (evs tm args) H:=rfl
theorem NN(a b:Nat)(H:Heap):pO false [nI .i64 a,nI .i64 b] H=.val (nI .i64 (min a b)) H:=by
 show Yb (PR .i64 .i64) (min2 false .i64 (cond (cond false (xk (.ofNat a) (.ofNat b)) (xk (.ofNat b) (.ofNat a))) (.ofNat b) (.ofNat a)) H [])=_
 rw[Wb,L1,L1]
 show OR.val (.int .i64 (cond (decide (b<a)) (.ofNat b) (.ofNat a))) H=_
 by_cases h:b<a
 ·rw[Zi h,So (by omega)];rfl
 ·rw[Ze h,WR (by omega)];rfl
noncomputable def GH(i:Nat)(a:AV)(H:Heap):OR:=rO a λvs=>TK (Ib vs i) λv=>.val v H
theorem pX(x:YF)(i:Nat)(tm:TM)(H:Heap):Xw x i tm H=GH i (x tm) H:=rfl
theorem fZ(a:AV)(l:List AV)(H:Heap):GH 0 (.tup (a::l)) H=.val a H:=rfl
theorem eh(a b:AV)(l:List AV)(H:Heap):GH 1 (.tup (a::b::l)) H=.val b H:=rfl
theorem ek(a b c:AV)(l:List AV)(H:Heap):GH 2 (.tup (a::b::c::l)) H=.val c H:=rfl
theorem fV(a b:Bool)(H:Heap):ND nN false (.bool a) (.bool b) H=.val (.bool (decide (a=b))) H:=by cases a<;>cases b<;>rfl
theorem Pk(a:TM->Heap->X->WQ)(n:Nat)(tm:TM)(H:Heap)(x:X):Ue a (n+1) tm H x=Q2 (a tm H x) (Ue a n):=rfl
noncomputable def Zad(a:AV)(H:Heap):OR:=match a with
 |.nilp=>.val .nilp H
 |.ptr b o=>XA H b λr=>Yb (Nat.ble (Nat.succ o) r.size) (.val (.ptr b o) H)
 |_=>.fail
theorem od(x:YF)(tm:TM)(H:Heap):BY x tm H=Zad (x tm) H:=rfl
noncomputable def Zac(u n:Nat)(a:AV)(H:Heap):OR:=match a with
 |.nilp=>.val .nilp H
 |.ptr b o=>XA H b λr=>Yb r.exact (Yb (Nat.beq r.elem u) (Yb (Nat.beq o 0) (Yb (Nat.ble n r.size) (.val (.ptr b o) H))))
 |_=>.fail
theorem oa(x:YF)(u n:Nat)(tm:TM)(H:Heap):BX x u n tm H=Zac u n (x tm) H:=rfl
noncomputable def qc(a:AV)(H:Heap):OR:=TD a (.val .nilp H) λb o _ cap=>Option.rec (XA H b λr=>Yb (Nat.ble (Nat.succ o) r.size) (.val (.ptr b o) H)) (λc=>Yb (Nat.ble 1 c) (.val (.ptr b o) H)) cap
theorem xU(x:YF)(tm:TM)(H:Heap):F1 x tm H=qc (x tm) H:=rfl
noncomputable def ZaE(e:Nat)(a n:AV)(H:Heap):OR:=T8 n λn=>cond (Nat.beq n 0) (match a with|.nilp=>.val (.str []) H|.ptr .. =>.val (.str []) H|_=>.fail)
 (Yb (Nat.ble n 140737488355328)<|Rq a λb o=>XA H b λr=>Yb (Nat.beq r.elem e)<|Yb (cond r.sm false (H.may r b)) (Yb (Nat.ble (Nat.add o n) r.size) (Pu (λs=>.val (.str s)
  (H.put b (.row ⟨r.elem,r.sz,r.size,r.cells,r.dflt,cond (Nat.ble r.fz (Nat.add o n)) (Nat.add o n) r.fz,r.sm,r.own,r.exact⟩))) (W9 r o n))))
theorem oe(x y:YF)(e:Nat)(tm:TM)(H:Heap):rI x y e tm H=ZaE e (x tm) (y tm) H:=rfl
theorem DZ: ∀(l:List UInt8) (k:List UInt8->OR),Pu k (l.map Vf)=k l
 |[],k=>rfl
 |x::l,k=>by
  show Pu (λs=>k (UInt8.ofNat x.toNat::s)) (l.map Vf)=_
  rw[DZ l]
  simp
namespace T
variable {α:Type}
theorem Jh(x:α)(l:T α)(v:Option α)(r:T α)(bs:List Bool):setB x (node l v r) (true::bs)=node (setB x l bs) v r:=rfl
theorem Jg(x:α)(l:T α)(v:Option α)(r:T α)(bs:List Bool):setB x (node l v r) (false::bs)=node l v (setB x r bs):=rfl
theorem Ac(x:α)(bs:List Bool):setB x leaf bs=single x bs:=rfl
theorem wz(x:α)(bs:List Bool):single x (true::bs)=node (single x bs) none leaf:=rfl
theorem wx(x:α)(bs:List Bool):single x (false::bs)=node leaf none (single x bs):=rfl
theorem LM(x y:α): ∀bs:List Bool,setB y (single x bs) bs=single y bs
 |[]=>rfl
 |true::bs=>by rw[wz,Jh,LM x y bs,wz]
 |false::bs=>by rw[wx,Jg,LM x y bs,wx]
theorem Ga(x y:α): ∀(t:T α) (bs:List Bool),setB y (setB x t bs) bs=setB y t bs
 |leaf,bs=>by rw[Ac,LM,Ac]
 |node l v r,[]=>rfl
 |node l v r,true::bs=>by rw[Jh,Jh,Jh,Ga x y l bs]
 |node l v r,false::bs=>by rw[Jg,Jg,Jg,Ga x y r bs]
theorem set_set(t:T α)(n:Nat)(x y:α):(t.set n x).set n y=t.set n y:=Ga x y t (bits n)
theorem RZ(a b:α)(l:List α):U7 (a::b::l)=a::U7 l:=by simp[U7]
theorem Ds: ∀(l:List α) (i:Nat) (v:α),U7 (l.set (2*i) v)=(U7 l).set i v
 |[],_,_=>by simp[U7]
 |[a],0,_=>by simp[U7]
 |[a],i+1,v=>by
  rw[show 2*(i+1)=2*i+1+1 by omega];simp[U7]
 |a::b::l,0,v=>by simp[U7]
 |a::b::l,i+1,v=>by
  rw[show 2*(i+1)=2*i+1+1 by omega,UG,UG,RZ,RZ,Ds l i v,UG]
theorem Mh: ∀(l:List α) (i:Nat) (v:α),U7 (l.set (2*i+1) v)=U7 l
 |[],_,_=>by simp[U7]
 |[a],i,_=>by simp[U7]
 |a::b::l,0,v=>by simp[U7]
 |a::b::l,i+1,v=>by
  rw[show 2*(i+1)+1=(2*i+1)+1+1 by omega,UG,UG,RZ,RZ,Mh l i v]
theorem wZ(l:List α)(i:Nat)(v:α):(l.set (i+1) v).tail=l.tail.set i v:=by cases l<;>rfl
theorem nr(l:List α)(v:α):(l.set 0 v).tail=l.tail:=by cases l<;>rfl
theorem Ss(l:List α):(U7 l).length=(l.length+1)/2:=by
 have: ∀(n:Nat) (l:List α),l.length<=n->(U7 l).length=(l.length+1)/2:=by
  intro n
  induction n with
  |zero=>intro l h;cases l with|nil=>simp[U7]|cons=>simp at h
  |succ n ih=>
   intro l h
   match l,h with
   |[],_=>simp[U7]
   |[a],_=>simp[U7]
   |a::b::l,h=>
    rw[RZ,Zl,ih l (by simp at h;omega)]
    simp only[Zl];omega
 exact this _ l (Zz _)
theorem Rj(f:Nat)(x:α)(l:List α):TC (f+1) (x::l)=node (TC f (U7 l)) (some x) (TC f (U7 l.tail)):=rfl
theorem wu: ∀(f:Nat) (l:List α) (i:Nat) (v:α),l.length<=f->i<l.length->(TC f l).set i v=TC f (l.set i v):=by
 intro f
 induction f with
 |zero=>intro l i v h hi;omega
 |succ f ih=>
  intro l i v h hi
  cases l with
  |nil=>cases hi
  |cons x l=>
   rw[Rj]
   by_cases h0:i=0
   ·subst h0;rfl
   ·obtain⟨j,rfl⟩: ∃j,i=j+1:=⟨i - 1,by omega⟩
    rw[UG,Rj]
    simp only[Zl] at h hi
    unfold set
    by_cases h1:(j+1) % 2=1
    ·obtain⟨m,rfl⟩: ∃m,j=2*m:=⟨j/2,by omega⟩
     rw[El h1,Jh,show(2*m+1)/2=m by omega]
     have:=ih (U7 l) m v (by rw[Ss];omega) (by rw[Ss];omega)
     unfold set at this
     rw[this,Ds]
     cases m with
     |zero=>rw[nr]
     |succ m=>rw[show 2*(m+1)=2*m+1+1 by omega,wZ,Mh]
    ·obtain⟨m,rfl⟩: ∃m,j=2*m+1:=⟨j/2,by omega⟩
     rw[I2 (by omega) (by omega),Jg,show(2*m+1+1)/2 - 1=m by omega]
     have:=ih (U7 l.tail) m v (by rw[Ss,U6];omega) (by rw[Ss,U6];omega)
     unfold set at this
     rw[this,Mh,wZ,Ds]
theorem zQ: ∀(f g:Nat) (l:List α),l.length<=f->l.length<=g->TC f l=TC g l:=by
 intro f
 induction f with
 |zero=>
  intro g l h _
  have:l=[]:=XH.1 (by omega)
  subst this
  cases g<;>rfl
 |succ f ih=>
  intro g l h hg
  cases l with
  |nil=>cases g<;>rfl
  |cons x l=>
   cases g with
   |zero=>simp at hg
   |succ g=>
    simp only[Zl] at h hg
    rw[Rj,Rj,ih g (U7 l) (by rw[Ss];omega) (by rw[Ss];omega),ih g (U7 l.tail) (by rw[Ss,U6];omega) (by rw[Ss,U6];omega)]
theorem NS: ∀(l:List α) (v:α),U7 (l++[v])=if l.length % 2=0 then U7 l++[v] else U7 l
 |[],v=>by simp[U7]
 |[a],v=>by simp[U7]
 |a::b::l,v=>by
  rw[WU,WU,RZ,RZ,NS l v]
  simp only[Zl,show(l.length+1+1) % 2=l.length % 2 by omega]
  split<;>rfl
theorem zX: ∀(f:Nat) (l:List α) (v:α),l.length<f->(TC f l).set l.length v=TC f (l++[v]):=by
 intro f
 induction f with
 |zero=>intro l v h;cases h
 |succ f ih=>
  intro l v h
  cases l with
  |nil=>
   cases f<;>rfl
  |cons x l=>
   rw[WU,Rj,Rj]
   simp only[Zl] at h ⊢
   unfold set
   by_cases h1:(l.length+1) % 2=1
   ·rw[El h1,Jh,show(l.length+1)/2=(U7 l).length by rw[Ss]]
    have:=ih (U7 l) v (by rw[Ss];omega)
    unfold set at this
    rw[this,NS,if_pos (by omega)]
    cases l with
    |nil=>rfl
    |cons y l=>
     simp only[Zl] at h1
     rw[WU,List.tail_cons,List.tail_cons,NS,if_neg (by omega)]
   ·have h2:l≠[]:=by intro e;subst e;simp at h1
    rw[I2 (by omega) (by omega),Jg,show(l.length+1)/2 - 1=(U7 l.tail).length by rw[Ss,U6];have:=Sb.2 h2;omega]
    have:=ih (U7 l.tail) v (by rw[Ss,U6];have:=Sb.2 h2;omega)
    unfold set at this
    rw[this,NS l v,if_neg (by omega)]
    cases l with
    |nil=>exact absurd rfl h2
    |cons y l=>
     simp only[Zl] at h1
     rw[WU,List.tail_cons,List.tail_cons,NS,if_pos (by omega)]
theorem set_ofList{l:List α}{i:Nat}(v:α)(h:i<l.length):(ofList l).set i v=ofList (l.set i v):=by
 unfold ofList
 rw[J4,J4,Wx]
 exact wu _ l i v (Zz _) h
theorem push_ofList(l:List α)(v:α):(ofList l).set l.length v=ofList (l++[v]):=by
 unfold ofList
 rw[J4,J4,zQ l.length (l.length+1) l (Zz _) (Vr _),zX _ l v (YP _)]
 simp
end T
def lay(l:List AV):Nat->List AV->List AV
 |_,[]=>l
 |o,v::vs=>lay (l.set o v) (o+1) vs
theorem zp: ∀(l:List AV) (o:Nat) (vs:List AV),(lay l o vs).length=l.length
 |_,_,[]=>rfl
 |l,o,v::vs=>by
  show(lay (l.set o v) (o+1) vs).length=_
  rw[zp,Wx]
theorem DU: ∀(l:List AV) (o:Nat) (vs:List AV),o+vs.length<=l.length->WO (T.ofList l) o vs=T.ofList (lay l o vs)
 |_,_,[],_=>rfl
 |l,o,v::vs,h=>by
  simp only[Zl] at h
  show WO ((T.ofList l).set o v) (o+1) vs=T.ofList (lay (l.set o v) (o+1) vs)
  rw[T.set_ofList v (by omega),DU (l.set o v) (o+1) vs (by rw[Wx];omega)]
theorem Ft: ∀(l:List AV) (vs:List AV),WO (T.ofList l) l.length vs=T.ofList (l++vs)
 |l,[]=>by rw[Zo];rfl
 |l,v::vs=>by
  show WO ((T.ofList l).set l.length v) (l.length+1) vs=_
  rw[T.push_ofList]
  have:=Ft (l++[v]) vs
  rw[Zk] at this
  rw[show l.length+1=l.length+[v].length from rfl,this,Xd];rfl
theorem zn: ∀(l:List AV) (o:Nat) (vs:List AV),o+vs.length<=l.length->lay l o vs=l.take o++(vs++l.drop (o+vs.length))
 |l,o,[],h=>by show l=_;simp
 |l,o,v::vs,h=>by
  simp only[Zl] at h
  show lay (l.set o v) (o+1) vs=_
  rw[zn (l.set o v) (o+1) vs (by rw[Wx];omega),List.set_eq_take_append_cons_drop,if_pos (by omega)]
  have e1:(l.take o++v::l.drop (o+1)).take (o+1)=l.take o++[v]:=by
   rw[List.take_append,Y1 (by rw[Z2];omega),Z2,WR (by omega),show o+1 - o=1 by omega];rfl
  have e2:(l.take o++v::l.drop (o+1)).drop (o+1+vs.length)=l.drop (o+(v::vs).length):=by
   rw[List.drop_append,UP (by rw[Z2];omega),Zn,Z2,WR (by omega),show o+1+vs.length - o=vs.length+1 by omega,Zs,TS,Zl]
   congr 1;omega
  rw[e1,e2];simp
section
def rG(e sz:Nat)(l:List AV)(fz:Nat)(sm own ex:Bool):Obj:=.row ⟨e,sz,Xa l,T.ofList l,.unk,fz,sm,own,ex⟩
theorem DD(e sz:Nat)(l:List AV)(fz:Nat)(sm own ex:Bool)(i:Nat):Row.get ⟨e,sz,Xa l,T.ofList l,.unk,fz,sm,own,ex⟩ i=l.getD i .unk:=by
 rw[Row.get_eq]
 show((T.ofList l).get i).getD .unk=_
 rw[T.get_ofList,Zh]
theorem LG(e sz:Nat)(l:List AV)(fz:Nat)(sm own ex:Bool):Cells ⟨e,sz,Xa l,T.ofList l,.unk,fz,sm,own,ex⟩ l:=Cells.new ..
def ld1(x:Option Obj)(o:Nat)(H:Heap):OR:=match x with|some (.row r)=>Yb (Nat.ble (Nat.succ o) r.size) (.val (r.get o) H)|_=>.fail
theorem BM(b o:Nat)(H:Heap):HE (.ptr b o) H=ld1 (H.t.get b) o H:=rfl
theorem Un{o:Nat}{l:List AV}(h:o<l.length)(e sz fz:Nat)(sm own ex:Bool)(H:Heap):ld1 (some (rG e sz l fz sm own ex)) o H=.val (l.getD o .unk) H:=by
 show Yb (Nat.ble (Nat.succ o) (Xa l)) (.val (Row.get ⟨e,sz,Xa l,T.ofList l,.unk,fz,sm,own,ex⟩ o) H)=_
 rw[Y6,Zj (show Nat.succ o<=l.length from h)]
 show OR.val (Row.get ⟨e,sz,l.length,T.ofList l,.unk,fz,sm,own,ex⟩ o) H=_
 rw[<-Y6,DD]
def zq(n:Nat)(x:Option Obj)(o:Nat)(H:Heap):OR:=match x with|some (.row r)=>Yb (Nat.ble (Nat.add o n) r.size) (.val (.agg (W9 r o n)) H)|_=>.fail
theorem kU(n b o:Nat)(H:Heap):BN n (.ptr b o) H=zq n (H.t.get b) o H:=rfl
theorem TJ{n o:Nat}{l:List AV}(h:o+n<=l.length)(e sz fz:Nat)(sm own ex:Bool)(H:Heap):zq n (some (rG e sz l fz sm own ex)) o H=.val (.agg ((l.drop o).take n)) H:=by
 show Yb (Nat.ble (o+n) (Xa l)) (.val (.agg (W9 ⟨e,sz,Xa l,T.ofList l,.unk,fz,sm,own,ex⟩ o n)) H)=_
 rw[(LG e sz l fz sm own ex).load h,Y6,Zj h];rfl
def CC(n:Nat)(x:Option Obj)(b o:Nat)(v:AV)(H:Heap):OR:=match x with
 |some (.row r)=>Yb (Nat.ble 1 n)<|Yb (H.may r b) (Yb (Nat.ble (Nat.add o n) r.size) (Yb (Nat.ble r.fz o) (Yb (Nat.beq (Xa v.cells) n) (.val XL (H.put b (.row (r.setCells (WO r.cells o v.cells))))))))
 |_=>.fail
theorem nj(n b o:Nat)(v:AV)(H:Heap):yg n (.ptr b o) v H=CC n (H.t.get b) b o v H:=rfl
theorem i7{n b o:Nat}{l:List AV}{v:AV}{H:Heap}{fz:Nat}(hn:1<=n)(hv:v.cells.length=n)(ho:o+n<=l.length)(hro:H.ro<=b)(hfz:fz<=o)(e sz:Nat)(sm ex:Bool):
  CC n (some (rG e sz l fz sm true ex)) b o v H=.val XL (H.put b (rG e sz (lay l o v.cells) fz sm true ex)):=by
 show Yb (Nat.ble 1 n) (Yb (cond true (Nat.ble H.ro b) false) (Yb (Nat.ble (o+n) (Xa l)) (Yb (Nat.ble fz o) (Yb (Nat.beq (Xa v.cells) n) (.val XL (H.put b (.row ⟨e,sz,Xa l,WO (T.ofList l) o v.cells,.unk,fz,sm,true,ex⟩)))))))=_
 rw[Zj hn,Zj hro,Y6,Zj ho,Zj hfz,Y6,hv,Xu,DU l o v.cells (by omega)]
 unfold rG
 rw[Y6,zp];rfl
theorem SE{b o:Nat}{l:List AV}{v:AV}{H:Heap}{fz:Nat}(hv:v.cells=[v])(ho:o<l.length)(hro:H.ro<=b)(hfz:fz<=o)(e sz:Nat)(sm ex:Bool):
  CC 1 (some (rG e sz l fz sm true ex)) b o v H=.val XL (H.put b (rG e sz (l.set o v) fz sm true ex)):=by
 rw[i7 (Zz 1) (by rw[hv];rfl) ho hro hfz,hv];rfl
theorem Xv(H:Heap)(b:Nat)(o:Obj):(H.put b o).t.get b=some o:=by rw[Mj,if_pos rfl]
theorem RW{b c:Nat}(h: ¬b=c)(H:Heap)(o:Obj):(H.put b o).t.get c=H.t.get c:=by rw[Mj,if_neg h]
theorem YD{H:Heap}{c:Nat}(h:H.nx=c)(o:Obj):(H.new o).t.get c=some o:=by rw[Nh,if_pos h]
theorem Pb{H:Heap}{c:Nat}(h: ¬H.nx=c)(o:Obj):(H.new o).t.get c=H.t.get c:=by rw[Nh,if_neg h]
theorem bf(H:Heap)(b:Nat)(o o':Obj):(H.put b o).put b o'=H.put b o':=by
 unfold Heap.put;simp only[T.set_set]
theorem SC{H:Heap}{b:Nat}(h:H.nx=b)(o o':Obj):(H.new o).put b o'=H.new o':=by
 subst h;unfold Heap.put Heap.new;simp only[T.set_set]
theorem Yw(H:Heap)(e sz:Nat)(l:List AV)(ex:Bool):H.newRow e sz l ex=H.new (rG e sz l 0 false true ex):=rfl
theorem xL(e:Nat)(c:AV)(cs:List AV)(tm:TM)(H:Heap):V9 e (c::cs) tm H=.val (.ptr H.nx 0) (H.new (rG e 1 (c::cs) 0 false true true)):=by
 rw[Dl _ _ (by rw[Y6];simp)];rfl
def N2(e:Nat)(a:AV)(H:Heap):OR:=Yb (Nat.ble 1 (Xa a.cells))<|.val (.ptr H.nx 0) (H.newRow e 1 a.cells true)
theorem Us(x:YF)(e:Nat)(tm:TM)(H:Heap):Ko x e tm H=N2 e (x tm) H:=rfl
theorem ss{a:AV}{l:List AV}(h:a.cells=l)(h1:1<=l.length)(e:Nat)(H:Heap):N2 e a H=.val (.ptr H.nx 0) (H.new (rG e 1 l 0 false true true)):=by
 subst h
 show Yb (Nat.ble 1 (Xa a.cells)) _=_
 rw[Y6,Zj h1];rfl
theorem vE(l:List AV):(AV.agg l).cells=l:=rfl
theorem Vx{l:List AV}(h1:1<=l.length)(e:Nat)(H:Heap):N2 e (.agg l) H=.val (.ptr H.nx 0) (H.new (rG e 1 l 0 false true true)):=ss (vE l) h1 e H
theorem yA{a:AV}(h:a.cells=[a])(e:Nat)(H:Heap):N2 e a H=.val (.ptr H.nx 0) (H.new (rG e 1 [a] 0 false true true)):=ss h (Zz 1) e H
theorem Ex(b:Bool):(AV.bool b).cells=[.bool b]:=rfl
theorem Yy(k:IntKind)(n:Int):(AV.int k n).cells=[.int k n]:=rfl
theorem yK(k:IntKind)(n:Nat):(nI k n).cells=[nI k n]:=rfl
theorem C0(x:UInt8):(Vf x).cells=[Vf x]:=rfl
theorem CZ(s:List UInt8):(AV.str s).cells=[.str s]:=rfl
theorem EA:AV.nilp.cells=[.nilp]:=rfl
theorem CY(b o:Nat):(AV.ptr b o).cells=[.ptr b o]:=rfl
theorem EB:AV.nils.cells=[.nils]:=rfl
theorem Gy(b o n:Nat)(c:Option Nat):(AV.slice b o n c).cells=[.slice b o n c]:=rfl
theorem CX(b:Nat):(AV.map b).cells=[.map b]:=rfl
theorem Ey(f:Nat)(a b:List AV):(AV.func f a b).cells=[.func f a b]:=rfl
theorem Gx(t:Nat)(v:AV):(AV.iface t v).cells=[.iface t v]:=rfl
theorem Ez:AV.nili.cells=[.nili]:=rfl
theorem CW(l:List AV):(AV.agg l).cells=l:=rfl
theorem We{a:TM->Heap->X->WQ}{x:X}(I:Nat->TM->Heap->Prop)(Q:Out->TM->Heap->Prop)
  (step: ∀m tm H,I m tm H-> ∃o tm' H',a tm H x=.ok o tm' H' x∧((o=.normal∧ ∃k,k<m∧I k tm' H')∨(o≠.normal∧Q o tm' H'))):
  ∀(F m:Nat) (tm:TM) (H:Heap),m<F->I m tm H-> ∃o tm' H',Ue a F tm H x=.ok o tm' H' x∧o≠.normal∧Q o tm' H'
 |0,m,_,_,h,_=>by omega
 |F+1,m,tm,H,h,hi=>by
  obtain⟨o,tm',H',h1,h2⟩:=step m tm H hi
  rcases h2 with⟨rfl,k,hk,h3⟩|⟨h2,h3⟩
  ·obtain⟨o2,tm2,H2,e,h4,h5⟩:=We I Q step F k tm' H' (by omega) h3
   refine⟨o2,tm2,H2,?_,h4,h5⟩
   show Q2 (a tm H x) (Ue a F)=_
   rw[h1];exact e
  ·refine⟨o,tm',H',?_,h2,h3⟩
   show Q2 (a tm H x) (Ue a F)=_
   rw[h1]
   cases o with
   |normal=>exact absurd rfl h2
   |_=>rfl
theorem XZ{a:TM->Heap->X->WQ}{F:Nat}{H:Heap}{x:X}{L:WQ}{P:TM->Prop}{Q:Out->TM->Heap->Prop}(lp: ∀T,P T-> ∃o tm' H',Ue a F T H x=.ok o tm' H' x∧o≠.normal∧Q o tm' H'){T:TM}(hL:Ue a F T H x=L)(hi:P T):
  ∃o tm' H',L=.ok o tm' H' x∧o≠.normal∧Q o tm' H':=by
 obtain⟨o,b,c,e,j⟩:=lp T hi
 exact⟨o,b,c,hL.symm.trans e,j⟩
end
theorem Z9:(∀(f:Vu) (dst:Yh) (next:D) (c:Ctx) (tm:TM) (H:Heap) (x:X),Za f dst next c tm H x=Pz (next c) dst c tm H x (f tm H))∧(∀(next:TM->Heap->X->WQ) (dst:Yh) (c:Ctx) (tm:TM) (H:Heap) (x:X) (v:AV) (H':Heap),Pz next dst c tm H x (.val v H')=next (dst tm v) H' x)∧(∀(next:TM->Heap->X->WQ) (dst:Yh) (c:Ctx) (tm:TM) (H:Heap) (x:X) (f:Nat) (args:List AV) (H':Heap),Pz next dst c tm H x (.oth (.call f args H'))=Du next dst tm x (c.call f args H'))∧(∀(next:TM->Heap->X->WQ) (dst:Yh) (tm:TM) (x:X) (v:AV) (H:Heap),Du next dst tm x (.ret v H)=next (dst tm v) H x)∧(∀(a b:D) (c:Ctx) (tm:TM) (H:Heap) (x:X),Zg a b c tm H x=Q2 (a c tm H x) (b c))∧(∀(tm:TM) (H:Heap) (x:X) (k:TM->Heap->X->WQ),Q2 (.ok .normal tm H x) k=k tm H x)∧(∀(tm:TM) (H:Heap) (x:X) (k:TM->Heap->X->WQ),Q2 (.ok .ret tm H x) k=.ok .ret tm H x)∧(∀(i:Nat) (tm:TM) (H:Heap) (x:X) (k:TM->Heap->X->WQ),Q2 (.ok (.exit i) tm H x) k=.ok (.exit i) tm H x)∧(∀(c:Ctx) (tm:TM) (H:Heap) (x:X),Zc c tm H x=.ok .normal tm H x)∧(∀(c:Ctx) (tm:TM) (H:Heap) (x:X),YC c tm H x=.ok .ret tm H x)∧(∀(i:Nat) (c:Ctx) (tm:TM) (H:Heap) (x:X),Vs i c tm H x=.ok (.exit i) tm H x)∧(∀(q:YF) (a b:D) (c:Ctx) (tm:TM) (H:Heap) (x:X),Yi q a b c tm H x=zj (q tm) λv=>JH (a c) (b c) v tm H x)∧(∀(b:Bool) (k:Bool->WQ),zj (.bool b) k=k b)∧(∀(a b:TM->Heap->X->WQ) (tm:TM) (H:Heap) (x:X),JH a b true tm H x=a tm H x)∧(∀(a b:TM->Heap->X->WQ) (tm:TM) (H:Heap) (x:X),JH a b false tm H x=b tm H x)∧(∀(i:Nat) (a:D) (c:Ctx) (tm:TM) (H:Heap) (x:X),YW i a c tm H x=QD i (a c tm H x))∧(∀(a:D) (c:Ctx) (tm:TM) (H:Heap) (x:X),Vm a c tm H x=Ue (a c) c.fuel tm H x)∧(∀(i:Nat) (tm:TM) (H:Heap) (x:X),QD i (.ok .normal tm H x)=.ok .normal tm H x)∧(∀(i:Nat) (tm:TM) (H:Heap) (x:X),QD i (.ok (.exit i) tm H x)=.ok .normal tm H x)∧(∀(i:Nat) (tm:TM) (H:Heap) (x:X),QD i (.ok .ret tm H x)=.ok .ret tm H x)∧(∀(tm:TM) (v:AV),d0 tm v=tm)∧(∀(v:AV) (tm:TM),k v tm=v)∧(∀(tm:TM),evs tm []=[])∧(∀(tm:TM) (f:YF) (l:List YF),evs tm (f::l)=f tm::evs tm l)∧(∀(x:YF) (tm:TM) (H:Heap),Z4 x tm H=.val (x tm) H)∧(∀(x:YF) (tm:TM) (H:Heap),zP x tm H=pR (x tm) H)∧(∀(x:YF) (k:IntKind) (tm:TM) (H:Heap),Sg x k tm H=OY k (x tm) H)∧(∀(x y:YF) (tm:TM) (H:Heap),Xk x y tm H=SG (x tm) (y tm) H)∧(∀(x y:YF) (tm:TM) (H:Heap),Vv x y tm H=O3 (x tm) (y tm) H)∧(∀(x y:YF) (tm:TM) (H:Heap),PJ x y tm H=uC (x tm) (y tm) H)∧(∀(x y:YF) (tm:TM) (H:Heap),Ja x y tm H=j0 (x tm) (y tm) H)∧(∀(x y:YF) (tm:TM) (H:Heap),FE x y tm H=ii (x tm) (y tm) H)∧(∀(x y:YF) (f:Nat->Nat->Nat->Nat) (tm:TM) (H:Heap),Q0 x y f tm H=Ks f (x tm) (y tm) H)∧(∀(x y:YF) (tm:TM) (H:Heap),cu x y tm H=ZcO (x tm) (y tm) H)∧(∀(x y:YF) (tm:TM) (H:Heap),Lz x y tm H=iN (x tm) (y tm) H)∧(∀(x:YF) (tm:TM) (H:Heap),ju x tm H=ZaG (x tm) H)∧(∀(x y:YF) (f:Int->Int->Bool) (g:List UInt8->List UInt8->Bool) (tm:TM) (H:Heap),Y8 x y f g tm H=Tl f g (x tm) (y tm) H)∧(∀(x y:YF) (f:AV->AV->Option Bool) (neg:Bool) (tm:TM) (H:Heap),VD x y f neg tm H=ND f neg (x tm) (y tm) H)∧(∀(x:YF) (tm:TM) (H:Heap),Qm x tm H=cd (x tm) H)∧(∀(x y z:YF) (tm:TM) (H:Heap),Xn x y z tm H=B2 (x tm) (y tm) (z tm) H)∧(∀(f:Nat) (args:List YF) (tm:TM) (H:Heap),ZS f args tm H=.oth (.call f (evs tm args) H))∧(∀(yes no:WQ),UY (.bool true) true yes no=yes)∧(∀(yes no:WQ),UY (.bool false) true yes no=no)∧(∀(yes no:WQ),UY (.bool false) false yes no=yes)∧(∀(yes no:WQ),UY (.bool true) false yes no=no)∧(∀(g:YF) (b:Bool) (f:Vu) (dst:Yh) (next:D) (c:Ctx) (tm:TM) (H:Heap) (x:X),Ya g b f dst next c tm H x=UY (g tm) b (Pz (next c) dst c tm H x (f tm H)) (next c (dst tm XL) H x))∧(∀(n:Nat) (l:List AV),WC n (.agg l)=Rv n l)∧(∀(n:Nat),WC n XL=true)∧(∀(n:Nat) (s:List UInt8),WC n (.str s)=true)∧(∀(n:Nat) (k:IntKind) (m:Nat),WC n (nI k m)=true)∧(∀(n:Nat) (x:UInt32),WC n (Jq x)=true)∧(∀(n:Nat) (x:UInt8),WC n (Vf x)=true)∧(∀(n:Nat) (x:Bool),WC n (.bool x)=true)∧(∀(sz:Nat) (x:YF) (lo hi:Option YF) (tm:TM) (H:Heap),T0 sz x lo hi none tm H=Th sz (x tm) (lo.map λf=>f tm) (hi.map λf=>f tm) H)∧(∀(mx:Bool) (args:List YF) (tm:TM) (H:Heap),Si mx args tm H=pO mx (evs tm args) H)∧(∀(zs:List AV) (ps:List AJ) (tm:TM) (H:Heap),Vz zs ps tm H=SA zs (ps.map λp=>(p.off,p.sz,p.x tm)) H)∧(∀(e sz n:Nat) (zs:List AV) (ps:List AJ) (tm:TM) (H:Heap),VV e sz n zs ps tm H=TQ e sz n zs (ps.map λp=>(p.off,p.sz,p.x tm)) H)∧(∀(x y:YF) (e sz bytes:Nat) (tm:TM) (H:Heap),W5 x y e sz bytes tm H=TP e sz bytes (x tm) (y tm) H)∧(∀(x y:YF) (sz:Nat) (tm:TM) (H:Heap),G2 x y sz tm H=yO sz (x tm) (y tm) H)∧(∀(n sz:Nat) (x:YF) (lo hi:Option YF) (tm:TM) (H:Heap),Rw n sz x lo hi none tm H=OM n sz (x tm) (lo.map λf=>f tm) (hi.map λf=>f tm) H)∧(∀(x:YF) (tm:TM) (H:Heap),Wc x tm H=rk (x tm) H)∧(∀(x y:YF) (tm:TM) (H:Heap),XR x y tm H=Md (x tm) (y tm) H)∧(∀(x:YF) (lo hi:Option YF) (tm:TM) (H:Heap),W1 x lo hi none tm H=Ji (x tm) (lo.map λf=>f tm) (hi.map λf=>f tm) H)∧(∀(x:YF) (i:Nat) (tm:TM) (H:Heap),Xw x i tm H=GH i (x tm) H)∧(∀(b c:AV) (H:Heap),B2 (.bool true) b c H=.val b H)∧(∀(b c:AV) (H:Heap),B2 (.bool false) b c H=.val c H)∧(∀(b:Bool) (H:Heap),cd (.bool b) H=.val (.bool (cond b false true)) H)∧(∀(x:YF) (tm:TM) (H:Heap),Yz x tm H=HE (x tm) H)∧(∀(x:YF) (n:Nat) (tm:TM) (H:Heap),To x n tm H=BN n (x tm) H)∧(∀(x y:YF) (n:Nat) (tm:TM) (H:Heap),Xr x y n tm H=yg n (x tm) (y tm) H)∧(∀(x:YF) (n:Nat) (tm:TM) (H:Heap),XK x n tm H=cB n (x tm) H)∧(∀(x y:YF) (n sz:Nat) (tm:TM) (H:Heap),PH x y n sz tm H=BJ n sz (x tm) (y tm) H)∧(∀(x y:YF) (sz:Nat) (tm:TM) (H:Heap),WW x y sz tm H=KA sz (x tm) (y tm) H)∧(∀(x:YF) (tm:TM) (H:Heap),UL x tm H=d5 (x tm) H)∧(∀(x:YF) (tm:TM) (H:Heap),Wf x tm H=Ll (x tm) H)∧(∀(e n:Nat) (v:AV) (tm:TM) (H:Heap),Mf e n v tm H=.val (.ptr H.nx 0) (H.new (.row ⟨e,1,n,.leaf,v,0,false,true,true⟩)))∧(∀(x:YF) (e:Nat) (tm:TM) (H:Heap),Ko x e tm H=N2 e (x tm) H)∧(∀(e:Nat) (c:AV) (cs:List AV) (tm:TM) (H:Heap),V9 e (c::cs) tm H=.val (.ptr H.nx 0) (H.new (rG e 1 (c::cs) 0 false true true)))∧(∀(n b o:Nat) (H:Heap),cB n (.ptr b o) H=.val (.ptr b (o+n)) H)∧(∀(b o:Nat) (H:Heap),d5 (.ptr b o) H=.val (.ptr b o) H)∧(∀(b o n:Nat) (c:Option Nat) (H:Heap),Ll (.slice b o n c) H=.val (nI .i64 n) H)∧(∀(H:Heap),Ll .slice0 H=.val (nI .i64 0) H)∧(∀(H:Heap),Ll .nils H=.val (nI .i64 0) H)∧(∀(H:Heap) (b:Nat) (o:Obj),(H.put b o).nx=H.nx)∧(∀(H:Heap) (b:Nat) (o:Obj),(H.put b o).ro=H.ro)∧(∀(H:Heap) (o:Obj),(H.new o).nx=H.nx+1)∧(∀(H:Heap) (o:Obj),(H.new o).ro=H.ro)∧(∀(H:Heap) (b:Nat) (o:Obj),(H.put b o).t.get b=some o)∧(∀(H:Heap) (b:Nat) (o o':Obj),(H.put b o).put b o'=H.put b o')∧(∀(H:Heap) (e sz:Nat) (l:List AV) (ex:Bool),H.newRow e sz l ex=H.new (rG e sz l 0 false true ex))∧(∀(b o:Nat) (H:Heap),HE (.ptr b o) H=ld1 (H.t.get b) o H)∧(∀(n b o:Nat) (H:Heap),BN n (.ptr b o) H=zq n (H.t.get b) o H)∧(∀(n b o:Nat) (v:AV) (H:Heap),yg n (.ptr b o) v H=CC n (H.t.get b) b o v H)∧(∀(b:Bool),(AV.bool b).cells=[.bool b])∧(∀(k:IntKind) (n:Int),(AV.int k n).cells=[.int k n])∧(∀(k:IntKind) (n:Nat),(nI k n).cells=[nI k n])∧(∀(x:UInt8),(Vf x).cells=[Vf x])∧(∀(s:List UInt8),(AV.str s).cells=[.str s])∧(AV.nilp.cells=[.nilp])∧(∀(b o:Nat),(AV.ptr b o).cells=[.ptr b o])∧(AV.nils.cells=[.nils])∧(∀(b o n:Nat) (c:Option Nat),(AV.slice b o n c).cells=[.slice b o n c])∧(∀(b:Nat),(AV.map b).cells=[.map b])∧(∀(f:Nat) (a b:List AV),(AV.func f a b).cells=[.func f a b])∧(∀(t:Nat) (v:AV),(AV.iface t v).cells=[.iface t v])∧(AV.nili.cells=[.nili])∧(∀(l:List AV),(AV.agg l).cells=l)∧(∀(l:List PI) (c:Ctx) (tm:TM) (H:Heap) (x:X),Vj l c tm H x=Ug (l.map (·.dst)) Lu l c [] tm H x)∧(∀(ds:List Yh) (fin:PK) (c:Ctx) (rs:List RD) (tm:TM) (H:Heap) (x:X),Ug ds fin [] c rs tm H x=cond (still tm H rs) (fin rs tm H x) .fail)∧(∀(ds:List Yh) (fin:PK) (p:PI) (l:List PI) (c:Ctx) (rs:List RD) (tm:TM) (H:Heap) (x:X),Ug ds fin (p::l) c rs tm H x=Su ds p (Ug ds fin l c) c rs tm H x)∧(∀(rs:List RD) (tm:TM) (H:Heap) (x:X),Lu rs tm H x=.ok .normal tm H x)∧(∀(ds:List Yh) (f:Vu) (os:List (Yh×YF)) (dst:Yh) (i bef:Nat) (nx:PK) (c:Ctx) (rs:List RD) (tm:TM) (H:Heap) (x:X),Su ds ⟨f,none,os,dst,.free,i,bef⟩ nx c rs tm H x=cond (Rp H.nx tm os) (M2 ⟨f,none,os,dst,.free,i,bef⟩ nx rs tm H x (f (R0 tm os) ⟨H.nx,.leaf,H.nx⟩)) .fail)∧(∀(ds:List Yh) (f:Vu) (os:List (Yh×YF)) (dst:Yh) (i bef:Nat) (nx:PK) (c:Ctx) (rs:List RD) (tm:TM) (H:Heap) (x:X),Su ds ⟨f,none,os,dst,.read,i,bef⟩ nx c rs tm H x=Is ⟨f,none,os,dst,.read,i,bef⟩ nx rs tm H x (f (R0 tm os) ⟨H.nx,H.t,H.nx⟩))∧(∀(ds:List Yh) (f:Vu) (os:List (Yh×YF)) (dst:Yh) (i bef:Nat) (nx:PK) (c:Ctx) (rs:List RD) (tm:TM) (H:Heap) (x:X),Su ds ⟨f,none,os,dst,.eff,i,bef⟩ nx c rs tm H x=cond (still tm H rs) (JK ds ⟨f,none,os,dst,.eff,i,bef⟩ nx rs c tm x (f (R0 tm os) H)) .fail)∧(∀(ds:List Yh) (f:Vu) (e:YF) (b:Bool) (os:List (Yh×YF)) (dst:Yh) (i bef:Nat) (nx:PK) (c:Ctx) (rs:List RD) (tm:TM) (H:Heap) (x:X),Su ds ⟨f,some (e,b),os,dst,.free,i,bef⟩ nx c rs tm H x=UY (e tm) b (cond (Rp H.nx tm os) (M2 ⟨f,some (e,b),os,dst,.free,i,bef⟩ nx rs tm H x (f (R0 tm os) ⟨H.nx,.leaf,H.nx⟩)) .fail) (nx rs (dst tm XL) H x))∧(∀(ds:List Yh) (f:Vu) (e:YF) (b:Bool) (os:List (Yh×YF)) (dst:Yh) (i bef:Nat) (nx:PK) (c:Ctx) (rs:List RD) (tm:TM) (H:Heap) (x:X),Su ds ⟨f,some (e,b),os,dst,.read,i,bef⟩ nx c rs tm H x=UY (e tm) b (Is ⟨f,some (e,b),os,dst,.read,i,bef⟩ nx rs tm H x (f (R0 tm os) ⟨H.nx,H.t,H.nx⟩)) (nx rs (dst tm XL) H x))∧(∀(ds:List Yh) (f:Vu) (e:YF) (b:Bool) (os:List (Yh×YF)) (dst:Yh) (i bef:Nat) (nx:PK) (c:Ctx) (rs:List RD) (tm:TM) (H:Heap) (x:X),Su ds ⟨f,some (e,b),os,dst,.eff,i,bef⟩ nx c rs tm H x=cond (still tm H rs) (UY (e tm) b (JK ds ⟨f,some (e,b),os,dst,.eff,i,bef⟩ nx rs c tm x (f (R0 tm os) H)) (nx (UU bef rs) (dst tm XL) H x)) .fail)∧(∀(ds:List Yh) (f:Vu) (os:List (Yh×YF)) (dst:Yh) (i bef:Nat) (nx:PK) (c:Ctx) (rs:List RD) (tm:TM) (x:X) (g:Option (YF×Bool)) (kd:Js) (v:AV) (H':Heap),JK ds ⟨f,g,os,dst,kd,i,bef⟩ nx rs c tm x (.val v H')=nx (UU bef rs) (dst tm v) H' x)∧(∀(ds:List Yh) (f:Vu) (os:List (Yh×YF)) (dst:Yh) (i bef:Nat) (nx:PK) (c:Ctx) (rs:List RD) (tm:TM) (x:X) (g:Option (YF×Bool)) (kd:Js) (H':Heap) (q:Nat) (args:List AV),JK ds ⟨f,g,os,dst,kd,i,bef⟩ nx rs c tm x (.oth (.call q args H'))=DF ds ⟨f,g,os,dst,kd,i,bef⟩ nx rs tm x (c.call q args H'))∧(∀(ds:List Yh) (f:Vu) (os:List (Yh×YF)) (dst:Yh) (i bef:Nat) (nx:PK) (rs:List RD) (tm:TM) (x:X) (g:Option (YF×Bool)) (kd:Js) (v:AV) (H':Heap),DF ds ⟨f,g,os,dst,kd,i,bef⟩ nx rs tm x (.ret v H')=nx (UU bef rs) (dst tm v) H' x)∧(∀(b:Nat),UU b []=[])∧(∀(f:Vu) (os:List (Yh×YF)) (dst:Yh) (i bef:Nat) (rs:List RD) (g:Option (YF×Bool)) (kd:Js) (v:AV) (b:Nat),UU b (⟨⟨f,g,os,dst,kd,i,bef⟩,v⟩::rs)=cond (Nat.testBit b i) (UU b rs) (⟨⟨f,g,os,dst,kd,i,bef⟩,v⟩::UU b rs))∧(∀(tm:TM) (H:Heap),still tm H []=true)∧(∀(f:Vu) (os:List (Yh×YF)) (dst:Yh) (i bef:Nat) (rs:List RD) (tm:TM) (H:Heap) (g:Option (YF×Bool)) (kd:Js) (v:AV),still tm H (⟨⟨f,g,os,dst,kd,i,bef⟩,v⟩::rs)=cond (x9 ⟨⟨f,g,os,dst,kd,i,bef⟩,v⟩ tm H) (still tm H rs) false)∧(∀(f:Vu) (os:List (Yh×YF)) (dst:Yh) (i bef:Nat) (tm:TM) (H:Heap) (g:Option (YF×Bool)) (kd:Js) (v:AV),x9 ⟨⟨f,g,os,dst,kd,i,bef⟩,v⟩ tm H=Um (f (R0 tm os) ⟨H.nx,H.t,H.nx⟩) v H.nx)∧(∀(v:UInt32) (n:Nat) (t:T Obj),Um (.val (Jq v) ⟨n,t,n⟩) (Jq v) n=true)∧(∀(v:UInt8) (n:Nat) (t:T Obj),Um (.val (Vf v) ⟨n,t,n⟩) (Vf v) n=true)∧(∀(k:IntKind) (v:Nat) (n:Nat) (t:T Obj),Um (.val (nI k v) ⟨n,t,n⟩) (nI k v) n=true)∧(∀(s:List UInt8) (n:Nat) (t:T Obj),Um (.val (.str s) ⟨n,t,n⟩) (.str s) n=true)∧(∀(n:Nat) (t:T Obj),Um (.val .nils ⟨n,t,n⟩) .nils n=true)∧(∀(b o n:Nat) (c:Option Nat) (k:Nat) (t:T Obj),Um (.val (.slice b o n c) ⟨k,t,k⟩) (.slice b o n c) k=true)∧(∀(n:Nat) (tm:TM),Rp n tm []=true)∧(∀(n:Nat) (tm:TM) (s:Yh) (g:YF) (os:List (Yh×YF)),Rp n tm ((s,g)::os)=cond (WC n (g tm)) (Rp n tm os) false)∧(∀(tm:TM),R0 tm []=NZ)∧(∀(tm:TM) (s:Yh) (g:YF) (os:List (Yh×YF)),R0 tm ((s,g)::os)=s (R0 tm os) (g tm))∧(∀(a:AV) (l:List AV) (H:Heap),GH 0 (.tup (a::l)) H=.val a H)∧(∀(a b:AV) (l:List AV) (H:Heap),GH 1 (.tup (a::b::l)) H=.val b H)∧(∀(a b c:AV) (l:List AV) (H:Heap),GH 2 (.tup (a::b::c::l)) H=.val c H)∧(∀(dc:Option AV->Nat->List AV->Heap->DR) (rs:List (YF×Option (Nat×Bool))) (tm:TM) (H:Heap) (rc:Option AV),MM dc rs (.ok .ret tm H ⟨[],rc⟩)=results rs tm H)∧(∀(dc:Option AV->Nat->List AV->Heap->DR) (rs:List (YF×Option (Nat×Bool))) (tm:TM) (H:Heap) (rc:Option AV),MM dc rs (.ok .normal tm H ⟨[],rc⟩)=results rs tm H)∧(∀(f:YF) (tm:TM) (H:Heap),results [(f,none)] tm H=.ret (f tm) H)∧(∀(tm:TM) (H:Heap),results [] tm H=.ret (.tup []) H)∧(∀(a b:UInt32) (H:Heap),SG (Jq a) (Jq b) H=.val (Jq (a+b)) H)∧(Sp []=NZ)∧(∀(a:AV),Sp [a]=st0 NZ a)∧(∀(a b:AV),Sp [a,b]=st1 (st0 NZ a) b)∧(∀(a b c:AV),Sp [a,b,c]=st2 (st1 (st0 NZ a) b) c)∧(∀(a b c d:AV),Sp [a,b,c,d]=VK (st2 (st1 (st0 NZ a) b) c) d)∧(∀(a b:List UInt8) (H:Heap),ND Mw false (.str a) (.str b) H=.val (.bool (decide (a=b))) H)∧(∀(a b:List UInt8) (H:Heap),ND Mw true (.str a) (.str b) H=.val (.bool (!decide (a=b))) H)∧(∀(a b:Bool) (H:Heap),ND nN false (.bool a) (.bool b) H=.val (.bool (decide (a=b))) H)∧(∀(k:IntKind) (a b:Nat) (H:Heap),Tl Wd Xl (nI k a) (nI k b) H=.val (.bool (decide (a<b))) H)∧(∀(k:IntKind) (a b:Nat) (H:Heap),Tl Tp WT (nI k a) (nI k b) H=.val (.bool (decide (b<=a))) H)∧(∀(k:IntKind) (a b:Nat) (H:Heap),Tl Tq Vn (nI k a) (nI k b) H=.val (.bool (decide (b<a))) H)∧(∀(k:IntKind) (a b:Nat) (H:Heap),Tl QV TN (nI k a) (nI k b) H=.val (.bool (decide (a<=b))) H)∧(∀(k:IntKind) (a b:Nat) (H:Heap),ND VU false (nI k a) (nI k b) H=.val (.bool (decide (a=b))) H)∧(∀(k:IntKind) (a b:Nat) (H:Heap),ND VU true (nI k a) (nI k b) H=.val (.bool (decide (a≠b))) H)∧(∀(s:List UInt8) (H:Heap),rk (.str s) H=.val (nI .i64 s.length) H)∧(∀(x:YF) (tm:TM) (H:Heap),BY x tm H=Zad (x tm) H)∧(∀(x:YF) (u n:Nat) (tm:TM) (H:Heap),BX x u n tm H=Zac u n (x tm) H)∧(∀(x:YF) (tm:TM) (H:Heap),F1 x tm H=qc (x tm) H)∧(∀(x y:YF) (e:Nat) (tm:TM) (H:Heap),rI x y e tm H=ZaE e (x tm) (y tm) H):=⟨@iK, @lI, @qU, @LB, @iI, @U1, @nw, @tM, @pT, @il, @qH, @qx, @po, @vM, @yN, @vy, @pJ, @Co, @TA, @ul, @Zbg, @ZeH, @fX, @m7, @cr, @Do, @jm, @pV, @jt, @If, @jq, @jr, @NR, @xS, @js, @og, @jl, @cj, @jo, @p9, @uG, @pa, @q8, @qZ, @q9, @iJ, @kW, @uv, @kY, @dP, @k9, @dQ, @pL, @SZ, @SY, @Te, @ZZ, @ZV, @L8, @Po, @p7, @xP, @Dp, @pX, @cX, @cW, @Zci, @uI, @Ol, @uJ, @jp, @pY, @pZ, @jn, @p6, @xK, @Us, @xL, @UD, @Uf, @SU, @xr, @Db, @Mk, @jZ, @zH, @ji, @Xv, @bf, @Yw, @BM, @kU, @nj, @Ex, @Yy, @yK, @C0, @CZ, @EA, @CY, @EB, @Gy, @CX, @Ey, @Gx, @Ez, @CW, @vO, @oL, @uX, @pU, @tD, @tE, @nh, @wR, @wS, @tC, @mS, @qE, @iq, @pu, @ue, @ni, @tF, @j8, @ud, @pq, @pp, @uc, @Qg, @Z8, @pK, @ut, @bj, @iy, @fZ, @eh, @ek, @jS, @xY, @wh, @z9, @gS, @fd, @fe, @fh, @fi, @fj, @YM, @Y7, @fV, @Zu, @ZR, @ZM, @ZO, @YL, @Y9, @ZP, @od, @oa, @xU, @oe⟩
theorem Xg:(∀{α:Type} (f:α->α) (n:N8 α),N8.a0 (N8.u0 f n)=f (N8.a0 n))∧(∀{α:Type} (f:α->α) (n:N8 α),N8.a0 (N8.u1 f n)=N8.a0 n)∧(∀{α:Type} (f:α->α) (n:N8 α),N8.a0 (N8.u2 f n)=N8.a0 n)∧(∀{α:Type} (f:α->α) (n:N8 α),N8.a0 (N8.u3 f n)=N8.a0 n)∧(∀{α:Type} (f:α->α) (n:N8 α),N8.a0 (N8.u4 f n)=N8.a0 n)∧(∀{α:Type} (f:α->α) (n:N8 α),N8.a0 (N8.u5 f n)=N8.a0 n)∧(∀{α:Type} (f:α->α) (n:N8 α),N8.a0 (N8.u6 f n)=N8.a0 n)∧(∀{α:Type} (f:α->α) (n:N8 α),N8.a0 (N8.u7 f n)=N8.a0 n)∧(∀{α:Type} (f:α->α) (n:N8 α),N8.a1 (N8.u0 f n)=N8.a1 n)∧(∀{α:Type} (f:α->α) (n:N8 α),N8.a1 (N8.u1 f n)=f (N8.a1 n))∧(∀{α:Type} (f:α->α) (n:N8 α),N8.a1 (N8.u2 f n)=N8.a1 n)∧(∀{α:Type} (f:α->α) (n:N8 α),N8.a1 (N8.u3 f n)=N8.a1 n)∧(∀{α:Type} (f:α->α) (n:N8 α),N8.a1 (N8.u4 f n)=N8.a1 n)∧(∀{α:Type} (f:α->α) (n:N8 α),N8.a1 (N8.u5 f n)=N8.a1 n)∧(∀{α:Type} (f:α->α) (n:N8 α),N8.a1 (N8.u6 f n)=N8.a1 n)∧(∀{α:Type} (f:α->α) (n:N8 α),N8.a1 (N8.u7 f n)=N8.a1 n)∧(∀{α:Type} (f:α->α) (n:N8 α),N8.a2 (N8.u0 f n)=N8.a2 n)∧(∀{α:Type} (f:α->α) (n:N8 α),N8.a2 (N8.u1 f n)=N8.a2 n)∧(∀{α:Type} (f:α->α) (n:N8 α),N8.a2 (N8.u2 f n)=f (N8.a2 n))∧(∀{α:Type} (f:α->α) (n:N8 α),N8.a2 (N8.u3 f n)=N8.a2 n)∧(∀{α:Type} (f:α->α) (n:N8 α),N8.a2 (N8.u4 f n)=N8.a2 n)∧(∀{α:Type} (f:α->α) (n:N8 α),N8.a2 (N8.u5 f n)=N8.a2 n)∧(∀{α:Type} (f:α->α) (n:N8 α),N8.a2 (N8.u6 f n)=N8.a2 n)∧(∀{α:Type} (f:α->α) (n:N8 α),N8.a2 (N8.u7 f n)=N8.a2 n)∧(∀{α:Type} (f:α->α) (n:N8 α),N8.a3 (N8.u0 f n)=N8.a3 n)∧(∀{α:Type} (f:α->α) (n:N8 α),N8.a3 (N8.u1 f n)=N8.a3 n)∧(∀{α:Type} (f:α->α) (n:N8 α),N8.a3 (N8.u2 f n)=N8.a3 n)∧(∀{α:Type} (f:α->α) (n:N8 α),N8.a3 (N8.u3 f n)=f (N8.a3 n))∧(∀{α:Type} (f:α->α) (n:N8 α),N8.a3 (N8.u4 f n)=N8.a3 n)∧(∀{α:Type} (f:α->α) (n:N8 α),N8.a3 (N8.u5 f n)=N8.a3 n)∧(∀{α:Type} (f:α->α) (n:N8 α),N8.a3 (N8.u6 f n)=N8.a3 n)∧(∀{α:Type} (f:α->α) (n:N8 α),N8.a3 (N8.u7 f n)=N8.a3 n)∧(∀{α:Type} (f:α->α) (n:N8 α),N8.a4 (N8.u0 f n)=N8.a4 n)∧(∀{α:Type} (f:α->α) (n:N8 α),N8.a4 (N8.u1 f n)=N8.a4 n)∧(∀{α:Type} (f:α->α) (n:N8 α),N8.a4 (N8.u2 f n)=N8.a4 n)∧(∀{α:Type} (f:α->α) (n:N8 α),N8.a4 (N8.u3 f n)=N8.a4 n)∧(∀{α:Type} (f:α->α) (n:N8 α),N8.a4 (N8.u4 f n)=f (N8.a4 n))∧(∀{α:Type} (f:α->α) (n:N8 α),N8.a4 (N8.u5 f n)=N8.a4 n)∧(∀{α:Type} (f:α->α) (n:N8 α),N8.a4 (N8.u6 f n)=N8.a4 n)∧(∀{α:Type} (f:α->α) (n:N8 α),N8.a4 (N8.u7 f n)=N8.a4 n)∧(∀{α:Type} (f:α->α) (n:N8 α),N8.a5 (N8.u0 f n)=N8.a5 n)∧(∀{α:Type} (f:α->α) (n:N8 α),N8.a5 (N8.u1 f n)=N8.a5 n)∧(∀{α:Type} (f:α->α) (n:N8 α),N8.a5 (N8.u2 f n)=N8.a5 n)∧(∀{α:Type} (f:α->α) (n:N8 α),N8.a5 (N8.u3 f n)=N8.a5 n)∧(∀{α:Type} (f:α->α) (n:N8 α),N8.a5 (N8.u4 f n)=N8.a5 n)∧(∀{α:Type} (f:α->α) (n:N8 α),N8.a5 (N8.u5 f n)=f (N8.a5 n))∧(∀{α:Type} (f:α->α) (n:N8 α),N8.a5 (N8.u6 f n)=N8.a5 n)∧(∀{α:Type} (f:α->α) (n:N8 α),N8.a5 (N8.u7 f n)=N8.a5 n)∧(∀{α:Type} (f:α->α) (n:N8 α),N8.a6 (N8.u0 f n)=N8.a6 n)∧(∀{α:Type} (f:α->α) (n:N8 α),N8.a6 (N8.u1 f n)=N8.a6 n)∧(∀{α:Type} (f:α->α) (n:N8 α),N8.a6 (N8.u2 f n)=N8.a6 n)∧(∀{α:Type} (f:α->α) (n:N8 α),N8.a6 (N8.u3 f n)=N8.a6 n)∧(∀{α:Type} (f:α->α) (n:N8 α),N8.a6 (N8.u4 f n)=N8.a6 n)∧(∀{α:Type} (f:α->α) (n:N8 α),N8.a6 (N8.u5 f n)=N8.a6 n)∧(∀{α:Type} (f:α->α) (n:N8 α),N8.a6 (N8.u6 f n)=f (N8.a6 n))∧(∀{α:Type} (f:α->α) (n:N8 α),N8.a6 (N8.u7 f n)=N8.a6 n)∧(∀{α:Type} (f:α->α) (n:N8 α),N8.a7 (N8.u0 f n)=N8.a7 n)∧(∀{α:Type} (f:α->α) (n:N8 α),N8.a7 (N8.u1 f n)=N8.a7 n)∧(∀{α:Type} (f:α->α) (n:N8 α),N8.a7 (N8.u2 f n)=N8.a7 n)∧(∀{α:Type} (f:α->α) (n:N8 α),N8.a7 (N8.u3 f n)=N8.a7 n)∧(∀{α:Type} (f:α->α) (n:N8 α),N8.a7 (N8.u4 f n)=N8.a7 n)∧(∀{α:Type} (f:α->α) (n:N8 α),N8.a7 (N8.u5 f n)=N8.a7 n)∧(∀{α:Type} (f:α->α) (n:N8 α),N8.a7 (N8.u6 f n)=N8.a7 n)∧(∀{α:Type} (f:α->α) (n:N8 α),N8.a7 (N8.u7 f n)=f (N8.a7 n)):=⟨@N8.g00, @N8.g01, @N8.g02, @N8.g03, @N8.g04, @N8.g05, @N8.g06, @N8.g07, @N8.g10, @N8.g11, @N8.g12, @N8.g13, @N8.g14, @N8.g15, @N8.g16, @N8.g17, @N8.g20, @N8.g21, @N8.g22, @N8.g23, @N8.g24, @N8.g25, @N8.g26, @N8.g27, @N8.g30, @N8.g31, @N8.g32, @N8.g33, @N8.g34, @N8.g35, @N8.g36, @N8.g37, @N8.g40, @N8.g41, @N8.g42, @N8.g43, @N8.g44, @N8.g45, @N8.g46, @N8.g47, @N8.g50, @N8.g51, @N8.g52, @N8.g53, @N8.g54, @N8.g55, @N8.g56, @N8.g57, @N8.g60, @N8.g61, @N8.g62, @N8.g63, @N8.g64, @N8.g65, @N8.g66, @N8.g67, @N8.g70, @N8.g71, @N8.g72, @N8.g73, @N8.g74, @N8.g75, @N8.g76, @N8.g77⟩
theorem UT{j:IntKind}{a:Nat}(h:a<9223372036854775808)(H:Heap):OY .i64 (nI j a) H=.val (nI .i64 a) H:=by
 show Ts .i64 (.ofNat a) H=_
 rw[Vb,OU h];rfl
theorem oY{j:IntKind}{a b:Nat}(h:b<64)(H:Heap):iN (nI .i64 a) (nI j b) H=.val (nI .i64 (a/2^b)) H:=by
 show PW (.ofNat (Nat.div a (Nat.pow 2 (OZ b 64)))) (λn=>OR.val (.int .i64 n) H)=_
 have:OZ b 64=b:=by unfold OZ;rw[Zj (by omega)];rfl
 rw[Pa,this];rfl
theorem RH{a b:Nat}(h:0<b)(h2:a<18446744073709551616)(H:Heap):j0 (nI .u64 a) (nI .u64 b) H=.val (nI .u64 (a/b)) H:=by
 show Yb (PR .u64 .u64) (cond (GW (.ofNat b) (.ofNat 0)) .fail (Ts .u64 (.ofNat (Nat.div a b)) H))=_
 rw[Wb,Nf,Ze (by omega),Vb,show(Int.ofNat (Nat.div a b))=Int.ofNat (a/b) from rfl,D7,YH (Tu (SO a b) h2)];rfl
theorem RJ{a b:Nat}(h:0<b)(H:Heap):ii (nI .u64 a) (nI .u64 b) H=.val (nI .u64 (a % b)) H:=by
 show Yb (PR .u64 .u64) (cond (GW (.ofNat b) (.ofNat 0)) .fail (PW (.ofNat (Nat.mod a b)) λn=>.val (.int .u64 n) H))=_
 rw[Wb,Nf,Ze (by omega),Pa];rfl
theorem Lk{j:IntKind}{a:Nat}(h:a<18446744073709551616)(H:Heap):OY .u64 (nI j a) H=.val (nI .u64 a) H:=by
 show Ts .u64 (.ofNat a) H=_
 rw[Vb,D7,YH h];rfl
theorem Rm{j:IntKind}{a b:Nat}(h:b<64)(H:Heap):iN (nI .u64 a) (nI j b) H=.val (nI .u64 (a/2^b)) H:=by
 show PW (.ofNat (Nat.div a (Nat.pow 2 (OZ b 64)))) (λn=>OR.val (.int .u64 n) H)=_
 have:OZ b 64=b:=by unfold OZ;rw[Zj (by omega)];rfl
 rw[Pa,this];rfl
theorem Ub{a b:Nat}(h:a+b<4294967296)(H:Heap):SG (nI .u32 a) (nI .u32 b) H=.val (nI .u32 (a+b)) H:=by
 show Yb (PR .u32 .u32) (Ts .u32 (v7 (.ofNat a) (.ofNat b)) H)=_
 rw[Wb,Vb,E6,LW,YH h];rfl
theorem RC{a b:Nat}(h:a*b<4294967296)(H:Heap):uC (nI .u32 a) (nI .u32 b) H=.val (nI .u32 (a*b)) H:=by
 show Yb (PR .u32 .u32) (Ts .u32 (zi (.ofNat a) (.ofNat b)) H)=_
 rw[Wb,Vb,E8,LW,YH h];rfl
theorem RG{a b:Nat}(h:0<b)(h2:a<4294967296)(H:Heap):j0 (nI .u32 a) (nI .u32 b) H=.val (nI .u32 (a/b)) H:=by
 show Yb (PR .u32 .u32) (cond (GW (.ofNat b) (.ofNat 0)) .fail (Ts .u32 (.ofNat (Nat.div a b)) H))=_
 rw[Wb,Nf,Ze (by omega),Vb,show(Int.ofNat (Nat.div a b))=Int.ofNat (a/b) from rfl,LW,YH (Tu (SO a b) h2)];rfl
theorem RI{a b:Nat}(h:0<b)(H:Heap):ii (nI .u32 a) (nI .u32 b) H=.val (nI .u32 (a % b)) H:=by
 show Yb (PR .u32 .u32) (cond (GW (.ofNat b) (.ofNat 0)) .fail (PW (.ofNat (Nat.mod a b)) λn=>.val (.int .u32 n) H))=_
 rw[Wb,Nf,Ze (by omega),Pa];rfl
theorem RB{j:IntKind}{a:Nat}(h:a<4294967296)(H:Heap):OY .u32 (nI j a) H=.val (nI .u32 a) H:=by
 show Ts .u32 (.ofNat a) H=_
 rw[Vb,LW,YH h];rfl
theorem r8{a b:Nat}(h:b<=a)(h2:a<256)(H:Heap):O3 (nI .u8 a) (nI .u8 b) H=.val (nI .u8 (a - b)) H:=by
 show Yb (PR .u8 .u8) (Ts .u8 (FD (.ofNat a) (.ofNat b)) H)=_
 rw[Wb,Vb,xp h,F9,YH (by omega)];rfl
theorem YT{j:IntKind}{a:Nat}(h:a<256)(H:Heap):OY .u8 (nI j a) H=.val (nI .u8 a) H:=by
 show Ts .u8 (.ofNat a) H=_
 rw[Vb,F9,YH h];rfl
theorem Ng(j:IntKind)(a:Nat)(H:Heap):OY .u8 (nI j a) H=.val (nI .u8 (a % 256)) H:=by
 show Ts .u8 (.ofNat a) H=_
 rw[Vb,F9];rfl
theorem zz(k:IntKind)(m b:Nat)(H:Heap):Tl Wd Xl (.int k (.negSucc m)) (nI k b) H=.val (.bool true) H:=by
 show Yb (PR k k) (SF true H)=_
 rw[Wb];rfl
theorem zr(k:IntKind)(m b:Nat)(H:Heap):Tl QV TN (nI k b) (.int k (.negSucc m)) H=.val (.bool false) H:=by
 show Yb (PR k k) (SF (!xk (.negSucc m) (.ofNat b)) H)=_
 rw[Wb];rfl
theorem AG(n:Int):IntKind.u64.wrap n=n % 18446744073709551616:=by
 unfold IntKind.wrap
 simp[IntKind.bits,IntKind.signed]
theorem AF{z:Int}(h1: -9223372036854775808<=z)(h2:z<9223372036854775808):IntKind.i64.wrap z=z:=by
 unfold IntKind.wrap
 simp[IntKind.bits,IntKind.signed]
 omega
theorem ky(k j:IntKind)(n:Int)(H:Heap):OY k (.int j n) H=Ts k n H:=rfl
theorem K4{m:Nat}(h:m<9223372036854775808)(H:Heap):OY .u64 (.int .i64 (.negSucc m)) H=.val (nI .u64 (18446744073709551615 - m)) H:=by
 have e1:IntKind.u64.wrap (.negSucc m)=Int.ofNat (18446744073709551615 - m):=by
  rw[Int.negSucc_eq,AG,Y4]
  omega
 rw[ky,Vb,e1];unfold nI;rfl
theorem Di{u:Nat}(h0:0<u)(h:u<18446744073709551616)(H:Heap):pR (nI .u64 u) H=.val (nI .u64 (18446744073709551616 - u)) H:=by
 show Ts .u64 (FD 0 (.ofNat u)) H=_
 rw[Vb]
 congr 2
 have e:FD 0 (.ofNat u)= -(u:Int):=by
  show cond (Nat.ble u 0) (Int.ofNat (Nat.sub 0 u)) (Int.ofNat 0 - Int.ofNat u)=_
  cases hb:Nat.ble u 0 with
  |true=>have:=Yn hb;omega
  |false=>show(0:Int) - u=_;omega
 rw[e,AG,Y4]
 omega
theorem jh{u:Nat}(h0:0<u)(h:u<=9223372036854775808)(H:Heap):pR (nI .i64 u) H=.val (.int .i64 (.negSucc (u - 1))) H:=by
 show Ts .i64 (FD 0 (.ofNat u)) H=_
 rw[Vb]
 congr 2
 have e:FD 0 (.ofNat u)= -(u:Int):=by
  show cond (Nat.ble u 0) (Int.ofNat (Nat.sub 0 u)) (Int.ofNat 0 - Int.ofNat u)=_
  cases hb:Nat.ble u 0 with
  |true=>have:=Yn hb;omega
  |false=>show(0:Int) - u=_;omega
 rw[e]
 rw[AF (by omega) (by omega)];omega
theorem zF(H:Heap):pR (nI .i64 0) H=.val (nI .i64 0) H:=rfl
theorem Ad{s:List UInt8}{p q:Nat}(h1:p<=q)(h2:q<=s.length)(k j:IntKind)(H:Heap):Ji (.str s) (some (nI k p)) (some (nI j q)) H=.val (.str ((s.take q).drop p)) H:=by
 show Yb (Nat.ble q (Xa s)) (Yb (Nat.ble p q) (OR.val (.str (Kt p (ME q s))) H))=_
 rw[Y6,Zj h2,Zj h1,OP,JI];rfl
theorem Yc{s:List UInt8}{p:Nat}(h1:p<=s.length)(k:IntKind)(H:Heap):Ji (.str s) (some (nI k p)) none H=.val (.str (s.drop p)) H:=by
 show Yb (Nat.ble p (Xa s)) (OR.val (.str (Kt p (ME (Xa s) s))) H)=_
 rw[Y6,Zj h1,OP,JI,Vh];rfl
theorem Yl{s:List UInt8}{i:Nat}(h:i<s.length)(k:IntKind)(H:Heap):Md (.str s) (nI k i) H=.val (nI .u8 (s.getD i 0).toNat) H:=Me h k H
section
variable (f:Vu) (os:List (Yh×YF)) (dst:Yh) (i bef:Nat) (nx:PK) (rs:List RD) (tm:TM) (H:Heap) (x:X) (g:Option (YF×Bool)) (kd:Js) (v:AV)
theorem Z3{m:Nat}(h:H.nx=m):M2 ⟨f,g,os,dst,kd,i,bef⟩ nx rs tm H x (.val v ⟨m,.leaf,m⟩)=nx rs (dst tm v) H x:=by subst h;exact qN ..
theorem Z6{m:Nat}(h:H.nx=m)(t:T Obj)(k:Nat):Is ⟨f,g,os,dst,kd,i,bef⟩ nx rs tm H x (.val v ⟨m,t,k⟩)=nx (⟨⟨f,g,os,dst,kd,i,bef⟩,v⟩::rs) (dst tm v) H x:=by
 subst h
 show cond (Nat.beq H.nx H.nx) _ _=_
 rw[Xu];rfl
theorem Yf{m:Nat}(h:H.nx=m)(o:Obj)(hw:wrO o=true):M2 ⟨f,g,os,dst,kd,i,bef⟩ nx rs tm H x (.val v ((⟨m,.leaf,m⟩:Heap).new o))=nx rs (dst tm v) (H.new o) x:=by subst h;exact qM _ _ _ _ _ _ _ _ _ _ _ _ _ _ hw
end
theorem gC(e sz:Nat)(l:List AV)(fz:Nat)(sm ex:Bool):wrO (rG e sz l fz sm true ex)=true:=rfl
def Row.st(r:Row)(o:Nat)(v:AV):Row:=r.setCells (r.cells.set o v)
theorem Row.st_size(r:Row)(o:Nat)(v:AV):(r.st o v).size=r.size:=rfl
theorem Row.st_own(r:Row)(o:Nat)(v:AV):(r.st o v).own=r.own:=rfl
theorem Row.st_fz(r:Row)(o:Nat)(v:AV):(r.st o v).fz=r.fz:=rfl
theorem Row.st_get(r:Row)(o:Nat)(v:AV)(i:Nat):(r.st o v).get i=if o=i then v else r.get i:=by
 rw[Row.get_eq,Row.get_eq]
 show((r.cells.set o v).get i).getD r.dflt=_
 rw[T.get_set]
 split<;>rfl
theorem Y0{r:Row}{o:Nat}(h:o<r.size)(H:Heap):ld1 (some (.row r)) o H=.val (r.get o) H:=by
 show Yb (Nat.ble (Nat.succ o) r.size) (.val (r.get o) H)=_
 rw[Zj (show Nat.succ o<=r.size from h)];rfl
theorem TF{r:Row}{b o:Nat}{v:AV}{H:Heap}(hv:v.cells=[v])(ho:o<r.size)(how:r.own=true)(hro:H.ro<=b)(hfz:r.fz<=o):CC 1 (some (.row r)) b o v H=.val XL (H.put b (.row (r.st o v))):=by
 show Yb (Nat.ble 1 1) (Yb (cond r.own (Nat.ble H.ro b) false) (Yb (Nat.ble (o+1) r.size) (Yb (Nat.ble r.fz o) (Yb (Nat.beq (Xa v.cells) 1) (.val XL (H.put b (.row (r.setCells (WO r.cells o v.cells)))))))))=_
 rw[how,cond_true,Zj hro,Zj (show o+1<=r.size from ho),Zj hfz,hv];rfl
def tH(a:AV)(H:Heap):OR:=cN a (.val (.str []) H)<|TD a (.val (.str []) H) λb o n _=>cond (Nat.beq n 0) (.val (.str []) H) (XA H b λr=>Yb (Nat.ble (Nat.add o n) r.size) (Pu (λs=>.val (.str s) H) (W9 r o n)))
theorem QH(x:YF)(tm:TM)(H:Heap):xT x tm H=tH (x tm) H:=rfl
theorem IN{H:Heap}{b o n:Nat}{c:Option Nat}{r:Row}{l:List UInt8}(hr:H.t.get b=some (.row r))(hl:l.length=n)(hf:o+n<=r.size)(hg: ∀i,i<n->r.get (o+i)=Vf (l.getD i 0)):tH (.slice b o n c) H=.val (.str l) H:=by
 subst hl
 by_cases h0:l.length=0
 ·have:l=[]:=XH.1 h0
  subst this;rfl
 ·show cond (Nat.beq l.length 0) _ (XA H b _)=_
  rw[YZ,Ze h0]
  show XA H b _=_
  unfold XA
  rw[hr]
  show Yb (Nat.ble (o+l.length) r.size) (Pu _ (W9 r o l.length))=_
  have:W9 r o l.length=l.map Vf:=by
   refine XP λi=>?_
   by_cases hi:i<l.length
   ·rw[TZ r l.length o i hi,hg i hi,Xb,Zp hi,Zh,Zp hi];rfl
   ·rw[Y5 (by rw[TB];omega),Y5 (by rw[ZW];omega)]
  rw[Zj hf,this,DZ];rfl
def AS(e:Nat)(a:AV)(H:Heap):OR:=PL a λs=>.val (.slice H.nx 0 (Xa s) none) (H.new (.row ⟨e,1,Xa s,T.ofList (HF s),.unk,0,true,true,false⟩))
theorem YG(x:YF)(e:Nat)(tm:TM)(H:Heap):Dm x e tm H=AS e (x tm) H:=rfl
theorem Yv(e:Nat)(s:List UInt8)(H:Heap):AS e (.str s) H=.val (.slice H.nx 0 s.length none) (H.new (rG e 1 (s.map Vf) 0 true true false)):=by
 show OR.val (.slice H.nx 0 (Xa s) none) (H.new (.row ⟨e,1,Xa s,T.ofList (HF s),.unk,0,true,true,false⟩))=_
 have:HF s=s.map Vf:=by rw[FY];rfl
 unfold rG
 rw[this,Y6,Y6,ZW]
theorem p5(x:YF)(t:Nat)(tm:TM)(H:Heap):Pn x t tm H=.val (.iface t (x tm)) H:=rfl
theorem OH(f:Nat)(a b:List YF)(tm:TM)(H:Heap):Dn f a b tm H=.val (.func f (evs tm a) (evs tm b)) H:=rfl
def sA(P:Program)(a:AV)(args:List AV)(H:Heap):OR:=match a with
 |.func f x y=>.oth (.call f (x++(args++y)) H)
 |.meth n r=>QI r .fail λu v=>J9 P n u λg=>.oth (.call g (v::args) H)
 |.yield b=>.oth (.yield b args H)
 |_=>.fail
theorem Lw(x:YF)(P:Program)(args:List YF)(tm:TM)(H:Heap):OG x P args tm H=sA P (x tm) (evs tm args) H:=rfl
theorem ZX(P:Program)(f:Nat)(x y args:List AV)(H:Heap):sA P (.func f x y) args H=.oth (.call f (x++(args++y)) H):=rfl
theorem Zbr(lit:Bool)(g:Nat->AV->AV->Option Bool)(neg:Bool)(t:Nat)(v:AV)(H:Heap):ND (qF lit g) neg (.iface t v) .nili H=.val (.bool neg) H:=by cases neg<;>rfl
theorem Zbs(g:Nat->AV->AV->Option Bool)(neg:Bool)(H:Heap):ND (qF true g) neg .nili .nili H=.val (.bool (!neg)) H:=by cases neg<;>rfl
def cP(neg:Bool)(r:Option Bool)(H:Heap):OR:=match r with|some b=>.val (.bool (cond neg (!b) b)) H|none=>.fail
theorem oB(neg b:Bool)(H:Heap):cP neg (some b) H=.val (.bool (cond neg (!b) b)) H:=rfl
theorem Zbq(lit:Bool)(g:Nat->AV->AV->Option Bool)(neg:Bool)(t:Nat)(v w:AV)(H:Heap):ND (qF lit g) neg (.iface t v) (.iface t w) H=cP neg (g t v w) H:=by
 show TK (cond (Nat.beq t t) (g t v w) (some false)) _=_
 rw[Xu,cond_true]
 cases g t v w with
 |none=>rfl
 |some b=>
  show SF (cond neg (cond b false true) b) H=_
  rw[T3];cases neg<;>cases b<;>rfl
theorem De(n:Nat):Rv n []=true:=rfl
theorem BO(n:Nat)(v:AV)(l:List AV):Rv n (v::l)=cond (WC n v) (Rv n l) false:=rfl
theorem uu(n t:Nat)(v:AV):WC n (.iface t v)=WC n v:=rfl
theorem kZ(n:Nat)(l:List AV):WC n (.tup l)=Rv n l:=rfl
theorem ub(b o n:Nat)(t:T Obj):Um (.val (.ptr b o) ⟨n,t,n⟩) (.ptr b o) n=true:=Td _ _ _ (by unfold same;rw[Xu,Xu];rfl)
theorem pM(n:Nat):WC n .nili=true:=rfl
theorem pN(n:Nat):WC n .nils=true:=rfl
theorem kX(n:Nat)(k:IntKind)(z:Int):WC n (.int k z)=true:=rfl
def LX(t:Nat)(zv:AV)(ok:Bool)(a:AV)(H:Heap):OR:=QI a (Qt zv ok H none) λu v=>Qt zv ok H (cond (Nat.beq u t) (some v) none)
theorem uF(x:YF)(t:Nat)(zv:AV)(ok:Bool)(tm:TM)(H:Heap):Ic x t zv ok tm H=LX t zv ok (x tm) H:=rfl
theorem vr(t:Nat)(zv:AV)(H:Heap):LX t zv true .nili H=.val (.tup [zv,.bool false]) H:=rfl
theorem vt(t:Nat)(zv v:AV)(H:Heap):LX t zv true (.iface t v) H=.val (.tup [v,.bool true]) H:=by
 show Qt zv true H (cond (Nat.beq t t) (some v) none)=_
 rw[Xu];rfl
def cS(a:AV)(H:Heap):OR:=QI a .fail λ_ _=>.oth (.pan a H)
theorem p8(x:YF)(tm:TM)(H:Heap):QG x tm H=cS (x tm) H:=rfl
theorem cT(t:Nat)(v:AV)(H:Heap):cS (.iface t v) H=.oth (.pan (.iface t v) H):=rfl
theorem lH(next:TM->Heap->X->WQ)(dst:Yh)(c:Ctx)(tm:TM)(H:Heap)(x:X)(v:AV)(H':Heap):Pz next dst c tm H x (.oth (.pan v H'))=.ok (.pan v) tm H' x:=rfl
theorem jK(next:TM->Heap->X->WQ)(dst:Yh)(tm:TM)(x:X)(v:AV)(H:Heap):Du next dst tm x (.pan v H)=.ok (.pan v) tm H x:=rfl
theorem nv(v:AV)(tm:TM)(H:Heap)(x:X)(k:TM->Heap->X->WQ):Q2 (.ok (.pan v) tm H x) k=.ok (.pan v) tm H x:=rfl
theorem uk(i:Nat)(v:AV)(tm:TM)(H:Heap)(x:X):QD i (.ok (.pan v) tm H x)=.ok (.pan v) tm H x:=rfl
theorem jR(dc:Option AV->Nat->List AV->Heap->DR)(rs:List (YF×Option (Nat×Bool)))(v:AV)(tm:TM)(H:Heap)(rc:Option AV):MM dc rs (.ok (.pan v) tm H ⟨[],rc⟩)=.pan v H:=rfl
theorem ip(ds:List Yh)(p:PI)(nx:PK)(rs:List RD)(tm:TM)(x:X)(v:AV)(H:Heap):DF ds p nx rs tm x (.pan v H)=.ok (.pan v) (Qx tm ds) H x:=rfl
def yT(H:Heap)(vs:List AV):CR:=match vs with|[v]=>.ret v H|vs=>.ret (.tup vs) H
theorem wg(rs:List (YF×Option (Nat×Bool)))(tm:TM)(H:Heap):results rs tm H=P9 tm H (yT H) rs:=rfl
theorem Zbw(H:Heap)(v:AV):yT H [v]=.ret v H:=rfl
theorem Zbv(H:Heap):yT H []=.ret (.tup []) H:=rfl
theorem Zbx(H:Heap)(v w:AV)(l:List AV):yT H (v::w::l)=.ret (.tup (v::w::l)) H:=rfl
theorem oS(tm:TM)(H:Heap)(k:List AV->CR):P9 tm H k []=k []:=rfl
def rV(n:Nat)(ag:Bool)(o:Option Obj)(off:Nat)(k:AV->CR):CR:=match o with
 |some (.row r)=>cond (Nat.ble (Nat.add off n) r.size) (cond ag (k (.agg (W9 r off n))) (k (r.get off))) .fail
 |_=>.fail
def bh(H:Heap)(a:AV)(n:Nat)(ag:Bool)(k:AV->CR):CR:=match a with
 |.ptr b o=>rV n ag (H.t.get b) o k
 |_=>.fail
theorem ik(H:Heap)(b o n:Nat)(ag:Bool)(k:AV->CR):bh H (.ptr b o) n ag k=rV n ag (H.t.get b) o k:=rfl
theorem th(f:YF)(tm:TM)(H:Heap)(k:List AV->CR)(l:List (YF×Option (Nat×Bool))):P9 tm H k ((f,none)::l)=P9 tm H (λvs=>k (f tm::vs)) l:=rfl
theorem tj(f:YF)(n:Nat)(ag:Bool)(tm:TM)(H:Heap)(k:List AV->CR)(l:List (YF×Option (Nat×Bool))):P9 tm H k ((f,some (n,ag))::l)=bh H (f tm) n ag (λv=>P9 tm H (λvs=>k (v::vs)) l):=rfl
theorem j6{n e sz:Nat}{l:List AV}{fz:Nat}{sm own ex:Bool}(hn:l.length=n)(k:AV->CR):rV n true (some (rG e sz l fz sm own ex)) 0 k=k (.agg l):=by
 subst hn
 show cond (Nat.ble (0+l.length) (Xa l)) (k (.agg (W9 ⟨e,sz,Xa l,T.ofList l,.unk,fz,sm,own,ex⟩ 0 l.length))) .fail=_
 rw[(LG e sz l fz sm own ex).load (by omega),ZC,Vh,Y6,Zb,Zj (Zz _)];rfl
theorem ZcG{e sz o:Nat}{l:List AV}{fz:Nat}{sm own ex:Bool}(hn:o<l.length)(k:AV->CR):rV 1 false (some (rG e sz l fz sm own ex)) o k=k (l.getD o .unk):=by
 show cond (Nat.ble (o+1) (Xa l)) (k (Row.get ⟨e,sz,Xa l,T.ofList l,.unk,fz,sm,own,ex⟩ o)) .fail=_
 rw[DD,Y6,Zj (show o+1<=l.length from hn)];rfl
theorem pW(x:YF)(args:List YF)(tm:TM)(H:Heap):HJ x args tm H=.oth (.defer (x tm) (evs tm args)):=rfl
theorem xR(tm:TM)(H:Heap):Ig tm H=.oth .recov:=rfl
theorem vY(next:TM->Heap->X->WQ)(dst:Yh)(cl y rg fu)(tm:TM)(H:Heap)(x:X)(f:Nat)(a b args:List AV):Pz next dst ⟨cl,y,rg,fu,false⟩ tm H x (.oth (.defer (.func f a b) args))=next (dst tm XL) H ⟨(.func f a b,args)::x.df,x.rc⟩:=rfl
theorem yY(next:TM->Heap->X->WQ)(dst:Yh)(cl y rg fu)(tm:TM)(H:Heap)(df:List (AV×List AV)):Pz next dst ⟨cl,y,rg,fu,false⟩ tm H ⟨df,none⟩ (.oth .recov)=next (dst tm .nili) H ⟨df,none⟩:=rfl
theorem yZ(next:TM->Heap->X->WQ)(dst:Yh)(cl y rg fu)(tm:TM)(H:Heap)(df:List (AV×List AV))(v:AV):Pz next dst ⟨cl,y,rg,fu,false⟩ tm H ⟨df,some v⟩ (.oth .recov)=next (dst tm v) H ⟨df,none⟩:=rfl
theorem oE(dc:Option AV->Nat->List AV->Heap->DR)(rs:List (YF×Option (Nat×Bool)))(tm:TM)(H:Heap)(d:AV×List AV)(l:List (AV×List AV))(rc:Option AV):MM dc rs (.ok .ret tm H ⟨d::l,rc⟩)=deferred dc rs tm (d::l) none H:=rfl
theorem oD(dc:Option AV->Nat->List AV->Heap->DR)(rs:List (YF×Option (Nat×Bool)))(v:AV)(tm:TM)(H:Heap)(d:AV×List AV)(l:List (AV×List AV))(rc:Option AV):MM dc rs (.ok (.pan v) tm H ⟨d::l,rc⟩)=deferred dc rs tm (d::l) (some v) H:=rfl
def EF(dc:Option AV->Nat->List AV->Heap->DR)(rs:List (YF×Option (Nat×Bool)))(tm:TM)(l:List (AV×List AV))(pn:Option AV)(r:DR):CR:=match r with
 |.ret _ H rec=>deferred dc rs tm l (cond rec none pn) H
 |_=>.fail
theorem Cg(dc:Option AV->Nat->List AV->Heap->DR)(rs:List (YF×Option (Nat×Bool)))(tm:TM)(g:Nat)(a b args:List AV)(l:List (AV×List AV))(pn:Option AV)(H:Heap):deferred dc rs tm ((.func g a b,args)::l) pn H=EF dc rs tm l pn (dc pn g (a++(args++b)) H):=by
 show(match dc pn g (a++(args++b)) H with|.ret _ H rec=>deferred dc rs tm l (cond rec none pn) H|_=>.fail)=_
 unfold EF
 cases dc pn g (a++(args++b)) H<;>rfl
theorem vN(dc:Option AV->Nat->List AV->Heap->DR)(rs:List (YF×Option (Nat×Bool)))(tm:TM)(l:List (AV×List AV))(pn:Option AV)(v:AV)(H:Heap)(rec:Bool):EF dc rs tm l pn (.ret v H rec)=deferred dc rs tm l (cond rec none pn) H:=rfl
theorem AY(dc:Option AV->Nat->List AV->Heap->DR)(rs:List (YF×Option (Nat×Bool)))(tm:TM)(H:Heap):deferred dc rs tm [] none H=results rs tm H:=rfl
theorem AZ(dc:Option AV->Nat->List AV->Heap->DR)(rs:List (YF×Option (Nat×Bool)))(tm:TM)(v:AV)(H:Heap):deferred dc rs tm [] (some v) H=.pan v H:=rfl
def cQ{α β:Type}(o:Option α)(d:β)(k:α->β):β:=match o with|some x=>k x|none=>d
theorem cM{α:Type}(d:α)(fs:T CF)(f:Nat)(k:CF->α):HM d fs f k=cQ (fs.get f) d k:=by
 unfold HM cQ;cases fs.get f<;>rfl
theorem oC{α β:Type}(x:α)(d:β)(k:α->β):cQ (some x) d k=k x:=rfl
def uS(rc:Option AV)(x:X)(r:CR):DR:=match r with|.ret v H=>.ret v H (NT rc x)|_=>.fail
theorem jQ(rc:Option AV)(x:X)(v:AV)(H:Heap):uS rc x (.ret v H)=.ret v H (NT rc x):=rfl
theorem G5(rc:Option AV)(rs:List (YF×Option (Nat×Bool)))(tm:TM)(H:Heap)(q:Option AV):HN rc rs (.ok .normal tm H ⟨[],q⟩)=uS rc ⟨[],q⟩ (results rs tm H):=by
 show(match([]:List (AV×List AV)),results rs tm H with|[],.ret v H=>DR.ret v H (NT rc ⟨[],q⟩)|_,_=>.fail)=_
 unfold uS
 cases results rs tm H<;>rfl
theorem jP(rc:Option AV)(rs:List (YF×Option (Nat×Bool)))(tm:TM)(H:Heap)(q:Option AV):HN rc rs (.ok .ret tm H ⟨[],q⟩)=uS rc ⟨[],q⟩ (results rs tm H):=G5 rc rs tm H q
theorem jO(rc:Option AV)(rs:List (YF×Option (Nat×Bool)))(v:AV)(tm:TM)(H:Heap)(q:Option AV):HN rc rs (.ok (.pan v) tm H ⟨[],q⟩)=.pan v H (NT rc ⟨[],q⟩):=rfl
theorem ZcI(v:AV)(l:List (AV×List AV)):NT (some v) ⟨l,none⟩=true:=rfl
theorem ZcH(x:X):NT none x=false:=rfl
theorem fo(a b c d e:AV):Sp [a,b,c,d,e]=XB (VK (st2 (st1 (st0 NZ a) b) c) d) e:=rfl
theorem Hi(k:List AV->OR)(cells:List AV):QZ k [] cells=k cells:=rfl
theorem vT(k:List AV->OR)(o n:Nat)(v:AV)(ps:List (Nat×Nat×AV))(cells:List AV):QZ k ((o,n,v)::ps) cells=Yb (Nat.ble 1 n) (Yb (Nat.beq (Xa v.cells) n) (Yb (Nat.ble (Nat.add o n) (Xa cells)) (QZ k ps (PQ o cells++(v.cells++QY (Nat.add o n) cells))))):=rfl
theorem kN{cells l:List AV}{o:Nat}(h:o+l.length<=cells.length):PQ o cells++(l++QY (Nat.add o l.length) cells)=lay cells o l:=by
 rw[zn cells o l h]
 have h1:PQ o cells=cells.take o:=NX ..
 have h2:QY (o+l.length) cells=cells.drop (o+l.length):=NC ..
 rw[h1]
 show _++(_++QY (o+l.length) cells)=_
 rw[h2]
theorem EI{k:List AV->OR}{o n:Nat}{v:AV}{l:List AV}{ps:List (Nat×Nat×AV)}{cells:List AV}(hv:v.cells=l)(hl:l.length=n)(hn:1<=n)(h:o+n<=cells.length):QZ k ((o,n,v)::ps) cells=QZ k ps (lay cells o l):=by
 subst hv;subst hl
 rw[vT,Zj hn,Y6,Xu,Y6,Zj (show Nat.add o v.cells.length<=cells.length from h),kN h];rfl
theorem NE{k:List AV->OR}{o:Nat}{v:AV}{ps:List (Nat×Nat×AV)}{cells:List AV}(hv:v.cells=[v])(h:o<cells.length):QZ k ((o,1,v)::ps) cells=QZ k ps (cells.set o v):=EI hv rfl (Zz 1) h
theorem qK{k:List AV->OR}{o n:Nat}{l:List AV}{ps:List (Nat×Nat×AV)}{cells:List AV}(hl:l.length=n)(hn:1<=n)(h:o+n<=cells.length):QZ k ((o,n,.agg l)::ps) cells=QZ k ps (lay cells o l):=EI rfl hl hn h
theorem MY(z:AV)(zs:List AV)(ps:List (Nat×Nat×AV))(H:Heap):SA (z::zs) ps H=QZ (λcs=>.val (.agg cs) H) ps (z::zs):=by
 show Yb (Nat.ble 1 (Xa (z::zs))) _=_
 rw[Y6,Zj (by simp)];rfl
theorem En{e sz n:Nat}{zs:List AV}{ps:List (Nat×Nat×AV)}{H:Heap}(h1:1<=sz)(h2:zs.length=n*sz):TQ e sz n zs ps H=QZ (λcs=>.val (.slice H.nx 0 n none) (H.newRow e sz cs true)) ps zs:=by
 show Yb (Nat.ble 1 sz) (Yb (Nat.beq (Xa zs) (Nat.mul n sz)) _)=_
 rw[Zj h1,Y6,h2,show Nat.mul n sz=n*sz from rfl,Xu];rfl
theorem ZY:(∀(x:YF) (args:List YF) (tm:TM) (H:Heap),HJ x args tm H=.oth (.defer (x tm) (evs tm args)))∧
 (∀(tm:TM) (H:Heap),Ig tm H=.oth .recov)∧
 (∀(next:TM->Heap->X->WQ) (dst:Yh) (cl y rg fu) (tm:TM) (H:Heap) (x:X) (f:Nat) (a b args:List AV),Pz next dst ⟨cl,y,rg,fu,false⟩ tm H x (.oth (.defer (.func f a b) args))=next (dst tm XL) H ⟨(.func f a b,args)::x.df,x.rc⟩)∧
 (∀(next:TM->Heap->X->WQ) (dst:Yh) (cl y rg fu) (tm:TM) (H:Heap) (df:List (AV×List AV)),Pz next dst ⟨cl,y,rg,fu,false⟩ tm H ⟨df,none⟩ (.oth .recov)=next (dst tm .nili) H ⟨df,none⟩)∧
 (∀(next:TM->Heap->X->WQ) (dst:Yh) (cl y rg fu) (tm:TM) (H:Heap) (df:List (AV×List AV)) (v:AV),Pz next dst ⟨cl,y,rg,fu,false⟩ tm H ⟨df,some v⟩ (.oth .recov)=next (dst tm v) H ⟨df,none⟩)∧
 (∀(dc:Option AV->Nat->List AV->Heap->DR) (rs:List (YF×Option (Nat×Bool))) (tm:TM) (H:Heap) (d:AV×List AV) (l:List (AV×List AV)) (rc:Option AV),MM dc rs (.ok .ret tm H ⟨d::l,rc⟩)=deferred dc rs tm (d::l) none H)∧
 (∀(dc:Option AV->Nat->List AV->Heap->DR) (rs:List (YF×Option (Nat×Bool))) (v:AV) (tm:TM) (H:Heap) (d:AV×List AV) (l:List (AV×List AV)) (rc:Option AV),MM dc rs (.ok (.pan v) tm H ⟨d::l,rc⟩)=deferred dc rs tm (d::l) (some v) H)∧
 (∀(dc:Option AV->Nat->List AV->Heap->DR) (rs:List (YF×Option (Nat×Bool))) (tm:TM) (g:Nat) (a b args:List AV) (l:List (AV×List AV)) (pn:Option AV) (H:Heap),deferred dc rs tm ((.func g a b,args)::l) pn H=EF dc rs tm l pn (dc pn g (a++(args++b)) H))∧
 (∀(dc:Option AV->Nat->List AV->Heap->DR) (rs:List (YF×Option (Nat×Bool))) (tm:TM) (l:List (AV×List AV)) (pn:Option AV) (v:AV) (H:Heap) (rec:Bool),EF dc rs tm l pn (.ret v H rec)=deferred dc rs tm l (cond rec none pn) H)∧
 (∀(dc:Option AV->Nat->List AV->Heap->DR) (rs:List (YF×Option (Nat×Bool))) (tm:TM) (H:Heap),deferred dc rs tm [] none H=results rs tm H)∧
 (∀(dc:Option AV->Nat->List AV->Heap->DR) (rs:List (YF×Option (Nat×Bool))) (tm:TM) (v:AV) (H:Heap),deferred dc rs tm [] (some v) H=.pan v H)∧
 (∀{α β:Type} (x:α) (d:β) (k:α->β),cQ (some x) d k=k x)∧
 (∀(rc:Option AV) (x:X) (v:AV) (H:Heap),uS rc x (.ret v H)=.ret v H (NT rc x))∧
 (∀(rc:Option AV) (rs:List (YF×Option (Nat×Bool))) (tm:TM) (H:Heap) (q:Option AV),HN rc rs (.ok .normal tm H ⟨[],q⟩)=uS rc ⟨[],q⟩ (results rs tm H))∧
 (∀(rc:Option AV) (rs:List (YF×Option (Nat×Bool))) (tm:TM) (H:Heap) (q:Option AV),HN rc rs (.ok .ret tm H ⟨[],q⟩)=uS rc ⟨[],q⟩ (results rs tm H))∧
 (∀(rc:Option AV) (rs:List (YF×Option (Nat×Bool))) (v:AV) (tm:TM) (H:Heap) (q:Option AV),HN rc rs (.ok (.pan v) tm H ⟨[],q⟩)=.pan v H (NT rc ⟨[],q⟩))∧
 (∀(v:AV) (l:List (AV×List AV)),NT (some v) ⟨l,none⟩=true)∧
 (∀(x:X),NT none x=false)∧
 (∀{a:AV} (h:a.cells=[a]) (e:Nat) (H:Heap),N2 e a H=.val (.ptr H.nx 0) (H.new (rG e 1 [a] 0 false true true)))∧
 (∀{l:List AV} (h1:1<=l.length) (e:Nat) (H:Heap),N2 e (.agg l) H=.val (.ptr H.nx 0) (H.new (rG e 1 l 0 false true true)))∧
 (∀{b c:Nat} (h: ¬b=c) (H:Heap) (o:Obj),(H.put b o).t.get c=H.t.get c)∧
 (∀{H:Heap} {c:Nat} (h: ¬H.nx=c) (o:Obj),(H.new o).t.get c=H.t.get c)∧
 (∀{H:Heap} {c:Nat} (h:H.nx=c) (o:Obj),(H.new o).t.get c=some o)∧
 (∀{H:Heap} {b:Nat} (h:H.nx=b) (o o':Obj),(H.new o).put b o'=H.new o')∧
 (∀(neg b:Bool) (H:Heap),cP neg (some b) H=.val (.bool (cond neg (!b) b)) H)∧
 (∀(lit:Bool) (g:Nat->AV->AV->Option Bool) (neg:Bool) (t:Nat) (v w:AV) (H:Heap),ND (qF lit g) neg (.iface t v) (.iface t w) H=cP neg (g t v w) H)∧
 (∀(n:Nat),Rv n []=true)∧
 (∀(n:Nat) (v:AV) (l:List AV),Rv n (v::l)=cond (WC n v) (Rv n l) false)∧
 (∀(n t:Nat) (v:AV),WC n (.iface t v)=WC n v)∧
 (∀(n:Nat) (l:List AV),WC n (.tup l)=Rv n l)∧
 (∀(b o n:Nat) (t:T Obj),Um (.val (.ptr b o) ⟨n,t,n⟩) (.ptr b o) n=true)∧
 (∀(n:Nat),WC n .nili=true)∧
 (∀(n:Nat),WC n .nils=true)∧
 (∀(n:Nat) (k:IntKind) (z:Int),WC n (.int k z)=true)∧
 (∀(k:List AV->OR) (cells:List AV),QZ k [] cells=k cells)∧
 (∀{k:List AV->OR} {o:Nat} {v:AV} {ps:List (Nat×Nat×AV)} {cells:List AV} (hv:v.cells=[v]) (h:o<cells.length),QZ k ((o,1,v)::ps) cells=QZ k ps (cells.set o v))∧
 (∀(z:AV) (zs:List AV) (ps:List (Nat×Nat×AV)) (H:Heap),SA (z::zs) ps H=QZ (λcs=>.val (.agg cs) H) ps (z::zs))∧
 (∀(e sz:Nat) (l:List AV) (fz:Nat) (sm ex:Bool),wrO (rG e sz l fz sm true ex)=true)∧
 (∀(x:YF) (e:Nat) (tm:TM) (H:Heap),Dm x e tm H=AS e (x tm) H)∧
 (∀(e:Nat) (s:List UInt8) (H:Heap),AS e (.str s) H=.val (.slice H.nx 0 s.length none) (H.new (rG e 1 (s.map Vf) 0 true true false)))∧
 (∀(x:YF) (t:Nat) (tm:TM) (H:Heap),Pn x t tm H=.val (.iface t (x tm)) H)∧
 (∀(f:Nat) (a b:List YF) (tm:TM) (H:Heap),Dn f a b tm H=.val (.func f (evs tm a) (evs tm b)) H)∧
 (∀(x:YF) (P:Program) (args:List YF) (tm:TM) (H:Heap),OG x P args tm H=sA P (x tm) (evs tm args) H)∧
 (∀(P:Program) (f:Nat) (x y args:List AV) (H:Heap),sA P (.func f x y) args H=.oth (.call f (x++(args++y)) H))∧
 (∀(lit:Bool) (g:Nat->AV->AV->Option Bool) (neg:Bool) (t:Nat) (v:AV) (H:Heap),ND (qF lit g) neg (.iface t v) .nili H=.val (.bool neg) H)∧
 (∀(g:Nat->AV->AV->Option Bool) (neg:Bool) (H:Heap),ND (qF true g) neg .nili .nili H=.val (.bool (!neg)) H)∧
 (∀(x:YF) (t:Nat) (zv:AV) (ok:Bool) (tm:TM) (H:Heap),Ic x t zv ok tm H=LX t zv ok (x tm) H)∧
 (∀(t:Nat) (zv:AV) (H:Heap),LX t zv true .nili H=.val (.tup [zv,.bool false]) H)∧
 (∀(t:Nat) (zv v:AV) (H:Heap),LX t zv true (.iface t v) H=.val (.tup [v,.bool true]) H)∧
 (∀(x:YF) (tm:TM) (H:Heap),QG x tm H=cS (x tm) H)∧
 (∀(t:Nat) (v:AV) (H:Heap),cS (.iface t v) H=.oth (.pan (.iface t v) H))∧
 (∀(next:TM->Heap->X->WQ) (dst:Yh) (c:Ctx) (tm:TM) (H:Heap) (x:X) (v:AV) (H':Heap),Pz next dst c tm H x (.oth (.pan v H'))=.ok (.pan v) tm H' x)∧
 (∀(next:TM->Heap->X->WQ) (dst:Yh) (tm:TM) (x:X) (v:AV) (H:Heap),Du next dst tm x (.pan v H)=.ok (.pan v) tm H x)∧
 (∀(v:AV) (tm:TM) (H:Heap) (x:X) (k:TM->Heap->X->WQ),Q2 (.ok (.pan v) tm H x) k=.ok (.pan v) tm H x)∧
 (∀(i:Nat) (v:AV) (tm:TM) (H:Heap) (x:X),QD i (.ok (.pan v) tm H x)=.ok (.pan v) tm H x)∧
 (∀(dc:Option AV->Nat->List AV->Heap->DR) (rs:List (YF×Option (Nat×Bool))) (v:AV) (tm:TM) (H:Heap) (rc:Option AV),MM dc rs (.ok (.pan v) tm H ⟨[],rc⟩)=.pan v H)∧
 (∀(ds:List Yh) (p:PI) (nx:PK) (rs:List RD) (tm:TM) (x:X) (v:AV) (H:Heap),DF ds p nx rs tm x (.pan v H)=.ok (.pan v) (Qx tm ds) H x)∧
 (∀(rs:List (YF×Option (Nat×Bool))) (tm:TM) (H:Heap),results rs tm H=P9 tm H (yT H) rs)∧
 (∀(H:Heap) (v:AV),yT H [v]=.ret v H)∧
 (∀(H:Heap),yT H []=.ret (.tup []) H)∧
 (∀(H:Heap) (v w:AV) (l:List AV),yT H (v::w::l)=.ret (.tup (v::w::l)) H)∧
 (∀(tm:TM) (H:Heap) (k:List AV->CR),P9 tm H k []=k [])∧
 (∀(f:YF) (tm:TM) (H:Heap) (k:List AV->CR) (l:List (YF×Option (Nat×Bool))),P9 tm H k ((f,none)::l)=P9 tm H (λvs=>k (f tm::vs)) l)∧
 (∀(f:YF) (n:Nat) (ag:Bool) (tm:TM) (H:Heap) (k:List AV->CR) (l:List (YF×Option (Nat×Bool))),P9 tm H k ((f,some (n,ag))::l)=bh H (f tm) n ag (λv=>P9 tm H (λvs=>k (v::vs)) l))∧
 (∀(H:Heap) (b o n:Nat) (ag:Bool) (k:AV->CR),bh H (.ptr b o) n ag k=rV n ag (H.t.get b) o k)∧
 (∀(x:YF) (tm:TM) (H:Heap),xT x tm H=tH (x tm) H):=⟨@pW, @xR, @vY, @yY, @yZ, @oE, @oD, @Cg, @vN, @AY, @AZ, @oC, @jQ, @G5, @jP, @jO, @ZcI, @ZcH, @yA, @Vx, @RW, @Pb, @YD, @SC, @oB, @Zbq, @De, @BO, @uu, @kZ, @ub, @pM, @pN, @kX, @Hi, @NE, @MY, @gC, @YG, @Yv, @p5, @OH, @Lw, @ZX, @Zbr, @Zbs, @uF, @vr, @vt, @p8, @cT, @lH, @jK, @nv, @uk, @jR, @ip, @wg, @Zbw, @Zbv, @Zbx, @oS, @th, @tj, @ik, @QH⟩
theorem Xh:(∀(e sz:Nat) (l:List AV) (fz:Nat) (sm ex:Bool),wrO (rG e sz l fz sm true ex)=true)∧
 (∀(H:Heap) (b:Nat) (o:Obj),(H.put b o).nx=H.nx)∧
 (∀(H:Heap) (o:Obj),(H.new o).nx=H.nx+1)∧
 (∀(H:Heap) (b:Nat) (o:Obj),(H.put b o).ro=H.ro)∧
 (∀(H:Heap) (o:Obj),(H.new o).ro=H.ro)∧
 (∀(b:Bool),(AV.bool b).cells=[.bool b])∧
 (∀(k:IntKind) (n:Int),(AV.int k n).cells=[.int k n])∧
 (∀(k:IntKind) (n:Nat),(nI k n).cells=[nI k n])∧
 (∀(x:UInt8),(Vf x).cells=[Vf x])∧
 (∀(s:List UInt8),(AV.str s).cells=[.str s])∧
 (AV.nilp.cells=[.nilp])∧
 (∀(b o:Nat),(AV.ptr b o).cells=[.ptr b o])∧
 (AV.nils.cells=[.nils])∧
 (∀(b o n:Nat) (c:Option Nat),(AV.slice b o n c).cells=[.slice b o n c])∧
 (∀(b:Nat),(AV.map b).cells=[.map b])∧
 (∀(f:Nat) (a b:List AV),(AV.func f a b).cells=[.func f a b])∧
 (∀(t:Nat) (v:AV),(AV.iface t v).cells=[.iface t v])∧
 (AV.nili.cells=[.nili])∧
 (∀(l:List AV),(AV.agg l).cells=l)∧
 (∀(r:Row) (o:Nat) (v:AV),(r.st o v).size=r.size)∧
 (∀(r:Row) (o:Nat) (v:AV),(r.st o v).own=r.own)∧
 (∀(r:Row) (o:Nat) (v:AV),(r.st o v).fz=r.fz)∧
 (∀(l:List AV) (o:Nat) (vs:List AV),(lay l o vs).length=l.length):=⟨@gC, @Mk, @zH, @jZ, @ji, @Ex, @Yy, @yK, @C0, @CZ, @EA, @CY, @EB, @Gy, @CX, @Ey, @Gx, @Ez, @CW, @Row.st_size, @Row.st_own, @Row.st_fz, @zp⟩
theorem Yu:((!true)=false)∧((!false)=true)∧(∀{α:Type} (l:List α),[]++l=l)∧(∀{α:Type} (l:List α),l++[]=l)∧(∀{α β:Type} (f:α->β),Option.map f none=none)∧(∀{α β:Type} (f:α->β) (a:α),Option.map f (some a)=some (f a))∧(∀{α β:Type} (f:α->β) (a:α) (l:List α),List.map f (a::l)=f a::List.map f l)∧(∀{α β:Type} (f:α->β),List.map f []=[])∧(∀{α:Type} (a b:α),cond true a b=a)∧(∀{α:Type} (a b:α),cond false a b=b)∧(∀(x i:Nat),x.testBit i=decide (x/2^i % 2=1))∧(∀h:Decidable True, @decide True h=true)∧(∀h:Decidable False, @decide False h=false)∧(∀n:Nat,0+n=n)∧
 (∀{α:Type} (a d:α) (l:List α),(a::l).getD 0 d=a)∧(∀{α:Type} (a d:α) (l:List α) (n:Nat),(a::l).getD (n+1) d=l.getD n d)∧(∀{α:Type} (a b:α) (l:List α),(a::l).set 0 b=b::l)∧(∀{α:Type} (a b:α) (l:List α) (n:Nat),(a::l).set (n+1) b=a::l.set n b):=
 ⟨ZN,ZI,λ_=>rfl,Zo,λ_=>rfl,λ_ _=>rfl,λ_ _ _=>rfl,λ_=>rfl,λ_ _=>rfl,λ_ _=>rfl,λ_ _=>Nat.testBit_eq_decide_div_mod_eq,λ_=>Zi trivial,λ_=>Ze id,Zb,λ_ _ _=>rfl,λ_ _ _ _=>rfl,λ_ _ _=>rfl,λ_ _ _ _=>rfl⟩
theorem Xi:(∀{α:Type} (a:α) (l:List α),(a::l).length=l.length+1)∧(∀{α:Type},([]:List α).length=0)∧(∀{α:Type} (l:List α) (n:Nat) (a:α),(l.set n a).length=l.length)∧(∀{α β:Type} (f:α->β) (l:List α),(l.map f).length=l.length):=
 ⟨λ_ _=>rfl,rfl,λ_ _ _=>Wx,λ_ _=>ZW ..⟩
section
variable {P:Program}
def Zca(n:Nat):Obj->Prop
 |.row r=> ∀i,i<r.size->WC n (r.get i)=true
 |.map es _=> ∀x∈es,WC n x.key=true∧WC n x.val=true
 |.siter _ _=>True
 |.loop=>True
 |_=>False
theorem UI.cutX{σ:Mp}{n:Nat}{o:Obj}{l:Loc}{c:Go.Obj}(h:Zca n o)(r:UI σ o l c):UI (σ.cut n) o l c:=by
 cases o with
 |row q=>
  obtain⟨cs,fr,rfl,r⟩:=r
  refine⟨cs,fr,rfl,r.sz,r.sz1,r.fits,r.room,r.exact,λi hi=>?_,r.one,r.frz,r.frs⟩
  obtain⟨v,h1,h2⟩:=r.cell i hi
  exact⟨v,h1,YU.cut (h i hi) h2⟩
 |map es clock=>
  obtain⟨ents,e,h1,h2⟩:=r
  exact⟨ents,e,Y3.cutE h h1,h2⟩
 |siter s pos=>exact r
 |loop=>exact r
 |miter _ _ _=>exact h.elim
 |cmap _=>exact h.elim
structure Less(H H' G:Heap):Prop where
 nx:H.nx<=G.nx
 ro:G.ro=H.ro
 old: ∀b,b<H.nx->G.t.get b=H'.t.get b
 new: ∀b o,H.nx<=b->G.t.get b=some o->H.t.get b=some o∨(b<G.nx∧H'.t.get b=some o)
 low: ∀b o,G.t.get b=some o->H.t.get b=some o∨Zca G.nx o
theorem Tr.less{σ σ':Mp}{H H' G:Heap}{w w':World}(hs:WL P σ H w)(t:Tr P σ H w σ' H' w')(g:Less H H' G):Tr P σ H w (σ'.cut G.nx) G w':=by
 have hex:Ext σ (σ'.cut G.nx):=λb l hb=>by
  have:=hs.dom b l hb
  rw[Mp.cut_lt (Yk this g.nx)]
  exact t.ext b l hb
 have hcut: ∀{b l},σ'.cut G.nx b=some l->σ' b=some l:=λh=>(Mp.cut_some h).2
 have hin: ∀b o,G.t.get b=some o->H'.t.get b=some o:=λb o h=>by
  by_cases hb:b<H.nx
  ·rw[<-g.old b hb];exact h
  ·rcases g.new b o (by omega) h with h1|h1
   ·exact absurd (hs.low b o h1) hb
   ·exact h1.2
 have hs':WL P (σ'.cut G.nx) G w':=by
  refine⟨λb l h=>(Mp.cut_some h).1,λb o h=>?_,λb o l hb hl=>?_,λb b' o o' l l' h1 h2 h3 h4 e=>t.sim.inj b b' o o' l l' (hin _ _ h1) (hin _ _ h2) (hcut h3) (hcut h4) e,λq hq=>?_,by rw[g.ro];exact YR hs.ro g.nx⟩
  ·by_cases hb:b<H.nx
   ·exact Yk hb g.nx
   ·rcases g.new b o (by omega) h with h1|h1
    ·exact absurd (hs.low b o h1) hb
    ·exact h1.1
  ·obtain⟨c,h2,h3⟩:=t.sim.alive b o l (hin b o hb) (hcut hl)
   refine⟨c,h2,?_⟩
   rcases g.low b o hb with h5|h4
   ·cases hσ:σ b with
    |none=>
     have:=(t.pend b (hs.low b o h5) hσ).2
     rw[hcut hl] at this;cases this
    |some l0=>
     have e:=t.ext b l0 hσ
     rw[hcut hl] at e;cases e
     obtain⟨c0,_,h1⟩:=hs.alive b o l h5 hσ
     exact(h1.back t.ext h3).mono hex
   ·exact h3.cutX h4
  ·obtain⟨l,h1,h2,h3⟩:=hs.glob q hq
   exact⟨l,hex _ _ h1,h2,h3⟩
 refine⟨hex,hs',t.size,t.frame,λb l hw hl hlt=>?_,g.nx,g.ro,λb hb=>?_,t.tape,t.os,t.out,λb hb hn=>?_⟩
 ·obtain⟨h1,o,h2,h3⟩:=hw
  exact t.wr b l ⟨by rw[t.ro,<-g.ro];exact h1,o,hin b o h2,h3⟩ (hcut hl) hlt
 ·rw[g.old b (Yk hb hs.ro)]
  exact t.low b hb
 ·obtain⟨h1,h2⟩:=t.pend b hb hn
  refine⟨by rw[g.old b hb,h1],?_⟩
  rw[Mp.cut_lt (Yk hb g.nx)];exact h2
def bS(H:Heap):CR->CR->Prop
 |.ret v H',.ret u G=>u=v∧Less H H' G∧WC G.nx v=true
 |.pan v H',.pan u G=>u=v∧Less H H' G∧WC G.nx v=true
 |_,_=>False
theorem dG{call:Nat->List AV->Heap->CR}(hcall:Sa P call){f:FuncId}{args:List AV}{H:Heap}{r:CR}(g:bS H (call f args H) r)
  {σ:Mp}{w:World}{vs:List Value}(hs:WL P σ H w)(hv:Xj σ args vs):N0 P σ H w r ((callFunc f ⟨vs⟩).run P w):=by
 have hcr:=hcall f _ H σ w vs hs hv
 generalize call f args H=q at g hcr
 cases q with
 |fail=>cases r<;>exact g.elim
 |ret v H'=>
  cases r with
  |ret u G=>
   obtain⟨rfl,g,hlow⟩:=g
   refine Ends.mono (λu' w' hx=>?_) (λ_ _ hx=>hx) hcr
   obtain⟨σ2,h1,t⟩:=hx
   exact⟨σ2.cut G.nx,YU.cut hlow h1,t.less hs g⟩
  |_=>exact g.elim
 |pan v H'=>
  cases r with
  |pan u G=>
   obtain⟨rfl,g,hlow⟩:=g
   refine Ends.mono (λ_ _ hx=>hx) (λu' w' hx=>?_) hcr
   obtain⟨σ2,h1,t⟩:=hx
   exact⟨σ2.cut G.nx,YU.cut hlow h1,t.less hs g⟩
  |_=>exact g.elim
theorem Less.put{H:Heap}{b:Nat}{o:Obj}(hb:b<H.nx)(ho:Zca H.nx o){H':Heap}(h: ∀c,c<H.nx->H'.t.get c=(H.put b o).t.get c):Less H H' (H.put b o):=by
 refine⟨Zz _,rfl,λc hc=>(h c hc).symm,λc q hc hq=>.inl ?_,λc q hq=>?_⟩
 ·rw[Mj,if_neg (by omega)] at hq;exact hq
 ·rw[Mj] at hq
  split at hq
  ·cases hq;exact .inr ho
  ·exact .inl hq
theorem Less.same{H H':Heap}(h: ∀c,c<H.nx->H'.t.get c=H.t.get c):Less H H' H:=
 ⟨Zz _,rfl,λc hc=>(h c hc).symm,λ_ _ _ hq=>.inl hq,λ_ _ hq=>.inl hq⟩
end
section
variable {P:Program}
abbrev Lib:=Nat->List AV->Heap->Option CR
def Da(Sj:Nat->Nat)(RK:Lib)(call:Nat->List AV->Heap->CR)(lib:Lib)(k:Nat):Lib:=λf args H=>
 open Classical in if Sj f=k then
  (match RK f args H with
  |some r=>if bS H (call f args H) r then some r else lib f args H
  |none=>if ∃v H',call f args H=.ret v H'∧ZK H H' []∧WC 0 v=true then(match call f args H with|.ret v _=>some (.ret v H)|_=>none) else lib f args H)
 else lib f args H
theorem kO{Sj:Nat->Nat}{RK:Lib}{call:Nat->List AV->Heap->CR}{lib:Lib}{k:Nat}(hcall:Sa P call)(hl:Ou P lib):Ou P (Da Sj RK call lib k):=by
 intro f args H r h σ w vs hs hv
 unfold Da at h
 split at h
 ·split at h
  ·split at h
   ·rename_i hc
    cases h
    exact dG hcall hc hs hv
   ·exact hl f args H r h σ w vs hs hv
  ·split at h
   ·rename_i hc
    obtain⟨v,H',h1,h2,h3⟩:=hc
    rw[h1] at h
    cases h
    exact dB hcall h1 h2 h3 hs hv
   ·exact hl f args H r h σ w vs hs hv
 ·exact hl f args H r h σ w vs hs hv
theorem K5{Sj:Nat->Nat}{RK:Lib}{call:Nat->List AV->Heap->CR}{lib:Lib}{k f:Nat}(h:Sj f≠k)(args:List AV)(H:Heap):Da Sj RK call lib k f args H=lib f args H:=by
 unfold Da;rw[if_neg h]
theorem uh{Sj:Nat->Nat}{RK:Lib}{call:Nat->List AV->Heap->CR}{lib:Lib}{k f:Nat}{args:List AV}{H H':Heap}{v:AV}(h:Sj f=k)(hs:RK f args H=none)(hr:call f args H=.ret v H')(g:ZK H H' [])(hv:WC 0 v=true):Da Sj RK call lib k f args H=some (.ret v H):=by
 unfold Da;rw[if_pos h,hs]
 simp only
 rw[if_pos ⟨v,H',hr,g,hv⟩,hr]
def HB(Zx:Lib)(fs:T CF)(fuel:Nat)(Sj:Nat->Nat)(RK:Lib):Nat->Lib
 |0=>Zx
 |k+1=>Da Sj RK (Z7 (HB Zx fs fuel Sj RK k) fs fuel 900) (HB Zx fs fuel Sj RK k) (k+1)
variable {Zx:Lib} {fs:T CF} {fuel:Nat} {Sj:Nat->Nat} {RK:Lib}
theorem zw(hc: ∀lib,Ou P lib->Sa P (Z7 lib fs fuel 900))(h0:Ou P Zx): ∀k,Ou P (HB Zx fs fuel Sj RK k)
 |0=>h0
 |k+1=>kO (hc _ (zw hc h0 k)) (zw hc h0 k)
theorem xu{f:Nat}(args:List AV)(H:Heap): ∀k,k<Sj f->HB Zx fs fuel Sj RK k f args H=Zx f args H
 |0,_=>rfl
 |k+1,h=>(K5 (by omega) args H).trans (xu args H k (by omega))
theorem HC{f:Nat}(h:Sj f=0)(args:List AV)(H:Heap): ∀k,HB Zx fs fuel Sj RK k f args H=Zx f args H
 |0=>rfl
 |k+1=>(K5 (by omega) args H).trans (HC h args H k)
theorem dH{f r:Nat}(h:Sj f=r)(args:List AV)(H:Heap): ∀k,r<=k->HB Zx fs fuel Sj RK k f args H=HB Zx fs fuel Sj RK r f args H:=by
 intro k hk
 induction k with
 |zero=>rw[Nat.le_zero.1 hk]
 |succ k ih=>
  by_cases e:r=k+1
  ·rw[e]
  ·exact(K5 (by omega) args H).trans (ih (by omega))
theorem ZU{f k:Nat}(h0: ∀l H,Zx f l H=none)(h:k<Sj f∨Sj f=0)(args:List AV)(H:Heap):HB Zx fs fuel Sj RK k f args H=none:=by
 rcases h with h|h
 ·rw[xu args H k h,h0]
 ·rw[HC h args H k,h0]
theorem NA{f k n:Nat}{args:List AV}{H:Heap}{r:CR}(h:Sj f=0)(hr:Zx f args H=some r):Z7 (HB Zx fs fuel Sj RK k) fs fuel (n+1) f args H=r:=
 CV (by rw[HC h];exact hr)
theorem Xc{f r k n:Nat}{args:List AV}{H H':Heap}{v:AV}(h:Sj f=r+1)(hs:RK f args H=none)(hr:Z7 (HB Zx fs fuel Sj RK r) fs fuel 900 f args H=.ret v H')(g:ZK H H' [])(hv:WC 0 v=true)(hk:r+1<=k):
  Z7 (HB Zx fs fuel Sj RK k) fs fuel (n+1) f args H=.ret v H:=
 CV (by rw[dH h args H k hk];exact uh h hs hr g hv)
end
end
end Go.AI
