/- Numbers in words: walked: proved without conditions but those that each names. -/
import Derived.Test.YtbmdhpdcgbgcnaaGreatDoorP8
import Derived.Test.YtbmdhpdcgbgcnaaGreatDoorPA
set_option maxRecDepth 1000000
set_option maxHeartbeats 0
set_option linter.unusedVariables false
set_option linter.unusedSimpArgs false
namespace Go.AI
open Go
noncomputable section
section
variable {Zx:Lib} {fs:T CF} {fuel k n i h b:Nat} {H H0:Heap} {s:List UInt8} {cs:List AV}
def Q4(x:Nat):Nat:=if x=0 then 0 else Nat.log2 x+1
theorem yz: ∀x,x<256->(xw.getD x 0).toNat=Q4 x:=by decide
theorem Em{x:Nat}(h:2^k<=x):Q4 x=k+Q4 (x/2^k):=by
 have hp:0<2^k:=Nat.two_pow_pos k
 have h1:x≠0:=by omega
 have h2:x/2^k≠0:=by
  have:=Nat.div_pos h hp;omega
 unfold Q4
 rw[if_neg h1,if_neg h2]
 have e1:=(Nat.log2_eq_iff h2 (k:=Nat.log2 (x/2^k))).1 rfl
 have:Nat.log2 x=k+Nat.log2 (x/2^k):=by
  refine(Nat.log2_eq_iff h1).2 ⟨?_,?_⟩
  ·rw[Qd]
   calc 2^k*2^Nat.log2 (x/2^k)<=2^k*(x/2^k):=Nat.mul_le_mul_left _ e1.1
    _<=x:=Nat.mul_div_le x _
  ·rw[X9,Qd,VB]
   exact(RT hp).1 e1.2
 omega
theorem fy{x:Nat}(h:4294967296<=x):Q4 x=32+Q4 (x/4294967296):=Em (k:=32) h
theorem sj{x:Nat}(h:65536<=x):Q4 x=16+Q4 (x/65536):=Em (k:=16) h
theorem AQ{x:Nat}(h:256<=x):Q4 x=8+Q4 (x/256):=Em (k:=8) h
theorem AR{x:Nat}(h:x<2^k):Q4 x<=k:=by
 unfold Q4
 split
 ·omega
 ·rename_i h0
  have:=(Nat.log2_lt h0).2 h
  omega
theorem pD(E:Env Zx fs fuel){x:Nat}(hx:x<18446744073709551616):
  ∃H',Z7 (LK Zx fs fuel 0) fs fuel (n+2) 148 [nI .u64 x] H=.ret (nI .i64 (Q4 x)) H'∧ZK H H' []:=by
 rw[Z1 (ZU E.n148 (.inl (by decide)) _ _) E.f148]
 have hl:xw.length=256:=by decide
 have tab: ∀y,y<256->xw.getD (y % 256) 0=UInt8.ofNat (Q4 y):=λy hy=>by
  rw[YH hy,<-yz y hy];simp
 have tb: ∀y,y<256->(xw.getD (y % 256) 0).toNat=Q4 y:=λy hy=>by rw[YH hy,yz y hy]
 have bl: ∀y,Q4 (y % 256)<=8:=λy=>AR (k:=8) (X7 _ (by decide))
 by_cases h1:4294967296<=x
 ·have d1:decide (4294967296<=x)=true:=Zi h1
  rw[fy h1]
  generalize hy:x/4294967296=y
  have hy2:y<4294967296:=by omega
  by_cases h2:65536<=y
  ·have d2:decide (65536<=y)=true:=Zi h2
   rw[sj h2]
   generalize hz:y/65536=z
   have hz2:z<65536:=by omega
   by_cases h3:256<=z
   ·have d3:decide (256<=z)=true:=Zi h3
    rw[AQ h3]
    generalize hw:z/256=w
    have hw2:w<256:=by omega
    have hm:=YH hw2
    have hb:=bl w
    rw[hm] at hb
    have hb2:=tb w hw2
    rw[hm] at hb2
    simp(disch:=first|omega|decide) only[ZR,Rm,Ng,Yl,UT,YB,Nat.reducePow,d1,hy,d2,hz,d3,hw,hm,hb2,Cf,Z9,Xg,ZY,Yu,Z3,Z6,Yf,Nat.reducePow,Nat.reduceDiv,Nat.reduceMod,Nat.reduceEqDiff,reduceCtorEq,Xe]
    exact⟨_,by first|rfl|simp only[X9],ZK.refl _ _⟩
   ·have d3:decide (256<=z)=false:=Ze h3
    have hw2:z<256:=by omega
    have hm:=YH hw2
    have hb:=bl z
    rw[hm] at hb
    have hb2:=tb z hw2
    rw[hm] at hb2
    simp(disch:=first|omega|decide) only[ZR,Rm,Ng,Yl,UT,YB,Nat.reducePow,d1,hy,d2,hz,d3,hm,hb2,Cf,Z9,Xg,ZY,Yu,Z3,Z6,Yf,Nat.reducePow,Nat.reduceDiv,Nat.reduceMod,Nat.reduceEqDiff,reduceCtorEq,Xe]
    exact⟨_,by first|rfl|simp only[X9],ZK.refl _ _⟩
  ·have d2:decide (65536<=y)=false:=Ze h2
   have hz2:y<65536:=by omega
   by_cases h3:256<=y
   ·have d3:decide (256<=y)=true:=Zi h3
    rw[AQ h3]
    generalize hw:y/256=w
    have hw2:w<256:=by omega
    have hm:=YH hw2
    have hb:=bl w
    rw[hm] at hb
    have hb2:=tb w hw2
    rw[hm] at hb2
    simp(disch:=first|omega|decide) only[ZR,Rm,Ng,Yl,UT,YB,Nat.reducePow,d1,hy,d2,d3,hw,hm,hb2,Cf,Z9,Xg,ZY,Yu,Z3,Z6,Yf,Nat.reducePow,Nat.reduceDiv,Nat.reduceMod,Nat.reduceEqDiff,reduceCtorEq,Xe]
    exact⟨_,by first|rfl|simp only[X9],ZK.refl _ _⟩
   ·have d3:decide (256<=y)=false:=Ze h3
    have hw2:y<256:=by omega
    have hm:=YH hw2
    have hb:=bl y
    rw[hm] at hb
    have hb2:=tb y hw2
    rw[hm] at hb2
    simp(disch:=first|omega|decide) only[ZR,Rm,Ng,Yl,UT,YB,Nat.reducePow,d1,hy,d2,d3,hm,hb2,Cf,Z9,Xg,ZY,Yu,Z3,Z6,Yf,Nat.reducePow,Nat.reduceDiv,Nat.reduceMod,Nat.reduceEqDiff,reduceCtorEq,Xe]
    exact⟨_,by first|rfl|simp only[X9],ZK.refl _ _⟩
 ·have d1:decide (4294967296<=x)=false:=Ze h1
  have hy2:x<4294967296:=by omega
  by_cases h2:65536<=x
  ·have d2:decide (65536<=x)=true:=Zi h2
   rw[sj h2]
   generalize hz:x/65536=z
   have hz2:z<65536:=by omega
   by_cases h3:256<=z
   ·have d3:decide (256<=z)=true:=Zi h3
    rw[AQ h3]
    generalize hw:z/256=w
    have hw2:w<256:=by omega
    have hm:=YH hw2
    have hb:=bl w
    rw[hm] at hb
    have hb2:=tb w hw2
    rw[hm] at hb2
    simp(disch:=first|omega|decide) only[ZR,Rm,Ng,Yl,UT,YB,Nat.reducePow,d1,d2,hz,d3,hw,hm,hb2,Cf,Z9,Xg,ZY,Yu,Z3,Z6,Yf,Nat.reducePow,Nat.reduceDiv,Nat.reduceMod,Nat.reduceEqDiff,reduceCtorEq,Xe]
    exact⟨_,by first|rfl|simp only[X9],ZK.refl _ _⟩
   ·have d3:decide (256<=z)=false:=Ze h3
    have hw2:z<256:=by omega
    have hm:=YH hw2
    have hb:=bl z
    rw[hm] at hb
    have hb2:=tb z hw2
    rw[hm] at hb2
    simp(disch:=first|omega|decide) only[ZR,Rm,Ng,Yl,UT,YB,Nat.reducePow,d1,d2,hz,d3,hm,hb2,Cf,Z9,Xg,ZY,Yu,Z3,Z6,Yf,Nat.reducePow,Nat.reduceDiv,Nat.reduceMod,Nat.reduceEqDiff,reduceCtorEq,Xe]
    exact⟨_,by first|rfl|simp only[X9],ZK.refl _ _⟩
  ·have d2:decide (65536<=x)=false:=Ze h2
   have hz2:x<65536:=by omega
   by_cases h3:256<=x
   ·have d3:decide (256<=x)=true:=Zi h3
    rw[AQ h3]
    generalize hw:x/256=w
    have hw2:w<256:=by omega
    have hm:=YH hw2
    have hb:=bl w
    rw[hm] at hb
    have hb2:=tb w hw2
    rw[hm] at hb2
    simp(disch:=first|omega|decide) only[ZR,Rm,Ng,Yl,UT,YB,Nat.reducePow,d1,d2,d3,hw,hm,hb2,Cf,Z9,Xg,ZY,Yu,Z3,Z6,Yf,Nat.reducePow,Nat.reduceDiv,Nat.reduceMod,Nat.reduceEqDiff,reduceCtorEq,Xe]
    exact⟨_,by first|rfl|simp only[X9],ZK.refl _ _⟩
   ·have d3:decide (256<=x)=false:=Ze h3
    have hw2:x<256:=by omega
    have hm:=YH hw2
    have hb:=bl x
    rw[hm] at hb
    have hb2:=tb x hw2
    rw[hm] at hb2
    simp(disch:=first|omega|decide) only[ZR,Rm,Ng,Yl,UT,YB,Nat.reducePow,d1,d2,d3,hm,hb2,Cf,Z9,Xg,ZY,Yu,Z3,Z6,Yf,Nat.reducePow,Nat.reduceDiv,Nat.reduceMod,Nat.reduceEqDiff,reduceCtorEq,Xe]
    exact⟨_,by first|rfl|simp only[X9],ZK.refl _ _⟩
theorem ZeK(E:Env Zx fs fuel)(hk:1<=k){x:Nat}(hx:x<18446744073709551616):
  Z7 (LK Zx fs fuel k) fs fuel (n+1) 148 [nI .u64 x] H=.ret (nI .i64 (Q4 x)) H:=by
 obtain⟨H',e,g⟩:=pD E (n:=898) (H:=H) hx
 exact Xc (r:=0) rfl rfl e g (rfl) hk
theorem uq(E:Env Zx fs fuel){x:Nat}(hx:x<=64):
  ∃H',Z7 (LK Zx fs fuel 0) fs fuel (n+2) 147 [nI .i64 x] H=.ret (nI .i64 (x*78913/262144)) H'∧ZK H H' []:=by
 rw[Z1 (ZU E.n147 (.inl (by decide)) _ _) E.f147]
 simp(disch:=first|omega|decide) only[Dh,oY,Nat.reducePow,Za1,Z9,Xg,ZY,Yu,Z3,Z6,Yf,Nat.reducePow,Nat.reduceDiv,Nat.reduceMod,Nat.reduceEqDiff,reduceCtorEq,Xe]
 exact⟨_,rfl,ZK.refl _ _⟩
theorem Zb9(E:Env Zx fs fuel)(hk:1<=k){x:Nat}(hx:x<=64):
  Z7 (LK Zx fs fuel k) fs fuel (n+1) 147 [nI .i64 x] H=.ret (nI .i64 (x*78913/262144)) H:=by
 obtain⟨H',e,g⟩:=uq E (n:=898) (H:=H) hx
 exact Xc (r:=0) rfl rfl e g (rfl) hk
theorem qn(E:Env Zx fs fuel){b:Bool}:
  ∃H',Z7 (LK Zx fs fuel 0) fs fuel (n+2) 149 [.bool b] H=.ret (nI .i64 (if b then 1 else 0)) H'∧ZK H H' []:=by
 rw[Z1 (ZU E.n149 (.inl (by decide)) _ _) E.f149]
 cases b
 ·simp(disch:=first|omega|decide) only[fM,Z9,Xg,ZY,Yu,Z3,Z6,Yf,Nat.reduceEqDiff,reduceCtorEq,Xe]
  exact⟨_,rfl,ZK.refl _ _⟩
 ·simp(disch:=first|omega|decide) only[fM,Z9,Xg,ZY,Yu,Z3,Z6,Yf,Nat.reduceEqDiff,reduceCtorEq,Xe]
  exact⟨_,rfl,ZK.refl _ _⟩
theorem Zdu(E:Env Zx fs fuel)(hk:1<=k){b:Bool}:
  Z7 (LK Zx fs fuel k) fs fuel (n+1) 149 [.bool b] H=.ret (nI .i64 (if b then 1 else 0)) H:=by
 obtain⟨H',e,g⟩:=qn E (n:=898) (H:=H)
 exact Xc (r:=0) rfl rfl e g (rfl) hk
theorem na: ∀x,x<100->(if x<10 then(KB.take (x+1)).drop x else(SV.take (x*2+2)).drop (x*2))=dec x:=by
 intro x hx
 by_cases h:x<10
 ·rw[if_pos h,mP h]
  have: ∀x,x<10->(KB.take (x+1)).drop x=[OV x]:=by decide
  exact this x h
 ·rw[if_neg h,Zbi (by omega),mP (by omega)]
  have: ∀x,x<100->(SV.take (x*2+2)).drop (x*2)=[OV (x/10)]++[OV (x % 10)]:=by decide
  exact this x hx
theorem o9(E:Env Zx fs fuel){x:Nat}(hx:x<100):
  ∃H',Z7 (LK Zx fs fuel 0) fs fuel (n+2) 118 [nI .i64 x] H=.ret (.str (dec x)) H'∧ZK H H' []:=by
 rw[Z1 (ZU E.n118 (.inl (by decide)) _ _) E.f118]
 have l1:KB.length=36:=by decide
 have l2:SV.length=200:=by decide
 have st:=na x hx
 by_cases h:x<10
 ·have d:decide (x<10)=true:=Zi h
  rw[if_pos h] at st
  simp(disch:=first|omega|decide) only[Zu,YB,Dh,Ad,d,st,fH,Z9,Xg,ZY,Yu,Z3,Z6,Yf,Nat.reducePow,Nat.reduceDiv,Nat.reduceMod,Nat.reduceEqDiff,reduceCtorEq,Xe]
  exact⟨_,rfl,ZK.refl _ _⟩
 ·have d:decide (x<10)=false:=Ze h
  rw[if_neg h] at st
  simp(disch:=first|omega|decide) only[Zu,YB,Dh,Ad,d,st,fH,Z9,Xg,ZY,Yu,Z3,Z6,Yf,Nat.reducePow,Nat.reduceDiv,Nat.reduceMod,Nat.reduceEqDiff,reduceCtorEq,Xe]
  exact⟨_,rfl,ZK.refl _ _⟩
theorem Zah(E:Env Zx fs fuel)(hk:1<=k){x:Nat}(hx:x<100):
  Z7 (LK Zx fs fuel k) fs fuel (n+1) 118 [nI .i64 x] H=.ret (.str (dec x)) H:=by
 obtain⟨H',e,g⟩:=o9 E (n:=898) (H:=H) hx
 exact Xc (r:=0) rfl rfl e g (rfl) hk
def uD(d:Nat):Nat:=Q4 d*78913/262144
theorem Zi2: ∀L,L<65->1<=L->(L*78913/262144<=19∧10^(L*78913/262144)<=2^(L - 1)*10∧2^L<=10^(L*78913/262144+1)∧(L*78913/262144=0∨10^(L*78913/262144 - 1)<=2^(L - 1))):=by decide
theorem ZeT{d:Nat}(h0:d≠0)(h:d<18446744073709551616):uD d<=19∧Vy d=uD d+(if 10^uD d<=d then 1 else 0):=by
 have hb:Q4 d=Nat.log2 d+1:=by unfold Q4;rw[if_neg h0]
 have e1:=(Nat.log2_eq_iff h0 (k:=Nat.log2 d)).1 rfl
 have hL:Q4 d<=64:=AR (k:=64) h
 obtain⟨p0,p1,p2,p3⟩:=Zi2 (Q4 d) (by omega) (by omega)
 have g:Q4 d - 1=Nat.log2 d:=by omega
 rw[g] at p1 p3
 have p2':d<10^(uD d+1):=Yk (by rw[hb];exact e1.2) p2
 refine⟨p0,?_⟩
 by_cases hc:10^uD d<=d
 ·rw[if_pos hc]
  exact zE _ _ hc p2'
 ·rw[if_neg hc]
  rcases p3 with p3|p3
  ·have:uD d=0:=p3
   rw[this] at hc
   simp at hc;omega
  ·by_cases hz:uD d=0
   ·rw[hz] at hc;simp at hc;omega
   ·have:Vy d=(uD d - 1)+1:=zE _ _ (YR p3 e1.1) (by rw[show uD d - 1+1=uD d by omega];omega)
    omega
theorem cY: ∀i,i<20->(rQ.getD i 0).toNat=10^i:=by decide
theorem Cr(E:Env Zx fs fuel){d:Nat}(g:QT H)(h0:d≠0)(hd:d<18446744073709551616):
  ∃H',Z7 (LK Zx fs fuel 1) fs fuel (n+2) 119 [nI .u64 d] H=.ret (nI .i64 (Vy d)) H'∧ZK H H' []:=by
 rw[Z1 (ZU E.n119 (.inl (by decide)) _ _) E.f119]
 obtain⟨g0,⟨r,gr,gc⟩,_⟩:=g
 obtain⟨p1,p2⟩:=ZeT h0 hd
 have hbl:Q4 d<=64:=AR (k:=64) hd
 have e1:=λ{k m} (hk:1<=k)=>ZeK (Zx:=Zx) (fs:=fs) (fuel:=fuel) E (k:=k) (n:=m) hk (H:=H) hd
 have e2:=λ{k m} (hk:1<=k)=>Zb9 (Zx:=Zx) (fs:=fs) (fuel:=fuel) E (k:=k) (n:=m) hk (H:=H) hbl
 have e3:=λ{k m} (hk:1<=k) (b)=>Zdu (Zx:=Zx) (fs:=fs) (fuel:=fuel) E (k:=k) (n:=m) hk (b:=b) (H:=H)
 have ld:HE (.ptr 5 (uD d)) H=.val (nI .u64 (10^uD d)) H:=by
  rw[uo gr gc (by rw[ZW];show _<20;omega),Zh,Xb]
  have:=cY (uD d) (by omega)
  rw[Zh] at this
  rw[Zp (show uD d<rQ.length by show _<20;omega)] at this ⊢
  show OR.val (bK _) H=_
  unfold bK nI
  rw[<-this];rfl
 unfold uD at ld p1 p2
 simp(disch:=first|omega|decide) only[e1,e2,e3,LB,Yt,ZR,YB,Zb,qp,Z9,Xg,ZY,Yu,Z3,Z6,Yf,Nat.reduceEqDiff,reduceCtorEq,Xe]
 rw[BM] at ld
 simp(disch:=first|omega|decide) only[ld,e3,LB,ZR,qp,Z9,Xg,ZY,Yu,Z3,Z6,Yf,Nat.reduceEqDiff,reduceCtorEq,Xe]
 by_cases hc:10^(Q4 d*78913/262144)<=d
 ·rw[if_pos hc] at p2
  have dc:decide (10^(Q4 d*78913/262144)<=d)=true:=Zi hc
  simp(disch:=first|omega|decide) only[dc,e3,LB,if_true,YB,qp,Z9,Xg,ZY,Yu,Z3,Z6,Yf,Nat.reduceEqDiff,reduceCtorEq,Xe]
  exact⟨_,by rw[p2],ZK.refl _ _⟩
 ·rw[if_neg hc] at p2
  have dc:decide (10^(Q4 d*78913/262144)<=d)=false:=Ze hc
  simp(disch:=first|omega|decide) only[dc,e3,LB,XW,if_false,YB,qp,Z9,Xg,ZY,Yu,Z3,Z6,Yf,Nat.reduceEqDiff,reduceCtorEq,Xe]
  exact⟨_,by rw[p2],ZK.refl _ _⟩
theorem HI(E:Env Zx fs fuel)(hk:2<=k){d:Nat}(g:QT H)(h0:d≠0)(hd:d<18446744073709551616):
  Z7 (LK Zx fs fuel k) fs fuel (n+1) 119 [nI .u64 d] H=.ret (nI .i64 (Vy d)) H:=by
 obtain⟨H',e,g⟩:=Cr E (n:=898) (H:=H) g h0 hd
 exact Xc (r:=1) rfl rfl e g (rfl) hk
namespace T
variable {α:Type}
theorem setB_same(x:α): ∀(t:T α) (bs:List Bool),t.getB bs=some x->setB x t bs=t
 |leaf,bs,h=>by cases h
 |node l v r,[],h=>by
  have h:v=some x:=h
  subst h;rfl
 |node l v r,true::bs,h=>by rw[Jh,setB_same x l bs h]
 |node l v r,false::bs,h=>by rw[Jg,setB_same x r bs h]
end T
theorem x8{o:Obj}(h:H.t.get b=some o):H.put b o=H:=by
 unfold Heap.put T.set
 rw[T.setB_same o H.t (bits b) h]
theorem yQ: ∀k n i,i<k->(Fw k n).getD i 0=OV (n/10^(k - 1 - i) % 10)
 |0,_,_,h=>by omega
 |k+1,n,i,h=>by
  show(Fw k (n/10)++[OV (n % 10)]).getD i 0=_
  rw[Zh]
  by_cases hi:i<k
  ·rw[YN (by rw[M1];exact hi),<-Zh,yQ k (n/10) i hi,UR]
   congr 3
   rw[show k+1 - 1 - i=(k - 1 - i)+1 by omega,VC,VB]
  ·obtain rfl:i=k:=by omega
   rw[YY (by rw[M1];exact Zz _),M1,VX,show i+1 - 1 - i=0 by omega,Nat.pow_zero,Qb];rfl
theorem iR:SV.length=200:=by decide
theorem Zja: ∀x,x<100->SV.getD (x*2) 0=OV (x/10):=by decide
theorem Zjb: ∀x,x<100->SV.getD (x*2+1) 0=OV (x % 10):=by decide
theorem Cw{x:Nat}(hx:x<100)(H:Heap):Md (.str SV) (nI .u32 (x*2)) H=.val (Vf (OV (x/10))) H:=by rw[Me (by rw[iR];omega),Zja x hx]
theorem Cx{x:Nat}(hx:x<100)(H:Heap):Md (.str SV) (nI .u32 (x*2+1)) H=.val (Vf (OV (x % 10))) H:=by rw[Me (by rw[iR];omega),Zjb x hx]
structure FB(zo:Nat)(r R:Row)(nd m:Nat)(ds:List UInt8):Prop where
 size:R.size=24
 own:R.own=true
 fz:R.fz=0
 get: ∀i,R.get i=if zo+m<=i∧i<zo+nd then Vf (ds.getD (i - zo) 0) else r.get i
theorem FB.pair{r R:Row}{zo nd m p q d1 d2:Nat}{ds:List UInt8}(h:FB zo r R nd m ds)(hm:m<=nd)(hp:p+1=m)(hq:q+2=m)(h1:ds.getD p 0=OV d1)(h2:ds.getD q 0=OV d2):
  FB zo r ((R.st (zo+p) (Vf (OV d1))).st (zo+q) (Vf (OV d2))) nd q ds:=by
 refine⟨h.size,h.own,h.fz,λi=>?_⟩
 rw[Row.st_get,Row.st_get,h.get]
 by_cases e2:zo+q=i
 ·rw[if_pos e2,if_pos (by omega),<-h2,show i - zo=q by omega]
 ·rw[if_neg e2]
  by_cases e1:zo+p=i
  ·rw[if_pos e1,if_pos (by omega),<-h1,show i - zo=p by omega]
  ·rw[if_neg e1]
   by_cases e:zo+m<=i∧i<zo+nd
   ·rw[if_pos e,if_pos (by omega)]
   ·rw[if_neg e,if_neg (by omega)]
theorem FB.one{r R:Row}{zo nd d:Nat}{ds:List UInt8}(h:FB zo r R nd 1 ds)(hm:1<=nd)(h1:ds.getD 0 0=OV d):FB zo r (R.st zo (Vf (OV d))) nd 0 ds:=by
 refine⟨h.size,h.own,h.fz,λi=>?_⟩
 rw[Row.st_get,h.get]
 by_cases e1:zo=i
 ·rw[if_pos e1,if_pos (by omega),<-h1,show i - zo=0 by omega]
 ·rw[if_neg e1]
  by_cases e:zo+1<=i∧i<zo+nd
  ·rw[if_pos e,if_pos (by omega)]
  ·rw[if_neg e,if_neg (by omega)]
theorem aa{nd m u j p:Nat}(hm:m<=nd)(hp:p+1+j=m):(Fw nd u).getD p 0=OV (u/10^(nd - m)/10^j % 10):=by
 rw[yQ nd u p (by omega),UR,<-Qd]
 congr 3;congr 1;omega
structure FL(H0:Heap)(b zo nd u:Nat)(c:Option Nat)(r:Row)(m:Nat)(tm:TM)(H:Heap):Prop where
 t0:YX tm=.slice b zo nd c
 t1:Wj tm=nI .u64 (u/10^(nd - m))
 t4:XY tm=nI .i64 m
 le:m<=nd
 heap: ∃R,H=H0.put b (.row R)∧FB zo r R nd m (Fw nd u)
theorem eA{zo nd u:Nat}{c:Option Nat}{r:Row}(hb:b<H0.nx)(hro:H0.ro<=b)(hnd:zo+nd<=24)(hu:u<18446744073709551616)(cx:Ctx)(x:X)(m:Nat)(tm:TM)(H:Heap)(h:FL H0 b zo nd u c r m tm H):
  ∃o tm' H',N3 cx tm H x=.ok o tm' H' x∧((o=.normal∧ ∃k,k<m∧FL H0 b zo nd u c r k tm' H')∨(o≠.normal∧o=.exit 0∧m<8∧FL H0 b zo nd u c r m tm' H')):=by
 have t0:=h.t0;have t1:=h.t1;have t4:=h.t4;have hle:=h.le
 simp only[Mc,E2,PD] at t0 t1 t4
 obtain⟨R,rfl,fb⟩:=h.heap
 generalize hv:u/10^(nd - m)=v at t1
 have hv2:v<18446744073709551616:=by rw[<-hv];exact Tu (SO ..) hu
 have s1:=fb.size;have s2:=fb.own;have s3:=fb.fz
 by_cases h8:8<=m
 ·have d1:decide (8<=m)=true:=Zi h8
  simp(disch:=first|assumption|omega|(simp -implicitDefEqProofs only[Xh,Xi]<;>first|assumption|omega)|decide) only[N3,t0,t1,t4,d1,s1,s2,s3,Z0,Yg,ZJ,Cw,Cx,ZR,ZM,YQ,Ub,RC,RG,RI,RH,RJ,RB,YT,TF,Row.st_size,Row.st_own,Row.st_fz,Zd,N3,Z9,Xg,ZY,Yu,Z3,Z6,Yf,Nat.reducePow,Nat.reduceDiv,Nat.reduceMod,Nat.reduceEqDiff,reduceCtorEq,Xe,U4,CK]
  refine⟨_,_,_,rfl,.inl ⟨rfl,m - 8,by omega,t0,?_,rfl,by omega,_,rfl,?_⟩⟩
  ·show nI .u64 (v/100000000)=_
   rw[<-hv,UR,show(100000000:Nat)=10^8 from rfl,<-Qd,show nd - m+8=nd - (m - 8) by omega]
  ·have dd:=λ(p j:Nat) (hp:p+1+j=m)=>aa (u:=u) hle hp
   rw[hv] at dd
   refine FB.pair (m:=m - 6) (FB.pair (m:=m - 4) (FB.pair (m:=m - 2) (FB.pair fb hle (by omega) (by omega) ?_ ?_) (by omega) (by omega) (by omega) ?_ ?_) (by omega) (by omega) (by omega) ?_ ?_) (by omega) (by omega) (by omega) ?_ ?_
   ·rw[dd (m - 1) 0 (by omega)];congr 1;omega
   ·rw[dd (m - 2) 1 (by omega)];congr 1;omega
   ·rw[dd (m - 3) 2 (by omega)];congr 1;omega
   ·rw[dd (m - 4) 3 (by omega)];congr 1;omega
   ·rw[dd (m - 5) 4 (by omega)];congr 1;omega
   ·rw[dd (m - 6) 5 (by omega)];congr 1;omega
   ·rw[dd (m - 7) 6 (by omega)];congr 1;omega
   ·rw[dd (m - 8) 7 (by omega)];congr 1;omega
 ·have d1:decide (8<=m)=false:=Ze h8
  simp(disch:=first|assumption|omega|(simp -implicitDefEqProofs only[Xh,Xi]<;>first|assumption|omega)|decide) only[N3,t0,t1,t4,d1,Z0,Yg,ZJ,Cw,Cx,ZR,ZM,YQ,Ub,RC,RG,RI,RH,RJ,RB,YT,TF,Row.st_size,Row.st_own,Row.st_fz,Zd,N3,Z9,Xg,ZY,Yu,Z3,Z6,Yf,Nat.reducePow,Nat.reduceDiv,Nat.reduceMod,Nat.reduceEqDiff,reduceCtorEq,Xe,U4,CK]
  exact⟨_,_,_,rfl,.inr ⟨by simp,rfl,by omega,t0,by rw[hv];exact t1,t4,hle,_,rfl,fb⟩⟩
theorem vS(E:Env Zx fs fuel){zo nd u:Nat}{c:Option Nat}{r:Row}(hr:H.t.get b=some (.row r))(hb:b<H.nx)(hro:H.ro<=b)(hs:r.size=24)(how:r.own=true)(hfz:r.fz=0)(hnd:zo+nd<=24)(hu:u<18446744073709551616)(hud:u<10^nd):
  ∃R,Z7 (LK Zx fs fuel k) fs fuel (n+1) 120 [.slice b zo nd c,nI .u64 u] H=.ret (.tup []) (H.put b (.row R))∧FB zo r R nd 0 (Fw nd u):=by
 have nn:HB Zx fs fuel Sj RK k 120 [.slice b zo nd c,nI .u64 u] H=none:=ZU E.n120 (.inr rfl) _ _
 rw[Z1 nn E.f120]
 simp(disch:=first|assumption|omega|(simp -implicitDefEqProofs only[Xh,Xi]<;>first|assumption|omega)|decide) only[Ep,Z9,Xg,ZY,Yu,Z3,Z6,Yf,Nat.reducePow,Nat.reduceDiv,Nat.reduceMod,Nat.reduceEqDiff,reduceCtorEq,Xe,Ca,nL,vi]
 generalize hL:Ue (N3 _) fuel _ _ _=L
 obtain⟨o,Ny,H1,rfl,_,rfl,h8,z⟩:=XZ (P:=λT=>FL H b zo nd u c r nd T H) (Q:=λo tm H'=>o=.exit 0∧ ∃m,m<8∧FL H b zo nd u c r m tm H')
  (λT hi=>We (FL H b zo nd u c r) (λo tm H'=>o=.exit 0∧ ∃m,m<8∧FL H b zo nd u c r m tm H')
   (λm tm H' h=>by
    obtain⟨o,tm',H2,e,h⟩:=eA hb hro hnd hu _ _ m tm H' h
    refine⟨o,tm',H2,e,?_⟩
    rcases h with h|⟨h1,h2,h3,h4⟩
    ·exact .inl h
    ·exact .inr ⟨h1,h2,m,h3,h4⟩) fuel nd T H (by have:=E.big;omega) hi) hL
  ⟨rfl,by rw[VX,Nat.pow_zero,Qb];rfl,rfl,Zz _,r,(x8 hr).symm,hs,how,hfz,λi=>by rw[if_neg (by omega)]⟩
 obtain⟨z8,z⟩:=z
 have t0:=z.t0;have t1:=z.t1;have t4:=z.t4;have hle:=z.le
 simp only[Mc,E2,PD] at t0 t1 t4
 obtain⟨R,rfl,fb⟩:=z.heap
 have dd:=λ(p j:Nat) (hp:p+1+j=h8)=>aa (u:=u) hle hp
 have hv2:u/10^(nd - h8)<10^h8:=by
  rw[RT (Nat.pow_pos (by decide)),<-Qd,show h8+(nd - h8)=nd by omega];exact hud
 generalize hv:u/10^(nd - h8)=v at t1 dd hv2
 have s1:=fb.size;have s2:=fb.own;have s3:=fb.fz
 have z0:decide (0<0)=false:=rfl
 have z1:decide (0<1)=true:=rfl
 have hm:h8=0∨h8=1∨h8=2∨h8=3∨h8=4∨h8=5∨h8=6∨h8=7:=by omega
 rcases hm with rfl|rfl|rfl|rfl|rfl|rfl|rfl|rfl
 ·have hv3:v<1:=hv2
  simp(disch:=first|assumption|omega|(simp -implicitDefEqProofs only[Xh,Xi]<;>first|assumption|omega)|decide) only[TA,U1,t0,t1,t4,s1,s2,s3,z0,z1,Ub,Nat.reduceLeDiff,Nat.reduceSub,Nat.reduceAdd,Z0,Yg,ZJ,Cw,Cx,ZR,ZM,YQ,Ub,RC,RG,RI,RH,RJ,RB,YT,TF,Row.st_size,Row.st_own,Row.st_fz,Zd,Ep,Z9,Xg,ZY,Yu,Z3,Z6,Yf,Nat.reducePow,Nat.reduceDiv,Nat.reduceMod,Nat.reduceEqDiff,reduceCtorEq,Xe,Ca,nL,vi]
  refine⟨_,rfl,?_⟩
  exact fb
 ·have hv3:v<10:=hv2
  simp(disch:=first|assumption|omega|(simp -implicitDefEqProofs only[Xh,Xi]<;>first|assumption|omega)|decide) only[TA,U1,t0,t1,t4,s1,s2,s3,z0,z1,Ub,Nat.reduceLeDiff,Nat.reduceSub,Nat.reduceAdd,Z0,Yg,ZJ,Cw,Cx,ZR,ZM,YQ,Ub,RC,RG,RI,RH,RJ,RB,YT,TF,Row.st_size,Row.st_own,Row.st_fz,Zd,Ep,Z9,Xg,ZY,Yu,Z3,Z6,Yf,Nat.reducePow,Nat.reduceDiv,Nat.reduceMod,Nat.reduceEqDiff,reduceCtorEq,Xe,Ca,nL,vi]
  refine⟨_,rfl,?_⟩
  have e0:nI .u8 (48+v)=Vf (OV (v)):=by
   show AV.int .u8 (.ofNat _)=AV.int .u8 (.ofNat _)
   rw[Oa (by omega)]
  rw[e0]
  refine FB.one (fb) (by omega) ?_
  ·rw[dd 0 0 rfl];congr 1;omega
 ·have hv3:v<100:=hv2
  simp(disch:=first|assumption|omega|(simp -implicitDefEqProofs only[Xh,Xi]<;>first|assumption|omega)|decide) only[TA,U1,t0,t1,t4,s1,s2,s3,z0,z1,Ub,Nat.reduceLeDiff,Nat.reduceSub,Nat.reduceAdd,Z0,Yg,ZJ,Cw,Cx,ZR,ZM,YQ,Ub,RC,RG,RI,RH,RJ,RB,YT,TF,Row.st_size,Row.st_own,Row.st_fz,Zd,Ep,Z9,Xg,ZY,Yu,Z3,Z6,Yf,Nat.reducePow,Nat.reduceDiv,Nat.reduceMod,Nat.reduceEqDiff,reduceCtorEq,Xe,Ca,nL,vi]
  refine⟨_,rfl,?_⟩
  refine FB.pair (m:=2) (fb) (by omega) rfl rfl ?_ ?_
  ·rw[dd 1 0 rfl];congr 1;omega
  ·rw[dd 0 1 rfl];congr 1;omega
 ·have hv3:v<1000:=hv2
  simp(disch:=first|assumption|omega|(simp -implicitDefEqProofs only[Xh,Xi]<;>first|assumption|omega)|decide) only[TA,U1,t0,t1,t4,s1,s2,s3,z0,z1,Ub,Nat.reduceLeDiff,Nat.reduceSub,Nat.reduceAdd,Z0,Yg,ZJ,Cw,Cx,ZR,ZM,YQ,Ub,RC,RG,RI,RH,RJ,RB,YT,TF,Row.st_size,Row.st_own,Row.st_fz,Zd,Ep,Z9,Xg,ZY,Yu,Z3,Z6,Yf,Nat.reducePow,Nat.reduceDiv,Nat.reduceMod,Nat.reduceEqDiff,reduceCtorEq,Xe,Ca,nL,vi]
  refine⟨_,rfl,?_⟩
  have e0:nI .u8 (48+v/100)=Vf (OV (v/100)):=by
   show AV.int .u8 (.ofNat _)=AV.int .u8 (.ofNat _)
   rw[Oa (by omega)]
  rw[e0]
  refine FB.one (FB.pair (m:=3) (fb) (by omega) rfl rfl ?_ ?_) (by omega) ?_
  ·rw[dd 2 0 rfl];congr 1;omega
  ·rw[dd 1 1 rfl];congr 1;omega
  ·rw[dd 0 2 rfl];congr 1;omega
 ·have hv3:v<10000:=hv2
  simp(disch:=first|assumption|omega|(simp -implicitDefEqProofs only[Xh,Xi]<;>first|assumption|omega)|decide) only[TA,U1,t0,t1,t4,s1,s2,s3,z0,z1,Ub,Nat.reduceLeDiff,Nat.reduceSub,Nat.reduceAdd,Z0,Yg,ZJ,Cw,Cx,ZR,ZM,YQ,Ub,RC,RG,RI,RH,RJ,RB,YT,TF,Row.st_size,Row.st_own,Row.st_fz,Zd,Ep,Z9,Xg,ZY,Yu,Z3,Z6,Yf,Nat.reducePow,Nat.reduceDiv,Nat.reduceMod,Nat.reduceEqDiff,reduceCtorEq,Xe,Ca,nL,vi]
  refine⟨_,rfl,?_⟩
  refine FB.pair (m:=2) (FB.pair (m:=4) (fb) (by omega) rfl rfl ?_ ?_) (by omega) rfl rfl ?_ ?_
  ·rw[dd 3 0 rfl];congr 1;omega
  ·rw[dd 2 1 rfl];congr 1;omega
  ·rw[dd 1 2 rfl];congr 1;omega
  ·rw[dd 0 3 rfl];congr 1;omega
 ·have hv3:v<100000:=hv2
  simp(disch:=first|assumption|omega|(simp -implicitDefEqProofs only[Xh,Xi]<;>first|assumption|omega)|decide) only[TA,U1,t0,t1,t4,s1,s2,s3,z0,z1,Ub,Nat.reduceLeDiff,Nat.reduceSub,Nat.reduceAdd,Z0,Yg,ZJ,Cw,Cx,ZR,ZM,YQ,Ub,RC,RG,RI,RH,RJ,RB,YT,TF,Row.st_size,Row.st_own,Row.st_fz,Zd,Ep,Z9,Xg,ZY,Yu,Z3,Z6,Yf,Nat.reducePow,Nat.reduceDiv,Nat.reduceMod,Nat.reduceEqDiff,reduceCtorEq,Xe,Ca,nL,vi]
  refine⟨_,rfl,?_⟩
  have e0:nI .u8 (48+v/10000)=Vf (OV (v/10000)):=by
   show AV.int .u8 (.ofNat _)=AV.int .u8 (.ofNat _)
   rw[Oa (by omega)]
  rw[e0]
  refine FB.one (FB.pair (m:=3) (FB.pair (m:=5) (fb) (by omega) rfl rfl ?_ ?_) (by omega) rfl rfl ?_ ?_) (by omega) ?_
  ·rw[dd 4 0 rfl];congr 1;omega
  ·rw[dd 3 1 rfl];congr 1;omega
  ·rw[dd 2 2 rfl];congr 1;omega
  ·rw[dd 1 3 rfl];congr 1;omega
  ·rw[dd 0 4 rfl];congr 1;omega
 ·have hv3:v<1000000:=hv2
  simp(disch:=first|assumption|omega|(simp -implicitDefEqProofs only[Xh,Xi]<;>first|assumption|omega)|decide) only[TA,U1,t0,t1,t4,s1,s2,s3,z0,z1,Ub,Nat.reduceLeDiff,Nat.reduceSub,Nat.reduceAdd,Z0,Yg,ZJ,Cw,Cx,ZR,ZM,YQ,Ub,RC,RG,RI,RH,RJ,RB,YT,TF,Row.st_size,Row.st_own,Row.st_fz,Zd,Ep,Z9,Xg,ZY,Yu,Z3,Z6,Yf,Nat.reducePow,Nat.reduceDiv,Nat.reduceMod,Nat.reduceEqDiff,reduceCtorEq,Xe,Ca,nL,vi]
  refine⟨_,rfl,?_⟩
  refine FB.pair (m:=2) (FB.pair (m:=4) (FB.pair (m:=6) (fb) (by omega) rfl rfl ?_ ?_) (by omega) rfl rfl ?_ ?_) (by omega) rfl rfl ?_ ?_
  ·rw[dd 5 0 rfl];congr 1;omega
  ·rw[dd 4 1 rfl];congr 1;omega
  ·rw[dd 3 2 rfl];congr 1;omega
  ·rw[dd 2 3 rfl];congr 1;omega
  ·rw[dd 1 4 rfl];congr 1;omega
  ·rw[dd 0 5 rfl];congr 1;omega
 ·have hv3:v<10000000:=hv2
  simp(disch:=first|assumption|omega|(simp -implicitDefEqProofs only[Xh,Xi]<;>first|assumption|omega)|decide) only[TA,U1,t0,t1,t4,s1,s2,s3,z0,z1,Ub,Nat.reduceLeDiff,Nat.reduceSub,Nat.reduceAdd,Z0,Yg,ZJ,Cw,Cx,ZR,ZM,YQ,Ub,RC,RG,RI,RH,RJ,RB,YT,TF,Row.st_size,Row.st_own,Row.st_fz,Zd,Ep,Z9,Xg,ZY,Yu,Z3,Z6,Yf,Nat.reducePow,Nat.reduceDiv,Nat.reduceMod,Nat.reduceEqDiff,reduceCtorEq,Xe,Ca,nL,vi]
  refine⟨_,rfl,?_⟩
  have e0:nI .u8 (48+v/10000/100)=Vf (OV (v/10000/100)):=by
   show AV.int .u8 (.ofNat _)=AV.int .u8 (.ofNat _)
   rw[Oa (by omega)]
  rw[e0]
  refine FB.one (FB.pair (m:=3) (FB.pair (m:=5) (FB.pair (m:=7) (fb) (by omega) rfl rfl ?_ ?_) (by omega) rfl rfl ?_ ?_) (by omega) rfl rfl ?_ ?_) (by omega) ?_
  ·rw[dd 6 0 rfl];congr 1;omega
  ·rw[dd 5 1 rfl];congr 1;omega
  ·rw[dd 4 2 rfl];congr 1;omega
  ·rw[dd 3 3 rfl];congr 1;omega
  ·rw[dd 2 4 rfl];congr 1;omega
  ·rw[dd 1 5 rfl];congr 1;omega
  ·rw[dd 0 6 rfl];congr 1;omega
theorem yc{l:Nat}(hl:l<n)(hlh:l<=h)(hh:h<=n)(b o:Nat)(k j:IntKind)(H:Heap):OM n 1 (.ptr b o) (some (nI k l)) (some (nI j h)) H=.val (.slice b (o+l) (h - l) (some (n - l))) H:=by
 show Yb (Nat.ble h n) (Yb (Nat.ble l h) (cond (Nat.beq l n) _ (OR.val (.slice b (o+l*1) (h - l) (some (n - l))) H)))=_
 rw[Zj hh,Zj hlh,YZ,Ze (by omega),XM];rfl
theorem EN(m:Nat):N6 (.ofNat m)=dec m:=rfl
theorem yV(m:Nat):N6 (.negSucc m)=45::dec (m+1):=by unfold N6;rw[if_pos (Int.negSucc_lt_zero m)];rfl
theorem sI(k:IntKind)(m:Nat):AV.int k (.ofNat m)=nI k m:=rfl
theorem vV(E:Env Zx fs fuel){z:Int}(g:QT H)(hro:H.ro<=H.nx)(hz1: -9223372036854775808<=z)(hz2:z<9223372036854775808):
  ∃H',Z7 (LK Zx fs fuel 2) fs fuel (n+2) 88 [.int .i64 z,nI .i64 10] H=.ret (.str (N6 z)) H'∧ZK H H' []:=by
 rw[Z1 (ZU E.n88 (.inl (by decide)) _ _) E.f88]
 cases z with
 |ofNat m=>
  have hz2:m<9223372036854775808:=by simp at hz2;omega
  by_cases h:m<100
  ·have es:=λ{j}=>Zah (Zx:=Zx) (fs:=fs) (fuel:=fuel) E (k:=2) (n:=j) (by decide) (H:=H) h
   have d0:decide (0<=m)=true:=Zi (ZA _)
   have d1:decide (m<100)=true:=Zi h
   simp(disch:=first|assumption|omega|(simp -implicitDefEqProofs only[Xh,Xi]<;>first|assumption|omega)|decide) only[sI,d0,d1,es,QH,yc,Kg,Kh,Zb,XU,Nat.reduceSub,YB,Zu,ZO,zz,zr,Lk,K4,Di,Yt,TF,Row.st_size,Row.st_own,Row.st_fz,Zd,YL,c88,Z9,Xg,ZY,Yu,Z3,Z6,Yf,Nat.reduceEqDiff,reduceCtorEq,Xe,U4]
   exact⟨_,rfl,ZK.refl _ _⟩
  ·skip
   obtain⟨H1,hH1⟩:=SK (H.new (.row ⟨172,1,24,.leaf,nI .u8 0,0,false,true,true⟩))
   have Kn:H1.nx=H.nx+1:=by rw[<-hH1];rfl
   have FF:H1.ro=H.ro:=by rw[<-hH1];rfl
   have k1:ZK H H1 []:=by rw[<-hH1];exact ZK.new H _ []
   have ga:H1.t.get H.nx=some (.row ⟨172,1,24,.leaf,nI .u8 0,0,false,true,true⟩):=by rw[<-hH1,YD rfl]
   have hl:=PG (m)
   have hl2:Vy (m)<=20:=RN (by decide) (Nat.lt_trans (show m<18446744073709551616 by omega) (by decide))
   have en:=λ{j}=>HI (Zx:=Zx) (fs:=fs) (fuel:=fuel) E (k:=2) (n:=j) (by decide) (H:=H1) (g.keep k1 (by simp)) (d:=m) (by omega) (by omega)
   obtain⟨R,ef,fb⟩:=vS (Zx:=Zx) (fs:=fs) (fuel:=fuel) E (k:=2) (n:=n) (H:=H1) (b:=H.nx) (zo:=1) (nd:=Vy (m)) (u:=m) (c:=some 23) ga (by omega) (by rw[FF];exact hro) rfl rfl rfl (by omega) (by omega) (J6 _)
   have s1:=fb.size;have s2:=fb.own;have s3:=fb.fz
   have el: ∀c,tH (.slice H.nx 1 (Vy m) c) (H1.put H.nx (.row R))=.val (.str (N6 (.ofNat m))) (H1.put H.nx (.row R)):=λc=>by
    refine IN (Xv _ _ _) (by rw[EN,Qw]) (by rw[s1];omega) λi hi=>?_
    rw[fb.get,EN,if_pos (by omega),show 1+i - 1=i by omega];rfl
   have d0:decide (0<=m)=true:=Zi (ZA _)
   have d1:decide (m<100)=false:=Ze h
   have d2:decide (m<0)=false:=Ze (TV _)
   simp(disch:=first|assumption|omega|(simp -implicitDefEqProofs only[Xh,Xi]<;>first|assumption|omega)|decide) only[sI,d0,d1,d2,en,ef,el,hH1,Kn,FF,s1,s2,s3,QH,yc,Kg,Kh,Zb,XU,Nat.reduceSub,YB,Zu,ZO,zz,zr,Lk,K4,Di,Yt,TF,Row.st_size,Row.st_own,Row.st_fz,Zd,YL,c88,Z9,Xg,ZY,Yu,Z3,Z6,Yf,Nat.reduceEqDiff,reduceCtorEq,Xe,U4]
   exact⟨_,rfl,k1.then_put λh=>absurd h (ZT _)⟩
 |negSucc m=>
  have hz1:m<9223372036854775808:=by omega
  obtain⟨H1,hH1⟩:=SK (H.new (.row ⟨172,1,24,.leaf,nI .u8 0,0,false,true,true⟩))
  have Kn:H1.nx=H.nx+1:=by rw[<-hH1];rfl
  have FF:H1.ro=H.ro:=by rw[<-hH1];rfl
  have k1:ZK H H1 []:=by rw[<-hH1];exact ZK.new H _ []
  have ga:H1.t.get H.nx=some (.row ⟨172,1,24,.leaf,nI .u8 0,0,false,true,true⟩):=by rw[<-hH1,YD rfl]
  have hl:=PG (m+1)
  have hl2:Vy (m+1)<=20:=RN (by decide) (Nat.lt_trans (show m+1<18446744073709551616 by omega) (by decide))
  have en:=λ{j}=>HI (Zx:=Zx) (fs:=fs) (fuel:=fuel) E (k:=2) (n:=j) (by decide) (H:=H1) (g.keep k1 (by simp)) (d:=m+1) (by omega) (by omega)
  obtain⟨R,ef,fb⟩:=vS (Zx:=Zx) (fs:=fs) (fuel:=fuel) E (k:=2) (n:=n) (H:=H1) (b:=H.nx) (zo:=1) (nd:=Vy (m+1)) (u:=m+1) (c:=some 23) ga (by omega) (by rw[FF];exact hro) rfl rfl rfl (by omega) (by omega) (J6 _)
  have s1:=fb.size;have s2:=fb.own;have s3:=fb.fz
  have el: ∀c,tH (.slice H.nx 0 (1+Vy (m+1)) c) (H1.put H.nx (.row (R.st 0 (nI .u8 45))))=.val (.str (N6 (.negSucc m))) (H1.put H.nx (.row (R.st 0 (nI .u8 45)))):=λc=>by
   refine IN (Xv _ _ _) (by rw[yV,Zl,Qw];omega) (by rw[Row.st_size,s1];omega) λi hi=>?_
   rw[Zb,Row.st_get,fb.get,yV]
   by_cases h0:0=i
   ·subst h0;rw[if_pos rfl];rfl
   ·rw[if_neg h0,if_pos (by omega)]
    obtain⟨j,rfl⟩: ∃j,i=j+1:=⟨i - 1,by omega⟩
    rfl
  have e9:18446744073709551616 - (18446744073709551615 - m)=m+1:=by omega
  simp(disch:=first|assumption|omega|(simp -implicitDefEqProofs only[Xh,Xi]<;>first|assumption|omega)|decide) only[en,ef,el,hH1,e9,Kn,FF,s1,s2,s3,QH,yc,Kg,Kh,Zb,XU,Nat.reduceSub,YB,Zu,ZO,zz,zr,Lk,K4,Di,Yt,TF,Row.st_size,Row.st_own,Row.st_fz,Zd,YL,c88,Z9,Xg,ZY,Yu,Z3,Z6,Yf,Nat.reduceEqDiff,reduceCtorEq,Xe,U4]
  exact⟨_,rfl,k1.then_put λh=>absurd h (ZT _)⟩
theorem lx(E:Env Zx fs fuel)(hk:3<=k){z:Int}(g:QT H)(hro:H.ro<=H.nx)(hz1: -9223372036854775808<=z)(hz2:z<9223372036854775808):
  Z7 (LK Zx fs fuel k) fs fuel (n+1) 88 [.int .i64 z,nI .i64 10] H=.ret (.str (N6 z)) H:=by
 obtain⟨H',e,g⟩:=vV E (n:=898) (H:=H) g hro hz1 hz2
 exact Xc (r:=2) rfl rfl e g (rfl) hk
theorem A3(E:Env Zx fs fuel){z:Int}(g:QT H)(hro:H.ro<=H.nx)(hz1: -9223372036854775808<=z)(hz2:z<9223372036854775808):
  ∃H',Z7 (LK Zx fs fuel 3) fs fuel (n+2) 57 [.int .i64 z,nI .i64 10] H=.ret (.str (N6 z)) H'∧ZK H H' []:=by
 rw[Z1 (ZU E.n57 (.inl (by decide)) _ _) E.f57]
 have es:=λ{j}=>lx (Zx:=Zx) (fs:=fs) (fuel:=fuel) E (k:=3) (n:=j) (by decide) g hro hz1 hz2
 simp(disch:=first|assumption|omega|(simp -implicitDefEqProofs only[Xh,Xi]<;>first|assumption|omega)|decide) only[es,c57,Z9,Xg,ZY,Yu,Z3,Z6,Yf,Nat.reduceEqDiff,reduceCtorEq,Xe]
 exact⟨_,rfl,ZK.refl _ _⟩
theorem lu(E:Env Zx fs fuel)(hk:4<=k){z:Int}(g:QT H)(hro:H.ro<=H.nx)(hz1: -9223372036854775808<=z)(hz2:z<9223372036854775808):
  Z7 (LK Zx fs fuel k) fs fuel (n+1) 57 [.int .i64 z,nI .i64 10] H=.ret (.str (N6 z)) H:=by
 obtain⟨H',e,g⟩:=A3 E (n:=898) (H:=H) g hro hz1 hz2
 exact Xc (r:=3) rfl rfl e g (rfl) hk
def T1(n:Nat):List UInt8:=if n<8 then [OV n] else T1 (n/8)++[OV (n % 8)]
termination_by n
decreasing_by omega
theorem F3(h:n<8):T1 n=[OV n]:=by rw[T1,if_pos h]
theorem F2(h:8<=n):T1 n=T1 (n/8)++[OV (n % 8)]:=by rw[T1,if_neg (by omega)]
theorem Dq: ∀(k n:Nat),1<=k->n<8^k->(T1 n).length<=k
 |0,_,h,_=>by omega
 |k+1,n,_,h=>by
  by_cases h8:n<8
  ·rw[F3 h8];exact Nat.succ_le_succ (ZA _)
  ·rw[F2 (by omega),Zk]
   have hk:1<=k:=by
    rcases k with _|k
    ·rw[Zb,Nat.pow_one] at h;omega
    ·omega
   have:=Dq k (n/8) hk (by rw[VC] at h;omega)
   show _+1<=_
   omega
theorem jw(n:Nat):1<=(T1 n).length:=by
 by_cases h8:n<8
 ·rw[F3 h8];exact Zz _
 ·rw[F2 (by omega),Zk];show 1<=_+1;omega
theorem dC{a:Nat}(h:a<18446744073709551616)(H:Heap):Ks Ro (nI .u64 a) (nI .u64 7) H=.val (nI .u64 (a % 8)) H:=by
 show Yb (PR .u64 .u64) (Ts .u64 (.ofNat (Ro (UC .u64) (UK (UC .u64) (.ofNat a)) (UK (UC .u64) (.ofNat 7)))) H)=_
 have h2:Ro (UC .u64) (UK (UC .u64) (.ofNat a)) (UK (UC .u64) (.ofNat 7))=a % 8:=by
  show Nat.land (a % 18446744073709551616) 7=_
  rw[YH h]
  exact Nat.and_two_pow_sub_one_eq_mod a 3
 rw[Wb,Vb,h2,D7,YH (by omega)]
 rfl
theorem Zbk: ∀i,i<8->KB.getD i 0=OV i:=by decide
theorem jv{u:Nat}(h:u<8)(H:Heap):Md (.str KB) (nI .u64 u) H=.val (Vf (OV u)) H:=by
 rw[Me (by show u<36;omega),Zbk _ h]
structure OB(r:Row)(i:Nat)(s:List UInt8):Prop where
 size:r.size=65
 own:r.own=true
 fz:r.fz=0
 le:i<=65
 len:s.length=65 - i
 get: ∀j,j<s.length->r.get (i+j)=Vf (s.getD j 0)
theorem OB.push{r:Row}(h:OB r i s)(hi:0<i)(x:UInt8):OB (r.st (i - 1) (Vf x)) (i - 1) (x::s):=by
 have h1:=h.le;have h2:=h.len
 refine⟨h.size,h.own,h.fz,by omega,by rw[Zl];omega,λj hj=>?_⟩
 rw[Row.st_get]
 rcases j with _|j
 ·rw[if_pos (by omega)];rfl
 ·rw[if_neg (by omega),show i - 1+(j+1)=i+j by omega,h.get j (by rw[Zl] at hj;omega)];rfl
theorem Ze3(E:Env Zx fs fuel):Z7 (LK Zx fs fuel k) fs fuel (n+1) 150 [nI .i64 8] H=.ret (.bool true) H:=by
 rw[Z1 (ZU E.n150 (.inr rfl) _ _) E.f150]
 have b: ∀G:Heap,Ks Ro (nI .i64 8) (nI .i64 7) G=.val (nI .i64 0) G:=λG=>rfl
 have s: ∀G:Heap,O3 (nI .i64 8) (nI .i64 1) G=.val (nI .i64 7) G:=λG=>rfl
 have e: ∀G:Heap,ND VU false (nI .i64 0) (nI .i64 0) G=.val (.bool true) G:=λG=>rfl
 simp only[b,s,e,Za2,Z9,Xg,ZY,Xe]
theorem tz8(E:Env Zx fs fuel)(g:QT H):Z7 (LK Zx fs fuel k) fs fuel (n+2) 151 [nI .u64 8] H=.ret (nI .i64 3) H:=by
 rw[Z1 (ZU E.n151 (.inr rfl) _ _) E.f151]
 have e6: ∀{j},Z7 (LK Zx fs fuel k) fs fuel (j+1) 169 [nI .u64 8] H=.ret (nI .i64 3) H:=λ{j}=>by
  rw[Z1 (ZU E.n169 (.inr rfl) _ _) E.f169]
  obtain⟨_,_,r,g1,g2,g3⟩:=g
  have e: ∀G:Heap,ND VU false (nI .u64 8) (nI .u64 0) G=.val (.bool false) G:=λG=>rfl
  have ng: ∀G:Heap,pR (nI .u64 8) G=.val (nI .u64 18446744073709551608) G:=λG=>rfl
  have b: ∀G:Heap,Ks Ro (nI .u64 8) (nI .u64 18446744073709551608) G=.val (nI .u64 8) G:=λG=>rfl
  have m: ∀G:Heap,uC (nI .u64 8) (nI .u64 285870213051353865) G=.val (nI .u64 2286961704410830920) G:=λG=>rfl
  have s: ∀G:Heap,iN (nI .u64 2286961704410830920) (nI .u64 58) G=.val (nI .u64 7) G:=λG=>rfl
  have i: ∀G:Heap,BJ 64 1 (.ptr 7 0) (nI .u64 7) G=.val (.ptr 7 7) G:=λG=>Yt (by decide) _ _ _ _
  have l: ∀G,ld1 (some (.row r)) 7 G=.val (nI .u8 3) G:=λG=>by rw[Y0 g2,g3]
  have v: ∀G:Heap,OY .i64 (nI .u8 3) G=.val (nI .i64 3) G:=λG=>rfl
  simp only[e,ng,b,m,s,i,g1,l,v,Za6,Z9,Xg,ZY,Xe]
 simp only[e6,Za3,Z9,Xg,ZY,Xe]
structure OL(H0:Heap)(b n0:Nat)(m:Nat)(tm:TM)(H:Heap):Prop where
 t3:V5 tm=.bool false
 t4:XY tm=.bool false
 t10:XD tm=.nils
 t12:XS tm=.ptr b 0
 t13:XG tm=nI .i64 m
 t14:X5 tm=nI .u64 3
 t15:Wh tm=nI .u64 8
 t16:X8 tm=nI .u64 7
 le:44<=m
 u: ∃u R s,Wj tm=nI .u64 u∧u<8^(m - 43)∧u<9223372036854775808∧H=H0.put b (.row R)∧OB R m s∧T1 n0=T1 u++s
def OLQ(H0:Heap)(b n0:Nat)(o:Out)(tm:TM)(H:Heap):Prop:=o=.exit 0∧ ∃m,OL H0 b n0 m tm H∧ ∀u,Wj tm=nI .u64 u->u<8
theorem cL{n0:Nat}(hb:b<H0.nx)(hro:H0.ro<=b)(cx:Ctx)(X0:X)(m:Nat)(tm:TM)(H:Heap)(hI:OL H0 b n0 m tm H):
  ∃o tm' H',JB cx tm H X0=.ok o tm' H' X0∧((o=.normal∧ ∃k,k<m∧OL H0 b n0 k tm' H')∨(o≠.normal∧OLQ H0 b n0 o tm' H')):=by
 obtain⟨t3,t4,t10,t12,t13,t14,t15,t16,hle,u,R,s,t1,hu1,hu2,rfl,ob,ho⟩:=hI
 have tJ:=t3;have Jp:=t4;have np:=t10;have Zfo:=t12;have Zfp:=t14;have Zfq:=t15;have nq:=t16;have t1':=t1
 simp only[E2,lV,aI,ZdW,ZdX,lW] at t1 t12 t13 t14 t15 t16
 have s1:=ob.size;have s2:=ob.own;have s3:=ob.fz;have s4:=ob.le
 by_cases h8:8<=u
 ·have d1:decide (8<=u)=true:=Zi h8
  have hm45:45<=m:=by
   rcases Nat.lt_or_ge m 45 with h|h
   ·obtain rfl:m=44:=by omega
    simp at hu1;omega
   ·exact h
  simp(disch:=first|assumption|omega|(simp -implicitDefEqProofs only[Xh,Xi]<;>first|assumption|omega)|decide) only[t1,t12,t13,t14,t15,t16,d1,ZR,YQ,dC,Rm,ZR,YQ,Yt,TF,jv,JB,Z9,Xg,Yu,Nat.reducePow,Xe,U4]
  refine⟨_,_,_,rfl,.inl ⟨rfl,m - 1,by omega,tJ,Jp,np,Zfo,rfl,Zfp,Zfq,nq,by omega,u/8,_,_,rfl,?_,by omega,rfl,ob.push (by omega) _,?_⟩⟩
  ·rw[show m - 43=(m - 1 - 43)+1 by omega,VC] at hu1;omega
  ·rw[ho,F2 h8,Xd];rfl
 ·have d1:decide (8<=u)=false:=Ze h8
  simp only[t1,t15,d1,ZR,ZR,JB,Z9,Xg,Xe,U4]
  refine⟨_,_,_,rfl,?_⟩
  exact .inr ⟨by simp,rfl,m,⟨tJ,Jp,np,Zfo,t13,Zfp,Zfq,nq,hle,u,R,s,t1',hu1,hu2,rfl,ob,ho⟩,λv hv=>by have:nI .u64 u=nI .u64 v:=t1'.symm.trans hv;cases this;omega⟩
theorem ZhH(E:Env Zx fs fuel){u:Nat}(g:QT H)(hro:H.ro<=H.nx)(hu:u<9223372036854775808):
  ∃H',Z7 (LK Zx fs fuel k) fs fuel (n+3) 121 [.nils,nI .u64 u,nI .i64 8,.bool false,.bool false] H=.ret (.tup [.nils,.str (T1 u)]) H'∧ZK H H' []:=by
 rw[Z1 (ZU E.n121 (.inr rfl) _ _) E.f121]
 obtain⟨H1,hH1⟩:=SK (H.new (.row ⟨201,1,65,.leaf,nI .u8 0,0,false,true,true⟩))
 have Kn:H1.nx=H.nx+1:=by rw[<-hH1];rfl
 have FF:H1.ro=H.ro:=by rw[<-hH1];rfl
 have k1:ZK H H1 []:=by rw[<-hH1];exact ZK.new H _ []
 have ga:H1.t.get H.nx=some (.row ⟨201,1,65,.leaf,nI .u8 0,0,false,true,true⟩):=by rw[<-hH1,YD rfl]
 have e1:=λ{j}=>Ze3 E (k:=k) (n:=j) (H:=H1)
 have e2:=λ{j}=>tz8 E (k:=k) (n:=j) (H:=H1) (g.keep k1 (by simp))
 have w1: ∀G:Heap,OY .u64 (nI .i64 8) G=.val (nI .u64 8) G:=λG=>rfl
 have w2: ∀G:Heap,OY .u64 (nI .i64 3) G=.val (nI .u64 3) G:=λG=>rfl
 have w3: ∀G:Heap,O3 (nI .u64 8) (nI .u64 1) G=.val (nI .u64 7) G:=λG=>rfl
 have f1: ∀G:Heap,Tl Wd Xl (nI .i64 8) (nI .i64 2) G=.val (.bool false) G:=λG=>rfl
 have f2: ∀G:Heap,ND VU false (nI .i64 8) (nI .i64 10) G=.val (.bool false) G:=λG=>rfl
 have f3: ∀G:Heap,Tl Tq Vn (nI .i64 8) (nI .i64 36) G=.val (.bool false) G:=λG=>rfl
 have hf:=E.big
 simp only[fo,hH1,e1,e2,w1,w2,w3,f1,f2,f3,ZaX,Z9,Xg,Xe,U4,]
 generalize hL:Ue (JB _) fuel _ _ _=L
 obtain⟨o,Ny,H2,rfl,_,rfl,m,z,hz⟩:=XZ (P:=λT=>OL H1 H.nx u 65 T H1) (Q:=OLQ H1 H.nx u)
  (λT hi=>We (OL H1 H.nx u) (OLQ H1 H.nx u) (λm tm H' h=>cL (by omega) (by omega) _ _ m tm H' h) fuel 65 T H1 (by omega) hi) hL
  ⟨by rfl,by rfl,by rfl,by rfl,by rfl,by rfl,by rfl,by rfl,by decide,u,_,[],by rfl,Yk hu (by decide),hu,(x8 ga).symm,⟨rfl,rfl,rfl,Zz _,rfl,λj hj=>by cases hj⟩,by rw[Zo]⟩
 obtain⟨t3,t4,t10,t12,t13,t14,t15,t16,hle,u2,R,s,t1,hu1,hu2,rfl,ob,ho⟩:=z
 have h8:=hz _ t1
 simp only[E2,FC,PD,xh,lV,aI] at t1 t3 t4 t10 t12 t13
 have s1:=ob.size;have s2:=ob.own;have s3:=ob.fz;have s4:=ob.le
 have ob2:=ob.push (by omega) (OV u2)
 have el: ∀cc,tH (.slice H.nx (m - 1) (65 - (m - 1)) cc) (H1.put H.nx (.row (R.st (m - 1) (Vf (OV u2)))))=.val (.str (T1 u)) (H1.put H.nx (.row (R.st (m - 1) (Vf (OV u2))))):=λcc=>by
  rw[ho,F3 h8]
  exact IN (Xv _ _ _) ob2.len (by show _<=R.size;omega) λi hi=>ob2.get i (by rw[ob2.len];exact hi)
 simp(disch:=first|assumption|omega|(simp -implicitDefEqProofs only[Xh,Xi]<;>first|assumption|omega)|decide) only[t1,t3,t4,t10,t12,t13,el,QH,Kh,jv,YQ,YQ,Yt,TF,jv,Z9,Xg,ZY,Yu,Xe,U4,CK,Ca]
 refine⟨_,rfl,?_⟩
 exact k1.then_put (by omega)
theorem lr(E:Env Zx fs fuel){u:Nat}(g:QT H)(hro:H.ro<=H.nx)(hu:u<9223372036854775808):
  ∃H',Z7 (LK Zx fs fuel 2) fs fuel (n+4) 88 [nI .i64 u,nI .i64 8] H=.ret (.str (T1 u)) H'∧ZK H H' []:=by
 rw[Z1 (ZU E.n88 (.inl (by decide)) _ _) E.f88]
 obtain⟨H1,e1,k1⟩:=ZhH E (k:=2) (n:=n) (H:=H) g hro hu
 have f2: ∀G:Heap,ND VU false (nI .i64 8) (nI .i64 10) G=.val (.bool false) G:=λG=>rfl
 simp(disch:=omega) only[e1,f2,Zu,TV,Zu,decide_false,Lk,c88,Z9,Xg,ZY,Xe,U4]
 refine⟨_,rfl,?_⟩
 exact k1
theorem ZhI(E:Env Zx fs fuel)(hk:3<=k){u:Nat}(g:QT H)(hro:H.ro<=H.nx)(hu:u<9223372036854775808):
  Z7 (LK Zx fs fuel k) fs fuel (n+1) 88 [nI .i64 u,nI .i64 8] H=.ret (.str (T1 u)) H:=by
 obtain⟨H',e,g⟩:=lr E (n:=896) (H:=H) g hro hu
 exact Xc (r:=2) rfl rfl e g (rfl) hk
theorem oX(E:Env Zx fs fuel){u:Nat}(g:QT H)(hro:H.ro<=H.nx)(hu:u<9223372036854775808):
  ∃H',Z7 (LK Zx fs fuel 3) fs fuel (n+4) 57 [nI .i64 u,nI .i64 8] H=.ret (.str (T1 u)) H'∧ZK H H' []:=by
 rw[Z1 (ZU E.n57 (.inl (by decide)) _ _) E.f57]
 have e1:=λ{j}=>ZhI E (k:=3) (n:=j) (by decide) g hro hu
 simp only[e1,c57,Z9,Xg,ZY,Xe]
 refine⟨_,rfl,?_⟩
 exact ZK.refl _ _
theorem Zff(E:Env Zx fs fuel)(hk:4<=k){u:Nat}(g:QT H)(hro:H.ro<=H.nx)(hu:u<9223372036854775808):
  Z7 (LK Zx fs fuel k) fs fuel (n+1) 57 [nI .i64 u,nI .i64 8] H=.ret (.str (T1 u)) H:=by
 obtain⟨H',e,g⟩:=oX E (n:=896) (H:=H) g hro hu
 exact Xc (r:=3) rfl rfl e g (rfl) hk
end
end
end Go.AI
