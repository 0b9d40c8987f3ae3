/- Texts quoted, numbers written, by the document's code: walked: proved without conditions but those that each names. -/
import Derived.Test.YtoihnnkidhmfeaaGreatDoorP9
set_option maxRecDepth 1000000
set_option maxHeartbeats 0
set_option linter.unusedVariables false
set_option linter.unusedSimpArgs false
namespace Go.AI
open Go
noncomputable section
def z5(s:List UInt8)(i:Nat):Nat->Nat->Nat->Option Nat
 |0,_,x=>some x
 |m+1,j,x=>if Wo s (i+j)<128∨192<=Wo s (i+j) then none else z5 s i m (j+1) (64*x+Wo s (i+j) - 128)
def Sj(c:Nat):Nat:=if c<192 then 0 else if c<224 then 2 else if c<240 then 3 else if c<248 then 4 else 0
def MM(c:Nat):Nat:=if c<192 then 0 else if c<224 then c - 192 else if c<240 then c - 224 else if c<248 then c - 240 else 0
def PD:List Nat:=[0,0,128,2048,65536]
def eQ(s:List UInt8)(i:Nat):Nat:=
 if Wo s i<128 then 1 else
 if Sj (Wo s i)=0∨s.length<i+Sj (Wo s i) then 0 else
 match z5 s i (Sj (Wo s i) - 1) 1 (MM (Wo s i)) with
 |none=>0
 |some x=>if x<PD.getD (Sj (Wo s i)) 0∨1114111<x∨(55296<=x∧x<=57343) then 0 else Sj (Wo s i)
theorem Ku(s:List UInt8)(i m j x:Nat):z5 s i (m+1) j x=if Wo s (i+j)<128∨192<=Wo s (i+j) then none else z5 s i m (j+1) (64*x+Wo s (i+j) - 128):=rfl
theorem eR{s:List UInt8}{i:Nat}(hi:i<s.length):eQ s i=SC (s.drop i):=by
 have b: ∀j,Wo (s.drop i) j=Wo s (i+j):=λj=>JU s i j
 have hl:(s.drop i).length=s.length - i:=ZV ..
 unfold eQ SC
 simp only
 rw[b 0,b 1,b 2,b 3,Z7,hl]
 have Zgk:=KJ s i
 have h1:=KJ s (i+1)
 have h2:=KJ s (i+2)
 have h3:=KJ s (i+3)
 generalize hc:Wo s i=cc at*
 by_cases h:cc<128
 ·rw[if_pos h,if_pos h]
 rw[if_neg h,if_neg h]
 have key: ∀x,x<256->128<=x->(Sj x=0∧Se x % 8≠2∧Se x % 8≠3∧Se x % 8≠4)∨(Sj x=2∧MM x=x - 192∧192<=x∧x<224∧((x<194∧Se x % 8=1)∨(194<=x∧Se x=2)))∨
   (Sj x=3∧MM x=x - 224∧((x=224∧Se x=19)∨(x=237∧Se x=35)∨(224<x∧x<240∧x≠237∧Se x=3)))∨(Sj x=4∧MM x=x - 240∧((x=240∧Se x=52)∨(240<x∧x<244∧Se x=4)∨(x=244∧Se x=68)∨(244<x∧x<248∧Se x % 8=1))):=by
  intro x h1 h2
  have k0: ∀x,x<256->(128<=x∧(x<192∨248<=x))->(Sj x=0∧Se x % 8≠2∧Se x % 8≠3∧Se x % 8≠4):=by decide+kernel
  have k2: ∀x,x<256->(192<=x∧x<194)->(Sj x=2∧MM x=x - 192∧Se x % 8=1):=by decide+kernel
  have k2': ∀x,x<256->(194<=x∧x<224)->(Sj x=2∧MM x=x - 192∧Se x=2):=by decide+kernel
  have k3: ∀x,x<256->(224<=x∧x<240)->(Sj x=3∧MM x=x - 224):=by decide+kernel
  have k3': ∀x,x<256->(224<x∧x<240∧x≠237)->Se x=3:=by decide+kernel
  have k4: ∀x,x<256->(240<=x∧x<248)->(Sj x=4∧MM x=x - 240):=by decide+kernel
  have k4': ∀x,x<256->(240<x∧x<244)->Se x=4:=by decide+kernel
  have k4b: ∀x,x<256->(244<x∧x<248)->Se x % 8=1:=by decide+kernel
  by_cases c0:x<192∨248<=x
  ·exact .inl (k0 x h1 ⟨h2,c0⟩)
  by_cases c1:x<194
  ·obtain⟨p,q,r⟩:=k2 x h1 (by omega)
   exact .inr (.inl ⟨p,q,by omega,by omega,.inl ⟨c1,r⟩⟩)
  by_cases c2:x<224
  ·obtain⟨p,q,r⟩:=k2' x h1 (by omega)
   exact .inr (.inl ⟨p,q,by omega,by omega,.inr ⟨by omega,r⟩⟩)
  by_cases c3:x<240
  ·obtain⟨p,q⟩:=k3 x h1 (by omega)
   refine .inr (.inr (.inl ⟨p,q,?_⟩))
   by_cases e:x=224
   ·exact .inl ⟨e,by rw[e];rfl⟩
   by_cases e2:x=237
   ·exact .inr (.inl ⟨e2,by rw[e2];rfl⟩)
   exact .inr (.inr ⟨by omega,by omega,e2,k3' x h1 ⟨by omega,by omega,e2⟩⟩)
  ·obtain⟨p,q⟩:=k4 x h1 (by omega)
   refine .inr (.inr (.inr ⟨p,q,?_⟩))
   by_cases e:x=240
   ·exact .inl ⟨e,by rw[e];rfl⟩
   by_cases e2:x<244
   ·exact .inr (.inl ⟨by omega,e2,k4' x h1 ⟨by omega,e2⟩⟩)
   by_cases e3:x=244
   ·exact .inr (.inr (.inl ⟨e3,by rw[e3];rfl⟩))
   exact .inr (.inr (.inr ⟨by omega,by omega,k4b x h1 ⟨by omega,by omega⟩⟩))
 have b1:Wo s (i+1)=Wo s (i+1):=rfl
 generalize hy:Wo s (i+1)=y at*
 generalize hz:Wo s (i+2)=z at*
 generalize hw:Wo s (i+3)=w at*
 have a0:Rb.getD 0 0=128∧Rb.getD 1 0=191∧Rb.getD 2 0=160∧Rb.getD 3 0=191∧Rb.getD 4 0=128∧Rb.getD 5 0=159∧Rb.getD 6 0=144∧Rb.getD 7 0=191∧Rb.getD 8 0=128∧Rb.getD 9 0=143:=by decide
 obtain⟨p0,p1,p2,p3,p4,p5,p6,p7,p8,p9⟩:=a0
 have l2:PD.getD 2 0=128:=rfl
 have l3:PD.getD 3 0=2048:=rfl
 have l4:PD.getD 4 0=65536:=rfl
 rcases key cc Zgk (by omega) with⟨e,e1,e2,e3⟩|⟨e,ef,g1,g2,hx⟩|⟨e,ef,hx⟩|⟨e,ef,hx⟩
 ·rw[e,if_pos (.inl rfl),if_neg e1,if_neg e2,if_neg e3]
 ·rw[e,ef]
  show(if 2=0∨s.length<i+2 then 0 else match z5 s i 1 1 (cc - 192) with|none=>0|some x=>if x<PD.getD 2 0∨1114111<x∨(55296<=x∧x<=57343) then 0 else 2)=_
  rw[Ku,hy,l2]
  show(if 2=0∨s.length<i+2 then 0 else match(if y<128∨192<=y then none else some (64*(cc - 192)+y - 128)) with|none=>0|some x=>if x<128∨1114111<x∨(55296<=x∧x<=57343) then 0 else 2)=_
  rcases hx with⟨hx,hf⟩|⟨hx,hf⟩
  ·rw[if_neg (show ¬Se cc % 8=2 by omega),if_neg (show ¬Se cc % 8=3 by omega),if_neg (show ¬Se cc % 8=4 by omega)]
   split
   ·rfl
   ·by_cases hq:y<128∨192<=y
    ·rw[if_pos hq]
    ·rw[if_neg hq];simp only;rw[if_pos (by omega)]
  ·rw[hf]
   show _=(if s.length - i<2∨y<Rb.getD 0 0∨Rb.getD 1 0<y then 0 else 2)
   rw[p0,p1]
   by_cases hL:s.length<i+2
   ·rw[if_pos (.inr hL),if_pos (.inl (by omega))]
   ·rw[if_neg (by omega)]
    by_cases hq:y<128∨192<=y
    ·rw[if_pos hq,if_pos (by omega)]
    ·rw[if_neg hq,if_neg (by omega)];simp only;rw[if_neg (by omega)]
 ·rw[e,ef]
  show(if 3=0∨s.length<i+3 then 0 else match z5 s i 2 1 (cc - 224) with|none=>0|some x=>if x<PD.getD 3 0∨1114111<x∨(55296<=x∧x<=57343) then 0 else 3)=_
  rw[Ku,hy,Ku,hz,l3]
  show(if 3=0∨s.length<i+3 then 0 else match(if y<128∨192<=y then none else if z<128∨192<=z then none else some (64*(64*(cc - 224)+y - 128)+z - 128)) with|none=>0|some x=>if x<2048∨1114111<x∨(55296<=x∧x<=57343) then 0 else 3)=_
  have fin: ∀(lo hi:Nat),(128<=lo∧hi<=191)->(∀yy zz,128<=yy->yy<192->128<=zz->zz<192->((64*(64*(cc - 224)+yy - 128)+zz - 128<2048∨1114111<64*(64*(cc - 224)+yy - 128)+zz - 128∨(55296<=64*(64*(cc - 224)+yy - 128)+zz - 128∧64*(64*(cc - 224)+yy - 128)+zz - 128<=57343))↔(yy<lo∨hi<yy)))->
    (if 3=0∨s.length<i+3 then 0 else match(if y<128∨192<=y then none else if z<128∨192<=z then none else some (64*(64*(cc - 224)+y - 128)+z - 128)) with|none=>0|some x=>if x<2048∨1114111<x∨(55296<=x∧x<=57343) then 0 else 3)=if s.length - i<3∨y<lo∨hi<y∨z<128∨191<z then 0 else 3:=by
   intro lo hi hb hk
   by_cases hL:s.length<i+3
   ·rw[if_pos (.inr hL),if_pos (.inl (by omega))]
   ·rw[if_neg (by omega)]
    by_cases hq:y<128∨192<=y
    ·rw[if_pos hq,if_pos (by omega)]
    ·rw[if_neg hq]
     by_cases hq2:z<128∨192<=z
     ·rw[if_pos hq2,if_pos (by omega)]
     ·rw[if_neg hq2]
      simp only
      have:=hk y z (by omega) (by omega) (by omega) (by omega)
      by_cases hr:y<lo∨hi<y
      ·rw[if_pos (this.2 hr),if_pos (by omega)]
      ·rw[if_neg (λh=>hr (this.1 h)),if_neg (by omega)]
  rcases hx with⟨rfl,hf⟩|⟨rfl,hf⟩|⟨g1,g2,g3,hf⟩
  ·rw[hf]
   show _=(if s.length - i<3∨y<Rb.getD 2 0∨Rb.getD 3 0<y∨z<128∨191<z then 0 else 3)
   rw[p2,p3]
   exact fin 160 191 (by omega) (λyy zz _ _ _ _=>by omega)
  ·rw[hf]
   show _=(if s.length - i<3∨y<Rb.getD 4 0∨Rb.getD 5 0<y∨z<128∨191<z then 0 else 3)
   rw[p4,p5]
   exact fin 128 159 (by omega) (λyy zz _ _ _ _=>by omega)
  ·rw[hf]
   show _=(if s.length - i<3∨y<Rb.getD 0 0∨Rb.getD 1 0<y∨z<128∨191<z then 0 else 3)
   rw[p0,p1]
   exact fin 128 191 (by omega) (λyy zz _ _ _ _=>by omega)
 ·rw[e,ef]
  show(if 4=0∨s.length<i+4 then 0 else match z5 s i 3 1 (cc - 240) with|none=>0|some x=>if x<PD.getD 4 0∨1114111<x∨(55296<=x∧x<=57343) then 0 else 4)=_
  rw[Ku,hy,Ku,hz,Ku,hw,l4]
  show(if 4=0∨s.length<i+4 then 0 else match(if y<128∨192<=y then none else if z<128∨192<=z then none else if w<128∨192<=w then none else some (64*(64*(64*(cc - 240)+y - 128)+z - 128)+w - 128)) with|none=>0|some x=>if x<65536∨1114111<x∨(55296<=x∧x<=57343) then 0 else 4)=_
  have fin: ∀(lo hi:Nat),(128<=lo∧hi<=191)->(∀yy zz ww,128<=yy->yy<192->128<=zz->zz<192->128<=ww->ww<192->((64*(64*(64*(cc - 240)+yy - 128)+zz - 128)+ww - 128<65536∨1114111<64*(64*(64*(cc - 240)+yy - 128)+zz - 128)+ww - 128∨(55296<=64*(64*(64*(cc - 240)+yy - 128)+zz - 128)+ww - 128∧64*(64*(64*(cc - 240)+yy - 128)+zz - 128)+ww - 128<=57343))↔(yy<lo∨hi<yy)))->
    (if 4=0∨s.length<i+4 then 0 else match(if y<128∨192<=y then none else if z<128∨192<=z then none else if w<128∨192<=w then none else some (64*(64*(64*(cc - 240)+y - 128)+z - 128)+w - 128)) with|none=>0|some x=>if x<65536∨1114111<x∨(55296<=x∧x<=57343) then 0 else 4)=if s.length - i<4∨y<lo∨hi<y∨z<128∨191<z∨w<128∨191<w then 0 else 4:=by
   intro lo hi hb hk
   by_cases hL:s.length<i+4
   ·rw[if_pos (.inr hL),if_pos (.inl (by omega))]
   ·rw[if_neg (by omega)]
    by_cases hq:y<128∨192<=y
    ·rw[if_pos hq,if_pos (by omega)]
    ·rw[if_neg hq]
     by_cases hq2:z<128∨192<=z
     ·rw[if_pos hq2,if_pos (by omega)]
     ·rw[if_neg hq2]
      by_cases hq3:w<128∨192<=w
      ·rw[if_pos hq3,if_pos (by omega)]
      ·rw[if_neg hq3]
       simp only
       have:=hk y z w (by omega) (by omega) (by omega) (by omega) (by omega) (by omega)
       by_cases hr:y<lo∨hi<y
       ·rw[if_pos (this.2 hr),if_pos (by omega)]
       ·rw[if_neg (λh=>hr (this.1 h)),if_neg (by omega)]
  rcases hx with⟨rfl,hf⟩|⟨g1,g2,hf⟩|⟨rfl,hf⟩|⟨g1,g2,hf⟩
  ·rw[hf]
   show _=(if s.length - i<4∨y<Rb.getD 6 0∨Rb.getD 7 0<y∨z<128∨191<z∨w<128∨191<w then 0 else 4)
   rw[p6,p7]
   exact fin 144 191 (by omega) (λyy zz ww _ _ _ _ _ _=>by omega)
  ·rw[hf]
   show _=(if s.length - i<4∨y<Rb.getD 0 0∨Rb.getD 1 0<y∨z<128∨191<z∨w<128∨191<w then 0 else 4)
   rw[p0,p1]
   exact fin 128 191 (by omega) (λyy zz ww _ _ _ _ _ _=>by omega)
  ·rw[hf]
   show _=(if s.length - i<4∨y<Rb.getD 8 0∨Rb.getD 9 0<y∨z<128∨191<z∨w<128∨191<w then 0 else 4)
   rw[p8,p9]
   exact fin 128 143 (by omega) (λyy zz ww _ _ _ _ _ _=>by omega)
  ·rw[if_neg (show ¬Se cc % 8=2 by omega),if_neg (show ¬Se cc % 8=3 by omega),if_neg (show ¬Se cc % 8=4 by omega)]
   split
   ·rfl
   ·by_cases hq:y<128∨192<=y
    ·rw[if_pos hq]
    ·rw[if_neg hq]
     by_cases hq2:z<128∨192<=z
     ·rw[if_pos hq2]
     ·rw[if_neg hq2]
      by_cases hq3:w<128∨192<=w
      ·rw[if_pos hq3]
      ·rw[if_neg hq3]
       simp only
       rw[if_pos (by omega)]
structure dD(H0:Heap)(s:List UInt8)(i L:Nat)(T:Option Nat)(m:Nat)(tm:TM)(H:Heap):Prop where
 j: ∃j x,XG tm=nI .i64 j∧Wp tm=nI .i64 x∧1<=j∧j<=L∧m=L - j∧x+1<=33*64^(j - 1)∧z5 s i (L - j) j x=T
 t0:ZO tm=.str s
 t1:YL tm=nI .i64 i
 t6:W2 tm=nI .i64 L
 h:H=H0
theorem xM{cl:Nat->List AV->Heap->CR}{H0:Heap}{s:List UInt8}{i L:Nat}{T:Option Nat}(hL:L<=4)(hi:i+L<=s.length)(hl:s.length<1000000000)(y f d r)(x:X)(m:Nat)(tm:TM)(H:Heap)(hI:dD H0 s i L T m tm H):
  ∃o tm' H',Ka ⟨cl,y,f,d,r⟩ tm H x=.ok o tm' H' x∧((o=.normal∧ ∃q,q<m∧dD H0 s i L T q tm' H')∨(o≠.normal∧H'=H0∧((o=.exit 0∧W2 tm'=nI .i64 L∧ ∃x,T=some x∧Wp tm'=nI .i64 x∧x<9000000)∨(o=.ret∧T=none∧YT tm'=nI .i64 0)))):=by
 obtain⟨⟨j,z,t8,t7,h1,hj,rfl,hz,hT⟩,t0,t1,t6,rfl⟩:=hI
 have mj:=t8;have pv:=t7;have t0':=t0;have t1':=t1;have dh:=t6
 simp only[Ud] at t0
 simp only[Od] at t1
 simp only[Nd] at t6
 simp only[N2] at t7
 simp only[Kh] at t8
 by_cases hlt:j<L
 ·have d1:decide (j<L)=true:=Zg hlt
  have hd:=KJ s (i+j)
  have hzb:z<140000:=by
   have:j=1∨j=2∨j=3:=by omega
   rcases this with rfl|rfl|rfl
   ·have:33*64^(1 - 1)=33:=rfl
    omega
   ·have:33*64^(2 - 1)=2112:=rfl
    omega
   ·have:33*64^(3 - 1)=135168:=rfl
    omega
  have e1:L - j=(L - (j+1))+1:=by omega
  rw[e1,Ku] at hT
  generalize hb:Wo s (i+j)=b at*
  have ix: ∀(k:IntKind) (G:Heap),Ou (.str s) (nI k (i+j)) G=.val (nI .u8 b) G:=λk G=>by rw[YB (by omega),hb]
  have iw:=λ(G:Heap)=>Sy hd G
  have a1:=λ(G:Heap)=>WM (a:=i) (b:=j) (by omega) G
  by_cases h2:b<128
  ·have d2:decide (b<128)=true:=Zg h2
   rw[if_pos (.inl h2)] at hT
   simp(maxSteps:=4000000) (disch:=first|assumption|omega|(simp -implicitDefEqProofs only[ZA,ZB]<;>first|assumption|omega)|decide) only[t0,t1,t6,t8,d1,ix,iw,a1,d2,Zx,Wn,Ka,Z4,Yr,Zy,Zz,Zk,Zm,Zl,Nat.reducePow,Nat.reduceDiv,Nat.reduceMod,Nat.reduceEqDiff,reduceCtorEq,Yu,VW,SF]
   refine⟨_,_,_,rfl,?_⟩
   exact .inr ⟨by simp,rfl,.inr ⟨rfl,hT.symm,(by simp only[Yu,Yr])⟩⟩
  ·have d2:decide (b<128)=false:=Zd h2
   by_cases h3:192<=b
   ·have d3:decide (192<=b)=true:=Zg h3
    rw[if_pos (.inr h3)] at hT
    simp(maxSteps:=4000000) (disch:=first|assumption|omega|(simp -implicitDefEqProofs only[ZA,ZB]<;>first|assumption|omega)|decide) only[t0,t1,t6,t8,d1,ix,iw,a1,d2,d3,Zx,Wn,Ka,Z4,Yr,Zy,Zz,Zk,Zm,Zl,Nat.reducePow,Nat.reduceDiv,Nat.reduceMod,Nat.reduceEqDiff,reduceCtorEq,Yu,VW,SF]
    refine⟨_,_,_,rfl,?_⟩
    exact .inr ⟨by simp,rfl,.inr ⟨rfl,hT.symm,(by simp only[Yu,Yr])⟩⟩
   ·have d3:decide (192<=b)=false:=Zd h3
    rw[if_neg (by omega)] at hT
    have m1:=λ(G:Heap)=>Hh (a:=64) (b:=z) (by omega) G
    have a2:=λ(G:Heap)=>WM (a:=64*z) (b:=b) (by omega) G
    have s1:=λ(G:Heap)=>Ot (a:=64*z+b) (b:=128) (by omega) (by omega) G
    simp(maxSteps:=4000000) (disch:=first|assumption|omega|(simp -implicitDefEqProofs only[ZA,ZB]<;>first|assumption|omega)|decide) only[t0,t1,t6,t7,t8,d1,ix,iw,a1,d2,d3,m1,a2,s1,WM,Zx,Wn,Ka,Z4,Yr,Zy,Zz,Zk,Zm,Zl,Nat.reducePow,Nat.reduceDiv,Nat.reduceMod,Nat.reduceEqDiff,reduceCtorEq,Yu,VW,SF]
    refine⟨_,_,_,rfl,.inl ⟨rfl,L - (j+1),by omega,⟨⟨j+1,64*z+b - 128,(by simp only[Yu,Yr]),(by simp only[Yu,Yr]),by omega,by omega,rfl,?_,hT⟩,(by simp only[Yu,Yr];exact t0'),(by simp only[Yu,Yr];exact t1'),(by simp only[Yu,Yr];exact dh),rfl⟩⟩⟩
    have:j=1∨j=2∨j=3:=by omega
    rcases this with rfl|rfl|rfl
    ·have:33*64^(1 - 1)=33:=rfl
     have:33*64^(1+1 - 1)=2112:=rfl
     omega
    ·have:33*64^(2 - 1)=2112:=rfl
     have:33*64^(2+1 - 1)=135168:=rfl
     omega
    ·have:33*64^(3 - 1)=135168:=rfl
     have:33*64^(3+1 - 1)=8650752:=rfl
     omega
 ·have d1:decide (j<L)=false:=Zd hlt
  have e1:L - j=0:=by omega
  rw[e1] at hT
  have hT:some z=T:=hT
  have hz2:z<9000000:=by
   have:j=1∨j=2∨j=3∨j=4:=by omega
   rcases this with rfl|rfl|rfl|rfl
   ·have:33*64^(1 - 1)=33:=rfl
    omega
   ·have:33*64^(2 - 1)=2112:=rfl
    omega
   ·have:33*64^(3 - 1)=135168:=rfl
    omega
   ·have:33*64^(4 - 1)=8650752:=rfl
    omega
  simp(maxSteps:=4000000) (disch:=first|assumption|omega|(simp -implicitDefEqProofs only[ZA,ZB]<;>first|assumption|omega)|decide) only[t6,t8,d1,Zx,Ka,Z4,Yr,Zy,Zz,Zk,Zm,Zl,Nat.reducePow,Nat.reduceDiv,Nat.reduceMod,Nat.reduceEqDiff,reduceCtorEq,Yu,VW,SF]
  refine⟨_,_,_,rfl,?_⟩
  exact .inr ⟨by simp,rfl,.inl ⟨rfl,(by simp only[Yu,Yr];exact dh),z,hT.symm,(by simp only[Yu,Yr];exact pv),hz2⟩⟩
theorem sT{ZM:Lib}{fs:T CF}{fuel:Nat}(E:Env ZM fs fuel){k n:Nat}{s:List UInt8}{i:Nat}{H:Heap}(hi:i<s.length)(hl:s.length<1000000000):
  ∃H',Yo (LK ZM fs fuel k) fs fuel (n+1) 70 [.str s,nI .i64 i] H=.ret (nI .i64 (eQ s i)) H'∧ZE H H' []:=by
 rw[YM (YW E.n70 (.inr rfl) _ _) E.f70]
 have hc:=KJ s i
 have ix: ∀(k:IntKind) (G:Heap),Ou (.str s) (nI k i) G=.val (nI .u8 (Wo s i)) G:=λk G=>YB hi k G
 have iw:=λ(G:Heap)=>Sy hc G
 unfold eQ
 generalize Wo s i=b at*
 have bs: ∀G:Heap,Su 3 1 5 (List.replicate 5 [nI .i64 0]).flatten [(0,1,nI .i64 0),(1,1,nI .i64 0),(2,1,nI .i64 128),(3,1,nI .i64 2048),(4,1,nI .i64 65536)] G=.val (.slice G.nx 0 5 none) (G.new (rG 3 1 [nI .i64 0,nI .i64 0,nI .i64 128,nI .i64 2048,nI .i64 65536] 0 false true true)):=λG=>rfl
 have lft: ∀(L:Nat),L<=4-> ∀G:Heap,ld1 (some (rG 3 1 [nI .i64 0,nI .i64 0,nI .i64 128,nI .i64 2048,nI .i64 65536] 0 false true true)) L G=.val (nI .i64 (PD.getD L 0)) G:=λL hL G=>by
  have:L=0∨L=1∨L=2∨L=3∨L=4:=by omega
  rcases this with rfl|rfl|rfl|rfl|rfl<;>rfl
 by_cases h1:b<128
 ·have d1:decide (b<128)=true:=Zg h1
  rw[if_pos h1]
  simp(maxSteps:=4000000) (disch:=first|assumption|omega|(simp -implicitDefEqProofs only[ZA,ZB]<;>first|assumption|omega)|decide) only[ix,iw,d1,Zx,c70,Z4,Yr,Zy,Zz,Zk,Zm,Zl,Nat.reduceEqDiff,reduceCtorEq,Yu,VW,SF]
  refine⟨_,rfl,?_⟩
  exact ZE.refl _ _
 ·have d1:decide (b<128)=false:=Zd h1
  rw[if_neg h1]
  by_cases hA:b<192∨248<=b
  ·have hL:Sj b=0:=by unfold Sj;split;rfl;rw[if_neg (by omega),if_neg (by omega),if_neg (by omega)]
   rw[hL,if_pos (.inl rfl)]
   have c192:decide (192<=b)=decide (248<=b):=by by_cases h:192<=b;rw[Zg h,Zg (by omega)];rw[Zd h,Zd (by omega)]
   by_cases hB:b<192
   ·have c1:decide (192<=b)=false:=Zd (by omega)
    have c2:decide (224<=b)=false:=Zd (by omega)
    have c3:decide (240<=b)=false:=Zd (by omega)
    have e0:decide (0=0)=true:=rfl
    simp(maxSteps:=4000000) (disch:=first|assumption|omega|(simp -implicitDefEqProofs only[ZA,ZB]<;>first|assumption|omega)|decide) only[ix,iw,d1,c1,c2,c3,e0,Zx,Wn,YK,c70,Z4,Yr,Zy,Zz,Zk,Zm,Zl,Nat.reduceEqDiff,reduceCtorEq,Yu,VW,SF]
    refine⟨_,rfl,?_⟩
    exact ZE.refl _ _
   ·have c1:decide (192<=b)=true:=Zg (by omega)
    have c2:decide (224<=b)=true:=Zg (by omega)
    have c3:decide (240<=b)=true:=Zg (by omega)
    have f1:decide (b<224)=false:=Zd (by omega)
    have f2:decide (b<240)=false:=Zd (by omega)
    have f3:decide (b<248)=false:=Zd (by omega)
    have e0:decide (0=0)=true:=rfl
    simp(maxSteps:=4000000) (disch:=first|assumption|omega|(simp -implicitDefEqProofs only[ZA,ZB]<;>first|assumption|omega)|decide) only[ix,iw,d1,c1,c2,c3,f1,f2,f3,e0,Zx,Wn,YK,c70,Z4,Yr,Zy,Zz,Zk,Zm,Zl,Nat.reduceEqDiff,reduceCtorEq,Yu,VW,SF]
    refine⟨_,rfl,?_⟩
    exact ZE.refl _ _
  by_cases h2:b<224
  ·have hL:Sj b=2:=by unfold Sj;rw[if_neg (by omega),if_pos (by omega)]
   have hF:MM b=b - 192:=by unfold MM;rw[if_neg (by omega),if_pos (by omega)]
   rw[hL,hF]
   have c1:decide (192<=b)=true:=Zg (by omega)
   have c2:decide (224<=b)=false:=Zd (by omega)
   have c3:decide (240<=b)=false:=Zd (by omega)
   have f1:decide (b<224)=true:=Zg (by omega)
   have e0:decide (2=0)=false:=rfl
   have sb:=λ(G:Heap)=>Ot (a:=b) (b:=192) (by omega) (by omega) G
   have a1:=λ(G:Heap)=>WM (a:=i) (b:=2) (by omega) G
   by_cases hg:s.length<i+2
   ·have g1:decide (s.length<i+2)=true:=Zg hg
    rw[if_pos (.inr hg)]
    simp(maxSteps:=4000000) (disch:=first|assumption|omega|(simp -implicitDefEqProofs only[ZA,ZB]<;>first|assumption|omega)|decide) only[ix,iw,d1,c1,c2,c3,f1,e0,sb,a1,g1,Zx,Wn,Z2,YK,c70,Z4,Yr,Zy,Zz,Zk,Zm,Zl,Nat.reduceEqDiff,reduceCtorEq,Yu,VW,SF]
    refine⟨_,rfl,?_⟩
    exact ZE.refl _ _
   ·have g1:decide (s.length<i+2)=false:=Zd hg
    rw[if_neg (by omega)]
    simp(maxSteps:=4000000) (disch:=first|assumption|omega|(simp -implicitDefEqProofs only[ZA,ZB]<;>first|assumption|omega)|decide) only[ix,iw,d1,c1,c2,c3,f1,e0,sb,a1,g1,Zx,Wn,Z2,YK,c70,Z4,Yr,Zy,Zz,Zk,Zm,Zl,Nat.reduceEqDiff,reduceCtorEq,Yu,VW,SF]
    generalize hLp:Wu (Ka _) fuel _ _ _=Lp
    obtain⟨o,Pi,H1,rfl,_,rfl,hq⟩:=X9 (P:=λtm=>dD H s i 2 (z5 s i (2 - 1) 1 (b - 192)) (2 - 1) tm H) (Q:=λo tm' H'=>H'=H∧((o=.exit 0∧W2 tm'=nI .i64 2∧ ∃x,z5 s i (2 - 1) 1 (b - 192)=some x∧Wp tm'=nI .i64 x∧x<9000000)∨(o=.ret∧z5 s i (2 - 1) 1 (b - 192)=none∧YT tm'=nI .i64 0)))
     (λtm hi'=>Wv (dD H s i 2 (z5 s i (2 - 1) 1 (b - 192))) _ (λm tm H' h'=>xM (by decide) (by omega) hl _ _ _ _ _ m tm H' h') fuel (2 - 1) tm H (by have:=E.big;omega) hi') hLp
     ⟨⟨1,b - 192,(by simp only[Yu,Yr]),(by simp only[Yu,Yr]),Zq _,by decide,rfl,by show b - 192+1<=33;omega,rfl⟩,(by simp only[Yu,Yr]),(by simp only[Yu,Yr]),(by simp only[Yu,Yr]),rfl⟩
    rcases hq with⟨rfl,t6,x,hx,t7,hx9⟩|⟨rfl,hx,t4⟩
    ·simp only[Nd] at t6
     simp only[N2] at t7
     rw[hx]
     simp only
     have lf:=lft 2 (by decide)
     have ixs:=λ(G:Heap)=>Td (n:=5) (i:=2) (by decide) H1.nx 0 none .i64 G
     rw[Zn] at ixs
     have gz:(H1.new (rG 3 1 [nI .i64 0,nI .i64 0,nI .i64 128,nI .i64 2048,nI .i64 65536] 0 false true true)).t.get H1.nx=some (rG 3 1 [nI .i64 0,nI .i64 0,nI .i64 128,nI .i64 2048,nI .i64 65536] 0 false true true):=Z3 rfl _
     generalize PD.getD 2 0=le at*
     by_cases q1:x<le
     ·have p1:decide (x<le)=true:=Zg q1
      rw[if_pos (.inl q1)]
      simp(maxSteps:=4000000) (disch:=first|assumption|omega|(simp -implicitDefEqProofs only[ZA,ZB]<;>first|assumption|omega)|decide) only[t6,t7,bs,ixs,gz,lf,p1,Zx,Z2,Wn,Ue,c70,Z4,Yr,Zy,Zz,Zk,Zm,Zl,Nat.reduceEqDiff,reduceCtorEq,Yu,VW,SF]
      refine⟨_,rfl,?_⟩
      exact ZE.new _ _ _
     ·have p1:decide (x<le)=false:=Zd q1
      by_cases q2:1114111<x
      ·have p2:decide (1114111<x)=true:=Zg q2
       rw[if_pos (.inr (.inl q2))]
       simp(maxSteps:=4000000) (disch:=first|assumption|omega|(simp -implicitDefEqProofs only[ZA,ZB]<;>first|assumption|omega)|decide) only[t6,t7,bs,ixs,gz,lf,p1,p2,Zx,Z2,Wn,Ue,c70,Z4,Yr,Zy,Zz,Zk,Zm,Zl,Nat.reduceEqDiff,reduceCtorEq,Yu,VW,SF]
       refine⟨_,rfl,?_⟩
       exact ZE.new _ _ _
      ·have p2:decide (1114111<x)=false:=Zd q2
       by_cases q3:55296<=x
       ·have p3:decide (55296<=x)=true:=Zg q3
        by_cases q4:x<=57343
        ·have p4:decide (x<=57343)=true:=Zg q4
         rw[if_pos (.inr (.inr ⟨q3,q4⟩))]
         simp(maxSteps:=4000000) (disch:=first|assumption|omega|(simp -implicitDefEqProofs only[ZA,ZB]<;>first|assumption|omega)|decide) only[t6,t7,bs,ixs,gz,lf,p1,p2,p3,p4,Zx,Z2,Wn,Ue,c70,Z4,Yr,Zy,Zz,Zk,Zm,Zl,Nat.reduceEqDiff,reduceCtorEq,Yu,VW,SF]
         refine⟨_,rfl,?_⟩
         exact ZE.new _ _ _
        ·have p4:decide (x<=57343)=false:=Zd q4
         rw[if_neg (by omega)]
         simp(maxSteps:=4000000) (disch:=first|assumption|omega|(simp -implicitDefEqProofs only[ZA,ZB]<;>first|assumption|omega)|decide) only[t6,t7,bs,ixs,gz,lf,p1,p2,p3,p4,Zx,Z2,Wn,Ue,c70,Z4,Yr,Zy,Zz,Zk,Zm,Zl,Nat.reduceEqDiff,reduceCtorEq,Yu,VW,SF]
         refine⟨_,rfl,?_⟩
         exact ZE.new _ _ _
       ·have p3:decide (55296<=x)=false:=Zd q3
        rw[if_neg (by omega)]
        simp(maxSteps:=4000000) (disch:=first|assumption|omega|(simp -implicitDefEqProofs only[ZA,ZB]<;>first|assumption|omega)|decide) only[t6,t7,bs,ixs,gz,lf,p1,p2,p3,Zx,Z2,Wn,Ue,c70,Z4,Yr,Zy,Zz,Zk,Zm,Zl,Nat.reduceEqDiff,reduceCtorEq,Yu,VW,SF]
        refine⟨_,rfl,?_⟩
        exact ZE.new _ _ _
    ·simp only[T7] at t4
     rw[hx]
     simp(maxSteps:=4000000) (disch:=first|assumption|omega|(simp -implicitDefEqProofs only[ZA,ZB]<;>first|assumption|omega)|decide) only[t4,c70,Z4,Yr,Zy,Zz,Zk,Zm,Zl,Nat.reduceEqDiff,reduceCtorEq,Yu,VW,SF]
     refine⟨_,rfl,?_⟩
     exact ZE.refl _ _
  by_cases h3:b<240
  ·have hL:Sj b=3:=by unfold Sj;rw[if_neg (by omega),if_neg (by omega),if_pos (by omega)]
   have hF:MM b=b - 224:=by unfold MM;rw[if_neg (by omega),if_neg (by omega),if_pos (by omega)]
   rw[hL,hF]
   have c1:decide (192<=b)=true:=Zg (by omega)
   have c2:decide (224<=b)=true:=Zg (by omega)
   have c3:decide (240<=b)=false:=Zd (by omega)
   have f1:decide (b<224)=false:=Zd (by omega)
   have f2:decide (b<240)=true:=Zg (by omega)
   have e0:decide (3=0)=false:=rfl
   have sb:=λ(G:Heap)=>Ot (a:=b) (b:=224) (by omega) (by omega) G
   have a1:=λ(G:Heap)=>WM (a:=i) (b:=3) (by omega) G
   by_cases hg:s.length<i+3
   ·have g1:decide (s.length<i+3)=true:=Zg hg
    rw[if_pos (.inr hg)]
    simp(maxSteps:=4000000) (disch:=first|assumption|omega|(simp -implicitDefEqProofs only[ZA,ZB]<;>first|assumption|omega)|decide) only[ix,iw,d1,c1,c2,c3,f1,f2,e0,sb,a1,g1,Zx,Wn,Z2,YK,c70,Z4,Yr,Zy,Zz,Zk,Zm,Zl,Nat.reduceEqDiff,reduceCtorEq,Yu,VW,SF]
    refine⟨_,rfl,?_⟩
    exact ZE.refl _ _
   ·have g1:decide (s.length<i+3)=false:=Zd hg
    rw[if_neg (by omega)]
    simp(maxSteps:=4000000) (disch:=first|assumption|omega|(simp -implicitDefEqProofs only[ZA,ZB]<;>first|assumption|omega)|decide) only[ix,iw,d1,c1,c2,c3,f1,f2,e0,sb,a1,g1,Zx,Wn,Z2,YK,c70,Z4,Yr,Zy,Zz,Zk,Zm,Zl,Nat.reduceEqDiff,reduceCtorEq,Yu,VW,SF]
    generalize hLp:Wu (Ka _) fuel _ _ _=Lp
    obtain⟨o,Pi,H1,rfl,_,rfl,hq⟩:=X9 (P:=λtm=>dD H s i 3 (z5 s i (3 - 1) 1 (b - 224)) (3 - 1) tm H) (Q:=λo tm' H'=>H'=H∧((o=.exit 0∧W2 tm'=nI .i64 3∧ ∃x,z5 s i (3 - 1) 1 (b - 224)=some x∧Wp tm'=nI .i64 x∧x<9000000)∨(o=.ret∧z5 s i (3 - 1) 1 (b - 224)=none∧YT tm'=nI .i64 0)))
     (λtm hi'=>Wv (dD H s i 3 (z5 s i (3 - 1) 1 (b - 224))) _ (λm tm H' h'=>xM (by decide) (by omega) hl _ _ _ _ _ m tm H' h') fuel (3 - 1) tm H (by have:=E.big;omega) hi') hLp
     ⟨⟨1,b - 224,(by simp only[Yu,Yr]),(by simp only[Yu,Yr]),Zq _,by decide,rfl,by show b - 224+1<=33;omega,rfl⟩,(by simp only[Yu,Yr]),(by simp only[Yu,Yr]),(by simp only[Yu,Yr]),rfl⟩
    rcases hq with⟨rfl,t6,x,hx,t7,hx9⟩|⟨rfl,hx,t4⟩
    ·simp only[Nd] at t6
     simp only[N2] at t7
     rw[hx]
     simp only
     have lf:=lft 3 (by decide)
     have ixs:=λ(G:Heap)=>Td (n:=5) (i:=3) (by decide) H1.nx 0 none .i64 G
     rw[Zn] at ixs
     have gz:(H1.new (rG 3 1 [nI .i64 0,nI .i64 0,nI .i64 128,nI .i64 2048,nI .i64 65536] 0 false true true)).t.get H1.nx=some (rG 3 1 [nI .i64 0,nI .i64 0,nI .i64 128,nI .i64 2048,nI .i64 65536] 0 false true true):=Z3 rfl _
     generalize PD.getD 3 0=le at*
     by_cases q1:x<le
     ·have p1:decide (x<le)=true:=Zg q1
      rw[if_pos (.inl q1)]
      simp(maxSteps:=4000000) (disch:=first|assumption|omega|(simp -implicitDefEqProofs only[ZA,ZB]<;>first|assumption|omega)|decide) only[t6,t7,bs,ixs,gz,lf,p1,Zx,Z2,Wn,Ue,c70,Z4,Yr,Zy,Zz,Zk,Zm,Zl,Nat.reduceEqDiff,reduceCtorEq,Yu,VW,SF]
      refine⟨_,rfl,?_⟩
      exact ZE.new _ _ _
     ·have p1:decide (x<le)=false:=Zd q1
      by_cases q2:1114111<x
      ·have p2:decide (1114111<x)=true:=Zg q2
       rw[if_pos (.inr (.inl q2))]
       simp(maxSteps:=4000000) (disch:=first|assumption|omega|(simp -implicitDefEqProofs only[ZA,ZB]<;>first|assumption|omega)|decide) only[t6,t7,bs,ixs,gz,lf,p1,p2,Zx,Z2,Wn,Ue,c70,Z4,Yr,Zy,Zz,Zk,Zm,Zl,Nat.reduceEqDiff,reduceCtorEq,Yu,VW,SF]
       refine⟨_,rfl,?_⟩
       exact ZE.new _ _ _
      ·have p2:decide (1114111<x)=false:=Zd q2
       by_cases q3:55296<=x
       ·have p3:decide (55296<=x)=true:=Zg q3
        by_cases q4:x<=57343
        ·have p4:decide (x<=57343)=true:=Zg q4
         rw[if_pos (.inr (.inr ⟨q3,q4⟩))]
         simp(maxSteps:=4000000) (disch:=first|assumption|omega|(simp -implicitDefEqProofs only[ZA,ZB]<;>first|assumption|omega)|decide) only[t6,t7,bs,ixs,gz,lf,p1,p2,p3,p4,Zx,Z2,Wn,Ue,c70,Z4,Yr,Zy,Zz,Zk,Zm,Zl,Nat.reduceEqDiff,reduceCtorEq,Yu,VW,SF]
         refine⟨_,rfl,?_⟩
         exact ZE.new _ _ _
        ·have p4:decide (x<=57343)=false:=Zd q4
         rw[if_neg (by omega)]
         simp(maxSteps:=4000000) (disch:=first|assumption|omega|(simp -implicitDefEqProofs only[ZA,ZB]<;>first|assumption|omega)|decide) only[t6,t7,bs,ixs,gz,lf,p1,p2,p3,p4,Zx,Z2,Wn,Ue,c70,Z4,Yr,Zy,Zz,Zk,Zm,Zl,Nat.reduceEqDiff,reduceCtorEq,Yu,VW,SF]
         refine⟨_,rfl,?_⟩
         exact ZE.new _ _ _
       ·have p3:decide (55296<=x)=false:=Zd q3
        rw[if_neg (by omega)]
        simp(maxSteps:=4000000) (disch:=first|assumption|omega|(simp -implicitDefEqProofs only[ZA,ZB]<;>first|assumption|omega)|decide) only[t6,t7,bs,ixs,gz,lf,p1,p2,p3,Zx,Z2,Wn,Ue,c70,Z4,Yr,Zy,Zz,Zk,Zm,Zl,Nat.reduceEqDiff,reduceCtorEq,Yu,VW,SF]
        refine⟨_,rfl,?_⟩
        exact ZE.new _ _ _
    ·simp only[T7] at t4
     rw[hx]
     simp(maxSteps:=4000000) (disch:=first|assumption|omega|(simp -implicitDefEqProofs only[ZA,ZB]<;>first|assumption|omega)|decide) only[t4,c70,Z4,Yr,Zy,Zz,Zk,Zm,Zl,Nat.reduceEqDiff,reduceCtorEq,Yu,VW,SF]
     refine⟨_,rfl,?_⟩
     exact ZE.refl _ _
  have hL:Sj b=4:=by unfold Sj;rw[if_neg (by omega),if_neg (by omega),if_neg (by omega),if_pos (by omega)]
  have hF:MM b=b - 240:=by unfold MM;rw[if_neg (by omega),if_neg (by omega),if_neg (by omega),if_pos (by omega)]
  rw[hL,hF]
  have c1:decide (192<=b)=true:=Zg (by omega)
  have c2:decide (224<=b)=true:=Zg (by omega)
  have c3:decide (240<=b)=true:=Zg (by omega)
  have f1:decide (b<224)=false:=Zd (by omega)
  have f2:decide (b<240)=false:=Zd (by omega)
  have f3:decide (b<248)=true:=Zg (by omega)
  have e0:decide (4=0)=false:=rfl
  have sb:=λ(G:Heap)=>Ot (a:=b) (b:=240) (by omega) (by omega) G
  have a1:=λ(G:Heap)=>WM (a:=i) (b:=4) (by omega) G
  by_cases hg:s.length<i+4
  ·have g1:decide (s.length<i+4)=true:=Zg hg
   rw[if_pos (.inr hg)]
   simp(maxSteps:=4000000) (disch:=first|assumption|omega|(simp -implicitDefEqProofs only[ZA,ZB]<;>first|assumption|omega)|decide) only[ix,iw,d1,c1,c2,c3,f1,f2,f3,e0,sb,a1,g1,Zx,Wn,Z2,YK,c70,Z4,Yr,Zy,Zz,Zk,Zm,Zl,Nat.reduceEqDiff,reduceCtorEq,Yu,VW,SF]
   refine⟨_,rfl,?_⟩
   exact ZE.refl _ _
  ·have g1:decide (s.length<i+4)=false:=Zd hg
   rw[if_neg (by omega)]
   simp(maxSteps:=4000000) (disch:=first|assumption|omega|(simp -implicitDefEqProofs only[ZA,ZB]<;>first|assumption|omega)|decide) only[ix,iw,d1,c1,c2,c3,f1,f2,f3,e0,sb,a1,g1,Zx,Wn,Z2,YK,c70,Z4,Yr,Zy,Zz,Zk,Zm,Zl,Nat.reduceEqDiff,reduceCtorEq,Yu,VW,SF]
   generalize hLp:Wu (Ka _) fuel _ _ _=Lp
   obtain⟨o,Pi,H1,rfl,_,rfl,hq⟩:=X9 (P:=λtm=>dD H s i 4 (z5 s i (4 - 1) 1 (b - 240)) (4 - 1) tm H) (Q:=λo tm' H'=>H'=H∧((o=.exit 0∧W2 tm'=nI .i64 4∧ ∃x,z5 s i (4 - 1) 1 (b - 240)=some x∧Wp tm'=nI .i64 x∧x<9000000)∨(o=.ret∧z5 s i (4 - 1) 1 (b - 240)=none∧YT tm'=nI .i64 0)))
    (λtm hi'=>Wv (dD H s i 4 (z5 s i (4 - 1) 1 (b - 240))) _ (λm tm H' h'=>xM (by decide) (by omega) hl _ _ _ _ _ m tm H' h') fuel (4 - 1) tm H (by have:=E.big;omega) hi') hLp
    ⟨⟨1,b - 240,(by simp only[Yu,Yr]),(by simp only[Yu,Yr]),Zq _,by decide,rfl,by show b - 240+1<=33;omega,rfl⟩,(by simp only[Yu,Yr]),(by simp only[Yu,Yr]),(by simp only[Yu,Yr]),rfl⟩
   rcases hq with⟨rfl,t6,x,hx,t7,hx9⟩|⟨rfl,hx,t4⟩
   ·simp only[Nd] at t6
    simp only[N2] at t7
    rw[hx]
    simp only
    have lf:=lft 4 (by decide)
    have ixs:=λ(G:Heap)=>Td (n:=5) (i:=4) (by decide) H1.nx 0 none .i64 G
    rw[Zn] at ixs
    have gz:(H1.new (rG 3 1 [nI .i64 0,nI .i64 0,nI .i64 128,nI .i64 2048,nI .i64 65536] 0 false true true)).t.get H1.nx=some (rG 3 1 [nI .i64 0,nI .i64 0,nI .i64 128,nI .i64 2048,nI .i64 65536] 0 false true true):=Z3 rfl _
    generalize PD.getD 4 0=le at*
    by_cases q1:x<le
    ·have p1:decide (x<le)=true:=Zg q1
     rw[if_pos (.inl q1)]
     simp(maxSteps:=4000000) (disch:=first|assumption|omega|(simp -implicitDefEqProofs only[ZA,ZB]<;>first|assumption|omega)|decide) only[t6,t7,bs,ixs,gz,lf,p1,Zx,Z2,Wn,Ue,c70,Z4,Yr,Zy,Zz,Zk,Zm,Zl,Nat.reduceEqDiff,reduceCtorEq,Yu,VW,SF]
     refine⟨_,rfl,?_⟩
     exact ZE.new _ _ _
    ·have p1:decide (x<le)=false:=Zd q1
     by_cases q2:1114111<x
     ·have p2:decide (1114111<x)=true:=Zg q2
      rw[if_pos (.inr (.inl q2))]
      simp(maxSteps:=4000000) (disch:=first|assumption|omega|(simp -implicitDefEqProofs only[ZA,ZB]<;>first|assumption|omega)|decide) only[t6,t7,bs,ixs,gz,lf,p1,p2,Zx,Z2,Wn,Ue,c70,Z4,Yr,Zy,Zz,Zk,Zm,Zl,Nat.reduceEqDiff,reduceCtorEq,Yu,VW,SF]
      refine⟨_,rfl,?_⟩
      exact ZE.new _ _ _
     ·have p2:decide (1114111<x)=false:=Zd q2
      by_cases q3:55296<=x
      ·have p3:decide (55296<=x)=true:=Zg q3
       by_cases q4:x<=57343
       ·have p4:decide (x<=57343)=true:=Zg q4
        rw[if_pos (.inr (.inr ⟨q3,q4⟩))]
        simp(maxSteps:=4000000) (disch:=first|assumption|omega|(simp -implicitDefEqProofs only[ZA,ZB]<;>first|assumption|omega)|decide) only[t6,t7,bs,ixs,gz,lf,p1,p2,p3,p4,Zx,Z2,Wn,Ue,c70,Z4,Yr,Zy,Zz,Zk,Zm,Zl,Nat.reduceEqDiff,reduceCtorEq,Yu,VW,SF]
        refine⟨_,rfl,?_⟩
        exact ZE.new _ _ _
       ·have p4:decide (x<=57343)=false:=Zd q4
        rw[if_neg (by omega)]
        simp(maxSteps:=4000000) (disch:=first|assumption|omega|(simp -implicitDefEqProofs only[ZA,ZB]<;>first|assumption|omega)|decide) only[t6,t7,bs,ixs,gz,lf,p1,p2,p3,p4,Zx,Z2,Wn,Ue,c70,Z4,Yr,Zy,Zz,Zk,Zm,Zl,Nat.reduceEqDiff,reduceCtorEq,Yu,VW,SF]
        refine⟨_,rfl,?_⟩
        exact ZE.new _ _ _
      ·have p3:decide (55296<=x)=false:=Zd q3
       rw[if_neg (by omega)]
       simp(maxSteps:=4000000) (disch:=first|assumption|omega|(simp -implicitDefEqProofs only[ZA,ZB]<;>first|assumption|omega)|decide) only[t6,t7,bs,ixs,gz,lf,p1,p2,p3,Zx,Z2,Wn,Ue,c70,Z4,Yr,Zy,Zz,Zk,Zm,Zl,Nat.reduceEqDiff,reduceCtorEq,Yu,VW,SF]
       refine⟨_,rfl,?_⟩
       exact ZE.new _ _ _
   ·simp only[T7] at t4
    rw[hx]
    simp(maxSteps:=4000000) (disch:=first|assumption|omega|(simp -implicitDefEqProofs only[ZA,ZB]<;>first|assumption|omega)|decide) only[t4,c70,Z4,Yr,Zy,Zz,Zk,Zm,Zl,Nat.reduceEqDiff,reduceCtorEq,Yu,VW,SF]
    refine⟨_,rfl,?_⟩
    exact ZE.refl _ _
structure VLI(H0:Heap)(s:List UInt8)(m:Nat)(tm:TM)(H:Heap):Prop where
 i: ∃i,Xa tm=nI .i64 i∧i<=s.length∧m=s.length - i∧vu s=vu (s.drop i)
 t0:ZO tm=.str s
 k:ZE H0 H []
theorem dv{ZM:Lib}{fs:T CF}{fuel:Nat}(E:Env ZM fs fuel){k n:Nat}{H0:Heap}{s:List UInt8}(hl:s.length<1000000000)(y f d r)(x:X)(m:Nat)(tm:TM)(H:Heap)(hI:VLI H0 s m tm H):
  ∃o tm' H',FF ⟨Yo (LK ZM fs fuel k) fs fuel (n+1),y,f,d,r⟩ tm H x=.ok o tm' H' x∧((o=.normal∧ ∃q,q<m∧VLI H0 s q tm' H')∨(o≠.normal∧ZE H0 H' []∧((o=.exit 0∧vu s=true)∨(o=.ret∧vu s=false∧Xw tm'=.bool false)))):=by
 obtain⟨⟨i,t3,hi,rfl,hv⟩,t0,k0⟩:=hI
 have t0':=t0
 simp only[Ud] at t0
 simp only[TB] at t3
 by_cases hlt:i<s.length
 ·have d1:decide (i<s.length)=true:=Zg hlt
  obtain⟨H1,er,k1⟩:=sT E (k:=k) (n:=n) (H:=H) hlt hl
  rw[eR hlt] at er
  have hpos:0<(s.drop i).length:=by rw[ZV];omega
  have hle:=jH hpos
  rw[ZV] at hle
  generalize hr:SC (s.drop i)=q at*
  by_cases h0:q=0
  ·have d2:decide (q=0)=true:=Zg h0
   rw[AB hpos (by rw[hr];exact h0)] at hv
   simp(maxSteps:=4000000) (disch:=first|assumption|omega|(simp -implicitDefEqProofs only[ZA,ZB]<;>first|assumption|omega)|decide) only[t0,t3,d1,er,d2,Z9,Zx,YK,FF,Z4,Yr,Zy,Zz,Zk,Zm,Zl,Nat.reduceEqDiff,reduceCtorEq,Yu]
   refine⟨_,_,_,rfl,?_⟩
   exact .inr ⟨by simp,k0.trans k1 (by simp),.inr ⟨rfl,hv,(by simp only[Yu,Yr])⟩⟩
  ·have d2:decide (q=0)=false:=Zd h0
   rw[Dq hpos hr h0,SW] at hv
   have a1:=λ(G:Heap)=>WM (a:=i) (b:=q) (by omega) G
   simp(maxSteps:=4000000) (disch:=first|assumption|omega|(simp -implicitDefEqProofs only[ZA,ZB]<;>first|assumption|omega)|decide) only[t0,t3,d1,er,d2,a1,Z9,Zx,YK,FF,Z4,Yr,Zy,Zz,Zk,Zm,Zl,Nat.reduceEqDiff,reduceCtorEq,Yu]
   refine⟨_,_,_,rfl,?_⟩
   exact .inl ⟨rfl,s.length - (i+q),by omega,⟨⟨i+q,(by simp only[Yu,Yr]),by omega,rfl,hv⟩,(by simp only[Yu,Yr];exact t0'),k0.trans k1 (by simp)⟩⟩
 ·have d1:decide (i<s.length)=false:=Zd hlt
  rw[Us (by omega),rz] at hv
  simp(maxSteps:=4000000) (disch:=first|assumption|omega|(simp -implicitDefEqProofs only[ZA,ZB]<;>first|assumption|omega)|decide) only[t0,t3,d1,Z9,Zx,FF,Z4,Yr,Zy,Zz,Zk,Zm,Zl,Nat.reduceEqDiff,reduceCtorEq,Yu]
  refine⟨_,_,_,rfl,?_⟩
  exact .inr ⟨by simp,k0,.inl ⟨rfl,hv⟩⟩
theorem EX{ZM:Lib}{fs:T CF}{fuel:Nat}(E:Env ZM fs fuel){k n:Nat}{s:List UInt8}{H:Heap}(hl:s.length<999998):
  ∃H',Yo (LK ZM fs fuel k) fs fuel (n+2) 58 [.str s] H=.ret (.bool (vu s)) H'∧ZE H H' []:=by
 rw[YM (YW E.n58 (.inr rfl) _ _) E.f58]
 simp(maxSteps:=4000000) (disch:=first|assumption|omega|(simp -implicitDefEqProofs only[ZA,ZB]<;>first|assumption|omega)|decide) only[c58,Z4,Yr,Zy,Zz,Zk,Zm,Zl,Nat.reduceEqDiff,reduceCtorEq,Yu]
 generalize hL:Wu (FF _) fuel _ _ _=L
 obtain⟨o,Pi,H1,rfl,_,k1,hq⟩:=X9 (P:=λtm=>VLI H s s.length tm H) (Q:=λo tm' H'=>ZE H H' []∧((o=.exit 0∧vu s=true)∨(o=.ret∧vu s=false∧Xw tm'=.bool false)))
  (λtm hi'=>Wv (VLI H s) _ (λm tm H' h'=>dv E (n:=n) (by omega) _ _ _ _ _ m tm H' h') fuel s.length tm H (by have:=E.big;omega) hi') hL
  ⟨⟨0,(by simp only[Yu,Yr]),Yv _,rfl,by rw[Y8]⟩,(by simp only[Yu,Yr]),ZE.refl _ _⟩
 rcases hq with⟨rfl,hv⟩|⟨rfl,hv,t2⟩
 ·rw[hv]
  simp(maxSteps:=4000000) (disch:=first|assumption|omega|(simp -implicitDefEqProofs only[ZA,ZB]<;>first|assumption|omega)|decide) only[c58,Z4,Yr,Zy,Zz,Zk,Zm,Zl,Nat.reduceEqDiff,reduceCtorEq,Yu]
  refine⟨_,rfl,?_⟩
  exact k1
 ·simp only[Ru] at t2
  rw[hv]
  simp(maxSteps:=4000000) (disch:=first|assumption|omega|(simp -implicitDefEqProofs only[ZA,ZB]<;>first|assumption|omega)|decide) only[t2,c58,Z4,Yr,Zy,Zz,Zk,Zm,Zl,Nat.reduceEqDiff,reduceCtorEq,Yu]
  refine⟨_,rfl,?_⟩
  exact k1
def E0(n:Nat):UInt8:=if n<10 then UInt8.ofNat (48+n) else UInt8.ofNat (87+n)
def qB(c:UInt8):List UInt8:=if c.toNat=34∨c.toNat=92 then [92,c] else if c.toNat<32 then [92,117,48,48,E0 (c.toNat/16),E0 (c.toNat % 16)] else [c]
def quo(s:List UInt8):List UInt8:=[34]++s.flatMap qB++[34]
theorem ZbW(c:UInt8):1<=(qB c).length∧(qB c).length<=6:=by
 unfold qB;split
 ·simp
 ·split<;>simp
theorem qU: ∀s:List UInt8,(s.flatMap qB).length<=6*s.length
 |[]=>by simp
 |c::s=>by
  rw[List.flatMap_cons,Zo,Zw]
  have:=qU s;have:=(ZbW c).2;omega
theorem Zb8{s:List UInt8}{i:Nat}(h:i<s.length):(s.take (i+1)).flatMap qB=(s.take i).flatMap qB++qB (s.getD i 0):=by
 rw[List.take_add_one,Zr h,List.flatMap_append,Zh,Zr h]
 simp
theorem ZaX{n:Nat}(h:n<16):Wo [48,49,50,51,52,53,54,55,56,57,97,98,99,100,101,102] n=(E0 n).toNat:=by
 have:n=0∨n=1∨n=2∨n=3∨n=4∨n=5∨n=6∨n=7∨n=8∨n=9∨n=10∨n=11∨n=12∨n=13∨n=14∨n=15:=by omega
 rcases this with rfl|rfl|rfl|rfl|rfl|rfl|rfl|rfl|rfl|rfl|rfl|rfl|rfl|rfl|rfl|rfl<;>rfl
theorem xU(H:Heap)(m:List UInt8):Src H (.str m) (m.map Y6):=by
 intro k
 show UF H 1 (.str m) (YF m) (λnew=>k (YF m) new)=_
 rw[Yt,Zi]
 have e:Gz m=m.map Y6:=by rw[Df];rfl
 unfold UF
 cases m with
 |nil=>rfl
 |cons x m=>
  rw[Zw,Yx,Zd (by omega)]
  show ZR (Nat.beq 1 1) (k (m.length+1) (Gz (KS (m.length+1) (x::m))))=_
  rw[Mk,YH (by simp),e];rfl
theorem ry{c:Nat}(h:c<256):Y6 (UInt8.ofNat c)=nI .u8 c:=by
 unfold Y6 nI
 rw[Rh,ZU h]
theorem iW{H:Heap}{v:AV}{l m:List UInt8}{lo:Nat}(h:Buf H v l lo)(hl:l.length+m.length<=140737488355328)(hro:H.ro<=H.nx)(hlo:lo<=H.nx):
  ∃v' H',V2 5 1 1 v (.str m) H=.val v' H'∧Buf H' v' (l++m) lo∧Below lo H H':=by
 rw[TU (Zq 1) (xU H m),Zi]
 by_cases hm:m=[]
 ·subst hm
  rw[WQ]
  rcases h with⟨rfl,rfl⟩|⟨hne,b,r,rfl,g,hb⟩
  ·exact⟨_,_,rfl,.inl ⟨rfl,rfl⟩,Below.refl _ _⟩
  ·refine⟨.slice b 0 l.length none,H,?_,.inr ⟨hne,b,r,rfl,g,hb⟩,Below.refl _ _⟩
   have hs:r.size=l.length:=by rw[g.cells.size,Zi]
   show X6 H b _=_
   unfold X6
   simp only[g.at_]
   have h1:HC r 1 none=true:=by show Nat.beq r.sz 1=true;rw[g.sz];rfl
   have h2:Ta r 0 none=l.length:=by show cond (Nat.beq r.sz 1) (r.size - 0) _=_;rw[g.sz,hs];rfl
   rw[h1]
   show cond (Nat.ble (l.length+0) (Ta r 0 none)) _ _=_
   rw[h2,Zj (by omega)];rfl
 ·have hm0:0<m.length:=UN.2 hm
  rcases h with⟨rfl,rfl⟩|⟨hne,b,r,rfl,g,hb⟩
  ·have g:=NW (H:=H) (e:=5) (l:=m.map Y6) hro
   have e:=Lj (e:=5) (H:=H) (l:=m.map Y6) (by rw[Zi];exact hm0) (by rw[Zi];simpa using hl)
   rw[Zi] at e
   exact⟨_,_,e,.inr ⟨by simpa using hm,_,_,by rw[WR],by rw[WR];exact g,hlo⟩,Below.new lo H _⟩
  ·obtain⟨H',r',e,g',k',nx'⟩:=JQ (m:=m.map Y6) g (by rw[Zi];exact hm0) (by rw[Zi,Zi];exact hl)
   rw[Zi,Zi] at e
   refine⟨_,H',e,.inr ⟨by simp[hm],H.nx,r',by rw[Zo],by rw[YX];exact g',hlo⟩,⟨by omega,k'.ro,λc h1 h2=>k'.get c h2 (by simp;omega)⟩⟩
theorem Below.keep{H0 H H':Heap}{n:Nat}(k:ZE H0 H [])(b:Below n H H')(h:H0.nx<=n):ZE H0 H' []:=ZE.below k b h
def Fp(H:Heap)(v:AV)(l:List UInt8)(lo:Nat):Prop:=Buf H v l lo∨ ∃b,v=.slice b 0 l.length none∧H.t.get b=some (rG 5 1 (l.map Y6) 0 false true true)∧lo<=b∧b<H.nx∧l≠[]
theorem Fp.below{H H':Heap}{v:AV}{l:List UInt8}{lo:Nat}(h:Fp H v l lo)(w:ZE H H' []):Fp H' v l lo:=by
 rcases h with h|⟨b,h1,h2,h3,h4,h5⟩
 ·exact .inl (h.below (λc h1 h2=>w.get c h2 (by simp)) w.ro w.nx)
 ·exact .inr ⟨b,h1,by rw[w.get b h4 (by simp)];exact h2,h3,ZI h4 w.nx,h5⟩
theorem rP{H:Heap}{v:AV}{m:List UInt8}{tb:Nat}(g:H.t.get tb=some (rG 5 1 (m.map Y6) 0 false true true)):V2 5 1 1 v (.slice tb 0 m.length none) H=V2 5 1 1 v (.str m) H:=by
 have src:Src H (.slice tb 0 m.length none) (m.map Y6):=by
  have:=Src.row (b:=tb) (o:=0) (c:=none) (l:=m.map Y6) g (by show 0+_<=YF (m.map Y6);rw[Yt];omega) (λi hi=>by rw[Zn];exact xJ ..)
  rw[Zi] at this
  exact this
 rw[TU (Zq 1) src,TU (Zq 1) (xU H m)]
theorem wp{H:Heap}{v:AV}{l m:List UInt8}{lo:Nat}(h:Fp H v l lo)(hl:l.length+m.length<=140737488355328)(hm:m≠[])(hro:H.ro<=H.nx)(hlo:lo<=H.nx):
  ∃v' H',V2 5 1 1 v (.str m) H=.val v' H'∧Fp H' v' (l++m) lo∧Below lo H H':=by
 rcases h with h|⟨b,rfl,g,hb,hbn,hne⟩
 ·obtain⟨v',H',e,b',w⟩:=iW h hl hro hlo
  exact⟨v',H',e,.inl b',w⟩
 ·rw[TU (Zq 1) (xU H m),Zi]
  have g':H.t.get b=some (.row ⟨5,1,YF (l.map Y6),T.ofList (l.map Y6),.unk,0,false,true,true⟩):=g
  have cs:=Cells.new 5 1 (l.map Y6) 0 false true true
  have hld:loadN ⟨5,1,YF (l.map Y6),T.ofList (l.map Y6),.unk,0,false,true,true⟩ 0 l.length=l.map Y6:=by
   have:=cs.load (o:=0) (n:=l.length) (by rw[Zi];omega)
   rw[Y8,YH (by rw[Zi];exact Zq _)] at this
   exact this
  have hsz:YF (l.map Y6)=l.length:=by rw[Yt,Zi]
  have gn:=NW (H:=H) (e:=5) (l:=(l++m).map Y6) hro
  have hm0:0<m.length:=UN.2 hm
  refine⟨.slice H.nx 0 (l++m).length none,H.newRow 5 1 ((l++m).map Y6) false,?_,.inl (.inr ⟨by simp[hne],_,_,rfl,gn,hlo⟩),Below.new lo H _⟩
  have hc:Ta ⟨5,1,YF (l.map Y6),T.ofList (l.map Y6),.unk,0,false,true,true⟩ 0 none=l.length:=by
   show YF (l.map Y6) - 0=_
   rw[hsz];rfl
  have hso:HC ⟨5,1,YF (l.map Y6),T.ofList (l.map Y6),.unk,0,false,true,true⟩ 1 none=true:=rfl
  have hx:(⟨5,1,YF (l.map Y6),T.ofList (l.map Y6),.unk,0,false,true,true⟩:Row).exact=true:=rfl
  have hs:(⟨5,1,YF (l.map Y6),T.ofList (l.map Y6),.unk,0,false,true,true⟩:Row).size=l.length:=hsz
  generalize(⟨5,1,YF (l.map Y6),T.ofList (l.map Y6),.unk,0,false,true,true⟩:Row)=r at*
  show X6 H b _=_
  unfold X6
  simp only[g']
  have h2:Nat.ble (Nat.add l.length m.length) (Ta r 0 none)=false:=by
   rw[hc]
   cases h:Nat.ble (Nat.add l.length m.length) l.length with
   |false=>rfl
   |true=>have:=ZQ h;have:l.length+m.length<=l.length:=this;omega
  rw[hso,h2]
  show ZR (Nat.ble ((l.length+m.length)*1) 140737488355328) (ZR (Nat.ble (0+l.length*1) r.size) (cond r.exact (ZR (Nat.beq (Nat.mod 0 1) 0) (.val (.slice H.nx 0 (l.length+m.length) none) (H.newRow 5 1 (loadN r 0 (l.length*1)++m.map Y6) false))) _))=_
  rw[Zj (by omega),hs,Zj (by omega),hx,Y0,hld,Zo,YX]
  rfl
theorem Fp.str{H:Heap}{v:AV}{l:List UInt8}{lo:Nat}(h:Fp H v l lo)(hl:l.length<=140737488355328):ri v H=.val (.str l) H:=by
 rcases h with h|⟨b,rfl,g,_,_,_⟩
 ·rcases h with⟨rfl,rfl⟩|⟨_,b,r,rfl,gr,_⟩
  ·rfl
  ·refine Av gr.at_ rfl (by rw[gr.cells.size,Zi];omega) λi hi=>?_
   rw[Zn,gr.cells.get i (by rw[Zi];exact hi)]
   rw[Zh,Z1,Zh,Zr hi];rfl
 ·refine Av (r:=⟨5,1,YF (l.map Y6),T.ofList (l.map Y6),.unk,0,false,true,true⟩) g rfl (by show 0+l.length<=YF (l.map Y6);rw[Yt,Zi];omega) λi hi=>?_
  rw[Zn,xJ]
  rw[Zh,Z1,Zh,Zr hi];rfl
structure QNI(H0:Heap)(s:List UInt8)(m:Nat)(tm:TM)(H:Heap):Prop where
 i: ∃i v,YT tm=nI .i64 i∧i<=s.length∧m=s.length - i∧Xa tm=v∧Fp H v ([34]++(s.take i).flatMap qB) H0.nx
 t0:ZO tm=.str s
 k:ZE H0 H []
 ro:H.ro<=H.nx
theorem py{c:Nat}(h:c<256):(UInt8.ofNat c).toNat=c:=by rw[Rh,ZU h]
theorem eL{cl:Nat->List AV->Heap->CR}{H0:Heap}{s:List UInt8}(hl:s.length<1000000000)(y f d r)(x:X)(m:Nat)(tm:TM)(H:Heap)(hI:QNI H0 s m tm H):
  ∃o tm' H',K4 ⟨cl,y,f,d,r⟩ tm H x=.ok o tm' H' x∧((o=.normal∧ ∃q,q<m∧QNI H0 s q tm' H')∨(o≠.normal∧o=.exit 0∧ZE H0 H' []∧H'.ro<=H'.nx∧ ∃v,Xa tm'=v∧Fp H' v ([34]++s.flatMap qB) H0.nx)):=by
 obtain⟨⟨i,v,t4,hi,rfl,t3,bf⟩,t0,k0,hro⟩:=hI
 have t0':=t0;have AS:=t3
 simp only[Ud] at t0
 simp only[TB] at t3
 simp only[T7] at t4
 have knx:=k0.nx
 by_cases hlt:i<s.length
 ·have d1:decide (i<s.length)=true:=Zg hlt
  have ix: ∀(k:IntKind) (G:Heap),Ou (.str s) (nI k i) G=.val (nI .u8 (Wo s i)) G:=λk G=>YB hlt k G
  have htk:=Zb8 hlt
  have hce:s.getD i 0=UInt8.ofNat (Wo s i):=(UInt8.ofNat_toNat).symm
  rw[hce] at htk
  have hc:=KJ s i
  generalize Wo s i=c at*
  have hlen:([34]++(s.take i).flatMap qB).length<=6*s.length+1:=by
   have:=qU (s.take i)
   rw[Ys] at this
   simp only[Zo,Zw,ZZ];omega
  have cn:=py hc
  have app: ∀(mm:List UInt8),mm≠[]->mm.length<=6-> ∃v' H1 H',H.new (rG 5 1 (mm.map Y6) 0 false true true)=H1∧V2 5 1 1 v (.slice H.nx 0 mm.length none) H1=.val v' H'∧Fp H' v' ([34]++(s.take i).flatMap qB++mm) H0.nx∧ZE H0 H' []∧H'.ro<=H'.nx:=by
   intro mm hne hml
   obtain⟨H1,hH1⟩: ∃G,H.new (rG 5 1 (mm.map Y6) 0 false true true)=G:=⟨_,rfl⟩
   have J8:H1.nx=H.nx+1:=by rw[<-hH1];rfl
   have qX:H1.ro=H.ro:=by rw[<-hH1];rfl
   have k1:ZE H H1 []:=by rw[<-hH1];exact ZE.new H _ _
   have g1:H1.t.get H.nx=some (rG 5 1 (mm.map Y6) 0 false true true):=by rw[<-hH1,Z3 rfl]
   obtain⟨v',H',e,b',w⟩:=wp (m:=mm) (bf.below k1) (by omega) hne (by omega) (by omega)
   rw[<-rP g1] at e
   have wn:=w.nx
   have wr:=w.ro
   exact⟨v',H1,H',hH1,e,b',Below.keep (k0.trans k1 (by simp)) w (Zq _),by omega⟩
  have fin: ∀(mm:List UInt8) (v':AV) (H':Heap) (tm':TM),qB (UInt8.ofNat c)=mm->Fp H' v' ([34]++(s.take i).flatMap qB++mm) H0.nx->ZE H0 H' []->H'.ro<=H'.nx->YT tm'=nI .i64 (i+1)->Xa tm'=v'->ZO tm'=.str s-> ∃q,q<s.length - i∧QNI H0 s q tm' H':=λmm v' H' tm' hq b' k' r' b4 b3 b0=>
   ⟨s.length - (i+1),by omega,⟨i+1,v',b4,by omega,rfl,b3,by rw[htk,hq,<-Y4];exact b'⟩,b0,k',r'⟩
  have sbv: ∀v',v'=v->True:=λ_ _=>trivial
  by_cases EC:c=34
  ·have p1:decide (c=34)=true:=Zg EC
   have hq:qB (UInt8.ofNat c)=[92,UInt8.ofNat c]:=by unfold qB;rw[cn,if_pos (.inl EC)]
   obtain⟨v',H1,H',e1,e2,b',k',r'⟩:=app [92,UInt8.ofNat c] (by simp) (by simp)
   have e1:H.new (rG 5 1 [nI .u8 92,nI .u8 c] 0 false true true)=H1:=by rw[<-e1];show _=H.new (rG 5 1 [Y6 92,Y6 (UInt8.ofNat c)] 0 false true true);rw[ry hc];rfl
   have bs: ∀G:Heap,Su 5 1 2 (List.replicate 2 [nI .u8 0]).flatten [(0,1,nI .u8 92),(1,1,nI .u8 c)] G=.val (.slice G.nx 0 2 none) (G.new (rG 5 1 [nI .u8 92,nI .u8 c] 0 false true true)):=λG=>rfl
   have e2:V2 5 1 1 v (.slice H.nx 0 2 none) H1=.val v' H':=e2
   simp(maxSteps:=4000000) (disch:=first|assumption|omega|(simp -implicitDefEqProofs only[ZA,ZB]<;>first|assumption|omega)|decide) only[t0,t3,t4,d1,ix,p1,bs,e1,e2,Z9,Zx,YK,WM,K4,Z4,Yr,Zy,Zz,Zk,Zm,Zl,Nat.reducePow,Nat.reduceDiv,Nat.reduceMod,Nat.reduceEqDiff,reduceCtorEq,Yu,VW]
   refine⟨_,_,_,rfl,?_⟩
   exact .inl ⟨rfl,fin _ _ _ _ hq b' k' r' (by simp only[Yu,Yr]) (by simp only[Yu,Yr]) (by simp only[Yu,Yr];exact t0')⟩
  have p1:decide (c=34)=false:=Zd EC
  by_cases h92:c=92
  ·have p2:decide (c=92)=true:=Zg h92
   have hq:qB (UInt8.ofNat c)=[92,UInt8.ofNat c]:=by unfold qB;rw[cn,if_pos (.inr h92)]
   obtain⟨v',H1,H',e1,e2,b',k',r'⟩:=app [92,UInt8.ofNat c] (by simp) (by simp)
   have e1:H.new (rG 5 1 [nI .u8 92,nI .u8 c] 0 false true true)=H1:=by rw[<-e1];show _=H.new (rG 5 1 [Y6 92,Y6 (UInt8.ofNat c)] 0 false true true);rw[ry hc];rfl
   have bs: ∀G:Heap,Su 5 1 2 (List.replicate 2 [nI .u8 0]).flatten [(0,1,nI .u8 92),(1,1,nI .u8 c)] G=.val (.slice G.nx 0 2 none) (G.new (rG 5 1 [nI .u8 92,nI .u8 c] 0 false true true)):=λG=>rfl
   have e2:V2 5 1 1 v (.slice H.nx 0 2 none) H1=.val v' H':=e2
   simp(maxSteps:=4000000) (disch:=first|assumption|omega|(simp -implicitDefEqProofs only[ZA,ZB]<;>first|assumption|omega)|decide) only[t0,t3,t4,d1,ix,p1,p2,bs,e1,e2,Z9,Zx,YK,WM,K4,Z4,Yr,Zy,Zz,Zk,Zm,Zl,Nat.reducePow,Nat.reduceDiv,Nat.reduceMod,Nat.reduceEqDiff,reduceCtorEq,Yu,VW]
   refine⟨_,_,_,rfl,?_⟩
   exact .inl ⟨rfl,fin _ _ _ _ hq b' k' r' (by simp only[Yu,Yr]) (by simp only[Yu,Yr]) (by simp only[Yu,Yr];exact t0')⟩
  have p2:decide (c=92)=false:=Zd h92
  by_cases h32:c<32
  ·have p3:decide (c<32)=true:=Zg h32
   have hq:qB (UInt8.ofNat c)=[92,117,48,48,E0 (c/16),E0 (c % 16)]:=by unfold qB;rw[cn,if_neg (by omega),if_pos h32]
   obtain⟨v',H1,H',e1,e2,b',k',r'⟩:=app [92,117,48,48,E0 (c/16),E0 (c % 16)] (by simp) (by simp)
   have q1:=λ(G:Heap)=>qV (a:=c) (b:=16) (by omega) hc G
   have q2:=λ(G:Heap)=>qW (a:=c) (b:=16) (by omega) G
   have q3:=λ(G:Heap)=>yE (a:=48) (b:=c/16) (by omega) G
   have q4: ∀(G:Heap),Ou (.str C2) (nI .u8 (c % 16)) G=.val (nI .u8 (E0 (c % 16)).toNat) G:=λG=>by show Ou (.str [48,49,50,51,52,53,54,55,56,57,97,98,99,100,101,102]) _ G=_;rw[YB (by show c % 16<16;omega),ZaX (by omega)]
   have hx:(E0 (c/16)).toNat=48+c/16:=by unfold E0;rw[if_pos (by omega)];exact py (by omega)
   have e1:H.new (rG 5 1 [nI .u8 92,nI .u8 117,nI .u8 48,nI .u8 48,nI .u8 (48+c/16),nI .u8 (E0 (c % 16)).toNat] 0 false true true)=H1:=by rw[<-e1,<-hx];rfl
   generalize(E0 (c % 16)).toNat=hd at*
   have bs: ∀G:Heap,Su 5 1 6 (List.replicate 6 [nI .u8 0]).flatten [(0,1,nI .u8 92),(1,1,nI .u8 117),(2,1,nI .u8 48),(3,1,nI .u8 48),(4,1,nI .u8 (48+c/16)),(5,1,nI .u8 hd)] G=.val (.slice G.nx 0 6 none) (G.new (rG 5 1 [nI .u8 92,nI .u8 117,nI .u8 48,nI .u8 48,nI .u8 (48+c/16),nI .u8 hd] 0 false true true)):=λG=>rfl
   have e2:V2 5 1 1 v (.slice H.nx 0 6 none) H1=.val v' H':=e2
   simp(maxSteps:=4000000) (disch:=first|assumption|omega|(simp -implicitDefEqProofs only[ZA,ZB]<;>first|assumption|omega)|decide) only[t0,t3,t4,d1,ix,p1,p2,p3,q1,q2,q3,q4,bs,e1,e2,Z9,Zx,YK,WM,K4,Z4,Yr,Zy,Zz,Zk,Zm,Zl,Nat.reducePow,Nat.reduceDiv,Nat.reduceMod,Nat.reduceEqDiff,reduceCtorEq,Yu,VW]
   refine⟨_,_,_,rfl,?_⟩
   exact .inl ⟨rfl,fin _ _ _ _ hq b' k' r' (by simp only[Yu,Yr]) (by simp only[Yu,Yr]) (by simp only[Yu,Yr];exact t0')⟩
  ·have p3:decide (c<32)=false:=Zd h32
   have hq:qB (UInt8.ofNat c)=[UInt8.ofNat c]:=by unfold qB;rw[cn,if_neg (by omega),if_neg (by omega)]
   obtain⟨v',H1,H',e1,e2,b',k',r'⟩:=app [UInt8.ofNat c] (by simp) (by simp)
   have e1:H.new (rG 5 1 [nI .u8 c] 0 false true true)=H1:=by rw[<-e1];show _=H.new (rG 5 1 [Y6 (UInt8.ofNat c)] 0 false true true);rw[ry hc]
   have bs: ∀G:Heap,Su 5 1 1 [nI .u8 0] [(0,1,nI .u8 c)] G=.val (.slice G.nx 0 1 none) (G.new (rG 5 1 [nI .u8 c] 0 false true true)):=λG=>rfl
   have e2:V2 5 1 1 v (.slice H.nx 0 1 none) H1=.val v' H':=e2
   simp(maxSteps:=4000000) (disch:=first|assumption|omega|(simp -implicitDefEqProofs only[ZA,ZB]<;>first|assumption|omega)|decide) only[t0,t3,t4,d1,ix,p1,p2,p3,bs,e1,e2,Z9,Zx,YK,WM,K4,Z4,Yr,Zy,Zz,Zk,Zm,Zl,Nat.reducePow,Nat.reduceDiv,Nat.reduceMod,Nat.reduceEqDiff,reduceCtorEq,Yu,VW]
   refine⟨_,_,_,rfl,?_⟩
   exact .inl ⟨rfl,fin _ _ _ _ hq b' k' r' (by simp only[Yu,Yr]) (by simp only[Yu,Yr]) (by simp only[Yu,Yr];exact t0')⟩
 ·have d1:decide (i<s.length)=false:=Zd hlt
  rw[YH (by omega)] at bf
  simp(maxSteps:=4000000) (disch:=first|assumption|omega|(simp -implicitDefEqProofs only[ZA,ZB]<;>first|assumption|omega)|decide) only[t0,t4,d1,Z9,Zx,K4,Z4,Yr,Zy,Zz,Zk,Zm,Zl,Nat.reducePow,Nat.reduceDiv,Nat.reduceMod,Nat.reduceEqDiff,reduceCtorEq,Yu,VW]
  refine⟨_,_,_,rfl,?_⟩
  exact .inr ⟨by simp,rfl,k0,hro,v,(by simp only[Yu,Yr];exact AS),bf⟩
theorem xI{ZM:Lib}{fs:T CF}{fuel:Nat}(E:Env ZM fs fuel){k n:Nat}{s:List UInt8}{H:Heap}(hl:s.length<999998)(hro:H.ro<=H.nx):
  ∃H',Yo (LK ZM fs fuel k) fs fuel (n+1) 67 [.str s] H=.ret (.str (quo s)) H'∧ZE H H' []:=by
 rw[YM (YW E.n67 (.inr rfl) _ _) E.f67]
 have bs: ∀G:Heap,Su 5 1 1 [nI .u8 0] [(0,1,nI .u8 34)] G=.val (.slice G.nx 0 1 none) (G.new (rG 5 1 [nI .u8 34] 0 false true true)):=λG=>rfl
 obtain⟨H1,hH1⟩: ∃G,H.new (rG 5 1 [nI .u8 34] 0 false true true)=G:=⟨_,rfl⟩
 have J8:H1.nx=H.nx+1:=by rw[<-hH1];rfl
 have qX:H1.ro=H.ro:=by rw[<-hH1];rfl
 have k1:ZE H H1 []:=by rw[<-hH1];exact ZE.new H _ _
 have b1:Fp H1 (.slice H.nx 0 1 none) [34] H.nx:=.inr ⟨H.nx,rfl,by rw[<-hH1,Z3 rfl];rfl,Zq _,by omega,by simp⟩
 simp(maxSteps:=4000000) (disch:=first|assumption|omega|(simp -implicitDefEqProofs only[ZA,ZB]<;>first|assumption|omega)|decide) only[bs,hH1,c67,Z4,Yr,Zy,Zz,Zk,Zm,Zl,Nat.reduceEqDiff,reduceCtorEq,Yu,VW]
 generalize hL:Wu (K4 _) fuel _ _ _=L
 obtain⟨o,Pi,H2,rfl,_,rfl,k2,ro2,v,t3,b2⟩:=X9 (P:=λtm=>QNI H s s.length tm H1) (Q:=λo tm' H'=>o=.exit 0∧ZE H H' []∧H'.ro<=H'.nx∧ ∃v,Xa tm'=v∧Fp H' v ([34]++s.flatMap qB) H.nx)
  (λtm hi'=>Wv (QNI H s) _ (λm tm H' h'=>eL (by omega) _ _ _ _ _ m tm H' h') fuel s.length tm H1 (by have:=E.big;omega) hi') hL
  ⟨⟨0,_,(by simp only[Yu,Yr]),Yv _,rfl,(by simp only[Yu,Yr]),b1⟩,(by simp only[Yu,Yr]),k1,by omega⟩
 simp only[TB] at t3
 have n2:=k2.nx
 obtain⟨H3,hH3⟩: ∃G,H2.new (rG 5 1 [nI .u8 34] 0 false true true)=G:=⟨_,rfl⟩
 have bJ:H3.nx=H2.nx+1:=by rw[<-hH3];rfl
 have ro3:H3.ro=H2.ro:=by rw[<-hH3];rfl
 have k3:ZE H2 H3 []:=by rw[<-hH3];exact ZE.new _ _ _
 have hq:=qU s
 have hlen:([34]++s.flatMap qB).length<=6*s.length+1:=by simp only[Zo,Zw,ZZ];omega
 obtain⟨v',H4,e4,b4,w4⟩:=wp (m:=[34]) (b2.below k3) (by simp only[Zw,ZZ];omega) (by simp) (by omega) (by omega)
 rw[<-rP (tb:=H2.nx) (by rw[<-hH3,Z3 rfl];rfl)] at e4
 have e4:V2 5 1 1 v (.slice H2.nx 0 1 none) H3=.val v' H4:=e4
 have es:=b4.str (by simp only[Zo,Zw,ZZ];omega)
 have hqq:[34]++s.flatMap qB++[34]=quo s:=rfl
 rw[hqq] at es
 simp(maxSteps:=4000000) (disch:=first|assumption|omega|(simp -implicitDefEqProofs only[ZA,ZB]<;>first|assumption|omega)|decide) only[t3,bs,hH3,e4,es,c67,Z4,Yr,Zy,Zz,Zk,Zm,Zl,Nat.reduceEqDiff,reduceCtorEq,Yu,VW]
 refine⟨_,rfl,?_⟩
 exact Below.keep (k2.trans k3 (by simp)) w4 (Zq _)
theorem mY(n:Nat)(h:n<18446744073709551616):(dec n).length<=20:=by rw[qa];exact fI (by omega) (by omega)
theorem qA{n:Nat}(h:n<9223372036854775808)(H:Heap):LB .u64 (nI .i64 n) H=.val (nI .u64 n) H:=by
 unfold nI;rw[CS,Xz]
 show OR.val (.int .u64 (IntKind.u64.wrap (.ofNat n))) H=_
 rw[SE,ZU (by omega)]
theorem Zb1{G:Heap}{b:Nat}{s:List UInt8}{c:Option Nat}{sm ex:Bool}(h:G.t.get b=some (rG 5 1 (s.map Y6) 0 sm true ex)):ri (.slice b 0 s.length c) G=.val (.str s) G:=by
 have h':G.t.get b=some (.row ⟨5,1,YF (s.map Y6),T.ofList (s.map Y6),.unk,0,sm,true,ex⟩):=h
 refine Av h' rfl (by show 0+s.length<=YF (s.map Y6);rw[Yt,Zi];omega) λi hi=>?_
 rw[Zn,xJ,Zh,Z1,Zh,Zr hi];rfl
structure UI(H0:Heap)(T:List UInt8)(m:Nat)(tm:TM)(H:Heap):Prop where
 i: ∃u s,ZO tm=nI .u64 u∧u<18446744073709551616∧m=Ju u∧Xa tm=.str s∧T=dec u++s
 k:ZE H0 H []
 ro:H.ro<=H.nx
theorem Zcd{cl:Nat->List AV->Heap->CR}{H0:Heap}{T:List UInt8}(hT:T.length<=20)(y f d r)(x:X)(m':Nat)(tm:TM)(H:Heap)(hI:UI H0 T m' tm H):
  ∃o tm' H',DD ⟨cl,y,f,d,r⟩ tm H x=.ok o tm' H' x∧((o=.normal∧ ∃q,q<m'∧UI H0 T q tm' H')∨(o≠.normal∧(o=.ret∧Xw tm'=.str T∧ZE H0 H' []))):=by
 obtain⟨⟨m,s,t0,hu,rfl,t3,rfl⟩,k0,hro⟩:=hI
 simp only[Ud] at t0
 simp only[TB] at t3
 have hd:m % 10<10:=T5 _ (by decide)
 have hdg:nI .u8 (48+m % 10)=Y6 (tG (m % 10)):=by rw[Zca,hC hd]
 obtain⟨HA,hA⟩: ∃G,H.new (rG 5 1 ([tG (m % 10)].map Y6) 0 false true true)=G:=⟨_,rfl⟩
 have bs:=RV 5 (nI .u8 0) (nI .u8 (48+m % 10)) rfl H
 rw[J6,hdg,show([Y6 (tG (m % 10))]:List AV)=[tG (m % 10)].map Y6 from rfl,hA] at bs
 have gA:HA.t.get H.nx=some (rG 5 1 ([tG (m % 10)].map Y6) 0 false true true):=by rw[<-hA,Z3 rfl]
 have es:=Zb1 (c:=none) gA
 have es:ri (.slice H.nx 0 1 none) HA=.val (.str [tG (m % 10)]) HA:=es
 have kA:ZE H0 HA []:=by rw[<-hA];exact k0.then_new _
 have roA:HA.ro<=HA.nx:=by rw[<-hA];show H.ro<=H.nx+1;omega
 rw[Zo] at hT
 have ads:=λG=>Vi (a:=[tG (m % 10)]) (b:=s) (by rw[Zw,ZZ];omega) G
 have rm:=λG=>vW (a:=m) (b:=10) (by decide) G
 have ad:=λG=>wg (a:=48) (b:=m % 10) (by omega) G
 have i8:=λG=>qC (j:=.u64) (a:=48+m % 10) (by omega) G
 rw[hdg] at i8
 have qo:=λG=>vR (a:=m) (b:=10) (by decide) (by omega) G
 have eq:=λG=>YK .u64 (m/10) 0 G
 by_cases h0:m/10=0
 ·have d1:decide (m/10=0)=true:=Zg h0
  simp(maxSteps:=4000000) (disch:=first|assumption|omega|(simp -implicitDefEqProofs only[ZA,ZB]<;>first|assumption|omega)|decide) only[t0,t3,rm,ad,i8,bs,es,ads,qo,eq,d1,DD,Z4,Yr,Zy,Zz,Zk,Zm,Zl,Nat.reducePow,Nat.reduceDiv,Nat.reduceMod,Nat.reduceEqDiff,reduceCtorEq,Yu]
  refine⟨_,_,_,rfl,.inr ⟨by simp,rfl,?_,kA⟩⟩
  simp only[Yu,Yr]
  rw[Zaz (by omega),ZU (by omega)]
 ·have d1:decide (m/10=0)=false:=Zd h0
  simp(maxSteps:=4000000) (disch:=first|assumption|omega|(simp -implicitDefEqProofs only[ZA,ZB]<;>first|assumption|omega)|decide) only[t0,t3,rm,ad,i8,bs,es,ads,qo,eq,d1,DD,Z4,Yr,Zy,Zz,Zk,Zm,Zl,Nat.reducePow,Nat.reduceDiv,Nat.reduceMod,Nat.reduceEqDiff,reduceCtorEq,Yu]
  refine⟨_,_,_,rfl,?_⟩
  exact .inl ⟨rfl,Ju (m/10),by rw[Dh (show 10<=m by omega)];exact Yq _,⟨⟨m/10,[tG (m % 10)]++s,(by simp only[Yu,Yr]),by omega,rfl,(by simp only[Yu,Yr]),by rw[Zay (by omega),Y4]⟩,kA,roA⟩⟩
theorem ZeS{ZM:Lib}{fs:T CF}{fuel:Nat}(E:Env ZM fs fuel){k n u:Nat}{H:Heap}(hu:u<18446744073709551616)(hro:H.ro<=H.nx): ∃H',Yo (LK ZM fs fuel k) fs fuel (n+1) 83 [nI .u64 u] H=.ret (.str (dec u)) H'∧ZE H H' []:=by
 rw[YM (YW E.n83 (.inr rfl) _ _) E.f83]
 have hT:(dec u).length<=20:=mY u hu
 simp(maxSteps:=4000000) (disch:=first|assumption|omega|(simp -implicitDefEqProofs only[ZA,ZB]<;>first|assumption|omega)|decide) only[c83,Z4,Yr,Zy,Zz,Zk,Zm,Zl,Nat.reduceEqDiff,reduceCtorEq,Yu]
 generalize hL:Wu (DD _) fuel _ _ _=L
 obtain⟨o,Pi,H1,rfl,_,rfl,t2,k1⟩:=X9 (P:=λT'=>UI H (dec u) (Ju u) T' H) (Q:=λo tm' H'=>o=.ret∧Xw tm'=.str (dec u)∧ZE H H' [])
  (λT' hi'=>Wv (UI H (dec u)) _ (λm tm H' h'=>Zcd hT _ _ _ _ _ m tm H' h') fuel (Ju u) T' H (by have:=E.big;rw[qa] at hT;omega) hi') hL
  ⟨⟨u,[],rfl,hu,rfl,rfl,(WQ _).symm⟩,ZE.refl _ _,hro⟩
 simp only[Ru] at t2
 simp(maxSteps:=4000000) (disch:=first|assumption|omega|(simp -implicitDefEqProofs only[ZA,ZB]<;>first|assumption|omega)|decide) only[t2,c83,Z4,Yr,Zy,Zz,Zk,Zm,Zl,Nat.reduceEqDiff,reduceCtorEq,Yu]
 refine⟨_,rfl,?_⟩
 exact k1
theorem ZfF{ZM:Lib}{fs:T CF}{fuel:Nat}(E:Env ZM fs fuel){k n:Nat}{z:Int}{H:Heap}(h1: -9223372036854775808<=z)(h2:z<9223372036854775808)(hro:H.ro<=H.nx): ∃H',Yo (LK ZM fs fuel k) fs fuel (n+2) 66 [.int .i64 z] H=.ret (.str (Ii z)) H'∧ZE H H' []:=by
 rw[YM (YW E.n66 (.inr rfl) _ _) E.f66]
 unfold Ii
 cases z with
 |ofNat u=>
  obtain⟨H1,e1,k1⟩:=ZeS E (k:=k) (n:=n) (u:=u) (H:=H) (by have:(Int.ofNat u:Int)=(u:Int):=rfl;omega) hro
  have c1: ∀G:Heap,K7 Xx Yj (.int .i64 (.ofNat u)) (nI .i64 0) G=.val (.bool false) G:=λG=>by
   have:=Zx .i64 u 0 G
   rw[Zd (by omega)] at this;exact this
  have i1: ∀G:Heap,LB .u64 (.int .i64 (.ofNat u)) G=.val (nI .u64 u) G:=λG=>qA (by have:(Int.ofNat u:Int)=(u:Int):=rfl;omega) G
  rw[if_neg (by have:(0:Int)<=.ofNat u:=Int.natCast_nonneg u;omega),show(Int.ofNat u).natAbs=u from rfl]
  simp(maxSteps:=4000000) (disch:=first|assumption|omega|(simp -implicitDefEqProofs only[ZA,ZB]<;>first|assumption|omega)|decide) only[c1,i1,e1,c66,Z4,Yr,Zy,Zz,Zk,Zm,Zl,Nat.reduceEqDiff,reduceCtorEq,Yu]
  refine⟨_,rfl,?_⟩
  exact k1
 |negSucc m=>
  have hm:m<9223372036854775808:=by have:Int.negSucc m= -((m:Int)+1):=rfl;omega
  obtain⟨H1,e1,k1⟩:=ZeS E (k:=k) (n:=n) (u:=m+1) (H:=H) (by omega) hro
  have c1:=λG=>fF .i64 m 0 G
  have a1: ∀G:Heap,EZ (.int .i64 (.negSucc m)) (nI .i64 1) G=.val (.int .i64 (-(m:Int))) G:=λG=>by
   show ZR (Nf .i64 .i64) (UV .i64 (CO (.negSucc m) (.ofNat 1)) G)=_
   have e:CO (.negSucc m) (.ofNat 1)= -(m:Int):=by rw[qx];have:Int.negSucc m= -((m:Int)+1):=rfl;have:(Int.ofNat 1:Int)=1:=rfl;omega
   rw[Wd,Xz,e,yx (by omega) (by omega)];rfl
  have n1: ∀G:Heap,fJ (.int .i64 (-(m:Int))) G=.val (nI .i64 m) G:=λG=>by
   show UV .i64 (I7 0 (-(m:Int))) G=_
   have e:I7 0 (-(m:Int))=(m:Int):=by rw[xc];omega
   rw[Xz,e,yx (by omega) (by omega)];rfl
  have i1: ∀G:Heap,LB .u64 (nI .i64 m) G=.val (nI .u64 m) G:=λG=>qA (by omega) G
  have a2:=λG=>wg (a:=m) (b:=1) (by omega) G
  have hl:=mY (m+1) (by omega)
  have ads:=λG=>Vi (a:=[45]) (b:=dec (m+1)) (by rw[Zw,ZZ];omega) G
  rw[if_pos (Int.negSucc_lt_zero m),show(Int.negSucc m).natAbs=m+1 from rfl,show(45::dec (m+1):List UInt8)=[45]++dec (m+1) from rfl]
  simp(maxSteps:=4000000) (disch:=first|assumption|omega|(simp -implicitDefEqProofs only[ZA,ZB]<;>first|assumption|omega)|decide) only[c1,a1,n1,i1,a2,ads,e1,c66,Z4,Yr,Zy,Zz,Zk,Zm,Zl,Nat.reduceEqDiff,reduceCtorEq,Yu]
  refine⟨_,rfl,?_⟩
  exact k1
theorem MH(a:TM->Heap->X->WS)(F:Nat)(tm:TM)(H:Heap)(x:X):Wu a (F+1) tm H x=Qj (a tm H x) (Wu a F):=rfl
theorem Do(i:Nat)(tm:TM)(H:Heap)(x:X)(g:TM->Heap->X->WS):Qj (.ok (.exit i) tm H x) g=.ok (.exit i) tm H x:=rfl
theorem uU{ZM:Lib}{fs:T CF}{fuel:Nat}(E:Env ZM fs fuel){k n:Nat}{s:List UInt8}{H:Heap}(hl:s.length<999998)(hro:H.ro<=H.nx):
  ∃H',Yo (LK ZM fs fuel k) fs fuel (n+3) 40 [.agg [nI .i64 4,.bool false,nI .i64 0,.str s,.nils,.nils],nI .i64 32] H=.ret (.bool (!vu s)) H'∧ZE H H' []:=by
 rw[YM (YW E.n40 (.inr rfl) _ _) E.f40]
 obtain⟨H1,hH1⟩: ∃G,H.new (rG 75 1 [nI .i64 4,.bool false,nI .i64 0,.str s,.nils,.nils] 0 false true true)=G:=⟨_,rfl⟩
 have bx:=Vt (l:=[nI .i64 4,.bool false,nI .i64 0,.str s,.nils,.nils]) (Vs 1 5) 75 H
 rw[hH1] at bx
 have k1:ZE H H1 []:=by rw[<-hH1];exact ZE.new H _ _
 have g1:H1.t.get H.nx=some (rG 75 1 [nI .i64 4,.bool false,nI .i64 0,.str s,.nils,.nils] 0 false true true):=by rw[<-hH1,Z3 rfl]
 have l0: ∀G,ld1 (some (rG 75 1 [nI .i64 4,.bool false,nI .i64 0,.str s,.nils,.nils] 0 false true true)) 0 G=.val (nI .i64 4) G:=λG=>by rw[ZX (by simp)];rfl
 have l1: ∀G,ld1 (some (rG 75 1 [nI .i64 4,.bool false,nI .i64 0,.str s,.nils,.nils] 0 false true true)) 1 G=.val (.bool false) G:=λG=>by rw[ZX (by simp)];rfl
 have l2: ∀G,ld1 (some (rG 75 1 [nI .i64 4,.bool false,nI .i64 0,.str s,.nils,.nils] 0 false true true)) 2 G=.val (nI .i64 0) G:=λG=>by rw[ZX (by simp)];rfl
 have l3: ∀G,ld1 (some (rG 75 1 [nI .i64 4,.bool false,nI .i64 0,.str s,.nils,.nils] 0 false true true)) 3 G=.val (.str s) G:=λG=>by rw[ZX (by simp)];rfl
 have l4: ∀G,ld1 (some (rG 75 1 [nI .i64 4,.bool false,nI .i64 0,.str s,.nils,.nils] 0 false true true)) 4 G=.val .nils G:=λG=>by rw[ZX (by simp)];rfl
 have l5: ∀G,ld1 (some (rG 75 1 [nI .i64 4,.bool false,nI .i64 0,.str s,.nils,.nils] 0 false true true)) 5 G=.val .nils G:=λG=>by rw[ZX (by simp)];rfl
 have lN: ∀G,Ko .nils G=.val (nI .i64 0) G:=λG=>rfl
 obtain⟨H2,ev,k2⟩:=EX E (k:=k) (n:=n) (s:=s) (H:=H1) hl
 have g2:H2.t.get H.nx=some (rG 75 1 [nI .i64 4,.bool false,nI .i64 0,.str s,.nils,.nils] 0 false true true):=by rw[k2.get _ (by rw[<-hH1];exact Yq _) (by simp)];exact g1
 have z0:decide (32=0)=false:=rfl
 obtain⟨F,rfl⟩: ∃G,fuel=G+1:=⟨fuel - 1,by have:=E.big;omega⟩
 have q1:decide (4<1)=false:=rfl
 have q2:decide (6<4)=false:=rfl
 have q3:decide (0≠0)=false:=rfl
 have q4:decide (4≠4)=false:=rfl
 have q5:decide (0<0)=false:=rfl
 have cf: ∀x y:Bool,cond true x y=x:=λ_ _=>rfl
 have ct: ∀x y:Bool,cond false x y=y:=λ_ _=>rfl
 have ep: ∀G,UQ (.ptr H.nx 0) G=ld1 (G.t.get H.nx) 0 G:=λG=>rfl
 cases hv:vu s<;>rw[hv] at ev
 ·by_cases hs:s=[]
  ·have hs:=Zg hs
   simp(maxSteps:=4000000) (disch:=first|assumption|omega|(simp -implicitDefEqProofs only[ZA,ZB]<;>first|assumption|omega)|decide) only[z0,bx,g1,g2,l0,l1,l2,l3,l4,l5,lN,ev,MH,Do,Zx,Z2,YK,Qy,SY,q1,q2,q3,q4,q5,cf,ct,hs,Wi,Wa,c40,IU,IV,Z4,Yr,Zy,Zz,Zk,Zm,Zl,Nat.reduceEqDiff,reduceCtorEq,Yu,VW,SF,Nq]
   refine⟨_,rfl,?_⟩
   exact k1.trans k2 (by simp)
  ·have hs:=Zd hs
   simp(maxSteps:=4000000) (disch:=first|assumption|omega|(simp -implicitDefEqProofs only[ZA,ZB]<;>first|assumption|omega)|decide) only[z0,bx,g1,g2,l0,l1,l2,l3,l4,l5,lN,ev,MH,Do,Zx,Z2,YK,Qy,SY,q1,q2,q3,q4,q5,cf,ct,hs,Wi,Wa,c40,IU,IV,Z4,Yr,Zy,Zz,Zk,Zm,Zl,Nat.reduceEqDiff,reduceCtorEq,Yu,VW,SF,Nq]
   refine⟨_,rfl,?_⟩
   exact k1.trans k2 (by simp)
 ·by_cases hs:s=[]
  ·have hs:=Zg hs
   simp(maxSteps:=4000000) (disch:=first|assumption|omega|(simp -implicitDefEqProofs only[ZA,ZB]<;>first|assumption|omega)|decide) only[z0,bx,g1,g2,l0,l1,l2,l3,l4,l5,lN,ev,MH,Do,Zx,Z2,YK,Qy,SY,q1,q2,q3,q4,q5,cf,ct,hs,Wi,Wa,c40,IU,IV,Z4,Yr,Zy,Zz,Zk,Zm,Zl,Nat.reduceEqDiff,reduceCtorEq,Yu,VW,SF,Nq]
   refine⟨_,rfl,?_⟩
   exact k1.trans k2 (by simp)
  ·have hs:=Zd hs
   simp(maxSteps:=4000000) (disch:=first|assumption|omega|(simp -implicitDefEqProofs only[ZA,ZB]<;>first|assumption|omega)|decide) only[z0,bx,g1,g2,l0,l1,l2,l3,l4,l5,lN,ev,MH,Do,Zx,Z2,YK,Qy,SY,q1,q2,q3,q4,q5,cf,ct,hs,Wi,Wa,c40,IU,IV,Z4,Yr,Zy,Zz,Zk,Zm,Zl,Nat.reduceEqDiff,reduceCtorEq,Yu,VW,SF,Nq]
   refine⟨_,rfl,?_⟩
   exact k1.trans k2 (by simp)
theorem y6{ZM:Lib}{fs:T CF}{fuel:Nat}(E:Env ZM fs fuel){k n:Nat}{s:List UInt8}{H:Heap}:
  ∃H',Yo (LK ZM fs fuel k) fs fuel (n+1) 41 [.agg [nI .i64 4,.bool false,nI .i64 0,.str s,.nils,.nils],nI .i64 32] H=.ret (nI .i64 1) H'∧ZE H H' []:=by
 rw[YM (YW E.n41 (.inr rfl) _ _) E.f41]
 obtain⟨H1,hH1⟩: ∃G,H.new (rG 75 1 [nI .i64 4,.bool false,nI .i64 0,.str s,.nils,.nils] 0 false true true)=G:=⟨_,rfl⟩
 have bx:=Vt (l:=[nI .i64 4,.bool false,nI .i64 0,.str s,.nils,.nils]) (Vs 1 5) 75 H
 rw[hH1] at bx
 have J8:H1.nx=H.nx+1:=by rw[<-hH1];rfl
 have qX:H1.ro=H.ro:=by rw[<-hH1];rfl
 have k1:ZE H H1 []:=by rw[<-hH1];exact ZE.new H _ _
 have g1:H1.t.get H.nx=some (rG 75 1 [nI .i64 4,.bool false,nI .i64 0,.str s,.nils,.nils] 0 false true true):=by rw[<-hH1,Z3 rfl]
 have l0: ∀G,ld1 (some (rG 75 1 [nI .i64 4,.bool false,nI .i64 0,.str s,.nils,.nils] 0 false true true)) 0 G=.val (nI .i64 4) G:=λG=>by rw[ZX (by simp)];rfl
 have l3: ∀G,ld1 (some (rG 75 1 [nI .i64 4,.bool false,nI .i64 0,.str s,.nils,.nils] 0 false true true)) 3 G=.val (.str s) G:=λG=>by rw[ZX (by simp)];rfl
 have l4: ∀G,ld1 (some (rG 75 1 [nI .i64 4,.bool false,nI .i64 0,.str s,.nils,.nils] 0 false true true)) 4 G=.val .nils G:=λG=>by rw[ZX (by simp)];rfl
 have l5: ∀G,ld1 (some (rG 75 1 [nI .i64 4,.bool false,nI .i64 0,.str s,.nils,.nils] 0 false true true)) 5 G=.val .nils G:=λG=>by rw[ZX (by simp)];rfl
 have l6: ∀G,Gv 6 (some (rG 75 1 [nI .i64 4,.bool false,nI .i64 0,.str s,.nils,.nils] 0 false true true)) 0 G=.val (.agg [nI .i64 4,.bool false,nI .i64 0,.str s,.nils,.nils]) G:=λG=>by rw[N5 (by simp)];rfl
 obtain⟨F,rfl⟩: ∃G,fuel=G+1:=⟨fuel - 1,by have:=E.big;omega⟩
 have z0:decide (32=0)=false:=rfl
 have q5:decide (0<0)=false:=rfl
 have a1: ∀G:Heap,EZ (nI .i64 0) (nI .i64 1) G=.val (nI .i64 1) G:=λG=>WM (a:=0) (b:=1) (by decide) G
 simp(maxSteps:=4000000) (disch:=first|assumption|omega|(simp -implicitDefEqProofs only[ZA,ZB]<;>first|assumption|omega)|decide) only[bx,g1,l0,l3,l4,l5,z0,q5,a1,MH,Zx,YK,c41,tu,tw,Z4,Yr,Zy,Zz,Zk,Zm,Zl,Nat.reduceEqDiff,reduceCtorEq,Yu,VW]
 refine⟨_,rfl,?_⟩
 exact k1
theorem K5{ZM:Lib}{fs:T CF}{fuel:Nat}(E:Env ZM fs fuel){k n:Nat}{s:List UInt8}{H:Heap}(hl:s.length<999998)(hro:H.ro<=H.nx):
  ∃H',Yo (LK ZM fs fuel k) fs fuel (n+4) 28 [.agg [nI .i64 4,.bool false,nI .i64 0,.str s,.nils,.nils]] H=.ret (nI .i64 (cond (vu s) 0 1)) H'∧ZE H H' []:=by
 rw[YM (YW E.n28 (.inr rfl) _ _) E.f28]
 obtain⟨H1,hH1⟩: ∃G,H.new (rG 75 1 [nI .i64 4,.bool false,nI .i64 0,.str s,.nils,.nils] 0 false true true)=G:=⟨_,rfl⟩
 have bx:=Vt (l:=[nI .i64 4,.bool false,nI .i64 0,.str s,.nils,.nils]) (Vs 1 5) 75 H
 rw[hH1] at bx
 have J8:H1.nx=H.nx+1:=by rw[<-hH1];rfl
 have qX:H1.ro=H.ro:=by rw[<-hH1];rfl
 have k1:ZE H H1 []:=by rw[<-hH1];exact ZE.new H _ _
 have g1:H1.t.get H.nx=some (rG 75 1 [nI .i64 4,.bool false,nI .i64 0,.str s,.nils,.nils] 0 false true true):=by rw[<-hH1,Z3 rfl]
 have l0: ∀G,ld1 (some (rG 75 1 [nI .i64 4,.bool false,nI .i64 0,.str s,.nils,.nils] 0 false true true)) 0 G=.val (nI .i64 4) G:=λG=>by rw[ZX (by simp)];rfl
 have l3: ∀G,ld1 (some (rG 75 1 [nI .i64 4,.bool false,nI .i64 0,.str s,.nils,.nils] 0 false true true)) 3 G=.val (.str s) G:=λG=>by rw[ZX (by simp)];rfl
 have l4: ∀G,ld1 (some (rG 75 1 [nI .i64 4,.bool false,nI .i64 0,.str s,.nils,.nils] 0 false true true)) 4 G=.val .nils G:=λG=>by rw[ZX (by simp)];rfl
 have l5: ∀G,ld1 (some (rG 75 1 [nI .i64 4,.bool false,nI .i64 0,.str s,.nils,.nils] 0 false true true)) 5 G=.val .nils G:=λG=>by rw[ZX (by simp)];rfl
 have l6: ∀G,Gv 6 (some (rG 75 1 [nI .i64 4,.bool false,nI .i64 0,.str s,.nils,.nils] 0 false true true)) 0 G=.val (.agg [nI .i64 4,.bool false,nI .i64 0,.str s,.nils,.nils]) G:=λG=>by rw[N5 (by simp)];rfl
 obtain⟨H2,ew,k2⟩:=uU E (k:=k) (n:=n) (s:=s) (H:=H1) hl (by omega)
 have g2:H2.t.get H.nx=some (rG 75 1 [nI .i64 4,.bool false,nI .i64 0,.str s,.nils,.nils] 0 false true true):=by rw[k2.get _ (by omega) (by simp)];exact g1
 have n2:=k2.nx
 obtain⟨H3,eh,k3⟩:=y6 E (k:=k) (n:=n+2) (s:=s) (H:=H2)
 have q5:decide (32<1)=false:=rfl
 cases hv:vu s<;>rw[hv] at ew
 ·have ew':=ew
  simp(maxSteps:=4000000) (disch:=first|assumption|omega|(simp -implicitDefEqProofs only[ZA,ZB]<;>first|assumption|omega)|decide) only[bx,g1,g2,l6,ew,eh,q5,Z2,Wi,Wa,c28,Z4,Yr,Zy,Zz,Zk,Zm,Zl,Nat.reduceEqDiff,reduceCtorEq,Yu]
  refine⟨_,rfl,?_⟩
  exact k1.trans k2 (by simp)
 ·have ew':=ew
  simp(maxSteps:=4000000) (disch:=first|assumption|omega|(simp -implicitDefEqProofs only[ZA,ZB]<;>first|assumption|omega)|decide) only[bx,g1,g2,l6,ew,eh,q5,Z2,Wi,Wa,c28,Z4,Yr,Zy,Zz,Zk,Zm,Zl,Nat.reduceEqDiff,reduceCtorEq,Yu]
  refine⟨_,rfl,?_⟩
  exact(k1.trans k2 (by simp)).trans k3 (by simp)
theorem rt{ZM:Lib}{fs:T CF}{fuel:Nat}(E:Env ZM fs fuel){k n:Nat}{s:List UInt8}{H:Heap}(hl:s.length<999998)(hro:H.ro<=H.nx):
  ∃H',Yo (LK ZM fs fuel k) fs fuel (n+2) 53 [.agg [nI .i64 4,.bool false,nI .i64 0,.str s,.nils,.nils]] H=.ret (.str (quo s)) H'∧ZE H H' []:=by
 rw[YM (YW E.n53 (.inr rfl) _ _) E.f53]
 obtain⟨H1,hH1⟩: ∃G,H.new (rG 75 1 [nI .i64 4,.bool false,nI .i64 0,.str s,.nils,.nils] 0 false true true)=G:=⟨_,rfl⟩
 have bx:=Vt (l:=[nI .i64 4,.bool false,nI .i64 0,.str s,.nils,.nils]) (Vs 1 5) 75 H
 rw[hH1] at bx
 have J8:H1.nx=H.nx+1:=by rw[<-hH1];rfl
 have qX:H1.ro=H.ro:=by rw[<-hH1];rfl
 have k1:ZE H H1 []:=by rw[<-hH1];exact ZE.new H _ _
 have g1:H1.t.get H.nx=some (rG 75 1 [nI .i64 4,.bool false,nI .i64 0,.str s,.nils,.nils] 0 false true true):=by rw[<-hH1,Z3 rfl]
 have l0: ∀G,ld1 (some (rG 75 1 [nI .i64 4,.bool false,nI .i64 0,.str s,.nils,.nils] 0 false true true)) 0 G=.val (nI .i64 4) G:=λG=>by rw[ZX (by simp)];rfl
 have l3: ∀G,ld1 (some (rG 75 1 [nI .i64 4,.bool false,nI .i64 0,.str s,.nils,.nils] 0 false true true)) 3 G=.val (.str s) G:=λG=>by rw[ZX (by simp)];rfl
 have l4: ∀G,ld1 (some (rG 75 1 [nI .i64 4,.bool false,nI .i64 0,.str s,.nils,.nils] 0 false true true)) 4 G=.val .nils G:=λG=>by rw[ZX (by simp)];rfl
 have l5: ∀G,ld1 (some (rG 75 1 [nI .i64 4,.bool false,nI .i64 0,.str s,.nils,.nils] 0 false true true)) 5 G=.val .nils G:=λG=>by rw[ZX (by simp)];rfl
 have l6: ∀G,Gv 6 (some (rG 75 1 [nI .i64 4,.bool false,nI .i64 0,.str s,.nils,.nils] 0 false true true)) 0 G=.val (.agg [nI .i64 4,.bool false,nI .i64 0,.str s,.nils,.nils]) G:=λG=>by rw[N5 (by simp)];rfl
 obtain⟨H2,eq,k2⟩:=xI E (k:=k) (n:=n) (s:=s) (H:=H1) hl (by omega)
 have z1:decide (4=1)=false:=rfl
 have z2:decide (4=2)=false:=rfl
 have z3:decide (4=3)=false:=rfl
 have z4:decide (4=4)=true:=rfl
 simp(maxSteps:=4000000) (disch:=first|assumption|omega|(simp -implicitDefEqProofs only[ZA,ZB]<;>first|assumption|omega)|decide) only[bx,g1,l0,l3,eq,z1,z2,z3,z4,YK,c53,Z4,Yr,Zy,Zz,Zk,Zm,Zl,Nat.reduceEqDiff,reduceCtorEq,Yu,VW,Il]
 refine⟨_,rfl,?_⟩
 exact k1.trans k2 (by simp)
theorem jy{ZM:Lib}{fs:T CF}{fuel:Nat}(E:Env ZM fs fuel){k n:Nat}{s:List UInt8}{H:Heap}(hl:s.length<999998)(hro:H.ro<=H.nx)(hv:vu s=false):
  ∃H',Yo (LK ZM fs fuel k) fs fuel (n+5) 34 [.agg [nI .i64 4,.bool false,nI .i64 0,.str s,.nils,.nils]] H=.ret (.tup [.nils,nI .i64 1]) H'∧ZE H H' []:=by
 rw[YM (YW E.n34 (.inr rfl) _ _) E.f34]
 obtain⟨H1,hH1⟩: ∃G,H.new (rG 75 1 [nI .i64 4,.bool false,nI .i64 0,.str s,.nils,.nils] 0 false true true)=G:=⟨_,rfl⟩
 have bx:=Vt (l:=[nI .i64 4,.bool false,nI .i64 0,.str s,.nils,.nils]) (Vs 1 5) 75 H
 rw[hH1] at bx
 have J8:H1.nx=H.nx+1:=by rw[<-hH1];rfl
 have qX:H1.ro=H.ro:=by rw[<-hH1];rfl
 have k1:ZE H H1 []:=by rw[<-hH1];exact ZE.new H _ _
 have g1:H1.t.get H.nx=some (rG 75 1 [nI .i64 4,.bool false,nI .i64 0,.str s,.nils,.nils] 0 false true true):=by rw[<-hH1,Z3 rfl]
 have l0: ∀G,ld1 (some (rG 75 1 [nI .i64 4,.bool false,nI .i64 0,.str s,.nils,.nils] 0 false true true)) 0 G=.val (nI .i64 4) G:=λG=>by rw[ZX (by simp)];rfl
 have l3: ∀G,ld1 (some (rG 75 1 [nI .i64 4,.bool false,nI .i64 0,.str s,.nils,.nils] 0 false true true)) 3 G=.val (.str s) G:=λG=>by rw[ZX (by simp)];rfl
 have l4: ∀G,ld1 (some (rG 75 1 [nI .i64 4,.bool false,nI .i64 0,.str s,.nils,.nils] 0 false true true)) 4 G=.val .nils G:=λG=>by rw[ZX (by simp)];rfl
 have l5: ∀G,ld1 (some (rG 75 1 [nI .i64 4,.bool false,nI .i64 0,.str s,.nils,.nils] 0 false true true)) 5 G=.val .nils G:=λG=>by rw[ZX (by simp)];rfl
 have l6: ∀G,Gv 6 (some (rG 75 1 [nI .i64 4,.bool false,nI .i64 0,.str s,.nils,.nils] 0 false true true)) 0 G=.val (.agg [nI .i64 4,.bool false,nI .i64 0,.str s,.nils,.nils]) G:=λG=>by rw[N5 (by simp)];rfl
 obtain⟨H2,ec,k2⟩:=K5 E (k:=k) (n:=n) (s:=s) (H:=H1) hl (by omega)
 rw[hv] at ec
 have ec:Yo (LK ZM fs fuel k) fs fuel (n+4) 28 [.agg [nI .i64 4,.bool false,nI .i64 0,.str s,.nils,.nils]] H1=.ret (nI .i64 1) H2:=ec
 have z1:decide (1≠0)=true:=rfl
 simp(maxSteps:=4000000) (disch:=first|assumption|omega|(simp -implicitDefEqProofs only[ZA,ZB]<;>first|assumption|omega)|decide) only[bx,g1,l6,ec,z1,Qy,c34,Z4,Yr,Zy,Zz,Zk,Zm,Zl,Nat.reduceEqDiff,reduceCtorEq,Yu]
 refine⟨_,rfl,?_⟩
 exact k1.trans k2 (by simp)
theorem nj{ZM:Lib}{fs:T CF}{fuel:Nat}(E:Env ZM fs fuel){k n:Nat}{s:List UInt8}{H:Heap}(hl:s.length<999998)(hro:H.ro<=H.nx)(hv:vu s=true):
  ∃H' b,Yo (LK ZM fs fuel k) fs fuel (n+5) 34 [.agg [nI .i64 4,.bool false,nI .i64 0,.str s,.nils,.nils]] H=.ret (.tup [.slice b 0 (quo s).length none,nI .i64 0]) H'∧ZE H H' []∧H.nx<=b∧b<H'.nx∧H'.t.get b=some (rG 5 1 ((quo s).map Y6) 0 true true false):=by
 rw[YM (YW E.n34 (.inr rfl) _ _) E.f34]
 obtain⟨H1,hH1⟩: ∃G,H.new (rG 75 1 [nI .i64 4,.bool false,nI .i64 0,.str s,.nils,.nils] 0 false true true)=G:=⟨_,rfl⟩
 have bx:=Vt (l:=[nI .i64 4,.bool false,nI .i64 0,.str s,.nils,.nils]) (Vs 1 5) 75 H
 rw[hH1] at bx
 have J8:H1.nx=H.nx+1:=by rw[<-hH1];rfl
 have qX:H1.ro=H.ro:=by rw[<-hH1];rfl
 have k1:ZE H H1 []:=by rw[<-hH1];exact ZE.new H _ _
 have g1:H1.t.get H.nx=some (rG 75 1 [nI .i64 4,.bool false,nI .i64 0,.str s,.nils,.nils] 0 false true true):=by rw[<-hH1,Z3 rfl]
 have l0: ∀G,ld1 (some (rG 75 1 [nI .i64 4,.bool false,nI .i64 0,.str s,.nils,.nils] 0 false true true)) 0 G=.val (nI .i64 4) G:=λG=>by rw[ZX (by simp)];rfl
 have l3: ∀G,ld1 (some (rG 75 1 [nI .i64 4,.bool false,nI .i64 0,.str s,.nils,.nils] 0 false true true)) 3 G=.val (.str s) G:=λG=>by rw[ZX (by simp)];rfl
 have l4: ∀G,ld1 (some (rG 75 1 [nI .i64 4,.bool false,nI .i64 0,.str s,.nils,.nils] 0 false true true)) 4 G=.val .nils G:=λG=>by rw[ZX (by simp)];rfl
 have l5: ∀G,ld1 (some (rG 75 1 [nI .i64 4,.bool false,nI .i64 0,.str s,.nils,.nils] 0 false true true)) 5 G=.val .nils G:=λG=>by rw[ZX (by simp)];rfl
 have l6: ∀G,Gv 6 (some (rG 75 1 [nI .i64 4,.bool false,nI .i64 0,.str s,.nils,.nils] 0 false true true)) 0 G=.val (.agg [nI .i64 4,.bool false,nI .i64 0,.str s,.nils,.nils]) G:=λG=>by rw[N5 (by simp)];rfl
 obtain⟨H2,ec,k2⟩:=K5 E (k:=k) (n:=n) (s:=s) (H:=H1) hl (by omega)
 rw[hv] at ec
 have ec:Yo (LK ZM fs fuel k) fs fuel (n+4) 28 [.agg [nI .i64 4,.bool false,nI .i64 0,.str s,.nils,.nils]] H1=.ret (nI .i64 0) H2:=ec
 have g2:H2.t.get H.nx=some (rG 75 1 [nI .i64 4,.bool false,nI .i64 0,.str s,.nils,.nils] 0 false true true):=by rw[k2.get _ (by omega) (by simp)];exact g1
 have n2:=k2.nx
 have ro2:=k2.ro
 obtain⟨H3,et,k3⟩:=rt E (k:=k) (n:=n+2) (s:=s) (H:=H2) hl (by omega)
 have n3:=k3.nx
 have z1:decide (0≠0)=false:=rfl
 have bv:=λG=>IS 5 (quo s) G
 simp(maxSteps:=4000000) (disch:=first|assumption|omega|(simp -implicitDefEqProofs only[ZA,ZB]<;>first|assumption|omega)|decide) only[bx,g1,g2,l6,ec,et,bv,z1,Qy,c34,Z4,Yr,Zy,Zz,Zk,Zm,Zl,Nat.reduceEqDiff,reduceCtorEq,Yu]
 exact⟨_,H3.nx,rfl,((k1.trans k2 (by simp)).trans k3 (by simp)).then_new _,by omega,Yq _,by rw[Z3 rfl]⟩
theorem uT{ZM:Lib}{fs:T CF}{fuel:Nat}(E:Env ZM fs fuel){k n u:Nat}{H:Heap}(hro:H.ro<=H.nx):
  ∃H',Yo (LK ZM fs fuel k) fs fuel (n+3) 40 [.agg [nI .i64 3,.bool false,nI .i64 u,.str [],.nils,.nils],nI .i64 32] H=.ret (.bool false) H'∧ZE H H' []:=by
 rw[YM (YW E.n40 (.inr rfl) _ _) E.f40]
 obtain⟨H1,hH1⟩: ∃G,H.new (rG 75 1 [nI .i64 3,.bool false,nI .i64 u,.str [],.nils,.nils] 0 false true true)=G:=⟨_,rfl⟩
 have bx:=Vt (l:=[nI .i64 3,.bool false,nI .i64 u,.str [],.nils,.nils]) (Vs 1 5) 75 H
 rw[hH1] at bx
 have J8:H1.nx=H.nx+1:=by rw[<-hH1];rfl
 have qX:H1.ro=H.ro:=by rw[<-hH1];rfl
 have k1:ZE H H1 []:=by rw[<-hH1];exact ZE.new H _ _
 have g1:H1.t.get H.nx=some (rG 75 1 [nI .i64 3,.bool false,nI .i64 u,.str [],.nils,.nils] 0 false true true):=by rw[<-hH1,Z3 rfl]
 have l0: ∀G,ld1 (some (rG 75 1 [nI .i64 3,.bool false,nI .i64 u,.str [],.nils,.nils] 0 false true true)) 0 G=.val (nI .i64 3) G:=λG=>by rw[ZX (by simp)];rfl
 have l1: ∀G,ld1 (some (rG 75 1 [nI .i64 3,.bool false,nI .i64 u,.str [],.nils,.nils] 0 false true true)) 1 G=.val (.bool false) G:=λG=>by rw[ZX (by simp)];rfl
 have l2: ∀G,ld1 (some (rG 75 1 [nI .i64 3,.bool false,nI .i64 u,.str [],.nils,.nils] 0 false true true)) 2 G=.val (nI .i64 u) G:=λG=>by rw[ZX (by simp)];rfl
 have l3: ∀G,ld1 (some (rG 75 1 [nI .i64 3,.bool false,nI .i64 u,.str [],.nils,.nils] 0 false true true)) 3 G=.val (.str []) G:=λG=>by rw[ZX (by simp)];rfl
 have l4: ∀G,ld1 (some (rG 75 1 [nI .i64 3,.bool false,nI .i64 u,.str [],.nils,.nils] 0 false true true)) 4 G=.val .nils G:=λG=>by rw[ZX (by simp)];rfl
 have l5: ∀G,ld1 (some (rG 75 1 [nI .i64 3,.bool false,nI .i64 u,.str [],.nils,.nils] 0 false true true)) 5 G=.val .nils G:=λG=>by rw[ZX (by simp)];rfl
 have l6: ∀G,Gv 6 (some (rG 75 1 [nI .i64 3,.bool false,nI .i64 u,.str [],.nils,.nils] 0 false true true)) 0 G=.val (.agg [nI .i64 3,.bool false,nI .i64 u,.str [],.nils,.nils]) G:=λG=>by rw[N5 (by simp)];rfl
 obtain⟨H2,ev,k2⟩:=EX E (k:=k) (n:=n) (s:=[]) (H:=H1) (by decide)
 rw[rz] at ev
 have g2:H2.t.get H.nx=some (rG 75 1 [nI .i64 3,.bool false,nI .i64 u,.str [],.nils,.nils] 0 false true true):=by rw[k2.get _ (by omega) (by simp)];exact g1
 have z0:decide (32=0)=false:=rfl
 obtain⟨F,rfl⟩: ∃G,fuel=G+1:=⟨fuel - 1,by have:=E.big;omega⟩
 have q1:decide (3<1)=false:=rfl
 have q2:decide (6<3)=false:=rfl
 have q4:decide (3≠3)=false:=rfl
 have q5:decide (0<0)=false:=rfl
 have q6:decide (([]:List UInt8)=[])=true:=rfl
 have cf: ∀x y:Bool,cond true x y=x:=λ_ _=>rfl
 have ct: ∀x y:Bool,cond false x y=y:=λ_ _=>rfl
 by_cases hu:u≠0
 ·have hs:=Zg hu
  simp(maxSteps:=4000000) (disch:=first|assumption|omega|(simp -implicitDefEqProofs only[ZA,ZB]<;>first|assumption|omega)|decide) only[z0,bx,g1,g2,l0,l1,l2,l3,l4,l5,ev,MH,Zx,Z2,YK,Qy,SY,q1,q2,hs,q4,q5,q6,cf,ct,Wi,Wa,c40,IU,IV,Z4,Yr,Zy,Zz,Zk,Zm,Zl,Nat.reduceEqDiff,reduceCtorEq,Yu,VW,SF,Nq]
  refine⟨_,rfl,?_⟩
  exact k1.trans k2 (by simp)
 ·have hs:=Zd hu
  simp(maxSteps:=4000000) (disch:=first|assumption|omega|(simp -implicitDefEqProofs only[ZA,ZB]<;>first|assumption|omega)|decide) only[z0,bx,g1,g2,l0,l1,l2,l3,l4,l5,ev,MH,Zx,Z2,YK,Qy,SY,q1,q2,hs,q4,q5,q6,cf,ct,Wi,Wa,c40,IU,IV,Z4,Yr,Zy,Zz,Zk,Zm,Zl,Nat.reduceEqDiff,reduceCtorEq,Yu,VW,SF,Nq]
  refine⟨_,rfl,?_⟩
  exact k1.trans k2 (by simp)
theorem y5{ZM:Lib}{fs:T CF}{fuel:Nat}(E:Env ZM fs fuel){k n u:Nat}{H:Heap}:
  ∃H',Yo (LK ZM fs fuel k) fs fuel (n+1) 41 [.agg [nI .i64 3,.bool false,nI .i64 u,.str [],.nils,.nils],nI .i64 32] H=.ret (nI .i64 1) H'∧ZE H H' []:=by
 rw[YM (YW E.n41 (.inr rfl) _ _) E.f41]
 obtain⟨H1,hH1⟩: ∃G,H.new (rG 75 1 [nI .i64 3,.bool false,nI .i64 u,.str [],.nils,.nils] 0 false true true)=G:=⟨_,rfl⟩
 have bx:=Vt (l:=[nI .i64 3,.bool false,nI .i64 u,.str [],.nils,.nils]) (Vs 1 5) 75 H
 rw[hH1] at bx
 have J8:H1.nx=H.nx+1:=by rw[<-hH1];rfl
 have qX:H1.ro=H.ro:=by rw[<-hH1];rfl
 have k1:ZE H H1 []:=by rw[<-hH1];exact ZE.new H _ _
 have g1:H1.t.get H.nx=some (rG 75 1 [nI .i64 3,.bool false,nI .i64 u,.str [],.nils,.nils] 0 false true true):=by rw[<-hH1,Z3 rfl]
 have l0: ∀G,ld1 (some (rG 75 1 [nI .i64 3,.bool false,nI .i64 u,.str [],.nils,.nils] 0 false true true)) 0 G=.val (nI .i64 3) G:=λG=>by rw[ZX (by simp)];rfl
 have l1: ∀G,ld1 (some (rG 75 1 [nI .i64 3,.bool false,nI .i64 u,.str [],.nils,.nils] 0 false true true)) 1 G=.val (.bool false) G:=λG=>by rw[ZX (by simp)];rfl
 have l2: ∀G,ld1 (some (rG 75 1 [nI .i64 3,.bool false,nI .i64 u,.str [],.nils,.nils] 0 false true true)) 2 G=.val (nI .i64 u) G:=λG=>by rw[ZX (by simp)];rfl
 have l3: ∀G,ld1 (some (rG 75 1 [nI .i64 3,.bool false,nI .i64 u,.str [],.nils,.nils] 0 false true true)) 3 G=.val (.str []) G:=λG=>by rw[ZX (by simp)];rfl
 have l4: ∀G,ld1 (some (rG 75 1 [nI .i64 3,.bool false,nI .i64 u,.str [],.nils,.nils] 0 false true true)) 4 G=.val .nils G:=λG=>by rw[ZX (by simp)];rfl
 have l5: ∀G,ld1 (some (rG 75 1 [nI .i64 3,.bool false,nI .i64 u,.str [],.nils,.nils] 0 false true true)) 5 G=.val .nils G:=λG=>by rw[ZX (by simp)];rfl
 have l6: ∀G,Gv 6 (some (rG 75 1 [nI .i64 3,.bool false,nI .i64 u,.str [],.nils,.nils] 0 false true true)) 0 G=.val (.agg [nI .i64 3,.bool false,nI .i64 u,.str [],.nils,.nils]) G:=λG=>by rw[N5 (by simp)];rfl
 obtain⟨F,rfl⟩: ∃G,fuel=G+1:=⟨fuel - 1,by have:=E.big;omega⟩
 have z0:decide (32=0)=false:=rfl
 have q5:decide (0<0)=false:=rfl
 have a1: ∀G:Heap,EZ (nI .i64 0) (nI .i64 1) G=.val (nI .i64 1) G:=λG=>WM (a:=0) (b:=1) (by decide) G
 simp(maxSteps:=4000000) (disch:=first|assumption|omega|(simp -implicitDefEqProofs only[ZA,ZB]<;>first|assumption|omega)|decide) only[bx,g1,l0,l3,l4,l5,z0,q5,a1,MH,Zx,YK,c41,tu,tw,Z4,Yr,Zy,Zz,Zk,Zm,Zl,Nat.reduceEqDiff,reduceCtorEq,Yu,VW]
 refine⟨_,rfl,?_⟩
 exact k1
theorem wB{ZM:Lib}{fs:T CF}{fuel:Nat}(E:Env ZM fs fuel){k n u:Nat}{H:Heap}(hro:H.ro<=H.nx):
  ∃H',Yo (LK ZM fs fuel k) fs fuel (n+4) 28 [.agg [nI .i64 3,.bool false,nI .i64 u,.str [],.nils,.nils]] H=.ret (nI .i64 0) H'∧ZE H H' []:=by
 rw[YM (YW E.n28 (.inr rfl) _ _) E.f28]
 obtain⟨H1,hH1⟩: ∃G,H.new (rG 75 1 [nI .i64 3,.bool false,nI .i64 u,.str [],.nils,.nils] 0 false true true)=G:=⟨_,rfl⟩
 have bx:=Vt (l:=[nI .i64 3,.bool false,nI .i64 u,.str [],.nils,.nils]) (Vs 1 5) 75 H
 rw[hH1] at bx
 have J8:H1.nx=H.nx+1:=by rw[<-hH1];rfl
 have qX:H1.ro=H.ro:=by rw[<-hH1];rfl
 have k1:ZE H H1 []:=by rw[<-hH1];exact ZE.new H _ _
 have g1:H1.t.get H.nx=some (rG 75 1 [nI .i64 3,.bool false,nI .i64 u,.str [],.nils,.nils] 0 false true true):=by rw[<-hH1,Z3 rfl]
 have l0: ∀G,ld1 (some (rG 75 1 [nI .i64 3,.bool false,nI .i64 u,.str [],.nils,.nils] 0 false true true)) 0 G=.val (nI .i64 3) G:=λG=>by rw[ZX (by simp)];rfl
 have l1: ∀G,ld1 (some (rG 75 1 [nI .i64 3,.bool false,nI .i64 u,.str [],.nils,.nils] 0 false true true)) 1 G=.val (.bool false) G:=λG=>by rw[ZX (by simp)];rfl
 have l2: ∀G,ld1 (some (rG 75 1 [nI .i64 3,.bool false,nI .i64 u,.str [],.nils,.nils] 0 false true true)) 2 G=.val (nI .i64 u) G:=λG=>by rw[ZX (by simp)];rfl
 have l3: ∀G,ld1 (some (rG 75 1 [nI .i64 3,.bool false,nI .i64 u,.str [],.nils,.nils] 0 false true true)) 3 G=.val (.str []) G:=λG=>by rw[ZX (by simp)];rfl
 have l4: ∀G,ld1 (some (rG 75 1 [nI .i64 3,.bool false,nI .i64 u,.str [],.nils,.nils] 0 false true true)) 4 G=.val .nils G:=λG=>by rw[ZX (by simp)];rfl
 have l5: ∀G,ld1 (some (rG 75 1 [nI .i64 3,.bool false,nI .i64 u,.str [],.nils,.nils] 0 false true true)) 5 G=.val .nils G:=λG=>by rw[ZX (by simp)];rfl
 have l6: ∀G,Gv 6 (some (rG 75 1 [nI .i64 3,.bool false,nI .i64 u,.str [],.nils,.nils] 0 false true true)) 0 G=.val (.agg [nI .i64 3,.bool false,nI .i64 u,.str [],.nils,.nils]) G:=λG=>by rw[N5 (by simp)];rfl
 obtain⟨H2,ew,k2⟩:=uT E (k:=k) (n:=n) (u:=u) (H:=H1) (by omega)
 have g2:H2.t.get H.nx=some (rG 75 1 [nI .i64 3,.bool false,nI .i64 u,.str [],.nils,.nils] 0 false true true):=by rw[k2.get _ (by omega) (by simp)];exact g1
 obtain⟨H3,eh,k3⟩:=y5 E (k:=k) (n:=n+2) (u:=u) (H:=H2)
 have q5:decide (32<1)=false:=rfl
 simp(maxSteps:=4000000) (disch:=first|assumption|omega|(simp -implicitDefEqProofs only[ZA,ZB]<;>first|assumption|omega)|decide) only[bx,g1,g2,l6,ew,eh,q5,Z2,Wi,Wa,c28,Z4,Yr,Zy,Zz,Zk,Zm,Zl,Nat.reduceEqDiff,reduceCtorEq,Yu]
 refine⟨_,rfl,?_⟩
 exact(k1.trans k2 (by simp)).trans k3 (by simp)
theorem rq{ZM:Lib}{fs:T CF}{fuel:Nat}(E:Env ZM fs fuel){k n u:Nat}{H:Heap}(hu:u<9223372036854775808)(hro:H.ro<=H.nx):
  ∃H',Yo (LK ZM fs fuel k) fs fuel (n+3) 53 [.agg [nI .i64 3,.bool false,nI .i64 u,.str [],.nils,.nils]] H=.ret (.str (Ii (u:Int))) H'∧ZE H H' []:=by
 rw[YM (YW E.n53 (.inr rfl) _ _) E.f53]
 obtain⟨H1,hH1⟩: ∃G,H.new (rG 75 1 [nI .i64 3,.bool false,nI .i64 u,.str [],.nils,.nils] 0 false true true)=G:=⟨_,rfl⟩
 have bx:=Vt (l:=[nI .i64 3,.bool false,nI .i64 u,.str [],.nils,.nils]) (Vs 1 5) 75 H
 rw[hH1] at bx
 have J8:H1.nx=H.nx+1:=by rw[<-hH1];rfl
 have qX:H1.ro=H.ro:=by rw[<-hH1];rfl
 have k1:ZE H H1 []:=by rw[<-hH1];exact ZE.new H _ _
 have g1:H1.t.get H.nx=some (rG 75 1 [nI .i64 3,.bool false,nI .i64 u,.str [],.nils,.nils] 0 false true true):=by rw[<-hH1,Z3 rfl]
 have l0: ∀G,ld1 (some (rG 75 1 [nI .i64 3,.bool false,nI .i64 u,.str [],.nils,.nils] 0 false true true)) 0 G=.val (nI .i64 3) G:=λG=>by rw[ZX (by simp)];rfl
 have l1: ∀G,ld1 (some (rG 75 1 [nI .i64 3,.bool false,nI .i64 u,.str [],.nils,.nils] 0 false true true)) 1 G=.val (.bool false) G:=λG=>by rw[ZX (by simp)];rfl
 have l2: ∀G,ld1 (some (rG 75 1 [nI .i64 3,.bool false,nI .i64 u,.str [],.nils,.nils] 0 false true true)) 2 G=.val (nI .i64 u) G:=λG=>by rw[ZX (by simp)];rfl
 have l3: ∀G,ld1 (some (rG 75 1 [nI .i64 3,.bool false,nI .i64 u,.str [],.nils,.nils] 0 false true true)) 3 G=.val (.str []) G:=λG=>by rw[ZX (by simp)];rfl
 have l4: ∀G,ld1 (some (rG 75 1 [nI .i64 3,.bool false,nI .i64 u,.str [],.nils,.nils] 0 false true true)) 4 G=.val .nils G:=λG=>by rw[ZX (by simp)];rfl
 have l5: ∀G,ld1 (some (rG 75 1 [nI .i64 3,.bool false,nI .i64 u,.str [],.nils,.nils] 0 false true true)) 5 G=.val .nils G:=λG=>by rw[ZX (by simp)];rfl
 have l6: ∀G,Gv 6 (some (rG 75 1 [nI .i64 3,.bool false,nI .i64 u,.str [],.nils,.nils] 0 false true true)) 0 G=.val (.agg [nI .i64 3,.bool false,nI .i64 u,.str [],.nils,.nils]) G:=λG=>by rw[N5 (by simp)];rfl
 obtain⟨H2,eq,k2⟩:=ZfF E (k:=k) (n:=n) (z:=(u:Int)) (H:=H1) (by omega) (by omega) (by omega)
 have eq:Yo (LK ZM fs fuel k) fs fuel (n+2) 66 [nI .i64 u] H1=.ret (.str (Ii (u:Int))) H2:=eq
 have z1:decide (3=1)=false:=rfl
 have z2:decide (3=2)=false:=rfl
 have z3:decide (3=3)=true:=rfl
 simp(maxSteps:=4000000) (disch:=first|assumption|omega|(simp -implicitDefEqProofs only[ZA,ZB]<;>first|assumption|omega)|decide) only[bx,g1,l0,l2,eq,z1,z2,z3,YK,c53,Z4,Yr,Zy,Zz,Zk,Zm,Zl,Nat.reduceEqDiff,reduceCtorEq,Yu,VW,Il]
 refine⟨_,rfl,?_⟩
 exact k1.trans k2 (by simp)
theorem ni{ZM:Lib}{fs:T CF}{fuel:Nat}(E:Env ZM fs fuel){k n u:Nat}{H:Heap}(hu:u<9223372036854775808)(hro:H.ro<=H.nx):
  ∃H' b,Yo (LK ZM fs fuel k) fs fuel (n+5) 34 [.agg [nI .i64 3,.bool false,nI .i64 u,.str [],.nils,.nils]] H=.ret (.tup [.slice b 0 (Ii (u:Int)).length none,nI .i64 0]) H'∧ZE H H' []∧H.nx<=b∧b<H'.nx∧H'.t.get b=some (rG 5 1 ((Ii (u:Int)).map Y6) 0 true true false):=by
 rw[YM (YW E.n34 (.inr rfl) _ _) E.f34]
 obtain⟨H1,hH1⟩: ∃G,H.new (rG 75 1 [nI .i64 3,.bool false,nI .i64 u,.str [],.nils,.nils] 0 false true true)=G:=⟨_,rfl⟩
 have bx:=Vt (l:=[nI .i64 3,.bool false,nI .i64 u,.str [],.nils,.nils]) (Vs 1 5) 75 H
 rw[hH1] at bx
 have J8:H1.nx=H.nx+1:=by rw[<-hH1];rfl
 have qX:H1.ro=H.ro:=by rw[<-hH1];rfl
 have k1:ZE H H1 []:=by rw[<-hH1];exact ZE.new H _ _
 have g1:H1.t.get H.nx=some (rG 75 1 [nI .i64 3,.bool false,nI .i64 u,.str [],.nils,.nils] 0 false true true):=by rw[<-hH1,Z3 rfl]
 have l0: ∀G,ld1 (some (rG 75 1 [nI .i64 3,.bool false,nI .i64 u,.str [],.nils,.nils] 0 false true true)) 0 G=.val (nI .i64 3) G:=λG=>by rw[ZX (by simp)];rfl
 have l1: ∀G,ld1 (some (rG 75 1 [nI .i64 3,.bool false,nI .i64 u,.str [],.nils,.nils] 0 false true true)) 1 G=.val (.bool false) G:=λG=>by rw[ZX (by simp)];rfl
 have l2: ∀G,ld1 (some (rG 75 1 [nI .i64 3,.bool false,nI .i64 u,.str [],.nils,.nils] 0 false true true)) 2 G=.val (nI .i64 u) G:=λG=>by rw[ZX (by simp)];rfl
 have l3: ∀G,ld1 (some (rG 75 1 [nI .i64 3,.bool false,nI .i64 u,.str [],.nils,.nils] 0 false true true)) 3 G=.val (.str []) G:=λG=>by rw[ZX (by simp)];rfl
 have l4: ∀G,ld1 (some (rG 75 1 [nI .i64 3,.bool false,nI .i64 u,.str [],.nils,.nils] 0 false true true)) 4 G=.val .nils G:=λG=>by rw[ZX (by simp)];rfl
 have l5: ∀G,ld1 (some (rG 75 1 [nI .i64 3,.bool false,nI .i64 u,.str [],.nils,.nils] 0 false true true)) 5 G=.val .nils G:=λG=>by rw[ZX (by simp)];rfl
 have l6: ∀G,Gv 6 (some (rG 75 1 [nI .i64 3,.bool false,nI .i64 u,.str [],.nils,.nils] 0 false true true)) 0 G=.val (.agg [nI .i64 3,.bool false,nI .i64 u,.str [],.nils,.nils]) G:=λG=>by rw[N5 (by simp)];rfl
 obtain⟨H2,ec,k2⟩:=wB E (k:=k) (n:=n) (u:=u) (H:=H1) (by omega)
 have g2:H2.t.get H.nx=some (rG 75 1 [nI .i64 3,.bool false,nI .i64 u,.str [],.nils,.nils] 0 false true true):=by rw[k2.get _ (by omega) (by simp)];exact g1
 have n2:=k2.nx
 have ro2:=k2.ro
 obtain⟨H3,et,k3⟩:=rq E (k:=k) (n:=n+1) (u:=u) (H:=H2) hu (by omega)
 have n3:=k3.nx
 have z1:decide (0≠0)=false:=rfl
 have bv:=λG=>IS 5 (Ii (u:Int)) G
 simp(maxSteps:=4000000) (disch:=first|assumption|omega|(simp -implicitDefEqProofs only[ZA,ZB]<;>first|assumption|omega)|decide) only[bx,g1,g2,l6,ec,et,bv,z1,Qy,c34,Z4,Yr,Zy,Zz,Zk,Zm,Zl,Nat.reduceEqDiff,reduceCtorEq,Yu]
 exact⟨_,H3.nx,rfl,((k1.trans k2 (by simp)).trans k3 (by simp)).then_new _,by omega,Yq _,by rw[Z3 rfl]⟩
theorem MK{ZM:Lib}{fs:T CF}{fuel:Nat}(E:Env ZM fs fuel){k n:Nat}{s:List UInt8}{H:Heap}(hl:s.length<999998)(hro:H.ro<=H.nx):
  ∃H',Yo (LK ZM fs fuel k) fs fuel (n+6) 21 [.str s] H=.ret (.str (cond (vu s) (quo s) [])) H'∧ZE H H' []:=by
 rw[YM (YW E.n21 (.inr rfl) _ _) E.f21]
 have bd: ∀G:Heap,RW [nI .i64 0,.bool false,nI .i64 0,.str [],.nils,.nils] [(0,1,nI .i64 4),(3,1,.str s)] G=.val (.agg [nI .i64 4,.bool false,nI .i64 0,.str s,.nils,.nils]) G:=λG=>rfl
 cases hv:vu s
 ·obtain⟨H2,ep,k2⟩:=jy E (k:=k) (n:=n) (s:=s) (H:=H) hl hro hv
  have sn: ∀G:Heap,ri .nils G=.val (.str []) G:=λG=>rfl
  simp(maxSteps:=4000000) (disch:=first|assumption|omega|(simp -implicitDefEqProofs only[ZA,ZB]<;>first|assumption|omega)|decide) only[bd,ep,sn,c21,Z4,Yr,Zy,Zz,Zk,Zm,Zl,Nat.reduceEqDiff,reduceCtorEq,Yu]
  refine⟨_,rfl,?_⟩
  exact k2
 ·obtain⟨H2,b,ep,k2,hb1,hb2,hb⟩:=nj E (k:=k) (n:=n) (s:=s) (H:=H) hl hro hv
  have sn:=Zb1 (c:=none) hb
  simp(maxSteps:=4000000) (disch:=first|assumption|omega|(simp -implicitDefEqProofs only[ZA,ZB]<;>first|assumption|omega)|decide) only[bd,ep,sn,c21,Z4,Yr,Zy,Zz,Zk,Zm,Zl,Nat.reduceEqDiff,reduceCtorEq,Yu]
  refine⟨_,rfl,?_⟩
  exact k2
theorem xw{ZM:Lib}{fs:T CF}{fuel:Nat}(E:Env ZM fs fuel){k n u:Nat}{H:Heap}(hu:u<9223372036854775808)(hro:H.ro<=H.nx):
  ∃H',Yo (LK ZM fs fuel k) fs fuel (n+6) 23 [nI .i64 u] H=.ret (.str (Ii (u:Int))) H'∧ZE H H' []:=by
 rw[YM (YW E.n23 (.inr rfl) _ _) E.f23]
 have bd: ∀G:Heap,RW [nI .i64 0,.bool false,nI .i64 0,.str [],.nils,.nils] [(0,1,nI .i64 3),(2,1,nI .i64 u)] G=.val (.agg [nI .i64 3,.bool false,nI .i64 u,.str [],.nils,.nils]) G:=λG=>rfl
 obtain⟨H2,b,ep,k2,hb1,hb2,hb⟩:=ni E (k:=k) (n:=n) (u:=u) (H:=H) hu hro
 have sn:=Zb1 (c:=none) hb
 simp(maxSteps:=4000000) (disch:=first|assumption|omega|(simp -implicitDefEqProofs only[ZA,ZB]<;>first|assumption|omega)|decide) only[bd,ep,sn,c23,Z4,Yr,Zy,Zz,Zk,Zm,Zl,Nat.reduceEqDiff,reduceCtorEq,Yu]
 refine⟨_,rfl,?_⟩
 exact k2
theorem EY{ZM:Lib}{fs:T CF}{fuel:Nat}(E:Env ZM fs fuel){k n m:Nat}{s:List UInt8}{H:Heap}(hl:s.length<999998)(hro:H.ro<=H.nx):
  ∃H',Yo (LK ZM fs fuel k) fs fuel (n+5) 18 [.str s,nI .i64 m] H=.ret (.bool (decide (s.length<=m)&&vu s)) H'∧ZE H H' []:=by
 rw[YM (YW E.n18 (.inr rfl) _ _) E.f18]
 have bd: ∀G:Heap,RW [nI .i64 0,.bool false,nI .i64 0,.str [],.nils,.nils] [(0,1,nI .i64 4),(3,1,.str s)] G=.val (.agg [nI .i64 4,.bool false,nI .i64 0,.str s,.nils,.nils]) G:=λG=>rfl
 by_cases h:s.length<=m
 ·have d1:=Zg h
  obtain⟨H2,ep,k2⟩:=K5 E (k:=k) (n:=n) (s:=s) (H:=H) hl hro
  rw[d1,VX]
  cases hv:vu s<;>rw[hv] at ep
  ·have ep:Yo (LK ZM fs fuel k) fs fuel (n+4) 28 [.agg [nI .i64 4,.bool false,nI .i64 0,.str s,.nils,.nils]] H=.ret (nI .i64 1) H2:=ep
   have z1:decide (1=0)=false:=rfl
   simp(maxSteps:=4000000) (disch:=first|assumption|omega|(simp -implicitDefEqProofs only[ZA,ZB]<;>first|assumption|omega)|decide) only[bd,ep,d1,z1,Ue,YK,Z9,c18,Z4,Yr,Zy,Zz,Zk,Zm,Zl,Nat.reduceEqDiff,reduceCtorEq,Yu]
   refine⟨_,rfl,?_⟩
   exact k2
  ·have ep:Yo (LK ZM fs fuel k) fs fuel (n+4) 28 [.agg [nI .i64 4,.bool false,nI .i64 0,.str s,.nils,.nils]] H=.ret (nI .i64 0) H2:=ep
   have z1:decide (0=0)=true:=rfl
   simp(maxSteps:=4000000) (disch:=first|assumption|omega|(simp -implicitDefEqProofs only[ZA,ZB]<;>first|assumption|omega)|decide) only[bd,ep,d1,z1,Ue,YK,Z9,c18,Z4,Yr,Zy,Zz,Zk,Zm,Zl,Nat.reduceEqDiff,reduceCtorEq,Yu]
   refine⟨_,rfl,?_⟩
   exact k2
 ·have d1:=Zd h
  rw[d1,SU]
  simp(maxSteps:=4000000) (disch:=first|assumption|omega|(simp -implicitDefEqProofs only[ZA,ZB]<;>first|assumption|omega)|decide) only[bd,d1,Ue,Z9,c18,Z4,Yr,Zy,Zz,Zk,Zm,Zl,Nat.reduceEqDiff,reduceCtorEq,Yu]
  refine⟨_,rfl,?_⟩
  exact ZE.refl _ _
def hxd(n:Nat):List UInt8:=(C2.take (n+1)).drop n
def hx(b:UInt8):List UInt8:=hxd (b.toNat/16)++hxd (b.toNat % 16)
def qL(d:List UInt8):List UInt8:=[115,104,97,50,53,54,58]++d.flatMap hx
theorem Db{n:Nat}(h:n<16):(hxd n).length=1:=by
 have hl:C2.length=16:=rfl
 unfold hxd;rw[ZV,Ys,hl];omega
theorem Zbc(b:UInt8):(hx b).length=2:=by
 have:=b.toNat_lt
 unfold hx;rw[Zo,Db (by omega),Db (by omega)]
theorem xa: ∀l:List UInt8,(l.flatMap hx).length=2*l.length
 |[]=>rfl
 |b::l=>by rw[List.flatMap_cons,Zo,Zbc,xa l,Zw];omega
structure NMI(H:Heap)(d:List UInt8)(b:Nat)(m:Nat)(tm:TM)(H':Heap):Prop where
 i: ∃i,YT tm=nI .i64 i∧i<=32∧m=32 - i∧Xa tm=.str ([115,104,97,50,53,54,58]++(d.take i).flatMap hx)
 t1:YL tm=.ptr b 0
 k:H'=H
theorem fM{H0:Heap}{s:List UInt8}{b:Nat}(hs:s.length=32)(hb:H0.t.get b=some (rG 24 1 (s.map Y6) 0 false true true))(hbn:b<H0.nx)(cl y f d r)(x:X)(m:Nat)(tm:TM)(H:Heap)(hI:NMI H0 s b m tm H):
  ∃o tm' H',DC ⟨cl,y,f,d,r⟩ tm H x=.ok o tm' H' x∧((o=.normal∧ ∃q,q<m∧NMI H0 s b q tm' H')∨(o≠.normal∧(o=.exit 0∧H'=H0∧Xa tm'=.str (qL s)))):=by
 obtain⟨⟨i,t4,hi,rfl,t3⟩,t1,rfl⟩:=hI
 have lw:=Z6 hbn 0
 have t1':=t1
 have AS:=t3
 simp only[T7] at t4
 simp only[Od] at t1
 simp only[TB] at t3
 by_cases hlt:i<32
 ·have d1:decide (i<32)=true:=Zg hlt
  have hlen:=xa (s.take i)
  rw[Ys] at hlen
  have hsl:i<s.length:=by omega
  obtain⟨B,hB⟩: ∃B,s[i]=B:=⟨_,rfl⟩
  have hBl:=B.toNat_lt
  have ix:=λG=>Vd (n:=32) hlt b 0 .i64 G
  rw[Zn] at ix
  have ld: ∀G,ld1 (some (rG 24 1 (s.map Y6) 0 false true true)) i G=.val (nI .u8 B.toNat) G:=λG=>by
   rw[ZX (by rw[Zi];exact hsl),Zh,Z1,Zr hsl,hB];rfl
  have qo:=λG=>qV (a:=B.toNat) (b:=16) (by decide) (by omega) G
  have rm:=λG=>qW (a:=B.toNat) (b:=16) (by decide) G
  have a1:=λG=>yE (a:=B.toNat/16) (b:=1) (by omega) G
  have a2:=λG=>yE (a:=B.toNat % 16) (b:=1) (by omega) G
  have ZdO:C2.length=16:=rfl
  have s1:=λG=>ye (s:=C2) (p:=B.toNat/16) (q:=B.toNat/16+1) (by omega) (by omega) .u8 .u8 G
  have s2:=λG=>ye (s:=C2) (p:=B.toNat % 16) (q:=B.toNat % 16+1) (by omega) (by omega) .u8 .u8 G
  obtain⟨P,hP⟩: ∃P,[115,104,97,50,53,54,58]++(s.take i).flatMap hx=P:=⟨_,rfl⟩
  have hPl:P.length<=71:=by rw[<-hP,Zo,hlen];simp only[Zw,ZZ];omega
  rw[hP] at t3
  have c1:(hxd (B.toNat/16)).length=1:=Db (by omega)
  have c2:(hxd (B.toNat % 16)).length=1:=Db (by omega)
  have s1: ∀G,Ky (.str C2) (some (nI .u8 (B.toNat/16))) (some (nI .u8 (B.toNat/16+1))) G=.val (.str (hxd (B.toNat/16))) G:=s1
  have s2: ∀G,Ky (.str C2) (some (nI .u8 (B.toNat % 16))) (some (nI .u8 (B.toNat % 16+1))) G=.val (.str (hxd (B.toNat % 16))) G:=s2
  have p1:=λG=>Vi (a:=P) (b:=hxd (B.toNat/16)) (by omega) G
  have p2:=λG=>Vi (a:=P++hxd (B.toNat/16)) (b:=hxd (B.toNat % 16)) (by rw[Zo];omega) G
  have ad:=λG=>WM (a:=i) (b:=1) (by omega) G
  have nx:P++hxd (B.toNat/16)++hxd (B.toNat % 16)=[115,104,97,50,53,54,58]++(s.take (i+1)).flatMap hx:=by
   rw[List.take_succ_eq_append_getElem hsl,List.flatMap_append,<-Y4,hP,hB,Y4];simp[hx]
  simp(maxSteps:=4000000) (disch:=first|assumption|omega|(simp -implicitDefEqProofs only[ZA,ZB]<;>first|assumption|omega)|decide) only[t1,t3,t4,d1,lw,ix,hb,ld,qo,rm,a1,a2,s1,s2,p1,p2,ad,Zx,DC,Z4,Yr,Zy,Zz,Zk,Zm,Zl,Nat.reducePow,Nat.reduceDiv,Nat.reduceMod,Nat.reduceEqDiff,reduceCtorEq,Yu]
  refine⟨_,_,_,rfl,?_⟩
  exact .inl ⟨rfl,32 - (i+1),by omega,⟨⟨i+1,(by simp only[Yu,Yr]),by omega,rfl,by rw[<-nx];exact(by simp only[Yu,Yr])⟩,(by simp only[Yu,Yr];exact t1'),rfl⟩⟩
 ·have d1:decide (i<32)=false:=Zd hlt
  have ht:s.take i=s:=YH (by omega)
  simp(maxSteps:=4000000) (disch:=first|assumption|omega|(simp -implicitDefEqProofs only[ZA,ZB]<;>first|assumption|omega)|decide) only[t1,t4,d1,Zx,DC,Z4,Yr,Zy,Zz,Zk,Zm,Zl,Nat.reducePow,Nat.reduceDiv,Nat.reduceMod,Nat.reduceEqDiff,reduceCtorEq,Yu]
  refine⟨_,_,_,rfl,?_⟩
  exact .inr ⟨by simp,rfl,rfl,by rw[ht] at AS;exact(by simp only[Yu,Yr];exact AS)⟩
theorem kS{ZM:Lib}{fs:T CF}{fuel:Nat}(E:Env ZM fs fuel){k n:Nat}{s:List UInt8}{H:Heap}(hs:s.length=32):
  ∃H',Yo (LK ZM fs fuel k) fs fuel (n+1) 22 [.agg (s.map Y6)] H=.ret (.str (qL s)) H'∧ZE H H' []:=by
 rw[YM (YW E.n22 (.inr rfl) _ _) E.f22]
 obtain⟨H1,hH1⟩: ∃G,H.new (rG 24 1 (s.map Y6) 0 false true true)=G:=⟨_,rfl⟩
 have bx:=Vt (l:=s.map Y6) (by rw[Zi];omega) 24 H
 rw[hH1] at bx
 have k1:ZE H H1 []:=by rw[<-hH1];exact ZE.new H _ _
 have g1:H1.t.get H.nx=some (rG 24 1 (s.map Y6) 0 false true true):=by rw[<-hH1,Z3 rfl]
 simp(maxSteps:=4000000) (disch:=first|assumption|omega|(simp -implicitDefEqProofs only[ZA,ZB]<;>first|assumption|omega)|decide) only[bx,c22,Z4,Yr,Zy,Zz,Zk,Zm,Zl,Nat.reduceEqDiff,reduceCtorEq,Yu,VW]
 generalize hL:Wu (DC _) fuel _ _ _=L
 obtain⟨o,Pi,H2,rfl,_,rfl,rfl,t3⟩:=X9 (P:=λT'=>NMI H1 s H.nx 32 T' H1) (Q:=λo tm' H'=>o=.exit 0∧H'=H1∧Xa tm'=.str (qL s))
  (λT' hi'=>Wv (NMI H1 s H.nx) _ (λm tm H' h'=>fM hs g1 (by rw[<-hH1];exact Yq _) _ _ _ _ _ _ m tm H' h') fuel 32 T' H1 (by have:=E.big;omega) hi') hL
  ⟨⟨0,(by simp only[Yu,Yr]),Yv _,rfl,(by simp only[Yu,Yr];rfl)⟩,(by simp only[Yu,Yr]),rfl⟩
 simp only[TB] at t3
 simp(maxSteps:=4000000) (disch:=first|assumption|omega|(simp -implicitDefEqProofs only[ZA,ZB]<;>first|assumption|omega)|decide) only[t3,c22,Z4,Yr,Zy,Zz,Zk,Zm,Zl,Nat.reduceEqDiff,reduceCtorEq,Yu,VW]
 refine⟨_,rfl,?_⟩
 exact k1
end
end Go.AI
