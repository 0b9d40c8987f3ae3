/- Texts quoted, numbers written, by the document's code: walked: proved without conditions but those that each names. -/
import Derived.Test.YtbmjgbajoemnaaaGreatDoorP9
import Derived.Test.YtbmjgbajoemnaaaGreatDoorP8
import Derived.Test.YtbmjgbajoemnaaaGreatDoorPB
set_option maxRecDepth 1000000
set_option maxHeartbeats 0
set_option linter.unusedVariables false
set_option linter.unusedSimpArgs false
namespace Go.AI
open Go
noncomputable section
def zE(s:List UInt8)(i:Nat):Nat->Nat->Nat->Option Nat
 |0,_,x=>some x
 |m+1,j,x=>if XN s (i+j)<128∨192<=XN s (i+j) then none else zE s i m (j+1) (64*x+XN s (i+j) - 128)
def U8(c:Nat):Nat:=if c<192 then 0 else if c<224 then 2 else if c<240 then 3 else if c<248 then 4 else 0
def Nm(c:Nat):Nat:=if c<192 then 0 else if c<224 then c - 192 else if c<240 then c - 224 else if c<248 then c - 240 else 0
def QP:List Nat:=[0,0,128,2048,65536]
def ac(s:List UInt8)(i:Nat):Nat:=
 if XN s i<128 then 1 else
 if U8 (XN s i)=0∨s.length<i+U8 (XN s i) then 0 else
 match zE s i (U8 (XN s i) - 1) 1 (Nm (XN s i)) with
 |none=>0
 |some x=>if x<QP.getD (U8 (XN s i)) 0∨1114111<x∨(55296<=x∧x<=57343) then 0 else U8 (XN s i)
theorem Ld(s:List UInt8)(i m j x:Nat):zE s i (m+1) j x=if XN s (i+j)<128∨192<=XN s (i+j) then none else zE s i m (j+1) (64*x+XN s (i+j) - 128):=rfl
theorem ae{s:List UInt8}{i:Nat}(hi:i<s.length):ac s i=Tn (s.drop i):=by
 have b: ∀j,XN (s.drop i) j=XN s (i+j):=λj=>K7 s i j
 have hl:(s.drop i).length=s.length - i:=Yr ..
 unfold ac Tn
 simp only
 rw[b 0,b 1,b 2,b 3,ZZ,hl]
 have ZiN:=NX s i
 have h1:=NX s (i+1)
 have h2:=NX s (i+2)
 have h3:=NX s (i+3)
 generalize hc:XN s i=cc at*
 by_cases h:cc<128
 ·rw[if_pos h,if_pos h]
 rw[if_neg h,if_neg h]
 have key: ∀x,x<256->128<=x->(U8 x=0∧U1 x % 8≠2∧U1 x % 8≠3∧U1 x % 8≠4)∨(U8 x=2∧Nm x=x - 192∧192<=x∧x<224∧((x<194∧U1 x % 8=1)∨(194<=x∧U1 x=2)))∨
   (U8 x=3∧Nm x=x - 224∧((x=224∧U1 x=19)∨(x=237∧U1 x=35)∨(224<x∧x<240∧x≠237∧U1 x=3)))∨(U8 x=4∧Nm x=x - 240∧((x=240∧U1 x=52)∨(240<x∧x<244∧U1 x=4)∨(x=244∧U1 x=68)∨(244<x∧x<248∧U1 x % 8=1))):=by
  intro x h1 h2
  have k0: ∀x,x<256->(128<=x∧(x<192∨248<=x))->(U8 x=0∧U1 x % 8≠2∧U1 x % 8≠3∧U1 x % 8≠4):=by decide+kernel
  have k2: ∀x,x<256->(192<=x∧x<194)->(U8 x=2∧Nm x=x - 192∧U1 x % 8=1):=by decide+kernel
  have k2': ∀x,x<256->(194<=x∧x<224)->(U8 x=2∧Nm x=x - 192∧U1 x=2):=by decide+kernel
  have k3: ∀x,x<256->(224<=x∧x<240)->(U8 x=3∧Nm x=x - 224):=by decide+kernel
  have k3': ∀x,x<256->(224<x∧x<240∧x≠237)->U1 x=3:=by decide+kernel
  have k4: ∀x,x<256->(240<=x∧x<248)->(U8 x=4∧Nm x=x - 240):=by decide+kernel
  have FJ: ∀x,x<256->(240<x∧x<244)->U1 x=4:=by decide+kernel
  have k4b: ∀x,x<256->(244<x∧x<248)->U1 x % 8=1:=by decide+kernel
  by_cases c0:x<192∨248<=x
  ·exact .inl (k0 x h1 ⟨h2,c0⟩)
  by_cases c1:x<194
  ·obtain⟨p,q,r⟩:=k2 x h1 (by omega)
   exact .inr (.inl ⟨p,q,by omega,by omega,.inl ⟨c1,r⟩⟩)
  by_cases c2:x<224
  ·obtain⟨p,q,r⟩:=k2' x h1 (by omega)
   exact .inr (.inl ⟨p,q,by omega,by omega,.inr ⟨by omega,r⟩⟩)
  by_cases c3:x<240
  ·obtain⟨p,q⟩:=k3 x h1 (by omega)
   refine .inr (.inr (.inl ⟨p,q,?_⟩))
   by_cases e:x=224
   ·exact .inl ⟨e,by rw[e];rfl⟩
   by_cases e2:x=237
   ·exact .inr (.inl ⟨e2,by rw[e2];rfl⟩)
   exact .inr (.inr ⟨by omega,by omega,e2,k3' x h1 ⟨by omega,by omega,e2⟩⟩)
  ·obtain⟨p,q⟩:=k4 x h1 (by omega)
   refine .inr (.inr (.inr ⟨p,q,?_⟩))
   by_cases e:x=240
   ·exact .inl ⟨e,by rw[e];rfl⟩
   by_cases e2:x<244
   ·exact .inr (.inl ⟨by omega,e2,FJ x h1 ⟨by omega,e2⟩⟩)
   by_cases e3:x=244
   ·exact .inr (.inr (.inl ⟨e3,by rw[e3];rfl⟩))
   exact .inr (.inr (.inr ⟨by omega,by omega,k4b x h1 ⟨by omega,by omega⟩⟩))
 have b1:XN s (i+1)=XN s (i+1):=rfl
 generalize hy:XN s (i+1)=y at*
 generalize hz:XN s (i+2)=z at*
 generalize hw:XN s (i+3)=w at*
 have a0:T1.getD 0 0=128∧T1.getD 1 0=191∧T1.getD 2 0=160∧T1.getD 3 0=191∧T1.getD 4 0=128∧T1.getD 5 0=159∧T1.getD 6 0=144∧T1.getD 7 0=191∧T1.getD 8 0=128∧T1.getD 9 0=143:=by decide
 obtain⟨p0,p1,p2,p3,p4,p5,p6,p7,p8,p9⟩:=a0
 have l2:QP.getD 2 0=128:=rfl
 have l3:QP.getD 3 0=2048:=rfl
 have l4:QP.getD 4 0=65536:=rfl
 rcases key cc ZiN (by omega) with⟨e,e1,e2,e3⟩|⟨e,ef,g1,g2,hx⟩|⟨e,ef,hx⟩|⟨e,ef,hx⟩
 ·rw[e,if_pos (.inl rfl),if_neg e1,if_neg e2,if_neg e3]
 ·rw[e,ef]
  show(if 2=0∨s.length<i+2 then 0 else match zE s i 1 1 (cc - 192) with|none=>0|some x=>if x<QP.getD 2 0∨1114111<x∨(55296<=x∧x<=57343) then 0 else 2)=_
  rw[Ld,hy,l2]
  show(if 2=0∨s.length<i+2 then 0 else match(if y<128∨192<=y then none else some (64*(cc - 192)+y - 128)) with|none=>0|some x=>if x<128∨1114111<x∨(55296<=x∧x<=57343) then 0 else 2)=_
  rcases hx with⟨hx,hf⟩|⟨hx,hf⟩
  ·rw[if_neg (show ¬U1 cc % 8=2 by omega),if_neg (show ¬U1 cc % 8=3 by omega),if_neg (show ¬U1 cc % 8=4 by omega)]
   split
   ·rfl
   ·by_cases hq:y<128∨192<=y
    ·rw[if_pos hq]
    ·rw[if_neg hq];simp only;rw[if_pos (by omega)]
  ·rw[hf]
   show _=(if s.length - i<2∨y<T1.getD 0 0∨T1.getD 1 0<y then 0 else 2)
   rw[p0,p1]
   by_cases hL:s.length<i+2
   ·rw[if_pos (.inr hL),if_pos (.inl (by omega))]
   ·rw[if_neg (by omega)]
    by_cases hq:y<128∨192<=y
    ·rw[if_pos hq,if_pos (by omega)]
    ·rw[if_neg hq,if_neg (by omega)];simp only;rw[if_neg (by omega)]
 ·rw[e,ef]
  show(if 3=0∨s.length<i+3 then 0 else match zE s i 2 1 (cc - 224) with|none=>0|some x=>if x<QP.getD 3 0∨1114111<x∨(55296<=x∧x<=57343) then 0 else 3)=_
  rw[Ld,hy,Ld,hz,l3]
  show(if 3=0∨s.length<i+3 then 0 else match(if y<128∨192<=y then none else if z<128∨192<=z then none else some (64*(64*(cc - 224)+y - 128)+z - 128)) with|none=>0|some x=>if x<2048∨1114111<x∨(55296<=x∧x<=57343) then 0 else 3)=_
  have fin: ∀(lo hi:Nat),(128<=lo∧hi<=191)->(∀yy zz,128<=yy->yy<192->128<=zz->zz<192->((64*(64*(cc - 224)+yy - 128)+zz - 128<2048∨1114111<64*(64*(cc - 224)+yy - 128)+zz - 128∨(55296<=64*(64*(cc - 224)+yy - 128)+zz - 128∧64*(64*(cc - 224)+yy - 128)+zz - 128<=57343))↔(yy<lo∨hi<yy)))->
    (if 3=0∨s.length<i+3 then 0 else match(if y<128∨192<=y then none else if z<128∨192<=z then none else some (64*(64*(cc - 224)+y - 128)+z - 128)) with|none=>0|some x=>if x<2048∨1114111<x∨(55296<=x∧x<=57343) then 0 else 3)=if s.length - i<3∨y<lo∨hi<y∨z<128∨191<z then 0 else 3:=by
   intro lo hi hb hk
   by_cases hL:s.length<i+3
   ·rw[if_pos (.inr hL),if_pos (.inl (by omega))]
   ·rw[if_neg (by omega)]
    by_cases hq:y<128∨192<=y
    ·rw[if_pos hq,if_pos (by omega)]
    ·rw[if_neg hq]
     by_cases hq2:z<128∨192<=z
     ·rw[if_pos hq2,if_pos (by omega)]
     ·rw[if_neg hq2]
      simp only
      have:=hk y z (by omega) (by omega) (by omega) (by omega)
      by_cases hr:y<lo∨hi<y
      ·rw[if_pos (this.2 hr),if_pos (by omega)]
      ·rw[if_neg (λh=>hr (this.1 h)),if_neg (by omega)]
  rcases hx with⟨rfl,hf⟩|⟨rfl,hf⟩|⟨g1,g2,g3,hf⟩
  ·rw[hf]
   show _=(if s.length - i<3∨y<T1.getD 2 0∨T1.getD 3 0<y∨z<128∨191<z then 0 else 3)
   rw[p2,p3]
   exact fin 160 191 (by omega) (λyy zz _ _ _ _=>by omega)
  ·rw[hf]
   show _=(if s.length - i<3∨y<T1.getD 4 0∨T1.getD 5 0<y∨z<128∨191<z then 0 else 3)
   rw[p4,p5]
   exact fin 128 159 (by omega) (λyy zz _ _ _ _=>by omega)
  ·rw[hf]
   show _=(if s.length - i<3∨y<T1.getD 0 0∨T1.getD 1 0<y∨z<128∨191<z then 0 else 3)
   rw[p0,p1]
   exact fin 128 191 (by omega) (λyy zz _ _ _ _=>by omega)
 ·rw[e,ef]
  show(if 4=0∨s.length<i+4 then 0 else match zE s i 3 1 (cc - 240) with|none=>0|some x=>if x<QP.getD 4 0∨1114111<x∨(55296<=x∧x<=57343) then 0 else 4)=_
  rw[Ld,hy,Ld,hz,Ld,hw,l4]
  show(if 4=0∨s.length<i+4 then 0 else match(if y<128∨192<=y then none else if z<128∨192<=z then none else if w<128∨192<=w then none else some (64*(64*(64*(cc - 240)+y - 128)+z - 128)+w - 128)) with|none=>0|some x=>if x<65536∨1114111<x∨(55296<=x∧x<=57343) then 0 else 4)=_
  have fin: ∀(lo hi:Nat),(128<=lo∧hi<=191)->(∀yy zz ww,128<=yy->yy<192->128<=zz->zz<192->128<=ww->ww<192->((64*(64*(64*(cc - 240)+yy - 128)+zz - 128)+ww - 128<65536∨1114111<64*(64*(64*(cc - 240)+yy - 128)+zz - 128)+ww - 128∨(55296<=64*(64*(64*(cc - 240)+yy - 128)+zz - 128)+ww - 128∧64*(64*(64*(cc - 240)+yy - 128)+zz - 128)+ww - 128<=57343))↔(yy<lo∨hi<yy)))->
    (if 4=0∨s.length<i+4 then 0 else match(if y<128∨192<=y then none else if z<128∨192<=z then none else if w<128∨192<=w then none else some (64*(64*(64*(cc - 240)+y - 128)+z - 128)+w - 128)) with|none=>0|some x=>if x<65536∨1114111<x∨(55296<=x∧x<=57343) then 0 else 4)=if s.length - i<4∨y<lo∨hi<y∨z<128∨191<z∨w<128∨191<w then 0 else 4:=by
   intro lo hi hb hk
   by_cases hL:s.length<i+4
   ·rw[if_pos (.inr hL),if_pos (.inl (by omega))]
   ·rw[if_neg (by omega)]
    by_cases hq:y<128∨192<=y
    ·rw[if_pos hq,if_pos (by omega)]
    ·rw[if_neg hq]
     by_cases hq2:z<128∨192<=z
     ·rw[if_pos hq2,if_pos (by omega)]
     ·rw[if_neg hq2]
      by_cases hq3:w<128∨192<=w
      ·rw[if_pos hq3,if_pos (by omega)]
      ·rw[if_neg hq3]
       simp only
       have:=hk y z w (by omega) (by omega) (by omega) (by omega) (by omega) (by omega)
       by_cases hr:y<lo∨hi<y
       ·rw[if_pos (this.2 hr),if_pos (by omega)]
       ·rw[if_neg (λh=>hr (this.1 h)),if_neg (by omega)]
  rcases hx with⟨rfl,hf⟩|⟨g1,g2,hf⟩|⟨rfl,hf⟩|⟨g1,g2,hf⟩
  ·rw[hf]
   show _=(if s.length - i<4∨y<T1.getD 6 0∨T1.getD 7 0<y∨z<128∨191<z∨w<128∨191<w then 0 else 4)
   rw[p6,p7]
   exact fin 144 191 (by omega) (λyy zz ww _ _ _ _ _ _=>by omega)
  ·rw[hf]
   show _=(if s.length - i<4∨y<T1.getD 0 0∨T1.getD 1 0<y∨z<128∨191<z∨w<128∨191<w then 0 else 4)
   rw[p0,p1]
   exact fin 128 191 (by omega) (λyy zz ww _ _ _ _ _ _=>by omega)
  ·rw[hf]
   show _=(if s.length - i<4∨y<T1.getD 8 0∨T1.getD 9 0<y∨z<128∨191<z∨w<128∨191<w then 0 else 4)
   rw[p8,p9]
   exact fin 128 143 (by omega) (λyy zz ww _ _ _ _ _ _=>by omega)
  ·rw[if_neg (show ¬U1 cc % 8=2 by omega),if_neg (show ¬U1 cc % 8=3 by omega),if_neg (show ¬U1 cc % 8=4 by omega)]
   split
   ·rfl
   ·by_cases hq:y<128∨192<=y
    ·rw[if_pos hq]
    ·rw[if_neg hq]
     by_cases hq2:z<128∨192<=z
     ·rw[if_pos hq2]
     ·rw[if_neg hq2]
      by_cases hq3:w<128∨192<=w
      ·rw[if_pos hq3]
      ·rw[if_neg hq3]
       simp only
       rw[if_pos (by omega)]
section
variable {Zp:Lib} {fs:T CF} {fuel k n i h b:Nat} {H H0:Heap} {s:List UInt8} {cs:List AV}
structure aR(H0:Heap)(s:List UInt8)(i L:Nat)(T:Option Nat)(m:Nat)(tm:TM)(H:Heap):Prop where
 j: ∃j x,Wc tm=nI .i64 j∧WB tm=nI .i64 x∧1<=j∧j<=L∧m=L - j∧x+1<=33*64^(j - 1)∧zE s i (L - j) j x=T
 t0:Ys tm=.str s
 t1:Y2 tm=nI .i64 i
 t6:WN tm=nI .i64 L
 h:H=H0
theorem xE{cl:Nat->List AV->Heap->CR}{L:Nat}{T:Option Nat}(hL:L<=4)(hi:i+L<=s.length)(hl:s.length<1000000000)(y f d r)(x:X)(m:Nat)(tm:TM)(H:Heap)(hI:aR H0 s i L T m tm H):
  ∃o tm' H',MQ ⟨cl,y,f,d,r⟩ tm H x=.ok o tm' H' x∧((o=.normal∧ ∃q,q<m∧aR H0 s i L T q tm' H')∨(o≠.normal∧H'=H0∧((o=.exit 0∧WN tm'=nI .i64 L∧ ∃x,T=some x∧WB tm'=nI .i64 x∧x<9000000)∨(o=.ret∧T=none∧Xf tm'=nI .i64 0)))):=by
 obtain⟨⟨j,z,t8,t7,h1,hj,rfl,hz,hT⟩,t0,t1,t6,rfl⟩:=hI
 have zW:=t8;have lZ:=t7;have t0':=t0;have t1':=t1;have t6':=t6
 simp only[Pn,PM,Ab,CK,Jw] at t0 t1 t6 t7 t8
 by_cases hlt:j<L
 ·have d1:decide (j<L)=true:=Ze hlt
  have hd:=NX s (i+j)
  have hzb:z<140000:=by
   have:j=1∨j=2∨j=3:=by omega
   rcases this with rfl|rfl|rfl
   ·have:33*64^(1 - 1)=33:=rfl
    omega
   ·have:33*64^(2 - 1)=2112:=rfl
    omega
   ·have:33*64^(3 - 1)=135168:=rfl
    omega
  have e1:L - j=(L - (j+1))+1:=by omega
  rw[e1,Ld] at hT
  generalize hb:XN s (i+j)=b at*
  have ix: ∀(k:IntKind) (G:Heap),R5 (.str s) (nI k (i+j)) G=.val (nI .u8 b) G:=λk G=>by rw[Wf (by omega),hb]
  have iw:=λ(G:Heap)=>Kp hd G
  have a1:=λ(G:Heap)=>YZ (a:=i) (b:=j) (by omega) G
  by_cases h2:b<128
  ·have d2:decide (b<128)=true:=Ze h2
   rw[if_pos (.inl h2)] at hT
   simp only[t0,t1,t6,t8,d1,ix,iw,a1,d2,ZH,MQ,ZC,ZY,Z4,WG,Rn]
   refine⟨_,_,_,rfl,?_⟩
   exact .inr ⟨by simp,rfl,.inr ⟨rfl,hT.symm,(by simp only[ZY])⟩⟩
  ·have d2:decide (b<128)=false:=Zb h2
   by_cases h3:192<=b
   ·have d3:decide (192<=b)=true:=Ze h3
    rw[if_pos (.inr h3)] at hT
    simp only[t0,t1,t6,t8,d1,ix,iw,a1,d2,d3,ZH,Xb,MQ,ZC,ZY,Z4,WG,Rn]
    refine⟨_,_,_,rfl,?_⟩
    exact .inr ⟨by simp,rfl,.inr ⟨rfl,hT.symm,(by simp only[ZY])⟩⟩
   ·have d3:decide (192<=b)=false:=Zb h3
    rw[if_neg (by omega)] at hT
    have m1:=λ(G:Heap)=>Kx (a:=64) (b:=z) (by omega) G
    have a2:=λ(G:Heap)=>YZ (a:=64*z) (b:=b) (by omega) G
    have s1:=λ(G:Heap)=>Vj (a:=64*z+b) (b:=128) (by omega) (by omega) G
    simp(disch:=omega) only[t0,t1,t6,t7,t8,d1,ix,iw,a1,d2,d3,m1,a2,s1,YZ,ZH,Xb,MQ,ZC,ZY,Z4,WG,Rn]
    refine⟨_,_,_,rfl,.inl ⟨rfl,L - (j+1),by omega,⟨⟨j+1,64*z+b - 128,rfl,rfl,by omega,by omega,rfl,?_,hT⟩,t0',t1',t6',rfl⟩⟩⟩
    have:j=1∨j=2∨j=3:=by omega
    rcases this with rfl|rfl|rfl
    ·have:33*64^(1 - 1)=33:=rfl
     omega
    ·have:33*64^(2 - 1)=2112:=rfl
     omega
    ·have:33*64^(3 - 1)=135168:=rfl
     omega
 ·have d1:decide (j<L)=false:=Zb hlt
  have e1:L - j=0:=by omega
  rw[e1] at hT
  have hT:some z=T:=hT
  have hz2:z<9000000:=by
   have:j=1∨j=2∨j=3∨j=4:=by omega
   rcases this with rfl|rfl|rfl|rfl
   ·have:33*64^(1 - 1)=33:=rfl
    omega
   ·have:33*64^(2 - 1)=2112:=rfl
    omega
   ·have:33*64^(3 - 1)=135168:=rfl
    omega
   ·have:33*64^(4 - 1)=8650752:=rfl
    omega
  simp only[t6,t8,d1,ZH,MQ,ZC,ZY,Z4,WG]
  refine⟨_,_,_,rfl,?_⟩
  exact .inr ⟨by simp,rfl,.inl ⟨rfl,(by simp only[ZY];exact t6'),z,hT.symm,(by simp only[ZY];exact lZ),hz2⟩⟩
theorem ru(E:Env Zp fs fuel)(hi:i<s.length)(hl:s.length<1000000000):
  ∃H',ZJ (LK Zp fs fuel k) fs fuel (n+1) 89 [.str s,nI .i64 i] H=.ret (nI .i64 (ac s i)) H'∧Zq H H' []:=by
 rw[ZL (ZF E.n89 (.inr rfl) _ _) E.f89]
 have hc:=NX s i
 have ix: ∀(k:IntKind) (G:Heap),R5 (.str s) (nI k i) G=.val (nI .u8 (XN s i)) G:=λk G=>Wf hi k G
 have iw:=λ(G:Heap)=>Kp hc G
 unfold ac
 generalize XN s i=b at*
 have bs: ∀G:Heap,Wa 3 1 5 (List.replicate 5 [nI .i64 0]).flatten [(0,1,nI .i64 0),(1,1,nI .i64 0),(2,1,nI .i64 128),(3,1,nI .i64 2048),(4,1,nI .i64 65536)] G=.val (.slice G.nx 0 5 none) (G.new (rH 3 [nI .i64 0,nI .i64 0,nI .i64 128,nI .i64 2048,nI .i64 65536])):=λG=>rfl
 have lft: ∀(L:Nat),L<=4-> ∀G:Heap,ld1 (some (rH 3 [nI .i64 0,nI .i64 0,nI .i64 128,nI .i64 2048,nI .i64 65536])) L G=.val (nI .i64 (QP.getD L 0)) G:=λL hL G=>by
  have:L=0∨L=1∨L=2∨L=3∨L=4:=by omega
  rcases this with rfl|rfl|rfl|rfl|rfl<;>rfl
 by_cases h1:b<128
 ·have d1:decide (b<128)=true:=Ze h1
  rw[if_pos h1]
  simp only[ix,iw,d1,ZH,kz,ZC,ZY,Zz,Z4,]
  refine⟨_,rfl,?_⟩
  exact Zq.refl _ _
 ·have d1:decide (b<128)=false:=Zb h1
  rw[if_neg h1]
  by_cases hA:b<192∨248<=b
  ·have hL:U8 b=0:=by unfold U8;split;rfl;rw[if_neg (by omega),if_neg (by omega),if_neg (by omega)]
   rw[hL,if_pos (.inl rfl)]
   by_cases hB:b<192
   ·have c1:decide (192<=b)=false:=Zb (by omega)
    have c2:decide (224<=b)=false:=Zb (by omega)
    have c3:decide (240<=b)=false:=Zb (by omega)
    have e0:decide (0=0)=true:=rfl
    simp only[ix,iw,d1,c1,c2,c3,ZH,Xb,YD,kz,ZC,ZY,Zz,Zw,Z4,WG]
    refine⟨_,rfl,?_⟩
    exact Zq.refl _ _
   ·have c1:decide (192<=b)=true:=Ze (by omega)
    have c2:decide (224<=b)=true:=Ze (by omega)
    have c3:decide (240<=b)=true:=Ze (by omega)
    have f1:decide (b<224)=false:=Zb (by omega)
    have f2:decide (b<240)=false:=Zb (by omega)
    have f3:decide (b<248)=false:=Zb (by omega)
    have e0:decide (0=0)=true:=rfl
    simp only[ix,iw,d1,c1,c2,c3,f1,f2,f3,ZH,Xb,YD,kz,ZC,ZY,Zz,Zw,Z4,WG]
    refine⟨_,rfl,?_⟩
    exact Zq.refl _ _
  by_cases h2:b<224
  ·have hL:U8 b=2:=by unfold U8;rw[if_neg (by omega),if_pos (by omega)]
   have hF:Nm b=b - 192:=by unfold Nm;rw[if_neg (by omega),if_pos (by omega)]
   rw[hL,hF]
   have c1:decide (192<=b)=true:=Ze (by omega)
   have c2:decide (224<=b)=false:=Zb (by omega)
   have c3:decide (240<=b)=false:=Zb (by omega)
   have f1:decide (b<224)=true:=Ze (by omega)
   have e0:decide (2=0)=false:=rfl
   have sb:=λ(G:Heap)=>Vj (a:=b) (b:=192) (by omega) (by omega) G
   have a1:=λ(G:Heap)=>YZ (a:=i) (b:=2) (by omega) G
   by_cases hg:s.length<i+2
   ·have g1:decide (s.length<i+2)=true:=Ze hg
    rw[if_pos (.inr hg)]
    simp only[ix,iw,d1,c1,c2,c3,f1,sb,a1,g1,ZH,Xb,Yi,YD,kz,ZC,ZY,Zz,Zw,reduceCtorEq,Z4,WG]
    refine⟨_,rfl,?_⟩
    exact Zq.refl _ _
   ·have g1:decide (s.length<i+2)=false:=Zb hg
    rw[if_neg (by omega)]
    simp only[ix,iw,d1,c1,c2,c3,f1,sb,a1,g1,ZH,Xb,Yi,YD,kz,ZC,ZY,Zw,reduceCtorEq,Z4,WG]
    generalize hLp:XQ (MQ _) fuel _ _ _=Lp
    obtain⟨o,Tx,H1,rfl,_,rfl,hq⟩:=YA (P:=λtm=>aR H s i 2 (zE s i (2 - 1) 1 (b - 192)) (2 - 1) tm H) (Q:=λo tm' H'=>H'=H∧((o=.exit 0∧WN tm'=nI .i64 2∧ ∃x,zE s i (2 - 1) 1 (b - 192)=some x∧WB tm'=nI .i64 x∧x<9000000)∨(o=.ret∧zE s i (2 - 1) 1 (b - 192)=none∧Xf tm'=nI .i64 0)))
     (λtm hi'=>YK (aR H s i 2 (zE s i (2 - 1) 1 (b - 192))) _ (λm tm H' h'=>xE (by decide) (by omega) hl _ _ _ _ _ m tm H' h') fuel (2 - 1) tm H (by have:=E.big;omega) hi') hLp
     ⟨⟨1,b - 192,rfl,rfl,Zl _,by decide,rfl,by show b - 192+1<=33;omega,rfl⟩,rfl,rfl,rfl,rfl⟩
    rcases hq with⟨rfl,t6,x,hx,t7,hx9⟩|⟨rfl,hx,t4⟩
    ·simp only[Ab,CK] at t6 t7
     rw[hx]
     simp only
     have lf:=lft 2 (by decide)
     have ixs:=λ(G:Heap)=>Xx (n:=5) (i:=2) (by decide) H1.nx 0 none .i64 G
     rw[Zs] at ixs
     have gz:(H1.new (rH 3 [nI .i64 0,nI .i64 0,nI .i64 128,nI .i64 2048,nI .i64 65536])).t.get H1.nx=some (rH 3 [nI .i64 0,nI .i64 0,nI .i64 128,nI .i64 2048,nI .i64 65536]):=Zx rfl _
     generalize QP.getD 2 0=le at*
     by_cases q1:x<le
     ·have p1:decide (x<le)=true:=Ze q1
      rw[if_pos (.inl q1)]
      simp only[t6,t7,bs,ixs,gz,lf,p1,ZH,X6,ZC,ZY,Zw,Z4,Rn]
      refine⟨_,rfl,?_⟩
      exact Zq.new _ _ _
     ·have p1:decide (x<le)=false:=Zb q1
      by_cases q2:1114111<x
      ·have p2:decide (1114111<x)=true:=Ze q2
       rw[if_pos (.inr (.inl q2))]
       simp only[t6,t7,bs,ixs,gz,lf,p1,p2,ZH,Yi,X6,ZC,ZY,Zw,Z4,Rn]
       refine⟨_,rfl,?_⟩
       exact Zq.new _ _ _
      ·have p2:decide (1114111<x)=false:=Zb q2
       by_cases q3:55296<=x
       ·have p3:decide (55296<=x)=true:=Ze q3
        by_cases q4:x<=57343
        ·have p4:decide (x<=57343)=true:=Ze q4
         rw[if_pos (.inr (.inr ⟨q3,q4⟩))]
         simp only[t6,t7,bs,ixs,gz,lf,p1,p2,p3,p4,ZH,Yi,Xb,X6,ZC,ZY,Zz,Zw,Z4,Rn]
         refine⟨_,rfl,?_⟩
         exact Zq.new _ _ _
        ·have p4:decide (x<=57343)=false:=Zb q4
         rw[if_neg (by omega)]
         simp only[t6,t7,bs,ixs,gz,lf,p1,p2,p3,p4,ZH,Yi,Xb,X6,ZC,ZY,Zz,Zw,Z4,Rn]
         refine⟨_,rfl,?_⟩
         exact Zq.new _ _ _
       ·have p3:decide (55296<=x)=false:=Zb q3
        rw[if_neg (by omega)]
        simp only[t6,t7,bs,ixs,gz,lf,p1,p2,p3,ZH,Yi,Xb,ZC,ZY,Zz,Zw,Z4,Rn]
        refine⟨_,rfl,?_⟩
        exact Zq.new _ _ _
    ·simp only[OI] at t4
     rw[hx]
     simp only[t4,ZC,Zz,Z4,]
     refine⟨_,rfl,?_⟩
     exact Zq.refl _ _
  by_cases h3:b<240
  ·have hL:U8 b=3:=by unfold U8;rw[if_neg (by omega),if_neg (by omega),if_pos (by omega)]
   have hF:Nm b=b - 224:=by unfold Nm;rw[if_neg (by omega),if_neg (by omega),if_pos (by omega)]
   rw[hL,hF]
   have c1:decide (192<=b)=true:=Ze (by omega)
   have c2:decide (224<=b)=true:=Ze (by omega)
   have c3:decide (240<=b)=false:=Zb (by omega)
   have f1:decide (b<224)=false:=Zb (by omega)
   have f2:decide (b<240)=true:=Ze (by omega)
   have e0:decide (3=0)=false:=rfl
   have sb:=λ(G:Heap)=>Vj (a:=b) (b:=224) (by omega) (by omega) G
   have a1:=λ(G:Heap)=>YZ (a:=i) (b:=3) (by omega) G
   by_cases hg:s.length<i+3
   ·have g1:decide (s.length<i+3)=true:=Ze hg
    rw[if_pos (.inr hg)]
    simp only[ix,iw,d1,c1,c2,c3,f1,f2,sb,a1,g1,ZH,Xb,Yi,YD,kz,ZC,ZY,Zz,Zw,reduceCtorEq,Z4,WG]
    refine⟨_,rfl,?_⟩
    exact Zq.refl _ _
   ·have g1:decide (s.length<i+3)=false:=Zb hg
    rw[if_neg (by omega)]
    simp only[ix,iw,d1,c1,c2,c3,f1,f2,sb,a1,g1,ZH,Xb,Yi,YD,kz,ZC,ZY,Zw,reduceCtorEq,Z4,WG]
    generalize hLp:XQ (MQ _) fuel _ _ _=Lp
    obtain⟨o,Tx,H1,rfl,_,rfl,hq⟩:=YA (P:=λtm=>aR H s i 3 (zE s i (3 - 1) 1 (b - 224)) (3 - 1) tm H) (Q:=λo tm' H'=>H'=H∧((o=.exit 0∧WN tm'=nI .i64 3∧ ∃x,zE s i (3 - 1) 1 (b - 224)=some x∧WB tm'=nI .i64 x∧x<9000000)∨(o=.ret∧zE s i (3 - 1) 1 (b - 224)=none∧Xf tm'=nI .i64 0)))
     (λtm hi'=>YK (aR H s i 3 (zE s i (3 - 1) 1 (b - 224))) _ (λm tm H' h'=>xE (by decide) (by omega) hl _ _ _ _ _ m tm H' h') fuel (3 - 1) tm H (by have:=E.big;omega) hi') hLp
     ⟨⟨1,b - 224,rfl,rfl,Zl _,by decide,rfl,by show b - 224+1<=33;omega,rfl⟩,rfl,rfl,rfl,rfl⟩
    rcases hq with⟨rfl,t6,x,hx,t7,hx9⟩|⟨rfl,hx,t4⟩
    ·simp only[Ab,CK] at t6 t7
     rw[hx]
     simp only
     have lf:=lft 3 (by decide)
     have ixs:=λ(G:Heap)=>Xx (n:=5) (i:=3) (by decide) H1.nx 0 none .i64 G
     rw[Zs] at ixs
     have gz:(H1.new (rH 3 [nI .i64 0,nI .i64 0,nI .i64 128,nI .i64 2048,nI .i64 65536])).t.get H1.nx=some (rH 3 [nI .i64 0,nI .i64 0,nI .i64 128,nI .i64 2048,nI .i64 65536]):=Zx rfl _
     generalize QP.getD 3 0=le at*
     by_cases q1:x<le
     ·have p1:decide (x<le)=true:=Ze q1
      rw[if_pos (.inl q1)]
      simp only[t6,t7,bs,ixs,gz,lf,p1,ZH,X6,ZC,ZY,Zw,Z4,Rn]
      refine⟨_,rfl,?_⟩
      exact Zq.new _ _ _
     ·have p1:decide (x<le)=false:=Zb q1
      by_cases q2:1114111<x
      ·have p2:decide (1114111<x)=true:=Ze q2
       rw[if_pos (.inr (.inl q2))]
       simp only[t6,t7,bs,ixs,gz,lf,p1,p2,ZH,Yi,X6,ZC,ZY,Zw,Z4,Rn]
       refine⟨_,rfl,?_⟩
       exact Zq.new _ _ _
      ·have p2:decide (1114111<x)=false:=Zb q2
       by_cases q3:55296<=x
       ·have p3:decide (55296<=x)=true:=Ze q3
        by_cases q4:x<=57343
        ·have p4:decide (x<=57343)=true:=Ze q4
         rw[if_pos (.inr (.inr ⟨q3,q4⟩))]
         simp only[t6,t7,bs,ixs,gz,lf,p1,p2,p3,p4,ZH,Yi,Xb,X6,ZC,ZY,Zz,Zw,Z4,Rn]
         refine⟨_,rfl,?_⟩
         exact Zq.new _ _ _
        ·have p4:decide (x<=57343)=false:=Zb q4
         rw[if_neg (by omega)]
         simp only[t6,t7,bs,ixs,gz,lf,p1,p2,p3,p4,ZH,Yi,Xb,X6,ZC,ZY,Zz,Zw,Z4,Rn]
         refine⟨_,rfl,?_⟩
         exact Zq.new _ _ _
       ·have p3:decide (55296<=x)=false:=Zb q3
        rw[if_neg (by omega)]
        simp only[t6,t7,bs,ixs,gz,lf,p1,p2,p3,ZH,Yi,Xb,ZC,ZY,Zz,Zw,Z4,Rn]
        refine⟨_,rfl,?_⟩
        exact Zq.new _ _ _
    ·simp only[OI] at t4
     rw[hx]
     simp only[t4,ZC,Zz,Z4,]
     refine⟨_,rfl,?_⟩
     exact Zq.refl _ _
  have hL:U8 b=4:=by unfold U8;rw[if_neg (by omega),if_neg (by omega),if_neg (by omega),if_pos (by omega)]
  have hF:Nm b=b - 240:=by unfold Nm;rw[if_neg (by omega),if_neg (by omega),if_neg (by omega),if_pos (by omega)]
  rw[hL,hF]
  have c1:decide (192<=b)=true:=Ze (by omega)
  have c2:decide (224<=b)=true:=Ze (by omega)
  have c3:decide (240<=b)=true:=Ze (by omega)
  have f1:decide (b<224)=false:=Zb (by omega)
  have f2:decide (b<240)=false:=Zb (by omega)
  have f3:decide (b<248)=true:=Ze (by omega)
  have sb:=λ(G:Heap)=>Vj (a:=b) (b:=240) (by omega) (by omega) G
  have a1:=λ(G:Heap)=>YZ (a:=i) (b:=4) (by omega) G
  by_cases hg:s.length<i+4
  ·have g1:decide (s.length<i+4)=true:=Ze hg
   rw[if_pos (.inr hg)]
   simp only[ix,iw,d1,c1,c2,c3,f1,f2,f3,sb,a1,g1,ZH,Xb,Yi,YD,kz,ZC,ZY,Zz,Zw,reduceCtorEq,Z4,WG]
   refine⟨_,rfl,?_⟩
   exact Zq.refl _ _
  ·have g1:decide (s.length<i+4)=false:=Zb hg
   rw[if_neg (by omega)]
   simp only[ix,iw,d1,c1,c2,c3,f1,f2,f3,sb,a1,g1,ZH,Xb,Yi,YD,kz,ZC,ZY,Zw,reduceCtorEq,Z4,WG]
   generalize hLp:XQ (MQ _) fuel _ _ _=Lp
   obtain⟨o,Tx,H1,rfl,_,rfl,hq⟩:=YA (P:=λtm=>aR H s i 4 (zE s i (4 - 1) 1 (b - 240)) (4 - 1) tm H) (Q:=λo tm' H'=>H'=H∧((o=.exit 0∧WN tm'=nI .i64 4∧ ∃x,zE s i (4 - 1) 1 (b - 240)=some x∧WB tm'=nI .i64 x∧x<9000000)∨(o=.ret∧zE s i (4 - 1) 1 (b - 240)=none∧Xf tm'=nI .i64 0)))
    (λtm hi'=>YK (aR H s i 4 (zE s i (4 - 1) 1 (b - 240))) _ (λm tm H' h'=>xE (by decide) (by omega) hl _ _ _ _ _ m tm H' h') fuel (4 - 1) tm H (by have:=E.big;omega) hi') hLp
    ⟨⟨1,b - 240,rfl,rfl,Zl _,by decide,rfl,by show b - 240+1<=33;omega,rfl⟩,rfl,rfl,rfl,rfl⟩
   rcases hq with⟨rfl,t6,x,hx,t7,hx9⟩|⟨rfl,hx,t4⟩
   ·simp only[Ab,CK] at t6 t7
    rw[hx]
    simp only
    have lf:=lft 4 (by decide)
    have ixs:=λ(G:Heap)=>Xx (n:=5) (i:=4) (by decide) H1.nx 0 none .i64 G
    rw[Zs] at ixs
    have gz:(H1.new (rH 3 [nI .i64 0,nI .i64 0,nI .i64 128,nI .i64 2048,nI .i64 65536])).t.get H1.nx=some (rH 3 [nI .i64 0,nI .i64 0,nI .i64 128,nI .i64 2048,nI .i64 65536]):=Zx rfl _
    generalize QP.getD 4 0=le at*
    by_cases q1:x<le
    ·have p1:decide (x<le)=true:=Ze q1
     rw[if_pos (.inl q1)]
     simp only[t6,t7,bs,ixs,gz,lf,p1,ZH,X6,ZC,ZY,Zw,Z4,Rn]
     refine⟨_,rfl,?_⟩
     exact Zq.new _ _ _
    ·have p1:decide (x<le)=false:=Zb q1
     by_cases q2:1114111<x
     ·have p2:decide (1114111<x)=true:=Ze q2
      rw[if_pos (.inr (.inl q2))]
      simp only[t6,t7,bs,ixs,gz,lf,p1,p2,ZH,Yi,X6,ZC,ZY,Zw,Z4,Rn]
      refine⟨_,rfl,?_⟩
      exact Zq.new _ _ _
     ·have p2:decide (1114111<x)=false:=Zb q2
      by_cases q3:55296<=x
      ·have p3:decide (55296<=x)=true:=Ze q3
       by_cases q4:x<=57343
       ·have p4:decide (x<=57343)=true:=Ze q4
        rw[if_pos (.inr (.inr ⟨q3,q4⟩))]
        simp only[t6,t7,bs,ixs,gz,lf,p1,p2,p3,p4,ZH,Yi,Xb,X6,ZC,ZY,Zz,Zw,Z4,Rn]
        refine⟨_,rfl,?_⟩
        exact Zq.new _ _ _
       ·have p4:decide (x<=57343)=false:=Zb q4
        rw[if_neg (by omega)]
        simp only[t6,t7,bs,ixs,gz,lf,p1,p2,p3,p4,ZH,Yi,Xb,X6,ZC,ZY,Zz,Zw,Z4,Rn]
        refine⟨_,rfl,?_⟩
        exact Zq.new _ _ _
      ·have p3:decide (55296<=x)=false:=Zb q3
       rw[if_neg (by omega)]
       simp only[t6,t7,bs,ixs,gz,lf,p1,p2,p3,ZH,Yi,Xb,ZC,ZY,Zz,Zw,Z4,Rn]
       refine⟨_,rfl,?_⟩
       exact Zq.new _ _ _
   ·simp only[OI] at t4
    rw[hx]
    simp only[t4,ZC,Zz,Z4,]
    refine⟨_,rfl,?_⟩
    exact Zq.refl _ _
structure VLI(H0:Heap)(s:List UInt8)(m:Nat)(tm:TM)(H:Heap):Prop where
 i: ∃i,XK tm=nI .i64 i∧i<=s.length∧m=s.length - i∧vu s=vu (s.drop i)
 t0:Ys tm=.str s
 k:Zq H0 H []
theorem aJ(E:Env Zp fs fuel)(hl:s.length<1000000000)(y f d r)(x:X)(m:Nat)(tm:TM)(H:Heap)(hI:VLI H0 s m tm H):
  ∃o tm' H',Fs ⟨ZJ (LK Zp fs fuel k) fs fuel (n+1),y,f,d,r⟩ tm H x=.ok o tm' H' x∧((o=.normal∧ ∃q,q<m∧VLI H0 s q tm' H')∨(o≠.normal∧Zq H0 H' []∧((o=.exit 0∧vu s=true)∨(o=.ret∧vu s=false∧Xy tm'=.bool false)))):=by
 obtain⟨⟨i,t3,hi,rfl,hv⟩,t0,k0⟩:=hI
 have t0':=t0
 simp only[Pn,Qg] at t0 t3
 by_cases hlt:i<s.length
 ·have d1:decide (i<s.length)=true:=Ze hlt
  obtain⟨H1,er,k1⟩:=ru E (k:=k) (n:=n) (H:=H) hlt hl
  rw[ae hlt] at er
  have hpos:0<(s.drop i).length:=by rw[Yr];omega
  have hle:=fq hpos
  rw[Yr] at hle
  generalize hr:Tn (s.drop i)=q at*
  by_cases h0:q=0
  ·have d2:decide (q=0)=true:=Ze h0
   rw[BV hpos (by rw[hr];exact h0)] at hv
   simp(maxSteps:=4000000) (disch:=first|assumption|omega|(simp -implicitDefEqProofs only[ZQ,ZR]<;>first|assumption|omega)|decide) only[t0,t3,d1,er,d2,Y7,ZH,YD,Fs,ZC,ZY,Zz,Zw,Zr,Zt,ZA,Nat.reduceEqDiff,reduceCtorEq,Z4]
   refine⟨_,_,_,rfl,?_⟩
   exact .inr ⟨by simp,k0.trans k1 (by simp),.inr ⟨rfl,hv,(by simp only[Z4,ZY])⟩⟩
  ·have d2:decide (q=0)=false:=Zb h0
   rw[DC hpos hr h0,SZ] at hv
   have a1:=λ(G:Heap)=>YZ (a:=i) (b:=q) (by omega) G
   simp(maxSteps:=4000000) (disch:=first|assumption|omega|(simp -implicitDefEqProofs only[ZQ,ZR]<;>first|assumption|omega)|decide) only[t0,t3,d1,er,d2,a1,Y7,ZH,YD,Fs,ZC,ZY,Zz,Zw,Zr,Zt,ZA,Nat.reduceEqDiff,reduceCtorEq,Z4]
   refine⟨_,_,_,rfl,?_⟩
   exact .inl ⟨rfl,s.length - (i+q),by omega,⟨⟨i+q,(by simp only[Z4,ZY]),by omega,rfl,hv⟩,(by simp only[Z4,ZY];exact t0'),k0.trans k1 (by simp)⟩⟩
 ·have d1:decide (i<s.length)=false:=Zb hlt
  rw[Uu (by omega),r9] at hv
  simp(maxSteps:=4000000) (disch:=first|assumption|omega|(simp -implicitDefEqProofs only[ZQ,ZR]<;>first|assumption|omega)|decide) only[t0,t3,d1,Y7,ZH,Fs,ZC,ZY,Zz,Zw,Zr,Zt,ZA,Nat.reduceEqDiff,reduceCtorEq,Z4]
  refine⟨_,_,_,rfl,?_⟩
  exact .inr ⟨by simp,k0,.inl ⟨rfl,hv⟩⟩
theorem E0(E:Env Zp fs fuel)(hl:s.length<999998):
  ∃H',ZJ (LK Zp fs fuel k) fs fuel (n+2) 73 [.str s] H=.ret (.bool (vu s)) H'∧Zq H H' []:=by
 rw[ZL (ZF E.n73 (.inr rfl) _ _) E.f73]
 simp(maxSteps:=4000000) (disch:=first|assumption|omega|(simp -implicitDefEqProofs only[ZQ,ZR]<;>first|assumption|omega)|decide) only[c73,ZC,ZY,Zz,Zw,Zr,Zt,ZA,Nat.reduceEqDiff,reduceCtorEq,Z4]
 generalize hL:XQ (Fs _) fuel _ _ _=L
 obtain⟨o,Tx,H1,rfl,_,k1,hq⟩:=YA (P:=λtm=>VLI H s s.length tm H) (Q:=λo tm' H'=>Zq H H' []∧((o=.exit 0∧vu s=true)∨(o=.ret∧vu s=false∧Xy tm'=.bool false)))
  (λtm hi'=>YK (VLI H s) _ (λm tm H' h'=>aJ E (n:=n) (by omega) _ _ _ _ _ m tm H' h') fuel s.length tm H (by have:=E.big;omega) hi') hL
  ⟨⟨0,(by simp only[Z4,ZY]),Z8 _,rfl,by rw[Z6]⟩,(by simp only[Z4,ZY]),Zq.refl _ _⟩
 rcases hq with⟨rfl,hv⟩|⟨rfl,hv,t2⟩
 ·rw[hv]
  simp(maxSteps:=4000000) (disch:=first|assumption|omega|(simp -implicitDefEqProofs only[ZQ,ZR]<;>first|assumption|omega)|decide) only[c73,ZC,ZY,Zz,Zw,Zr,Zt,ZA,Nat.reduceEqDiff,reduceCtorEq,Z4]
  refine⟨_,rfl,?_⟩
  exact k1
 ·simp only[PN] at t2
  rw[hv]
  simp(maxSteps:=4000000) (disch:=first|assumption|omega|(simp -implicitDefEqProofs only[ZQ,ZR]<;>first|assumption|omega)|decide) only[t2,c73,ZC,ZY,Zz,Zw,Zr,Zt,ZA,Nat.reduceEqDiff,reduceCtorEq,Z4]
  refine⟨_,rfl,?_⟩
  exact k1
end
def Ff(H:Heap)(v:AV)(l:List UInt8)(lo:Nat):Prop:=Buf H v l lo∨ ∃b,v=.slice b 0 l.length none∧H.t.get b=some (rH 5 (l.map XM))∧lo<=b∧b<H.nx∧l≠[]
theorem Ff.below{H H':Heap}{v:AV}{l:List UInt8}{lo:Nat}(h:Ff H v l lo)(w:Zq H H' []):Ff H' v l lo:=by
 rcases h with h|⟨b,h1,h2,h3,h4,h5⟩
 ·exact .inl (h.below (λc h1 h2=>w.get c h2 (by simp)) w.ro w.nx)
 ·exact .inr ⟨b,h1,by rw[w.get b h4 (by simp)];exact h2,h3,ZO h4 w.nx,h5⟩
theorem qi{H:Heap}{v:AV}{m:List UInt8}{tb:Nat}(g:H.t.get tb=some (rH 5 (m.map XM))):Vb 5 1 1 v (.slice tb 0 m.length none) H=Vb 5 1 1 v (.str m) H:=by
 have src:Src H (.slice tb 0 m.length none) (m.map XM):=by
  have:=Src.row (b:=tb) (o:=0) (c:=none) (l:=m.map XM) g (by show 0+_<=YF (m.map XM);rw[Yw];omega) (λi hi=>by rw[Zs];exact IQ ..)
  rw[Zi] at this
  exact this
 rw[Qm (Zl 1) src,Qm (Zl 1) (Dx H m)]
theorem wh{H:Heap}{v:AV}{l m:List UInt8}{lo:Nat}(h:Ff H v l lo)(hl:l.length+m.length<=140737488355328)(hm:m≠[])(hro:H.ro<=H.nx)(hlo:lo<=H.nx):
  ∃v' H',Vb 5 1 1 v (.str m) H=.val v' H'∧Ff H' v' (l++m) lo∧Below lo H H':=by
 rcases h with h|⟨b,rfl,g,hb,hbn,hne⟩
 ·obtain⟨v',H',e,b',w⟩:=qs h hl hro hlo
  exact⟨v',H',e,.inl b',w⟩
 ·rw[Qm (Zl 1) (Dx H m),Zi]
  have g':H.t.get b=some (.row ⟨5,1,YF (l.map XM),T.ofList (l.map XM),.unk,0,false,true,true⟩):=g
  have cs:=Cells.new 5 1 (l.map XM) 0 false true true
  have hld:WO ⟨5,1,YF (l.map XM),T.ofList (l.map XM),.unk,0,false,true,true⟩ 0 l.length=l.map XM:=by
   have:=cs.load (o:=0) (n:=l.length) (by rw[Zi];omega)
   rw[Z6,ZB (by rw[Zi];exact Zl _)] at this
   exact this
  have hsz:YF (l.map XM)=l.length:=by rw[Yw,Zi]
  have gn:=Ct (H:=H) (e:=5) (l:=(l++m).map XM) hro
  have hm0:0<m.length:=Ws.2 hm
  refine⟨.slice H.nx 0 (l++m).length none,H.newRow 5 1 ((l++m).map XM) false,?_,.inl (.inr ⟨by simp[hne],_,_,rfl,gn,hlo⟩),Below.new lo H _⟩
  have hc:UT ⟨5,1,YF (l.map XM),T.ofList (l.map XM),.unk,0,false,true,true⟩ 0 none=l.length:=by
   show YF (l.map XM) - 0=_
   rw[hsz];rfl
  have hso:Ha ⟨5,1,YF (l.map XM),T.ofList (l.map XM),.unk,0,false,true,true⟩ 1 none=true:=rfl
  have hx:(⟨5,1,YF (l.map XM),T.ofList (l.map XM),.unk,0,false,true,true⟩:Row).exact=true:=rfl
  have hs:(⟨5,1,YF (l.map XM),T.ofList (l.map XM),.unk,0,false,true,true⟩:Row).size=l.length:=hsz
  generalize(⟨5,1,YF (l.map XM),T.ofList (l.map XM),.unk,0,false,true,true⟩:Row)=r at*
  show Xp H b _=_
  unfold Xp
  simp only[g']
  have h2:Nat.ble (Nat.add l.length m.length) (UT r 0 none)=false:=by
   rw[hc]
   cases h:Nat.ble (Nat.add l.length m.length) l.length with
   |false=>rfl
   |true=>have:=Z1 h;have:l.length+m.length<=l.length:=this;omega
  rw[hso,h2]
  show ZX (Nat.ble ((l.length+m.length)*1) 140737488355328) (ZX (Nat.ble (0+l.length*1) r.size) (cond r.exact (ZX (Nat.beq (Nat.mod 0 1) 0) (.val (.slice H.nx 0 (l.length+m.length) none) (H.newRow 5 1 (WO r 0 (l.length*1)++m.map XM) false))) _))=_
  rw[Zm (by omega),hs,Zm (by omega),hx,Xw,hld,Zf,Xe]
  rfl
theorem Ff.str{H:Heap}{v:AV}{l:List UInt8}{lo:Nat}(h:Ff H v l lo)(hl:l.length<=140737488355328):Ry v H=.val (.str l) H:=by
 rcases h with h|⟨b,rfl,g,_,_,_⟩
 ·rcases h with⟨rfl,rfl⟩|⟨_,b,r,rfl,gr,_⟩
  ·rfl
  ·refine K2 gr.at_ rfl (by rw[gr.cells.size,Zi];omega) λi hi=>?_
   rw[Zs,gr.cells.get i (by rw[Zi];exact hi)]
   rw[Za,Yh,Za,Zg hi];rfl
 ·refine K2 (r:=⟨5,1,YF (l.map XM),T.ofList (l.map XM),.unk,0,false,true,true⟩) g rfl (by show 0+l.length<=YF (l.map XM);rw[Yw,Zi];omega) λi hi=>?_
  rw[Zs,IQ]
  rw[Za,Yh,Za,Zg hi];rfl
section
variable {Zp:Lib} {fs:T CF} {fuel k n i h b:Nat} {H H0:Heap} {s:List UInt8} {cs:List AV}
structure QNI(H0:Heap)(s:List UInt8)(m:Nat)(tm:TM)(H:Heap):Prop where
 i: ∃i v,Xf tm=nI .i64 i∧i<=s.length∧m=s.length - i∧XK tm=v∧Ff H v ([34]++(s.take i).flatMap qB) H0.nx
 t0:Ys tm=.str s
 k:Zq H0 H []
 ro:H.ro<=H.nx
theorem pV{c:Nat}(h:c<256):(UInt8.ofNat c).toNat=c:=by rw[UInt8.toNat_ofNat',Z7 h]
theorem bY{cl:Nat->List AV->Heap->CR}(hl:s.length<1000000000)(y f d r)(x:X)(m:Nat)(tm:TM)(H:Heap)(hI:QNI H0 s m tm H):
  ∃o tm' H',LZ ⟨cl,y,f,d,r⟩ tm H x=.ok o tm' H' x∧((o=.normal∧ ∃q,q<m∧QNI H0 s q tm' H')∨(o≠.normal∧o=.exit 0∧Zq H0 H' []∧H'.ro<=H'.nx∧ ∃v,XK tm'=v∧Ff H' v ([34]++s.flatMap qB) H0.nx)):=by
 obtain⟨⟨i,v,t4,hi,rfl,t3,bf⟩,t0,k0,hro⟩:=hI
 have t0':=t0;have O9:=t3
 simp only[Pn,Qg,OI] at t0 t3 t4
 have knx:=k0.nx
 by_cases hlt:i<s.length
 ·have d1:decide (i<s.length)=true:=Ze hlt
  have ix: ∀(k:IntKind) (G:Heap),R5 (.str s) (nI k i) G=.val (nI .u8 (XN s i)) G:=λk G=>Wf hlt k G
  have htk:=fI hlt
  have hce:s.getD i 0=UInt8.ofNat (XN s i):=(Ti).symm
  rw[hce] at htk
  have hc:=NX s i
  generalize XN s i=c at*
  have hlen:([34]++(s.take i).flatMap qB).length<=6*s.length+1:=by
   have:=Bn (s.take i)
   rw[ZP] at this
   simp only[Zf,Zh,Zv];omega
  have cn:=pV hc
  have app: ∀(mm:List UInt8),mm≠[]->mm.length<=6-> ∃v' H1 H',H.new (rH 5 (mm.map XM))=H1∧Vb 5 1 1 v (.slice H.nx 0 mm.length none) H1=.val v' H'∧Ff H' v' ([34]++(s.take i).flatMap qB++mm) H0.nx∧Zq H0 H' []∧H'.ro<=H'.nx:=by
   intro mm hne tI
   obtain⟨H1,hH1⟩:=XZ (H.new (rH 5 (mm.map XM)))
   have U2:H1.nx=H.nx+1:=by rw[<-hH1];rfl
   have Rm:H1.ro=H.ro:=by rw[<-hH1];rfl
   have k1:Zq H H1 []:=by rw[<-hH1];exact Zq.new H _ _
   have g1:H1.t.get H.nx=some (rH 5 (mm.map XM)):=by rw[<-hH1,Zx rfl]
   obtain⟨v',H',e,b',w⟩:=wh (m:=mm) (bf.below k1) (by omega) hne (by omega) (by omega)
   rw[<-qi g1] at e
   have wn:=w.nx
   have wr:=w.ro
   exact⟨v',H1,H',hH1,e,b',Below.keep (k0.trans k1 (by simp)) w (Zl _),by omega⟩
  have fin: ∀(mm:List UInt8) (v':AV) (H':Heap) (tm':TM),qB (UInt8.ofNat c)=mm->Ff H' v' ([34]++(s.take i).flatMap qB++mm) H0.nx->Zq H0 H' []->H'.ro<=H'.nx->Xf tm'=nI .i64 (i+1)->XK tm'=v'->Ys tm'=.str s-> ∃q,q<s.length - i∧QNI H0 s q tm' H':=λmm v' H' tm' hq b' k' r' b4 b3 b0=>
   ⟨s.length - (i+1),by omega,⟨i+1,v',b4,by omega,rfl,b3,by rw[htk,hq,<-Y6];exact b'⟩,b0,k',r'⟩
  by_cases EH:c=34
  ·have p1:decide (c=34)=true:=Ze EH
   have hq:qB (UInt8.ofNat c)=[92,UInt8.ofNat c]:=by unfold qB;rw[cn,if_pos (.inl EH)]
   obtain⟨v',H1,H',e1,e2,b',k',r'⟩:=app [92,UInt8.ofNat c] (by simp) (by simp)
   have e1:H.new (rH 5 [nI .u8 92,nI .u8 c])=H1:=by rw[<-e1];show _=H.new (rH 5 [XM 92,XM (UInt8.ofNat c)]);rw[xP hc];rfl
   have bs: ∀G:Heap,Wa 5 1 2 (List.replicate 2 [nI .u8 0]).flatten [(0,1,nI .u8 92),(1,1,nI .u8 c)] G=.val (.slice G.nx 0 2 none) (G.new (rH 5 [nI .u8 92,nI .u8 c])):=λG=>rfl
   have e2:Vb 5 1 1 v (.slice H.nx 0 2 none) H1=.val v' H':=e2
   simp(disch:=omega) only[t0,t3,t4,d1,ix,p1,bs,e1,e2,Y7,ZH,YD,YZ,LZ,ZC,ZY,Zw,Z4]
   refine⟨_,_,_,rfl,?_⟩
   exact .inl ⟨rfl,fin _ _ _ _ hq b' k' r' rfl rfl t0'⟩
  have p1:decide (c=34)=false:=Zb EH
  by_cases h92:c=92
  ·have p2:decide (c=92)=true:=Ze h92
   have hq:qB (UInt8.ofNat c)=[92,UInt8.ofNat c]:=by unfold qB;rw[cn,if_pos (.inr h92)]
   obtain⟨v',H1,H',e1,e2,b',k',r'⟩:=app [92,UInt8.ofNat c] (by simp) (by simp)
   have e1:H.new (rH 5 [nI .u8 92,nI .u8 c])=H1:=by rw[<-e1];show _=H.new (rH 5 [XM 92,XM (UInt8.ofNat c)]);rw[xP hc];rfl
   have bs: ∀G:Heap,Wa 5 1 2 (List.replicate 2 [nI .u8 0]).flatten [(0,1,nI .u8 92),(1,1,nI .u8 c)] G=.val (.slice G.nx 0 2 none) (G.new (rH 5 [nI .u8 92,nI .u8 c])):=λG=>rfl
   have e2:Vb 5 1 1 v (.slice H.nx 0 2 none) H1=.val v' H':=e2
   simp(disch:=omega) only[t0,t3,t4,d1,ix,p1,p2,bs,e1,e2,Y7,ZH,YD,YZ,LZ,ZC,ZY,Zw,Z4]
   refine⟨_,_,_,rfl,?_⟩
   exact .inl ⟨rfl,fin _ _ _ _ hq b' k' r' rfl rfl t0'⟩
  have p2:decide (c=92)=false:=Zb h92
  by_cases h32:c<32
  ·have p3:decide (c<32)=true:=Ze h32
   have hq:qB (UInt8.ofNat c)=[92,117,48,48,Jx (c/16),Jx (c % 16)]:=by unfold qB;rw[cn,if_neg (by omega),if_pos h32]
   obtain⟨v',H1,H',e1,e2,b',k',r'⟩:=app [92,117,48,48,Jx (c/16),Jx (c % 16)] (by simp) (by simp)
   have q1:=λ(G:Heap)=>pB (a:=c) (b:=16) (by omega) hc G
   have q2:=λ(G:Heap)=>pC (a:=c) (b:=16) (by omega) G
   have q3:=λ(G:Heap)=>yg (a:=48) (b:=c/16) (by omega) G
   have q4: ∀(G:Heap),R5 (.str SS) (nI .u8 (c % 16)) G=.val (nI .u8 (Jx (c % 16)).toNat) G:=λG=>by show R5 (.str [48,49,50,51,52,53,54,55,56,57,97,98,99,100,101,102]) _ G=_;rw[Wf (by show c % 16<16;omega),jG (by omega)]
   have hx:(Jx (c/16)).toNat=48+c/16:=by unfold Jx;rw[if_pos (by omega)];exact pV (by omega)
   have e1:H.new (rH 5 [nI .u8 92,nI .u8 117,nI .u8 48,nI .u8 48,nI .u8 (48+c/16),nI .u8 (Jx (c % 16)).toNat])=H1:=by rw[<-e1,<-hx];rfl
   generalize(Jx (c % 16)).toNat=hd at*
   have bs: ∀G:Heap,Wa 5 1 6 (List.replicate 6 [nI .u8 0]).flatten [(0,1,nI .u8 92),(1,1,nI .u8 117),(2,1,nI .u8 48),(3,1,nI .u8 48),(4,1,nI .u8 (48+c/16)),(5,1,nI .u8 hd)] G=.val (.slice G.nx 0 6 none) (G.new (rH 5 [nI .u8 92,nI .u8 117,nI .u8 48,nI .u8 48,nI .u8 (48+c/16),nI .u8 hd])):=λG=>rfl
   have e2:Vb 5 1 1 v (.slice H.nx 0 6 none) H1=.val v' H':=e2
   simp(disch:=omega) only[t0,t3,t4,d1,ix,p1,p2,p3,q1,q2,q3,q4,bs,e1,e2,Y7,ZH,YD,YZ,LZ,ZC,ZY,Zw,Z4,WG]
   refine⟨_,_,_,rfl,?_⟩
   exact .inl ⟨rfl,fin _ _ _ _ hq b' k' r' rfl rfl t0'⟩
  ·have p3:decide (c<32)=false:=Zb h32
   have hq:qB (UInt8.ofNat c)=[UInt8.ofNat c]:=by unfold qB;rw[cn,if_neg (by omega),if_neg (by omega)]
   obtain⟨v',H1,H',e1,e2,b',k',r'⟩:=app [UInt8.ofNat c] (by simp) (by simp)
   have e1:H.new (rH 5 [nI .u8 c])=H1:=by rw[<-e1];show _=H.new (rH 5 [XM (UInt8.ofNat c)]);rw[xP hc]
   have bs: ∀G:Heap,Wa 5 1 1 [nI .u8 0] [(0,1,nI .u8 c)] G=.val (.slice G.nx 0 1 none) (G.new (rH 5 [nI .u8 c])):=λG=>rfl
   have e2:Vb 5 1 1 v (.slice H.nx 0 1 none) H1=.val v' H':=e2
   simp(disch:=omega) only[t0,t3,t4,d1,ix,p1,p2,p3,bs,e1,e2,Y7,ZH,YD,YZ,LZ,ZC,ZY,Zw,Z4,WG]
   refine⟨_,_,_,rfl,?_⟩
   exact .inl ⟨rfl,fin _ _ _ _ hq b' k' r' rfl rfl t0'⟩
 ·have d1:decide (i<s.length)=false:=Zb hlt
  rw[ZB (by omega)] at bf
  simp only[t0,t4,d1,Y7,ZH,LZ,ZC,ZY,Z4]
  refine⟨_,_,_,rfl,?_⟩
  exact .inr ⟨by simp,rfl,k0,hro,v,(by simp only[ZY];exact O9),bf⟩
theorem xA(E:Env Zp fs fuel)(hl:s.length<999998)(hro:H.ro<=H.nx):
  ∃H',ZJ (LK Zp fs fuel k) fs fuel (n+1) 71 [.str s] H=.ret (.str (quo s)) H'∧Zq H H' []:=by
 rw[ZL (ZF E.n71 (.inr rfl) _ _) E.f71]
 have bs: ∀G:Heap,Wa 5 1 1 [nI .u8 0] [(0,1,nI .u8 34)] G=.val (.slice G.nx 0 1 none) (G.new (rH 5 [nI .u8 34])):=λG=>rfl
 obtain⟨H1,hH1⟩:=XZ (H.new (rH 5 [nI .u8 34]))
 have U2:H1.nx=H.nx+1:=by rw[<-hH1];rfl
 have Rm:H1.ro=H.ro:=by rw[<-hH1];rfl
 have k1:Zq H H1 []:=by rw[<-hH1];exact Zq.new H _ _
 have b1:Ff H1 (.slice H.nx 0 1 none) [34] H.nx:=.inr ⟨H.nx,rfl,by rw[<-hH1,Zx rfl];rfl,Zl _,by omega,by simp⟩
 simp only[bs,hH1,c71,ZC,ZY,Zw,Z4]
 generalize hL:XQ (LZ _) fuel _ _ _=L
 obtain⟨o,Tx,H2,rfl,_,rfl,k2,Qw,v,t3,b2⟩:=YA (P:=λtm=>QNI H s s.length tm H1) (Q:=λo tm' H'=>o=.exit 0∧Zq H H' []∧H'.ro<=H'.nx∧ ∃v,XK tm'=v∧Ff H' v ([34]++s.flatMap qB) H.nx)
  (λtm hi'=>YK (QNI H s) _ (λm tm H' h'=>bY (by omega) _ _ _ _ _ m tm H' h') fuel s.length tm H1 (by have:=E.big;omega) hi') hL
  ⟨⟨0,_,rfl,Z8 _,rfl,rfl,b1⟩,rfl,k1,by omega⟩
 simp only[Qg] at t3
 have n2:=k2.nx
 obtain⟨H3,hH3⟩:=XZ (H2.new (rH 5 [nI .u8 34]))
 have nx3:H3.nx=H2.nx+1:=by rw[<-hH3];rfl
 have GJ:H3.ro=H2.ro:=by rw[<-hH3];rfl
 have k3:Zq H2 H3 []:=by rw[<-hH3];exact Zq.new _ _ _
 have hq:=Bn s
 have hlen:([34]++s.flatMap qB).length<=6*s.length+1:=by simp only[Zf,Zh,Zv];omega
 obtain⟨v',H4,e4,b4,w4⟩:=wh (m:=[34]) (b2.below k3) (by simp only[Zh,Zv];omega) (by simp) (by omega) (by omega)
 rw[<-qi (tb:=H2.nx) (by rw[<-hH3,Zx rfl];rfl)] at e4
 have e4:Vb 5 1 1 v (.slice H2.nx 0 1 none) H3=.val v' H4:=e4
 have es:=b4.str (by simp only[Zf,Zh,Zv];omega)
 have hqq:[34]++s.flatMap qB++[34]=quo s:=rfl
 rw[hqq] at es
 simp only[t3,bs,hH3,e4,es,ZC,ZY,Zz,Zw,Z4,WG]
 refine⟨_,rfl,?_⟩
 exact Below.keep (k2.trans k3 (by simp)) w4 (Zl _)
theorem Ev(n:Nat)(h:n<18446744073709551616):(dec n).length<=20:=by rw[Hp];exact Dr (by omega) (by omega)
theorem aj{G:Heap}{c:Option Nat}{sm ex:Bool}(h:G.t.get b=some (rG 5 1 (s.map XM) 0 sm true ex)):Ry (.slice b 0 s.length c) G=.val (.str s) G:=by
 have h':G.t.get b=some (.row ⟨5,1,YF (s.map XM),T.ofList (s.map XM),.unk,0,sm,true,ex⟩):=h
 refine K2 h' rfl (by show 0+s.length<=YF (s.map XM);rw[Yw,Zi];omega) λi hi=>?_
 rw[Zs,IQ,Za,Yh,Za,Zg hi];rfl
structure UI(H0:Heap)(T:List UInt8)(m:Nat)(tm:TM)(H:Heap):Prop where
 i: ∃u s,Ys tm=nI .u64 u∧u<18446744073709551616∧m=QH u∧XK tm=.str s∧T=dec u++s
 k:Zq H0 H []
 ro:H.ro<=H.nx
theorem ZcW{cl:Nat->List AV->Heap->CR}{T:List UInt8}(hT:T.length<=20)(y f d r)(x:X)(m':Nat)(tm:TM)(H:Heap)(hI:UI H0 T m' tm H):
  ∃o tm' H',D2 ⟨cl,y,f,d,r⟩ tm H x=.ok o tm' H' x∧((o=.normal∧ ∃q,q<m'∧UI H0 T q tm' H')∨(o≠.normal∧(o=.ret∧Xy tm'=.str T∧Zq H0 H' []))):=by
 obtain⟨⟨m,s,t0,hu,rfl,t3,rfl⟩,k0,hro⟩:=hI
 simp only[Pn,Qg] at t0 t3
 have hd:m % 10<10:=Vl _ (by decide)
 have hdg:nI .u8 (48+m % 10)=XM (L4 (m % 10)):=by rw[ZcV,Ht hd]
 obtain⟨HA,hA⟩:=XZ (H.new (rH 5 ([L4 (m % 10)].map XM)))
 have bs:=PF 5 (nI .u8 0) (nI .u8 (48+m % 10)) rfl H
 rw[UN,hdg,show([XM (L4 (m % 10))]:List AV)=[L4 (m % 10)].map XM from rfl,hA] at bs
 have gA:HA.t.get H.nx=some (rH 5 ([L4 (m % 10)].map XM)):=by rw[<-hA,Zx rfl]
 have es:=aj (c:=none) gA
 have es:Ry (.slice H.nx 0 1 none) HA=.val (.str [L4 (m % 10)]) HA:=es
 have kA:Zq H0 HA []:=by rw[<-hA];exact k0.then_new _
 have roA:HA.ro<=HA.nx:=by rw[<-hA];show H.ro<=H.nx+1;omega
 rw[Zf] at hT
 have ads:=λG=>YI (a:=[L4 (m % 10)]) (b:=s) (by rw[Zh,Zv];omega) G
 have rm:=λG=>Rg (a:=m) (b:=10) (by decide) G
 have ad:=λG=>x7 (a:=48) (b:=m % 10) (by omega) G
 have i8:=λG=>QD (j:=.u64) (a:=48+m % 10) (by omega) G
 rw[hdg] at i8
 have qo:=λG=>Re (a:=m) (b:=10) (by decide) (by omega) G
 have eq:=λG=>YD .u64 (m/10) 0 G
 by_cases h0:m/10=0
 ·have d1:decide (m/10=0)=true:=Ze h0
  simp(maxSteps:=4000000) (disch:=first|assumption|omega|(simp -implicitDefEqProofs only[ZQ,ZR]<;>first|assumption|omega)|decide) only[t0,t3,rm,ad,i8,bs,es,ads,qo,eq,d1,D2,ZC,ZY,Zz,Zw,Zr,Zt,ZA,Nat.reducePow,Nat.reduceDiv,Nat.reduceMod,Nat.reduceEqDiff,reduceCtorEq,Z4]
  refine⟨_,_,_,rfl,.inr ⟨by simp,rfl,?_,kA⟩⟩
  simp only[Z4,ZY]
  rw[yz (by omega),Z7 (by omega)]
 ·have d1:decide (m/10=0)=false:=Zb h0
  simp(maxSteps:=4000000) (disch:=first|assumption|omega|(simp -implicitDefEqProofs only[ZQ,ZR]<;>first|assumption|omega)|decide) only[t0,t3,rm,ad,i8,bs,es,ads,qo,eq,d1,D2,ZC,ZY,Zz,Zw,Zr,Zt,ZA,Nat.reducePow,Nat.reduceDiv,Nat.reduceMod,Nat.reduceEqDiff,reduceCtorEq,Z4]
  refine⟨_,_,_,rfl,?_⟩
  exact .inl ⟨rfl,QH (m/10),by rw[Jg (show 10<=m by omega)];exact Yo _,⟨⟨m/10,[L4 (m % 10)]++s,(by simp only[Z4,ZY]),by omega,rfl,(by simp only[Z4,ZY]),by rw[kW (by omega),Y6]⟩,kA,roA⟩⟩
theorem Zg1(E:Env Zp fs fuel){u:Nat}(hu:u<18446744073709551616)(hro:H.ro<=H.nx): ∃H',ZJ (LK Zp fs fuel k) fs fuel (n+1) 87 [nI .u64 u] H=.ret (.str (dec u)) H'∧Zq H H' []:=by
 rw[ZL (ZF E.n87 (.inr rfl) _ _) E.f87]
 have hT:(dec u).length<=20:=Ev u hu
 simp(maxSteps:=4000000) (disch:=first|assumption|omega|(simp -implicitDefEqProofs only[ZQ,ZR]<;>first|assumption|omega)|decide) only[c87,ZC,ZY,Zz,Zw,Zr,Zt,ZA,Nat.reduceEqDiff,reduceCtorEq,Z4]
 generalize hL:XQ (D2 _) fuel _ _ _=L
 obtain⟨o,Tx,H1,rfl,_,rfl,t2,k1⟩:=YA (P:=λT'=>UI H (dec u) (QH u) T' H) (Q:=λo tm' H'=>o=.ret∧Xy tm'=.str (dec u)∧Zq H H' [])
  (λT' hi'=>YK (UI H (dec u)) _ (λm tm H' h'=>ZcW hT _ _ _ _ _ m tm H' h') fuel (QH u) T' H (by have:=E.big;rw[Hp] at hT;omega) hi') hL
  ⟨⟨u,[],rfl,hu,rfl,rfl,(Yl _).symm⟩,Zq.refl _ _,hro⟩
 simp only[PN] at t2
 simp(maxSteps:=4000000) (disch:=first|assumption|omega|(simp -implicitDefEqProofs only[ZQ,ZR]<;>first|assumption|omega)|decide) only[t2,c87,ZC,ZY,Zz,Zw,Zr,Zt,ZA,Nat.reduceEqDiff,reduceCtorEq,Z4]
 refine⟨_,rfl,?_⟩
 exact k1
theorem ZiB(E:Env Zp fs fuel){z:Int}(h1: -9223372036854775808<=z)(h2:z<9223372036854775808)(hro:H.ro<=H.nx): ∃H',ZJ (LK Zp fs fuel k) fs fuel (n+2) 70 [.int .i64 z] H=.ret (.str (SF z)) H'∧Zq H H' []:=by
 rw[ZL (ZF E.n70 (.inr rfl) _ _) E.f70]
 unfold SF
 cases z with
 |ofNat u=>
  obtain⟨H1,e1,k1⟩:=Zg1 E (k:=k) (n:=n) (u:=u) (H:=H) (by have:(Int.ofNat u:Int)=(u:Int):=rfl;omega) hro
  have c1: ∀G:Heap,Pb XC Yn (.int .i64 (.ofNat u)) (nI .i64 0) G=.val (.bool false) G:=λG=>by
   have:=ZH .i64 u 0 G
   rw[Zb (by omega)] at this;exact this
  have i1: ∀G:Heap,Gb .u64 (.int .i64 (.ofNat u)) G=.val (nI .u64 u) G:=λG=>Dm (by have:(Int.ofNat u:Int)=(u:Int):=rfl;omega) G
  rw[if_neg (by have:(0:Int)<=.ofNat u:=Int.natCast_nonneg u;omega),show(Int.ofNat u).natAbs=u from rfl]
  simp(maxSteps:=4000000) (disch:=first|assumption|omega|(simp -implicitDefEqProofs only[ZQ,ZR]<;>first|assumption|omega)|decide) only[c1,i1,e1,c70,ZC,ZY,Zz,Zw,Zr,Zt,ZA,Nat.reduceEqDiff,reduceCtorEq,Z4]
  refine⟨_,rfl,?_⟩
  exact k1
 |negSucc m=>
  have hm:m<9223372036854775808:=by have:Int.negSucc m= -((m:Int)+1):=rfl;omega
  obtain⟨H1,e1,k1⟩:=Zg1 E (k:=k) (n:=n) (u:=m+1) (H:=H) (by omega) hro
  have c1:=λG=>Do .i64 m 0 G
  have a1: ∀G:Heap,E5 (.int .i64 (.negSucc m)) (nI .i64 1) G=.val (.int .i64 (-(m:Int))) G:=λG=>by
   show ZX (P0 .i64 .i64) (UP .i64 (CP (.negSucc m) (.ofNat 1)) G)=_
   have e:CP (.negSucc m) (.ofNat 1)= -(m:Int):=by rw[qT];have:Int.negSucc m= -((m:Int)+1):=rfl;have:(Int.ofNat 1:Int)=1:=rfl;omega
   rw[XI,XY,e,z6 (by omega) (by omega)];rfl
  have n1: ∀G:Heap,ba (.int .i64 (-(m:Int))) G=.val (nI .i64 m) G:=λG=>by
   show UP .i64 (CV 0 (-(m:Int))) G=_
   have e:CV 0 (-(m:Int))=(m:Int):=by rw[yV];omega
   rw[XY,e,z6 (by omega) (by omega)];rfl
  have i1: ∀G:Heap,Gb .u64 (nI .i64 m) G=.val (nI .u64 m) G:=λG=>Dm (by omega) G
  have a2:=λG=>x7 (a:=m) (b:=1) (by omega) G
  have hl:=Ev (m+1) (by omega)
  have ads:=λG=>YI (a:=[45]) (b:=dec (m+1)) (by rw[Zh,Zv];omega) G
  rw[if_pos (Int.negSucc_lt_zero m),show(Int.negSucc m).natAbs=m+1 from rfl,show(45::dec (m+1):List UInt8)=[45]++dec (m+1) from rfl]
  simp(maxSteps:=4000000) (disch:=first|assumption|omega|(simp -implicitDefEqProofs only[ZQ,ZR]<;>first|assumption|omega)|decide) only[c1,a1,n1,i1,a2,ads,e1,c70,ZC,ZY,Zz,Zw,Zr,Zt,ZA,Nat.reduceEqDiff,reduceCtorEq,Z4]
  refine⟨_,rfl,?_⟩
  exact k1
theorem Nk(a:TM->Heap->X->Wd)(F:Nat)(tm:TM)(H:Heap)(x:X):XQ a (F+1) tm H x=RC (a tm H x) (XQ a F):=rfl
theorem Dz(i:Nat)(tm:TM)(H:Heap)(x:X)(g:TM->Heap->X->Wd):RC (.ok (.exit i) tm H x) g=.ok (.exit i) tm H x:=rfl
theorem uH(E:Env Zp fs fuel)(hl:s.length<999998)(hro:H.ro<=H.nx):
  ∃H',ZJ (LK Zp fs fuel k) fs fuel (n+3) 56 [.agg [nI .i64 4,.bool false,nI .i64 0,.str s,.nils,.nils],nI .i64 32] H=.ret (.bool (!vu s)) H'∧Zq H H' []:=by
 rw[ZL (ZF E.n56 (.inr rfl) _ _) E.f56]
 obtain⟨H1,hH1⟩:=XZ (H.new (rH 87 [nI .i64 4,.bool false,nI .i64 0,.str s,.nils,.nils]))
 have bx:=YU (l:=[nI .i64 4,.bool false,nI .i64 0,.str s,.nils,.nils]) (WW 1 5) 87 H
 rw[hH1] at bx
 have k1:Zq H H1 []:=by rw[<-hH1];exact Zq.new H _ _
 have g1:H1.t.get H.nx=some (rH 87 [nI .i64 4,.bool false,nI .i64 0,.str s,.nils,.nils]):=by rw[<-hH1,Zx rfl]
 have l0: ∀G,ld1 (some (rH 87 [nI .i64 4,.bool false,nI .i64 0,.str s,.nils,.nils])) 0 G=.val (nI .i64 4) G:=λG=>by rw[Z2 (by simp)];rfl
 have l1: ∀G,ld1 (some (rH 87 [nI .i64 4,.bool false,nI .i64 0,.str s,.nils,.nils])) 1 G=.val (.bool false) G:=λG=>by rw[Z2 (by simp)];rfl
 have l2: ∀G,ld1 (some (rH 87 [nI .i64 4,.bool false,nI .i64 0,.str s,.nils,.nils])) 2 G=.val (nI .i64 0) G:=λG=>by rw[Z2 (by simp)];rfl
 have l3: ∀G,ld1 (some (rH 87 [nI .i64 4,.bool false,nI .i64 0,.str s,.nils,.nils])) 3 G=.val (.str s) G:=λG=>by rw[Z2 (by simp)];rfl
 have l4: ∀G,ld1 (some (rH 87 [nI .i64 4,.bool false,nI .i64 0,.str s,.nils,.nils])) 4 G=.val .nils G:=λG=>by rw[Z2 (by simp)];rfl
 have l5: ∀G,ld1 (some (rH 87 [nI .i64 4,.bool false,nI .i64 0,.str s,.nils,.nils])) 5 G=.val .nils G:=λG=>by rw[Z2 (by simp)];rfl
 have lN: ∀G,RV .nils G=.val (nI .i64 0) G:=λG=>rfl
 obtain⟨H2,ev,k2⟩:=E0 E (k:=k) (n:=n) (s:=s) (H:=H1) hl
 have g2:H2.t.get H.nx=some (rH 87 [nI .i64 4,.bool false,nI .i64 0,.str s,.nils,.nils]):=by rw[k2.get _ (by rw[<-hH1];exact Yo _) (by simp)];exact g1
 have z0:decide (32=0)=false:=rfl
 obtain⟨F,rfl⟩: ∃G,fuel=G+1:=⟨fuel - 1,by have:=E.big;omega⟩
 have q1:decide (4<1)=false:=rfl
 have q2:decide (6<4)=false:=rfl
 have q3:decide (0≠0)=false:=rfl
 have q4:decide (4≠4)=false:=rfl
 have q5:decide (0<0)=false:=rfl
 have cf: ∀x y:Bool,cond true x y=x:=λ_ _=>rfl
 have ct: ∀x y:Bool,cond false x y=y:=λ_ _=>rfl
 have ep: ∀G,OM (.ptr H.nx 0) G=ld1 (G.t.get H.nx) 0 G:=λG=>rfl
 cases hv:vu s<;>rw[hv] at ev
 ·by_cases hs:s=[]
  ·have hs:=Ze hs
   simp(maxSteps:=4000000) (disch:=first|assumption|omega|(simp -implicitDefEqProofs only[ZQ,ZR]<;>first|assumption|omega)|decide) only[z0,bx,g1,g2,l0,l1,l2,l3,l4,l5,lN,ev,Nk,Dz,ZH,Yi,YD,P3,VV,q1,q2,q3,q4,q5,cf,ct,hs,Xn,Xi,aW,In,Io,ZC,ZY,Zz,Zw,Zr,Zt,ZA,Nat.reduceEqDiff,reduceCtorEq,Z4,WG,Rn,JH]
   refine⟨_,rfl,?_⟩
   exact k1.trans k2 (by simp)
  ·have hs:=Zb hs
   simp(maxSteps:=4000000) (disch:=first|assumption|omega|(simp -implicitDefEqProofs only[ZQ,ZR]<;>first|assumption|omega)|decide) only[z0,bx,g1,g2,l0,l1,l2,l3,l4,l5,lN,ev,Nk,Dz,ZH,Yi,YD,P3,VV,q1,q2,q3,q4,q5,cf,ct,hs,Xn,Xi,aW,In,Io,ZC,ZY,Zz,Zw,Zr,Zt,ZA,Nat.reduceEqDiff,reduceCtorEq,Z4,WG,Rn,JH]
   refine⟨_,rfl,?_⟩
   exact k1.trans k2 (by simp)
 ·by_cases hs:s=[]
  ·have hs:=Ze hs
   simp(maxSteps:=4000000) (disch:=first|assumption|omega|(simp -implicitDefEqProofs only[ZQ,ZR]<;>first|assumption|omega)|decide) only[z0,bx,g1,g2,l0,l1,l2,l3,l4,l5,lN,ev,Nk,Dz,ZH,Yi,YD,P3,VV,q1,q2,q3,q4,q5,cf,ct,hs,Xn,Xi,aW,In,Io,ZC,ZY,Zz,Zw,Zr,Zt,ZA,Nat.reduceEqDiff,reduceCtorEq,Z4,WG,Rn,JH]
   refine⟨_,rfl,?_⟩
   exact k1.trans k2 (by simp)
  ·have hs:=Zb hs
   simp(maxSteps:=4000000) (disch:=first|assumption|omega|(simp -implicitDefEqProofs only[ZQ,ZR]<;>first|assumption|omega)|decide) only[z0,bx,g1,g2,l0,l1,l2,l3,l4,l5,lN,ev,Nk,Dz,ZH,Yi,YD,P3,VV,q1,q2,q3,q4,q5,cf,ct,hs,Xn,Xi,aW,In,Io,ZC,ZY,Zz,Zw,Zr,Zt,ZA,Nat.reduceEqDiff,reduceCtorEq,Z4,WG,Rn,JH]
   refine⟨_,rfl,?_⟩
   exact k1.trans k2 (by simp)
theorem yR(E:Env Zp fs fuel):
  ∃H',ZJ (LK Zp fs fuel k) fs fuel (n+1) 57 [.agg [nI .i64 4,.bool false,nI .i64 0,.str s,.nils,.nils],nI .i64 32] H=.ret (nI .i64 1) H'∧Zq H H' []:=by
 rw[ZL (ZF E.n57 (.inr rfl) _ _) E.f57]
 obtain⟨H1,hH1⟩:=XZ (H.new (rH 87 [nI .i64 4,.bool false,nI .i64 0,.str s,.nils,.nils]))
 have bx:=YU (l:=[nI .i64 4,.bool false,nI .i64 0,.str s,.nils,.nils]) (WW 1 5) 87 H
 rw[hH1] at bx
 have k1:Zq H H1 []:=by rw[<-hH1];exact Zq.new H _ _
 have g1:H1.t.get H.nx=some (rH 87 [nI .i64 4,.bool false,nI .i64 0,.str s,.nils,.nils]):=by rw[<-hH1,Zx rfl]
 have l4: ∀G,ld1 (some (rH 87 [nI .i64 4,.bool false,nI .i64 0,.str s,.nils,.nils])) 4 G=.val .nils G:=λG=>by rw[Z2 (by simp)];rfl
 have l5: ∀G,ld1 (some (rH 87 [nI .i64 4,.bool false,nI .i64 0,.str s,.nils,.nils])) 5 G=.val .nils G:=λG=>by rw[Z2 (by simp)];rfl
 obtain⟨F,rfl⟩: ∃G,fuel=G+1:=⟨fuel - 1,by have:=E.big;omega⟩
 have q5:decide (0<0)=false:=rfl
 have a1: ∀G:Heap,E5 (nI .i64 0) (nI .i64 1) G=.val (nI .i64 1) G:=λG=>YZ (a:=0) (b:=1) (by decide) G
 simp only[bx,g1,l4,l5,q5,a1,Nk,ZH,YD,c57,uV,uW,ZC,ZY,Zz,Zw,reduceCtorEq,Z4,WG]
 refine⟨_,rfl,?_⟩
 exact k1
theorem L0(E:Env Zp fs fuel)(hl:s.length<999998)(hro:H.ro<=H.nx):
  ∃H',ZJ (LK Zp fs fuel k) fs fuel (n+4) 44 [.agg [nI .i64 4,.bool false,nI .i64 0,.str s,.nils,.nils]] H=.ret (nI .i64 (cond (vu s) 0 1)) H'∧Zq H H' []:=by
 rw[ZL (ZF E.n44 (.inr rfl) _ _) E.f44]
 obtain⟨H1,hH1⟩:=XZ (H.new (rH 87 [nI .i64 4,.bool false,nI .i64 0,.str s,.nils,.nils]))
 have bx:=YU (l:=[nI .i64 4,.bool false,nI .i64 0,.str s,.nils,.nils]) (WW 1 5) 87 H
 rw[hH1] at bx
 have U2:H1.nx=H.nx+1:=by rw[<-hH1];rfl
 have Rm:H1.ro=H.ro:=by rw[<-hH1];rfl
 have k1:Zq H H1 []:=by rw[<-hH1];exact Zq.new H _ _
 have g1:H1.t.get H.nx=some (rH 87 [nI .i64 4,.bool false,nI .i64 0,.str s,.nils,.nils]):=by rw[<-hH1,Zx rfl]
 have l6: ∀G,ldN 6 (some (rH 87 [nI .i64 4,.bool false,nI .i64 0,.str s,.nils,.nils])) 0 G=.val (.agg [nI .i64 4,.bool false,nI .i64 0,.str s,.nils,.nils]) G:=λG=>by rw[X8 (by simp)];rfl
 obtain⟨H2,ew,k2⟩:=uH E (k:=k) (n:=n) (s:=s) (H:=H1) hl (by omega)
 have g2:H2.t.get H.nx=some (rH 87 [nI .i64 4,.bool false,nI .i64 0,.str s,.nils,.nils]):=by rw[k2.get _ (by omega) (by simp)];exact g1
 obtain⟨H3,eh,k3⟩:=yR E (k:=k) (n:=n+2) (s:=s) (H:=H2)
 have q5:decide (32<1)=false:=rfl
 cases hv:vu s<;>rw[hv] at ew
 ·have ew':=ew
  simp only[bx,g1,l6,ew,Xi,c44,ZC,ZY,Zz,Zw,Z4]
  refine⟨_,rfl,?_⟩
  exact k1.trans k2 (by simp)
 ·have ew':=ew
  simp only[bx,g1,g2,l6,ew,eh,q5,Yi,Xn,c44,ZC,ZY,Zz,Zw,Z4]
  refine⟨_,rfl,?_⟩
  exact(k1.trans k2 (by simp)).trans k3 (by simp)
theorem rU(E:Env Zp fs fuel)(hl:s.length<999998)(hro:H.ro<=H.nx):
  ∃H',ZJ (LK Zp fs fuel k) fs fuel (n+2) 52 [.agg [nI .i64 4,.bool false,nI .i64 0,.str s,.nils,.nils]] H=.ret (.str (quo s)) H'∧Zq H H' []:=by
 rw[ZL (ZF E.n52 (.inr rfl) _ _) E.f52]
 obtain⟨H1,hH1⟩:=XZ (H.new (rH 87 [nI .i64 4,.bool false,nI .i64 0,.str s,.nils,.nils]))
 have bx:=YU (l:=[nI .i64 4,.bool false,nI .i64 0,.str s,.nils,.nils]) (WW 1 5) 87 H
 rw[hH1] at bx
 have U2:H1.nx=H.nx+1:=by rw[<-hH1];rfl
 have Rm:H1.ro=H.ro:=by rw[<-hH1];rfl
 have k1:Zq H H1 []:=by rw[<-hH1];exact Zq.new H _ _
 have g1:H1.t.get H.nx=some (rH 87 [nI .i64 4,.bool false,nI .i64 0,.str s,.nils,.nils]):=by rw[<-hH1,Zx rfl]
 have l0: ∀G,ld1 (some (rH 87 [nI .i64 4,.bool false,nI .i64 0,.str s,.nils,.nils])) 0 G=.val (nI .i64 4) G:=λG=>by rw[Z2 (by simp)];rfl
 have l3: ∀G,ld1 (some (rH 87 [nI .i64 4,.bool false,nI .i64 0,.str s,.nils,.nils])) 3 G=.val (.str s) G:=λG=>by rw[Z2 (by simp)];rfl
 obtain⟨H2,eq,k2⟩:=xA E (k:=k) (n:=n) (s:=s) (H:=H1) hl (by omega)
 simp only[bx,g1,l0,l3,eq,YD,c52,ZC,ZY,Zz,Zw,Nat.reduceEqDiff,Z4,]
 refine⟨_,rfl,?_⟩
 exact k1.trans k2 (by simp)
theorem gM(E:Env Zp fs fuel)(hl:s.length<999998)(hro:H.ro<=H.nx)(hv:vu s=false):
  ∃H',ZJ (LK Zp fs fuel k) fs fuel (n+5) 39 [.agg [nI .i64 4,.bool false,nI .i64 0,.str s,.nils,.nils]] H=.ret (.tup [.nils,nI .i64 1]) H'∧Zq H H' []:=by
 rw[ZL (ZF E.n39 (.inr rfl) _ _) E.f39]
 obtain⟨H1,hH1⟩:=XZ (H.new (rH 87 [nI .i64 4,.bool false,nI .i64 0,.str s,.nils,.nils]))
 have bx:=YU (l:=[nI .i64 4,.bool false,nI .i64 0,.str s,.nils,.nils]) (WW 1 5) 87 H
 rw[hH1] at bx
 have U2:H1.nx=H.nx+1:=by rw[<-hH1];rfl
 have Rm:H1.ro=H.ro:=by rw[<-hH1];rfl
 have k1:Zq H H1 []:=by rw[<-hH1];exact Zq.new H _ _
 have g1:H1.t.get H.nx=some (rH 87 [nI .i64 4,.bool false,nI .i64 0,.str s,.nils,.nils]):=by rw[<-hH1,Zx rfl]
 have l6: ∀G,ldN 6 (some (rH 87 [nI .i64 4,.bool false,nI .i64 0,.str s,.nils,.nils])) 0 G=.val (.agg [nI .i64 4,.bool false,nI .i64 0,.str s,.nils,.nils]) G:=λG=>by rw[X8 (by simp)];rfl
 obtain⟨H2,ec,k2⟩:=L0 E (k:=k) (n:=n) (s:=s) (H:=H1) hl (by omega)
 rw[hv] at ec
 have ec:ZJ (LK Zp fs fuel k) fs fuel (n+4) 44 [.agg [nI .i64 4,.bool false,nI .i64 0,.str s,.nils,.nils]] H1=.ret (nI .i64 1) H2:=ec
 have z1:decide (1≠0)=true:=rfl
 simp only[bx,g1,l6,ec,z1,P3,c39,ZC,ZY,Zz,Z4]
 refine⟨_,rfl,?_⟩
 exact k1.trans k2 (by simp)
theorem mO(E:Env Zp fs fuel)(hl:s.length<999998)(hro:H.ro<=H.nx)(hv:vu s=true):
  ∃H' b,ZJ (LK Zp fs fuel k) fs fuel (n+5) 39 [.agg [nI .i64 4,.bool false,nI .i64 0,.str s,.nils,.nils]] H=.ret (.tup [.slice b 0 (quo s).length none,nI .i64 0]) H'∧Zq H H' []∧H.nx<=b∧b<H'.nx∧H'.t.get b=some (rG 5 1 ((quo s).map XM) 0 true true false):=by
 rw[ZL (ZF E.n39 (.inr rfl) _ _) E.f39]
 obtain⟨H1,hH1⟩:=XZ (H.new (rH 87 [nI .i64 4,.bool false,nI .i64 0,.str s,.nils,.nils]))
 have bx:=YU (l:=[nI .i64 4,.bool false,nI .i64 0,.str s,.nils,.nils]) (WW 1 5) 87 H
 rw[hH1] at bx
 have U2:H1.nx=H.nx+1:=by rw[<-hH1];rfl
 have Rm:H1.ro=H.ro:=by rw[<-hH1];rfl
 have k1:Zq H H1 []:=by rw[<-hH1];exact Zq.new H _ _
 have g1:H1.t.get H.nx=some (rH 87 [nI .i64 4,.bool false,nI .i64 0,.str s,.nils,.nils]):=by rw[<-hH1,Zx rfl]
 have l6: ∀G,ldN 6 (some (rH 87 [nI .i64 4,.bool false,nI .i64 0,.str s,.nils,.nils])) 0 G=.val (.agg [nI .i64 4,.bool false,nI .i64 0,.str s,.nils,.nils]) G:=λG=>by rw[X8 (by simp)];rfl
 obtain⟨H2,ec,k2⟩:=L0 E (k:=k) (n:=n) (s:=s) (H:=H1) hl (by omega)
 rw[hv] at ec
 have ec:ZJ (LK Zp fs fuel k) fs fuel (n+4) 44 [.agg [nI .i64 4,.bool false,nI .i64 0,.str s,.nils,.nils]] H1=.ret (nI .i64 0) H2:=ec
 have g2:H2.t.get H.nx=some (rH 87 [nI .i64 4,.bool false,nI .i64 0,.str s,.nils,.nils]):=by rw[k2.get _ (by omega) (by simp)];exact g1
 have n2:=k2.nx
 have Qw:=k2.ro
 obtain⟨H3,et,k3⟩:=rU E (k:=k) (n:=n+2) (s:=s) (H:=H2) hl (by omega)
 have n3:=k3.nx
 have z1:decide (0≠0)=false:=rfl
 have bv:=λG=>Q8 5 (quo s) G
 simp only[bx,g1,g2,l6,ec,et,bv,z1,P3,c39,ZC,ZY,Zz,Z4]
 exact⟨_,H3.nx,rfl,((k1.trans k2 (by simp)).trans k3 (by simp)).then_new _,by omega,Yo _,by rw[Zx rfl]⟩
theorem uG(E:Env Zp fs fuel){u:Nat}(hro:H.ro<=H.nx):
  ∃H',ZJ (LK Zp fs fuel k) fs fuel (n+3) 56 [.agg [nI .i64 3,.bool false,nI .i64 u,.str [],.nils,.nils],nI .i64 32] H=.ret (.bool false) H'∧Zq H H' []:=by
 rw[ZL (ZF E.n56 (.inr rfl) _ _) E.f56]
 obtain⟨H1,hH1⟩:=XZ (H.new (rH 87 [nI .i64 3,.bool false,nI .i64 u,.str [],.nils,.nils]))
 have bx:=YU (l:=[nI .i64 3,.bool false,nI .i64 u,.str [],.nils,.nils]) (WW 1 5) 87 H
 rw[hH1] at bx
 have U2:H1.nx=H.nx+1:=by rw[<-hH1];rfl
 have k1:Zq H H1 []:=by rw[<-hH1];exact Zq.new H _ _
 have g1:H1.t.get H.nx=some (rH 87 [nI .i64 3,.bool false,nI .i64 u,.str [],.nils,.nils]):=by rw[<-hH1,Zx rfl]
 have l0: ∀G,ld1 (some (rH 87 [nI .i64 3,.bool false,nI .i64 u,.str [],.nils,.nils])) 0 G=.val (nI .i64 3) G:=λG=>by rw[Z2 (by simp)];rfl
 have l1: ∀G,ld1 (some (rH 87 [nI .i64 3,.bool false,nI .i64 u,.str [],.nils,.nils])) 1 G=.val (.bool false) G:=λG=>by rw[Z2 (by simp)];rfl
 have l2: ∀G,ld1 (some (rH 87 [nI .i64 3,.bool false,nI .i64 u,.str [],.nils,.nils])) 2 G=.val (nI .i64 u) G:=λG=>by rw[Z2 (by simp)];rfl
 have l3: ∀G,ld1 (some (rH 87 [nI .i64 3,.bool false,nI .i64 u,.str [],.nils,.nils])) 3 G=.val (.str []) G:=λG=>by rw[Z2 (by simp)];rfl
 have l4: ∀G,ld1 (some (rH 87 [nI .i64 3,.bool false,nI .i64 u,.str [],.nils,.nils])) 4 G=.val .nils G:=λG=>by rw[Z2 (by simp)];rfl
 have l5: ∀G,ld1 (some (rH 87 [nI .i64 3,.bool false,nI .i64 u,.str [],.nils,.nils])) 5 G=.val .nils G:=λG=>by rw[Z2 (by simp)];rfl
 obtain⟨H2,ev,k2⟩:=E0 E (k:=k) (n:=n) (s:=[]) (H:=H1) (by decide)
 rw[r9] at ev
 have g2:H2.t.get H.nx=some (rH 87 [nI .i64 3,.bool false,nI .i64 u,.str [],.nils,.nils]):=by rw[k2.get _ (by omega) (by simp)];exact g1
 obtain⟨F,rfl⟩: ∃G,fuel=G+1:=⟨fuel - 1,by have:=E.big;omega⟩
 have q1:decide (3<1)=false:=rfl
 have q2:decide (6<3)=false:=rfl
 have q4:decide (3≠3)=false:=rfl
 have q5:decide (0<0)=false:=rfl
 have cf: ∀x y:Bool,cond true x y=x:=λ_ _=>rfl
 by_cases hu:u≠0
 ·have hs:=Ze hu
  simp only[bx,g1,g2,l0,l1,l2,l3,l4,l5,ev,Nk,ZH,Yi,YD,P3,VV,q1,q2,hs,q4,q5,cf,Xn,aW,In,Io,ZC,ZY,Zz,Zw,reduceCtorEq,Z4,WG,Rn]
  refine⟨_,rfl,?_⟩
  exact k1.trans k2 (by simp)
 ·have hs:=Zb hu
  simp only[bx,g1,g2,l0,l1,l2,l3,l4,l5,ev,Nk,ZH,Yi,YD,P3,VV,q1,q2,hs,q5,cf,Xn,aW,In,Io,ZC,ZY,Zz,Zw,reduceCtorEq,Z4,WG,Rn]
  refine⟨_,rfl,?_⟩
  exact k1.trans k2 (by simp)
theorem yQ(E:Env Zp fs fuel){u:Nat}:
  ∃H',ZJ (LK Zp fs fuel k) fs fuel (n+1) 57 [.agg [nI .i64 3,.bool false,nI .i64 u,.str [],.nils,.nils],nI .i64 32] H=.ret (nI .i64 1) H'∧Zq H H' []:=by
 rw[ZL (ZF E.n57 (.inr rfl) _ _) E.f57]
 obtain⟨H1,hH1⟩:=XZ (H.new (rH 87 [nI .i64 3,.bool false,nI .i64 u,.str [],.nils,.nils]))
 have bx:=YU (l:=[nI .i64 3,.bool false,nI .i64 u,.str [],.nils,.nils]) (WW 1 5) 87 H
 rw[hH1] at bx
 have k1:Zq H H1 []:=by rw[<-hH1];exact Zq.new H _ _
 have g1:H1.t.get H.nx=some (rH 87 [nI .i64 3,.bool false,nI .i64 u,.str [],.nils,.nils]):=by rw[<-hH1,Zx rfl]
 have l4: ∀G,ld1 (some (rH 87 [nI .i64 3,.bool false,nI .i64 u,.str [],.nils,.nils])) 4 G=.val .nils G:=λG=>by rw[Z2 (by simp)];rfl
 have l5: ∀G,ld1 (some (rH 87 [nI .i64 3,.bool false,nI .i64 u,.str [],.nils,.nils])) 5 G=.val .nils G:=λG=>by rw[Z2 (by simp)];rfl
 obtain⟨F,rfl⟩: ∃G,fuel=G+1:=⟨fuel - 1,by have:=E.big;omega⟩
 have q5:decide (0<0)=false:=rfl
 have a1: ∀G:Heap,E5 (nI .i64 0) (nI .i64 1) G=.val (nI .i64 1) G:=λG=>YZ (a:=0) (b:=1) (by decide) G
 simp only[bx,g1,l4,l5,q5,a1,Nk,ZH,YD,c57,uV,uW,ZC,ZY,Zz,Zw,reduceCtorEq,Z4,WG]
 refine⟨_,rfl,?_⟩
 exact k1
theorem wt(E:Env Zp fs fuel){u:Nat}(hro:H.ro<=H.nx):
  ∃H',ZJ (LK Zp fs fuel k) fs fuel (n+4) 44 [.agg [nI .i64 3,.bool false,nI .i64 u,.str [],.nils,.nils]] H=.ret (nI .i64 0) H'∧Zq H H' []:=by
 rw[ZL (ZF E.n44 (.inr rfl) _ _) E.f44]
 obtain⟨H1,hH1⟩:=XZ (H.new (rH 87 [nI .i64 3,.bool false,nI .i64 u,.str [],.nils,.nils]))
 have bx:=YU (l:=[nI .i64 3,.bool false,nI .i64 u,.str [],.nils,.nils]) (WW 1 5) 87 H
 rw[hH1] at bx
 have U2:H1.nx=H.nx+1:=by rw[<-hH1];rfl
 have Rm:H1.ro=H.ro:=by rw[<-hH1];rfl
 have k1:Zq H H1 []:=by rw[<-hH1];exact Zq.new H _ _
 have g1:H1.t.get H.nx=some (rH 87 [nI .i64 3,.bool false,nI .i64 u,.str [],.nils,.nils]):=by rw[<-hH1,Zx rfl]
 have l6: ∀G,ldN 6 (some (rH 87 [nI .i64 3,.bool false,nI .i64 u,.str [],.nils,.nils])) 0 G=.val (.agg [nI .i64 3,.bool false,nI .i64 u,.str [],.nils,.nils]) G:=λG=>by rw[X8 (by simp)];rfl
 obtain⟨H2,ew,k2⟩:=uG E (k:=k) (n:=n) (u:=u) (H:=H1) (by omega)
 have g2:H2.t.get H.nx=some (rH 87 [nI .i64 3,.bool false,nI .i64 u,.str [],.nils,.nils]):=by rw[k2.get _ (by omega) (by simp)];exact g1
 obtain⟨H3,eh,k3⟩:=yQ E (k:=k) (n:=n+2) (u:=u) (H:=H2)
 have q5:decide (32<1)=false:=rfl
 simp only[bx,g1,g2,l6,ew,eh,q5,Yi,c44,ZC,ZY,Zz,Z4]
 refine⟨_,rfl,?_⟩
 exact(k1.trans k2 (by simp)).trans k3 (by simp)
theorem rT(E:Env Zp fs fuel){u:Nat}(hu:u<9223372036854775808)(hro:H.ro<=H.nx):
  ∃H',ZJ (LK Zp fs fuel k) fs fuel (n+3) 52 [.agg [nI .i64 3,.bool false,nI .i64 u,.str [],.nils,.nils]] H=.ret (.str (SF (u:Int))) H'∧Zq H H' []:=by
 rw[ZL (ZF E.n52 (.inr rfl) _ _) E.f52]
 obtain⟨H1,hH1⟩:=XZ (H.new (rH 87 [nI .i64 3,.bool false,nI .i64 u,.str [],.nils,.nils]))
 have bx:=YU (l:=[nI .i64 3,.bool false,nI .i64 u,.str [],.nils,.nils]) (WW 1 5) 87 H
 rw[hH1] at bx
 have U2:H1.nx=H.nx+1:=by rw[<-hH1];rfl
 have Rm:H1.ro=H.ro:=by rw[<-hH1];rfl
 have k1:Zq H H1 []:=by rw[<-hH1];exact Zq.new H _ _
 have g1:H1.t.get H.nx=some (rH 87 [nI .i64 3,.bool false,nI .i64 u,.str [],.nils,.nils]):=by rw[<-hH1,Zx rfl]
 have l0: ∀G,ld1 (some (rH 87 [nI .i64 3,.bool false,nI .i64 u,.str [],.nils,.nils])) 0 G=.val (nI .i64 3) G:=λG=>by rw[Z2 (by simp)];rfl
 have l2: ∀G,ld1 (some (rH 87 [nI .i64 3,.bool false,nI .i64 u,.str [],.nils,.nils])) 2 G=.val (nI .i64 u) G:=λG=>by rw[Z2 (by simp)];rfl
 obtain⟨H2,eq,k2⟩:=ZiB E (k:=k) (n:=n) (z:=(u:Int)) (H:=H1) (by omega) (by omega) (by omega)
 have eq:ZJ (LK Zp fs fuel k) fs fuel (n+2) 70 [nI .i64 u] H1=.ret (.str (SF (u:Int))) H2:=eq
 simp only[bx,g1,l0,l2,eq,YD,c52,ZC,ZY,Zz,Zw,Nat.reduceEqDiff,Z4,]
 refine⟨_,rfl,?_⟩
 exact k1.trans k2 (by simp)
theorem mN(E:Env Zp fs fuel){u:Nat}(hu:u<9223372036854775808)(hro:H.ro<=H.nx):
  ∃H' b,ZJ (LK Zp fs fuel k) fs fuel (n+5) 39 [.agg [nI .i64 3,.bool false,nI .i64 u,.str [],.nils,.nils]] H=.ret (.tup [.slice b 0 (SF (u:Int)).length none,nI .i64 0]) H'∧Zq H H' []∧H.nx<=b∧b<H'.nx∧H'.t.get b=some (rG 5 1 ((SF (u:Int)).map XM) 0 true true false):=by
 rw[ZL (ZF E.n39 (.inr rfl) _ _) E.f39]
 obtain⟨H1,hH1⟩:=XZ (H.new (rH 87 [nI .i64 3,.bool false,nI .i64 u,.str [],.nils,.nils]))
 have bx:=YU (l:=[nI .i64 3,.bool false,nI .i64 u,.str [],.nils,.nils]) (WW 1 5) 87 H
 rw[hH1] at bx
 have U2:H1.nx=H.nx+1:=by rw[<-hH1];rfl
 have Rm:H1.ro=H.ro:=by rw[<-hH1];rfl
 have k1:Zq H H1 []:=by rw[<-hH1];exact Zq.new H _ _
 have g1:H1.t.get H.nx=some (rH 87 [nI .i64 3,.bool false,nI .i64 u,.str [],.nils,.nils]):=by rw[<-hH1,Zx rfl]
 have l6: ∀G,ldN 6 (some (rH 87 [nI .i64 3,.bool false,nI .i64 u,.str [],.nils,.nils])) 0 G=.val (.agg [nI .i64 3,.bool false,nI .i64 u,.str [],.nils,.nils]) G:=λG=>by rw[X8 (by simp)];rfl
 obtain⟨H2,ec,k2⟩:=wt E (k:=k) (n:=n) (u:=u) (H:=H1) (by omega)
 have g2:H2.t.get H.nx=some (rH 87 [nI .i64 3,.bool false,nI .i64 u,.str [],.nils,.nils]):=by rw[k2.get _ (by omega) (by simp)];exact g1
 have n2:=k2.nx
 have Qw:=k2.ro
 obtain⟨H3,et,k3⟩:=rT E (k:=k) (n:=n+1) (u:=u) (H:=H2) hu (by omega)
 have n3:=k3.nx
 have z1:decide (0≠0)=false:=rfl
 have bv:=λG=>Q8 5 (SF (u:Int)) G
 simp only[bx,g1,g2,l6,ec,et,bv,z1,P3,c39,ZC,ZY,Zz,Z4]
 exact⟨_,H3.nx,rfl,((k1.trans k2 (by simp)).trans k3 (by simp)).then_new _,by omega,Yo _,by rw[Zx rfl]⟩
theorem Tl(E:Env Zp fs fuel)(hl:s.length<999998)(hro:H.ro<=H.nx):
  ∃H',ZJ (LK Zp fs fuel k) fs fuel (n+6) 22 [.str s] H=.ret (.str (cond (vu s) (quo s) [])) H'∧Zq H H' []:=by
 rw[ZL (ZF E.n22 (.inr rfl) _ _) E.f22]
 have bd: ∀G:Heap,Qd zV [(0,1,nI .i64 4),(3,1,.str s)] G=.val (.agg [nI .i64 4,.bool false,nI .i64 0,.str s,.nils,.nils]) G:=λG=>rfl
 cases hv:vu s
 ·obtain⟨H2,ep,k2⟩:=gM E (k:=k) (n:=n) (s:=s) (H:=H) hl hro hv
  have sn: ∀G:Heap,Ry .nils G=.val (.str []) G:=λG=>rfl
  simp only[bd,ep,sn,c22,ZC,ZY,Zz,Zw,Z4]
  refine⟨_,rfl,?_⟩
  exact k2
 ·obtain⟨H2,b,ep,k2,hb1,hb2,hb⟩:=mO E (k:=k) (n:=n) (s:=s) (H:=H) hl hro hv
  have sn:=aj (c:=none) hb
  simp only[bd,ep,sn,c22,ZC,ZY,Zz,Zw,Z4]
  refine⟨_,rfl,?_⟩
  exact k2
theorem xg(E:Env Zp fs fuel){u:Nat}(hu:u<9223372036854775808)(hro:H.ro<=H.nx):
  ∃H',ZJ (LK Zp fs fuel k) fs fuel (n+6) 51 [nI .i64 u] H=.ret (.str (SF (u:Int))) H'∧Zq H H' []:=by
 rw[ZL (ZF E.n51 (.inr rfl) _ _) E.f51]
 have bd: ∀G:Heap,Qd zV [(0,1,nI .i64 3),(2,1,nI .i64 u)] G=.val (.agg [nI .i64 3,.bool false,nI .i64 u,.str [],.nils,.nils]) G:=λG=>rfl
 obtain⟨H2,b,ep,k2,hb1,hb2,hb⟩:=mN E (k:=k) (n:=n) (u:=u) (H:=H) hu hro
 have sn:=aj (c:=none) hb
 simp only[bd,ep,sn,c51,ZC,ZY,Zz,Zw,Z4]
 refine⟨_,rfl,?_⟩
 exact k2
theorem Nt(E:Env Zp fs fuel){m:Nat}(hl:s.length<999998)(hro:H.ro<=H.nx):
  ∃H',ZJ (LK Zp fs fuel k) fs fuel (n+5) 27 [.str s,nI .i64 m] H=.ret (.bool (decide (s.length<=m)&&vu s)) H'∧Zq H H' []:=by
 rw[ZL (ZF E.n27 (.inr rfl) _ _) E.f27]
 have bd: ∀G:Heap,Qd zV [(0,1,nI .i64 4),(3,1,.str s)] G=.val (.agg [nI .i64 4,.bool false,nI .i64 0,.str s,.nils,.nils]) G:=λG=>rfl
 by_cases h:s.length<=m
 ·have d1:=Ze h
  obtain⟨H2,ep,k2⟩:=L0 E (k:=k) (n:=n) (s:=s) (H:=H) hl hro
  rw[d1,Yz]
  cases hv:vu s<;>rw[hv] at ep
  ·have ep:ZJ (LK Zp fs fuel k) fs fuel (n+4) 44 [.agg [nI .i64 4,.bool false,nI .i64 0,.str s,.nils,.nils]] H=.ret (nI .i64 1) H2:=ep
   have z1:decide (1=0)=false:=rfl
   simp only[bd,ep,d1,X6,YD,Y7,c27,ZC,ZY,Zz,Zw,reduceCtorEq,Z4]
   refine⟨_,rfl,?_⟩
   exact k2
  ·have ep:ZJ (LK Zp fs fuel k) fs fuel (n+4) 44 [.agg [nI .i64 4,.bool false,nI .i64 0,.str s,.nils,.nils]] H=.ret (nI .i64 0) H2:=ep
   simp only[bd,ep,d1,X6,YD,Y7,c27,ZC,ZY,Zz,Zw,Z4]
   refine⟨_,rfl,?_⟩
   exact k2
 ·have d1:=Zb h
  rw[d1,Y4]
  simp only[d1,X6,Y7,c27,ZC,ZY,Zz,Z4]
  refine⟨_,rfl,?_⟩
  exact Zq.refl _ _
def hxd(n:Nat):List UInt8:=(SS.take (n+1)).drop n
def hx(b:UInt8):List UInt8:=hxd (b.toNat/16)++hxd (b.toNat % 16)
def R6(d:List UInt8):List UInt8:=[115,104,97,50,53,54,58]++d.flatMap hx
theorem Dl(h:n<16):(hxd n).length=1:=by
 have hl:SS.length=16:=rfl
 unfold hxd;rw[Yr,ZP,hl];omega
theorem ZbX(b:UInt8):(hx b).length=2:=by
 have:=b.toNat_lt
 unfold hx;rw[Zf,Dl (by omega),Dl (by omega)]
theorem Jb: ∀l:List UInt8,(l.flatMap hx).length=2*l.length
 |[]=>rfl
 |b::l=>by rw[List.flatMap_cons,Zf,ZbX,Jb l,Zh];omega
structure NMI(H:Heap)(d:List UInt8)(b:Nat)(m:Nat)(tm:TM)(H':Heap):Prop where
 i: ∃i,Xf tm=nI .i64 i∧i<=32∧m=32 - i∧XK tm=.str ([115,104,97,50,53,54,58]++(d.take i).flatMap hx)
 t1:Y2 tm=.ptr b 0
 k:H'=H
theorem be(hs:s.length=32)(hb:H0.t.get b=some (rH 22 (s.map XM)))(hbn:b<H0.nx)(cl y f d r)(x:X)(m:Nat)(tm:TM)(H:Heap)(hI:NMI H0 s b m tm H):
  ∃o tm' H',DP ⟨cl,y,f,d,r⟩ tm H x=.ok o tm' H' x∧((o=.normal∧ ∃q,q<m∧NMI H0 s b q tm' H')∨(o≠.normal∧(o=.exit 0∧H'=H0∧XK tm'=.str (R6 s)))):=by
 obtain⟨⟨i,t4,hi,rfl,t3⟩,t1,rfl⟩:=hI
 have lw:=Yp hbn 0
 have t1':=t1
 have O9:=t3
 simp only[OI,PM,Qg] at t4 t1 t3
 by_cases hlt:i<32
 ·have d1:decide (i<32)=true:=Ze hlt
  have hlen:=Jb (s.take i)
  rw[ZP] at hlen
  have hsl:i<s.length:=by omega
  obtain⟨B,hB⟩:=XZ (s[i])
  have hBl:=B.toNat_lt
  have ix:=λG=>Mf (n:=32) hlt b 0 .i64 G
  rw[Zs] at ix
  have ld: ∀G,ld1 (some (rH 22 (s.map XM))) i G=.val (nI .u8 B.toNat) G:=λG=>by
   rw[Z2 (by rw[Zi];exact hsl),Za,Yh,Zg hsl,hB];rfl
  have qo:=λG=>pB (a:=B.toNat) (b:=16) (by decide) (by omega) G
  have rm:=λG=>pC (a:=B.toNat) (b:=16) (by decide) G
  have a1:=λG=>yg (a:=B.toNat/16) (b:=1) (by omega) G
  have a2:=λG=>yg (a:=B.toNat % 16) (b:=1) (by omega) G
  have ZbM:SS.length=16:=rfl
  have s1:=λG=>Ox (s:=SS) (p:=B.toNat/16) (q:=B.toNat/16+1) (by omega) (by omega) .u8 .u8 G
  have s2:=λG=>Ox (s:=SS) (p:=B.toNat % 16) (q:=B.toNat % 16+1) (by omega) (by omega) .u8 .u8 G
  obtain⟨P,hP⟩:=XZ ([115,104,97,50,53,54,58]++(s.take i).flatMap hx)
  have hPl:P.length<=71:=by rw[<-hP,Zf,hlen];simp only[Zh,Zv];omega
  rw[hP] at t3
  have c1:(hxd (B.toNat/16)).length=1:=Dl (by omega)
  have c2:(hxd (B.toNat % 16)).length=1:=Dl (by omega)
  have s1: ∀G,Lh (.str SS) (some (nI .u8 (B.toNat/16))) (some (nI .u8 (B.toNat/16+1))) G=.val (.str (hxd (B.toNat/16))) G:=s1
  have s2: ∀G,Lh (.str SS) (some (nI .u8 (B.toNat % 16))) (some (nI .u8 (B.toNat % 16+1))) G=.val (.str (hxd (B.toNat % 16))) G:=s2
  have p1:=λG=>YI (a:=P) (b:=hxd (B.toNat/16)) (by omega) G
  have p2:=λG=>YI (a:=P++hxd (B.toNat/16)) (b:=hxd (B.toNat % 16)) (by rw[Zf];omega) G
  have ad:=λG=>YZ (a:=i) (b:=1) (by omega) G
  have nx:P++hxd (B.toNat/16)++hxd (B.toNat % 16)=[115,104,97,50,53,54,58]++(s.take (i+1)).flatMap hx:=by
   rw[W9 hsl,TD,<-Y6,hP,hB,Y6];simp[hx]
  simp(maxSteps:=4000000) (disch:=first|assumption|omega|(simp -implicitDefEqProofs only[ZQ,ZR]<;>first|assumption|omega)|decide) only[t1,t3,t4,d1,lw,ix,hb,ld,qo,rm,a1,a2,s1,s2,p1,p2,ad,ZH,DP,ZC,ZY,Zz,Zw,Zr,Zt,ZA,Nat.reducePow,Nat.reduceDiv,Nat.reduceMod,Nat.reduceEqDiff,reduceCtorEq,Z4]
  refine⟨_,_,_,rfl,?_⟩
  exact .inl ⟨rfl,32 - (i+1),by omega,⟨⟨i+1,(by simp only[Z4,ZY]),by omega,rfl,by rw[<-nx];exact(by simp only[Z4,ZY])⟩,(by simp only[Z4,ZY];exact t1'),rfl⟩⟩
 ·have d1:decide (i<32)=false:=Zb hlt
  have ht:s.take i=s:=ZB (by omega)
  simp(maxSteps:=4000000) (disch:=first|assumption|omega|(simp -implicitDefEqProofs only[ZQ,ZR]<;>first|assumption|omega)|decide) only[t1,t4,d1,ZH,DP,ZC,ZY,Zz,Zw,Zr,Zt,ZA,Nat.reducePow,Nat.reduceDiv,Nat.reduceMod,Nat.reduceEqDiff,reduceCtorEq,Z4]
  refine⟨_,_,_,rfl,?_⟩
  exact .inr ⟨by simp,rfl,rfl,by rw[ht] at O9;exact(by simp only[Z4,ZY];exact O9)⟩
theorem vx(E:Env Zp fs fuel)(hs:s.length=32):
  ∃H',ZJ (LK Zp fs fuel k) fs fuel (n+1) 28 [.agg (s.map XM)] H=.ret (.str (R6 s)) H'∧Zq H H' []:=by
 rw[ZL (ZF E.n28 (.inr rfl) _ _) E.f28]
 obtain⟨H1,hH1⟩:=XZ (H.new (rH 22 (s.map XM)))
 have bx:=YU (l:=s.map XM) (by rw[Zi];omega) 22 H
 rw[hH1] at bx
 have k1:Zq H H1 []:=by rw[<-hH1];exact Zq.new H _ _
 have g1:H1.t.get H.nx=some (rH 22 (s.map XM)):=by rw[<-hH1,Zx rfl]
 simp(maxSteps:=4000000) (disch:=first|assumption|omega|(simp -implicitDefEqProofs only[ZQ,ZR]<;>first|assumption|omega)|decide) only[bx,c28,ZC,ZY,Zz,Zw,Zr,Zt,ZA,Nat.reduceEqDiff,reduceCtorEq,Z4,WG]
 generalize hL:XQ (DP _) fuel _ _ _=L
 obtain⟨o,Tx,H2,rfl,_,rfl,rfl,t3⟩:=YA (P:=λT'=>NMI H1 s H.nx 32 T' H1) (Q:=λo tm' H'=>o=.exit 0∧H'=H1∧XK tm'=.str (R6 s))
  (λT' hi'=>YK (NMI H1 s H.nx) _ (λm tm H' h'=>be hs g1 (by rw[<-hH1];exact Yo _) _ _ _ _ _ _ m tm H' h') fuel 32 T' H1 (by have:=E.big;omega) hi') hL
  ⟨⟨0,(by simp only[Z4,ZY]),Z8 _,rfl,(by simp only[Z4,ZY];rfl)⟩,(by simp only[Z4,ZY]),rfl⟩
 simp only[Qg] at t3
 simp(maxSteps:=4000000) (disch:=first|assumption|omega|(simp -implicitDefEqProofs only[ZQ,ZR]<;>first|assumption|omega)|decide) only[t3,c28,ZC,ZY,Zz,Zw,Zr,Zt,ZA,Nat.reduceEqDiff,reduceCtorEq,Z4,WG]
 refine⟨_,rfl,?_⟩
 exact k1
end
end
end Go.AI
