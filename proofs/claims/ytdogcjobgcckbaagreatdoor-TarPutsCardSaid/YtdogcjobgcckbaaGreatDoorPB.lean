/- Numbers in words: walked: proved without conditions but those that each names. -/
import Derived.Test.YtdogcjobgcckbaaGreatDoorP8
import Derived.Test.YtdogcjobgcckbaaGreatDoorPA
set_option maxRecDepth 1000000
set_option maxHeartbeats 0
set_option linter.unusedVariables false
set_option linter.unusedSimpArgs false
namespace Go.AI
open Go
noncomputable section
section
variable {Zn:Lib} {fs:T CF} {fuel k n i h b:Nat} {H H0:Heap} {s:List UInt8} {cs:List AV}
def PH(x:Nat):Nat:=if x=0 then 0 else Nat.log2 x+1
theorem wz: ∀x,x<256->(vO.getD x 0).toNat=PH x:=by decide
theorem DK{x:Nat}(h:2^k<=x):PH x=k+PH (x/2^k):=by
 have hp:0<2^k:=Nat.two_pow_pos k
 have h1:x≠0:=by omega
 have h2:x/2^k≠0:=by
  have:=Nat.div_pos h hp;omega
 unfold PH
 rw[if_neg h1,if_neg h2]
 have e1:=(Nat.log2_eq_iff h2 (k:=Nat.log2 (x/2^k))).1 rfl
 have:Nat.log2 x=k+Nat.log2 (x/2^k):=by
  refine(Nat.log2_eq_iff h1).2 ⟨?_,?_⟩
  ·rw[QA]
   calc 2^k*2^Nat.log2 (x/2^k)<=2^k*(x/2^k):=Nat.mul_le_mul_left _ e1.1
    _<=x:=Nat.mul_div_le x _
  ·rw[XR,QA,VW]
   exact(Qo hp).1 e1.2
 omega
theorem aR{x:Nat}(h:4294967296<=x):PH x=32+PH (x/4294967296):=DK (k:=32) h
theorem pc{x:Nat}(h:65536<=x):PH x=16+PH (x/65536):=DK (k:=16) h
theorem yE{x:Nat}(h:256<=x):PH x=8+PH (x/256):=DK (k:=8) h
theorem yF{x:Nat}(h:x<2^k):PH x<=k:=by
 unfold PH
 split
 ·omega
 ·rename_i h0
  have:=(Nat.log2_lt h0).2 h
  omega
theorem m9(E:Env Zn fs fuel){x:Nat}(hx:x<18446744073709551616):
  ∃H',ZE (LK Zn fs fuel 0) fs fuel (n+2) 124 [nI .u64 x] H=.ret (nI .i64 (PH x)) H'∧Zs H H' []:=by
 rw[ZI (ZA E.n124 (.inl (by decide)) _ _) E.f124]
 have hl:vO.length=256:=by decide
 have tab: ∀y,y<256->vO.getD (y % 256) 0=UInt8.ofNat (PH y):=λy hy=>by
  rw[YB hy,<-wz y hy];simp
 have tb: ∀y,y<256->(vO.getD (y % 256) 0).toNat=PH y:=λy hy=>by rw[YB hy,wz y hy]
 have bl: ∀y,PH (y % 256)<=8:=λy=>yF (k:=8) (WF _ (by decide))
 by_cases h1:4294967296<=x
 ·have d1:decide (4294967296<=x)=true:=Ze h1
  rw[aR h1]
  generalize hy:x/4294967296=y
  have hy2:y<4294967296:=by omega
  by_cases h2:65536<=y
  ·have d2:decide (65536<=y)=true:=Ze h2
   rw[pc h2]
   generalize hz:y/65536=z
   have hz2:z<65536:=by omega
   by_cases h3:256<=z
   ·have d3:decide (256<=z)=true:=Ze h3
    rw[yE h3]
    generalize hw:z/256=w
    have hw2:w<256:=by omega
    have hm:=YB hw2
    have hb:=bl w
    rw[hm] at hb
    have hb2:=tb w hw2
    rw[hm] at hb2
    simp(disch:=first|omega|decide) only[Xu,RF,Mc,XD,UB,YI,Nat.reducePow,d1,hy,d2,hz,d3,hw,hm,hb2,Af,Zu,Ye,Zw,Z8,Yp,Yv,Y6,Nat.reducePow,Nat.reduceDiv,Nat.reduceMod,Nat.reduceEqDiff,reduceCtorEq,Z6]
    exact⟨_,by first|rfl|simp only[XR],Zs.refl _ _⟩
   ·have d3:decide (256<=z)=false:=Zb h3
    have hw2:z<256:=by omega
    have hm:=YB hw2
    have hb:=bl z
    rw[hm] at hb
    have hb2:=tb z hw2
    rw[hm] at hb2
    simp(disch:=first|omega|decide) only[Xu,RF,Mc,XD,UB,YI,Nat.reducePow,d1,hy,d2,hz,d3,hm,hb2,Af,Zu,Ye,Zw,Z8,Yp,Yv,Y6,Nat.reducePow,Nat.reduceDiv,Nat.reduceMod,Nat.reduceEqDiff,reduceCtorEq,Z6]
    exact⟨_,by first|rfl|simp only[XR],Zs.refl _ _⟩
  ·have d2:decide (65536<=y)=false:=Zb h2
   have hz2:y<65536:=by omega
   by_cases h3:256<=y
   ·have d3:decide (256<=y)=true:=Ze h3
    rw[yE h3]
    generalize hw:y/256=w
    have hw2:w<256:=by omega
    have hm:=YB hw2
    have hb:=bl w
    rw[hm] at hb
    have hb2:=tb w hw2
    rw[hm] at hb2
    simp(disch:=first|omega|decide) only[Xu,RF,Mc,XD,UB,YI,Nat.reducePow,d1,hy,d2,d3,hw,hm,hb2,Af,Zu,Ye,Zw,Z8,Yp,Yv,Y6,Nat.reducePow,Nat.reduceDiv,Nat.reduceMod,Nat.reduceEqDiff,reduceCtorEq,Z6]
    exact⟨_,by first|rfl|simp only[XR],Zs.refl _ _⟩
   ·have d3:decide (256<=y)=false:=Zb h3
    have hw2:y<256:=by omega
    have hm:=YB hw2
    have hb:=bl y
    rw[hm] at hb
    have hb2:=tb y hw2
    rw[hm] at hb2
    simp(disch:=first|omega|decide) only[Xu,RF,Mc,XD,UB,YI,Nat.reducePow,d1,hy,d2,d3,hm,hb2,Af,Zu,Ye,Zw,Z8,Yp,Yv,Y6,Nat.reducePow,Nat.reduceDiv,Nat.reduceMod,Nat.reduceEqDiff,reduceCtorEq,Z6]
    exact⟨_,by first|rfl|simp only[XR],Zs.refl _ _⟩
 ·have d1:decide (4294967296<=x)=false:=Zb h1
  have hy2:x<4294967296:=by omega
  by_cases h2:65536<=x
  ·have d2:decide (65536<=x)=true:=Ze h2
   rw[pc h2]
   generalize hz:x/65536=z
   have hz2:z<65536:=by omega
   by_cases h3:256<=z
   ·have d3:decide (256<=z)=true:=Ze h3
    rw[yE h3]
    generalize hw:z/256=w
    have hw2:w<256:=by omega
    have hm:=YB hw2
    have hb:=bl w
    rw[hm] at hb
    have hb2:=tb w hw2
    rw[hm] at hb2
    simp(disch:=first|omega|decide) only[Xu,RF,Mc,XD,UB,YI,Nat.reducePow,d1,d2,hz,d3,hw,hm,hb2,Af,Zu,Ye,Zw,Z8,Yp,Yv,Y6,Nat.reducePow,Nat.reduceDiv,Nat.reduceMod,Nat.reduceEqDiff,reduceCtorEq,Z6]
    exact⟨_,by first|rfl|simp only[XR],Zs.refl _ _⟩
   ·have d3:decide (256<=z)=false:=Zb h3
    have hw2:z<256:=by omega
    have hm:=YB hw2
    have hb:=bl z
    rw[hm] at hb
    have hb2:=tb z hw2
    rw[hm] at hb2
    simp(disch:=first|omega|decide) only[Xu,RF,Mc,XD,UB,YI,Nat.reducePow,d1,d2,hz,d3,hm,hb2,Af,Zu,Ye,Zw,Z8,Yp,Yv,Y6,Nat.reducePow,Nat.reduceDiv,Nat.reduceMod,Nat.reduceEqDiff,reduceCtorEq,Z6]
    exact⟨_,by first|rfl|simp only[XR],Zs.refl _ _⟩
  ·have d2:decide (65536<=x)=false:=Zb h2
   have hz2:x<65536:=by omega
   by_cases h3:256<=x
   ·have d3:decide (256<=x)=true:=Ze h3
    rw[yE h3]
    generalize hw:x/256=w
    have hw2:w<256:=by omega
    have hm:=YB hw2
    have hb:=bl w
    rw[hm] at hb
    have hb2:=tb w hw2
    rw[hm] at hb2
    simp(disch:=first|omega|decide) only[Xu,RF,Mc,XD,UB,YI,Nat.reducePow,d1,d2,d3,hw,hm,hb2,Af,Zu,Ye,Zw,Z8,Yp,Yv,Y6,Nat.reducePow,Nat.reduceDiv,Nat.reduceMod,Nat.reduceEqDiff,reduceCtorEq,Z6]
    exact⟨_,by first|rfl|simp only[XR],Zs.refl _ _⟩
   ·have d3:decide (256<=x)=false:=Zb h3
    have hw2:x<256:=by omega
    have hm:=YB hw2
    have hb:=bl x
    rw[hm] at hb
    have hb2:=tb x hw2
    rw[hm] at hb2
    simp(disch:=first|omega|decide) only[Xu,RF,Mc,XD,UB,YI,Nat.reducePow,d1,d2,d3,hm,hb2,Af,Zu,Ye,Zw,Z8,Yp,Yv,Y6,Nat.reducePow,Nat.reduceDiv,Nat.reduceMod,Nat.reduceEqDiff,reduceCtorEq,Z6]
    exact⟨_,by first|rfl|simp only[XR],Zs.refl _ _⟩
theorem Ziq(E:Env Zn fs fuel)(hk:1<=k){x:Nat}(hx:x<18446744073709551616):
  ZE (LK Zn fs fuel k) fs fuel (n+1) 124 [nI .u64 x] H=.ret (nI .i64 (PH x)) H:=by
 obtain⟨H',e,g⟩:=m9 E (n:=898) (H:=H) hx
 exact Yl (r:=0) rfl rfl e g (rfl) hk
theorem ry(E:Env Zn fs fuel){x:Nat}(hx:x<=64):
  ∃H',ZE (LK Zn fs fuel 0) fs fuel (n+2) 123 [nI .i64 x] H=.ret (nI .i64 (x*78913/262144)) H'∧Zs H H' []:=by
 rw[ZI (ZA E.n123 (.inl (by decide)) _ _) E.f123]
 simp(disch:=first|omega|decide) only[rN,kY,Nat.reducePow,Zew,Zu,Ye,Zw,Z8,Yp,Yv,Y6,Nat.reducePow,Nat.reduceDiv,Nat.reduceMod,Nat.reduceEqDiff,reduceCtorEq,Z6]
 exact⟨_,rfl,Zs.refl _ _⟩
theorem ZfJ(E:Env Zn fs fuel)(hk:1<=k){x:Nat}(hx:x<=64):
  ZE (LK Zn fs fuel k) fs fuel (n+1) 123 [nI .i64 x] H=.ret (nI .i64 (x*78913/262144)) H:=by
 obtain⟨H',e,g⟩:=ry E (n:=898) (H:=H) hx
 exact Yl (r:=0) rfl rfl e g (rfl) hk
theorem nw(E:Env Zn fs fuel){b:Bool}:
  ∃H',ZE (LK Zn fs fuel 0) fs fuel (n+2) 125 [.bool b] H=.ret (nI .i64 (if b then 1 else 0)) H'∧Zs H H' []:=by
 rw[ZI (ZA E.n125 (.inl (by decide)) _ _) E.f125]
 cases b
 ·simp(disch:=first|omega|decide) only[Zaa,Zu,Ye,Zw,Z8,Yp,Yv,Y6,Nat.reduceEqDiff,reduceCtorEq,Z6]
  exact⟨_,rfl,Zs.refl _ _⟩
 ·simp(disch:=first|omega|decide) only[Zaa,Zu,Ye,Zw,Z8,Yp,Yv,Y6,Nat.reduceEqDiff,reduceCtorEq,Z6]
  exact⟨_,rfl,Zs.refl _ _⟩
theorem ZgY(E:Env Zn fs fuel)(hk:1<=k){b:Bool}:
  ZE (LK Zn fs fuel k) fs fuel (n+1) 125 [.bool b] H=.ret (nI .i64 (if b then 1 else 0)) H:=by
 obtain⟨H',e,g⟩:=nw E (n:=898) (H:=H)
 exact Yl (r:=0) rfl rfl e g (rfl) hk
theorem ja: ∀x,x<100->(if x<10 then(J0.take (x+1)).drop x else(S4.take (x*2+2)).drop (x*2))=dec x:=by
 intro x hx
 by_cases h:x<10
 ·rw[if_pos h,sF h]
  have: ∀x,x<10->(J0.take (x+1)).drop x=[OE x]:=by decide
  exact this x h
 ·rw[if_neg h,iD (by omega),sF (by omega)]
  have: ∀x,x<100->(S4.take (x*2+2)).drop (x*2)=[OE (x/10)]++[OE (x % 10)]:=by decide
  exact this x hx
theorem kZ(E:Env Zn fs fuel){x:Nat}(hx:x<100):
  ∃H',ZE (LK Zn fs fuel 0) fs fuel (n+2) 110 [nI .i64 x] H=.ret (.str (dec x)) H'∧Zs H H' []:=by
 rw[ZI (ZA E.n110 (.inl (by decide)) _ _) E.f110]
 have l1:J0.length=36:=by decide
 have l2:S4.length=200:=by decide
 have st:=ja x hx
 by_cases h:x<10
 ·have d:decide (x<10)=true:=Ze h
  rw[if_pos h] at st
  simp(disch:=first|omega|decide) only[Zy,YI,rN,Jo,d,st,aY,Zu,Ye,Zw,Z8,Yp,Yv,Y6,Nat.reducePow,Nat.reduceDiv,Nat.reduceMod,Nat.reduceEqDiff,reduceCtorEq,Z6]
  exact⟨_,rfl,Zs.refl _ _⟩
 ·have d:decide (x<10)=false:=Zb h
  rw[if_neg h] at st
  simp(disch:=first|omega|decide) only[Zy,YI,rN,Jo,d,st,aY,Zu,Ye,Zw,Z8,Yp,Yv,Y6,Nat.reducePow,Nat.reduceDiv,Nat.reduceMod,Nat.reduceEqDiff,reduceCtorEq,Z6]
  exact⟨_,rfl,Zs.refl _ _⟩
theorem ZdR(E:Env Zn fs fuel)(hk:1<=k){x:Nat}(hx:x<100):
  ZE (LK Zn fs fuel k) fs fuel (n+1) 110 [nI .i64 x] H=.ret (.str (dec x)) H:=by
 obtain⟨H',e,g⟩:=kZ E (n:=898) (H:=H) hx
 exact Yl (r:=0) rfl rfl e g (rfl) hk
def rO(d:Nat):Nat:=PH d*78913/262144
theorem Znu: ∀L,L<65->1<=L->(L*78913/262144<=19∧10^(L*78913/262144)<=2^(L - 1)*10∧2^L<=10^(L*78913/262144+1)∧(L*78913/262144=0∨10^(L*78913/262144 - 1)<=2^(L - 1))):=by decide
theorem ZiC{d:Nat}(h0:d≠0)(h:d<18446744073709551616):rO d<=19∧VI d=rO d+(if 10^rO d<=d then 1 else 0):=by
 have hb:PH d=Nat.log2 d+1:=by unfold PH;rw[if_neg h0]
 have e1:=(Nat.log2_eq_iff h0 (k:=Nat.log2 d)).1 rfl
 have hL:PH d<=64:=yF (k:=64) h
 obtain⟨p0,p1,p2,p3⟩:=Znu (PH d) (by omega) (by omega)
 have g:PH d - 1=Nat.log2 d:=by omega
 rw[g] at p1 p3
 have p2':d<10^(rO d+1):=ZT (by rw[hb];exact e1.2) p2
 refine⟨p0,?_⟩
 by_cases hc:10^rO d<=d
 ·rw[if_pos hc]
  exact xr _ _ hc p2'
 ·rw[if_neg hc]
  rcases p3 with p3|p3
  ·have:rO d=0:=p3
   rw[this] at hc
   simp at hc;omega
  ·by_cases hz:rO d=0
   ·rw[hz] at hc;simp at hc;omega
   ·have:VI d=(rO d - 1)+1:=xr _ _ (Z5 p3 e1.1) (by rw[show rO d - 1+1=rO d by omega];omega)
    omega
theorem Zb7: ∀i,i<20->(oE.getD i 0).toNat=10^i:=by decide
theorem An(E:Env Zn fs fuel){d:Nat}(g:Pv H)(h0:d≠0)(hd:d<18446744073709551616):
  ∃H',ZE (LK Zn fs fuel 1) fs fuel (n+2) 111 [nI .u64 d] H=.ret (nI .i64 (VI d)) H'∧Zs H H' []:=by
 rw[ZI (ZA E.n111 (.inl (by decide)) _ _) E.f111]
 obtain⟨g0,⟨r,gr,gc⟩,_⟩:=g
 obtain⟨p1,p2⟩:=ZiC h0 hd
 have hbl:PH d<=64:=yF (k:=64) hd
 have e1:=λ{k m} (hk:1<=k)=>Ziq (Zn:=Zn) (fs:=fs) (fuel:=fuel) E (k:=k) (n:=m) hk (H:=H) hd
 have e2:=λ{k m} (hk:1<=k)=>ZfJ (Zn:=Zn) (fs:=fs) (fuel:=fuel) E (k:=k) (n:=m) hk (H:=H) hbl
 have e3:=λ{k m} (hk:1<=k) (b)=>ZgY (Zn:=Zn) (fs:=fs) (fuel:=fuel) E (k:=k) (n:=m) hk (b:=b) (H:=H)
 have ld:FF (.ptr 4 (rO d)) H=.val (nI .u64 (10^rO d)) H:=by
  rw[rx gr gc (by rw[Zx];show _<20;omega),Zf,YE]
  have:=Zb7 (rO d) (by omega)
  rw[Zf] at this
  rw[Zl (show rO d<oE.length by show _<20;omega)] at this ⊢
  show OR.val (ZcI _) H=_
  unfold ZcI nI
  rw[<-this];rfl
 unfold rO at ld p1 p2
 simp(disch:=first|omega|decide) only[e1,e2,e3,KB,Rz,Xu,YI,Zd,ny,Zu,Ye,Zw,Z8,Yp,Yv,Y6,Nat.reduceEqDiff,reduceCtorEq,Z6]
 rw[zw] at ld
 simp(disch:=first|omega|decide) only[ld,e3,KB,Xu,ny,Zu,Ye,Zw,Z8,Yp,Yv,Y6,Nat.reduceEqDiff,reduceCtorEq,Z6]
 by_cases hc:10^(PH d*78913/262144)<=d
 ·rw[if_pos hc] at p2
  have dc:decide (10^(PH d*78913/262144)<=d)=true:=Ze hc
  simp(disch:=first|omega|decide) only[dc,e3,KB,if_true,YI,ny,Zu,Ye,Zw,Z8,Yp,Yv,Y6,Nat.reduceEqDiff,reduceCtorEq,Z6]
  exact⟨_,by rw[p2],Zs.refl _ _⟩
 ·rw[if_neg hc] at p2
  have dc:decide (10^(PH d*78913/262144)<=d)=false:=Zb hc
  simp(disch:=first|omega|decide) only[dc,e3,KB,XA,if_false,YI,ny,Zu,Ye,Zw,Z8,Yp,Yv,Y6,Nat.reduceEqDiff,reduceCtorEq,Z6]
  exact⟨_,by rw[p2],Zs.refl _ _⟩
theorem FO(E:Env Zn fs fuel)(hk:2<=k){d:Nat}(g:Pv H)(h0:d≠0)(hd:d<18446744073709551616):
  ZE (LK Zn fs fuel k) fs fuel (n+1) 111 [nI .u64 d] H=.ret (nI .i64 (VI d)) H:=by
 obtain⟨H',e,g⟩:=An E (n:=898) (H:=H) g h0 hd
 exact Yl (r:=1) rfl rfl e g (rfl) hk
namespace T
variable {α:Type}
theorem setB_same(x:α): ∀(t:T α) (bs:List Bool),t.getB bs=some x->setB x t bs=t
 |leaf,bs,h=>by cases h
 |node l v r,[],h=>by
  have h:v=some x:=h
  subst h;rfl
 |node l v r,true::bs,h=>by rw[I7,setB_same x l bs h]
 |node l v r,false::bs,h=>by rw[I6,setB_same x r bs h]
end T
theorem ut{o:Obj}(h:H.t.get b=some o):H.put b o=H:=by
 unfold Heap.put T.set
 rw[T.setB_same o H.t (bits b) h]
theorem wR: ∀k n i,i<k->(yN k n).getD i 0=OE (n/10^(k - 1 - i) % 10)
 |0,_,_,h=>by omega
 |k+1,n,i,h=>by
  show(yN k (n/10)++[OE (n % 10)]).getD i 0=_
  rw[Zf]
  by_cases hi:i<k
  ·rw[Yh (by rw[Ka];exact hi),<-Zf,wR k (n/10) i hi,RO]
   congr 3
   rw[show k+1 - 1 - i=(k - 1 - i)+1 by omega,Sn,VW]
  ·obtain rfl:i=k:=by omega
   rw[Yi (by rw[Ka];exact Zp _),Ka,Rq,show i+1 - 1 - i=0 by omega,Nat.pow_zero,Nat.div_one];rfl
theorem bp:S4.length=200:=by decide
theorem ZnB: ∀x,x<100->S4.getD (x*2) 0=OE (x/10):=by decide
theorem ZnC: ∀x,x<100->S4.getD (x*2+1) 0=OE (x % 10):=by decide
theorem Ar{x:Nat}(hx:x<100)(H:Heap):Ma (.str S4) (nI .u32 (x*2)) H=.val (Vd (OE (x/10))) H:=by rw[Ll (by rw[bp];omega),ZnB x hx]
theorem As{x:Nat}(hx:x<100)(H:Heap):Ma (.str S4) (nI .u32 (x*2+1)) H=.val (Vd (OE (x % 10))) H:=by rw[Ll (by rw[bp];omega),ZnC x hx]
structure FB(zo:Nat)(r R:Row)(nd m:Nat)(ds:List UInt8):Prop where
 size:R.size=24
 own:R.own=true
 fz:R.fz=0
 get: ∀i,R.get i=if zo+m<=i∧i<zo+nd then Vd (ds.getD (i - zo) 0) else r.get i
theorem FB.pair{r R:Row}{zo nd m p q d1 d2:Nat}{ds:List UInt8}(h:FB zo r R nd m ds)(hm:m<=nd)(hp:p+1=m)(hq:q+2=m)(h1:ds.getD p 0=OE d1)(h2:ds.getD q 0=OE d2):
  FB zo r ((R.st (zo+p) (Vd (OE d1))).st (zo+q) (Vd (OE d2))) nd q ds:=by
 refine⟨h.size,h.own,h.fz,λi=>?_⟩
 rw[Row.st_get,Row.st_get,h.get]
 by_cases e2:zo+q=i
 ·rw[if_pos e2,if_pos (by omega),<-h2,show i - zo=q by omega]
 ·rw[if_neg e2]
  by_cases e1:zo+p=i
  ·rw[if_pos e1,if_pos (by omega),<-h1,show i - zo=p by omega]
  ·rw[if_neg e1]
   by_cases e:zo+m<=i∧i<zo+nd
   ·rw[if_pos e,if_pos (by omega)]
   ·rw[if_neg e,if_neg (by omega)]
theorem FB.one{r R:Row}{zo nd d:Nat}{ds:List UInt8}(h:FB zo r R nd 1 ds)(hm:1<=nd)(h1:ds.getD 0 0=OE d):FB zo r (R.st zo (Vd (OE d))) nd 0 ds:=by
 refine⟨h.size,h.own,h.fz,λi=>?_⟩
 rw[Row.st_get,h.get]
 by_cases e1:zo=i
 ·rw[if_pos e1,if_pos (by omega),<-h1,show i - zo=0 by omega]
 ·rw[if_neg e1]
  by_cases e:zo+1<=i∧i<zo+nd
  ·rw[if_pos e,if_pos (by omega)]
  ·rw[if_neg e,if_neg (by omega)]
theorem ZcZ{nd m u j p:Nat}(hm:m<=nd)(hp:p+1+j=m):(yN nd u).getD p 0=OE (u/10^(nd - m)/10^j % 10):=by
 rw[wR nd u p (by omega),RO,<-QA]
 congr 3;congr 1;omega
structure FL(H0:Heap)(b zo nd u:Nat)(c:Option Nat)(r:Row)(m:Nat)(tm:TM)(H:Heap):Prop where
 t0:Yb tm=.slice b zo nd c
 t1:Wc tm=nI .u64 (u/10^(nd - m))
 t4:Y4 tm=nI .i64 m
 le:m<=nd
 heap: ∃R,H=H0.put b (.row R)∧FB zo r R nd m (yN nd u)
theorem Zav{zo nd u:Nat}{c:Option Nat}{r:Row}(hb:b<H0.nx)(hro:H0.ro<=b)(hnd:zo+nd<=24)(hu:u<18446744073709551616)(cx:Ctx)(x:X)(m:Nat)(tm:TM)(H:Heap)(h:FL H0 b zo nd u c r m tm H):
  ∃o tm' H',Ld cx tm H x=.ok o tm' H' x∧((o=.normal∧ ∃k,k<m∧FL H0 b zo nd u c r k tm' H')∨(o≠.normal∧o=.exit 0∧m<8∧FL H0 b zo nd u c r m tm' H')):=by
 have t0:=h.t0;have t1:=h.t1;have t4:=h.t4;have hle:=h.le
 simp only[Sb,Kn,Tp] at t0 t1 t4
 obtain⟨R,rfl,fb⟩:=h.heap
 generalize hv:u/10^(nd - m)=v at t1
 have hv2:v<18446744073709551616:=by rw[<-hv];exact Ub (QW ..) hu
 have s1:=fb.size;have s2:=fb.own;have s3:=fb.fz
 by_cases h8:8<=m
 ·have d1:decide (8<=m)=true:=Ze h8
  simp(disch:=first|assumption|omega|(simp -implicitDefEqProofs only[X3,X4]<;>first|assumption|omega)|decide) only[Ld,t0,t1,t4,d1,s1,s2,s3,Xb,WV,YD,Ar,As,Xu,Z3,XL,Uh,Qb,Qc,Qd,S9,Re,Qa,RA,To,Row.st_size,Row.st_own,Row.st_fz,Zg,Ld,Zu,Ye,Zw,Z8,Yp,Yv,Y6,Nat.reducePow,Nat.reduceDiv,Nat.reduceMod,Nat.reduceEqDiff,reduceCtorEq,Z6,Vk,QS]
  refine⟨_,_,_,rfl,.inl ⟨rfl,m - 8,by omega,t0,?_,rfl,by omega,_,rfl,?_⟩⟩
  ·show nI .u64 (v/100000000)=_
   rw[<-hv,RO,show(100000000:Nat)=10^8 from rfl,<-QA,show nd - m+8=nd - (m - 8) by omega]
  ·have dd:=λ(p j:Nat) (hp:p+1+j=m)=>ZcZ (u:=u) hle hp
   rw[hv] at dd
   refine FB.pair (m:=m - 6) (FB.pair (m:=m - 4) (FB.pair (m:=m - 2) (FB.pair fb hle (by omega) (by omega) ?_ ?_) (by omega) (by omega) (by omega) ?_ ?_) (by omega) (by omega) (by omega) ?_ ?_) (by omega) (by omega) (by omega) ?_ ?_
   ·rw[dd (m - 1) 0 (by omega)];congr 1;omega
   ·rw[dd (m - 2) 1 (by omega)];congr 1;omega
   ·rw[dd (m - 3) 2 (by omega)];congr 1;omega
   ·rw[dd (m - 4) 3 (by omega)];congr 1;omega
   ·rw[dd (m - 5) 4 (by omega)];congr 1;omega
   ·rw[dd (m - 6) 5 (by omega)];congr 1;omega
   ·rw[dd (m - 7) 6 (by omega)];congr 1;omega
   ·rw[dd (m - 8) 7 (by omega)];congr 1;omega
 ·have d1:decide (8<=m)=false:=Zb h8
  simp(disch:=first|assumption|omega|(simp -implicitDefEqProofs only[X3,X4]<;>first|assumption|omega)|decide) only[Ld,t0,t1,t4,d1,Xb,WV,YD,Ar,As,Xu,Z3,XL,Uh,Qb,Qc,Qd,S9,Re,Qa,RA,To,Row.st_size,Row.st_own,Row.st_fz,Zg,Ld,Zu,Ye,Zw,Z8,Yp,Yv,Y6,Nat.reducePow,Nat.reduceDiv,Nat.reduceMod,Nat.reduceEqDiff,reduceCtorEq,Z6,Vk,QS]
  exact⟨_,_,_,rfl,.inr ⟨by simp,rfl,by omega,t0,by rw[hv];exact t1,t4,hle,_,rfl,fb⟩⟩
theorem sN(E:Env Zn fs fuel){zo nd u:Nat}{c:Option Nat}{r:Row}(hr:H.t.get b=some (.row r))(hb:b<H.nx)(hro:H.ro<=b)(hs:r.size=24)(how:r.own=true)(hfz:r.fz=0)(hnd:zo+nd<=24)(hu:u<18446744073709551616)(hud:u<10^nd):
  ∃R,ZE (LK Zn fs fuel k) fs fuel (n+1) 112 [.slice b zo nd c,nI .u64 u] H=.ret (.tup []) (H.put b (.row R))∧FB zo r R nd 0 (yN nd u):=by
 have nn:FC Zn fs fuel Sw Qe k 112 [.slice b zo nd c,nI .u64 u] H=none:=ZA E.n112 (.inr rfl) _ _
 rw[ZI nn E.f112]
 simp(disch:=first|assumption|omega|(simp -implicitDefEqProofs only[X3,X4]<;>first|assumption|omega)|decide) only[DM,Zu,Ye,Zw,Z8,Yp,Yv,Y6,Nat.reducePow,Nat.reduceDiv,Nat.reduceMod,Nat.reduceEqDiff,reduceCtorEq,Z6,Lb,qU,Ad]
 generalize hL:Wv (Ld _) fuel _ _ _=L
 obtain⟨o,Pu,H1,rfl,_,rfl,h8,z⟩:=YA (P:=λT=>FL H b zo nd u c r nd T H) (Q:=λo tm H'=>o=.exit 0∧ ∃m,m<8∧FL H b zo nd u c r m tm H')
  (λT hi=>YP (FL H b zo nd u c r) (λo tm H'=>o=.exit 0∧ ∃m,m<8∧FL H b zo nd u c r m tm H')
   (λm tm H' h=>by
    obtain⟨o,tm',H2,e,h⟩:=Zav hb hro hnd hu _ _ m tm H' h
    refine⟨o,tm',H2,e,?_⟩
    rcases h with h|⟨h1,h2,h3,h4⟩
    ·exact .inl h
    ·exact .inr ⟨h1,h2,m,h3,h4⟩) fuel nd T H (by have:=E.big;omega) hi) hL
  ⟨rfl,by rw[Rq,Nat.pow_zero,Nat.div_one];rfl,rfl,Zp _,r,(ut hr).symm,hs,how,hfz,λi=>by rw[if_neg (by omega)]⟩
 obtain⟨z8,z⟩:=z
 have t0:=z.t0;have t1:=z.t1;have t4:=z.t4;have hle:=z.le
 simp only[Sb,Kn,Tp] at t0 t1 t4
 obtain⟨R,rfl,fb⟩:=z.heap
 have dd:=λ(p j:Nat) (hp:p+1+j=h8)=>ZcZ (u:=u) hle hp
 have hv2:u/10^(nd - h8)<10^h8:=by
  rw[Qo (Nat.pow_pos (by decide)),<-QA,show h8+(nd - h8)=nd by omega];exact hud
 generalize hv:u/10^(nd - h8)=v at t1 dd hv2
 have s1:=fb.size;have s2:=fb.own;have s3:=fb.fz
 have z0:decide (0<0)=false:=rfl
 have z1:decide (0<1)=true:=rfl
 have hm:h8=0∨h8=1∨h8=2∨h8=3∨h8=4∨h8=5∨h8=6∨h8=7:=by omega
 rcases hm with rfl|rfl|rfl|rfl|rfl|rfl|rfl|rfl
 ·have hv3:v<1:=hv2
  simp(disch:=first|assumption|omega|(simp -implicitDefEqProofs only[X3,X4]<;>first|assumption|omega)|decide) only[TF,U4,t0,t1,t4,s1,s2,s3,z0,z1,Uh,Nat.reduceLeDiff,Nat.reduceSub,Nat.reduceAdd,Xb,WV,YD,Ar,As,Xu,Z3,XL,Uh,Qb,Qc,Qd,S9,Re,Qa,RA,To,Row.st_size,Row.st_own,Row.st_fz,Zg,DM,Zu,Ye,Zw,Z8,Yp,Yv,Y6,Nat.reducePow,Nat.reduceDiv,Nat.reduceMod,Nat.reduceEqDiff,reduceCtorEq,Z6,Lb,qU,Ad]
  refine⟨_,rfl,?_⟩
  exact fb
 ·have hv3:v<10:=hv2
  simp(disch:=first|assumption|omega|(simp -implicitDefEqProofs only[X3,X4]<;>first|assumption|omega)|decide) only[TF,U4,t0,t1,t4,s1,s2,s3,z0,z1,Uh,Nat.reduceLeDiff,Nat.reduceSub,Nat.reduceAdd,Xb,WV,YD,Ar,As,Xu,Z3,XL,Uh,Qb,Qc,Qd,S9,Re,Qa,RA,To,Row.st_size,Row.st_own,Row.st_fz,Zg,DM,Zu,Ye,Zw,Z8,Yp,Yv,Y6,Nat.reducePow,Nat.reduceDiv,Nat.reduceMod,Nat.reduceEqDiff,reduceCtorEq,Z6,Lb,qU,Ad]
  refine⟨_,rfl,?_⟩
  have e0:nI .u8 (48+v)=Vd (OE (v)):=by
   show AV.int .u8 (.ofNat _)=AV.int .u8 (.ofNat _)
   rw[HC (by omega)]
  rw[e0]
  refine FB.one (fb) (by omega) ?_
  ·rw[dd 0 0 rfl];congr 1;omega
 ·have hv3:v<100:=hv2
  simp(disch:=first|assumption|omega|(simp -implicitDefEqProofs only[X3,X4]<;>first|assumption|omega)|decide) only[TF,U4,t0,t1,t4,s1,s2,s3,z0,z1,Uh,Nat.reduceLeDiff,Nat.reduceSub,Nat.reduceAdd,Xb,WV,YD,Ar,As,Xu,Z3,XL,Uh,Qb,Qc,Qd,S9,Re,Qa,RA,To,Row.st_size,Row.st_own,Row.st_fz,Zg,DM,Zu,Ye,Zw,Z8,Yp,Yv,Y6,Nat.reducePow,Nat.reduceDiv,Nat.reduceMod,Nat.reduceEqDiff,reduceCtorEq,Z6,Lb,qU,Ad]
  refine⟨_,rfl,?_⟩
  refine FB.pair (m:=2) (fb) (by omega) rfl rfl ?_ ?_
  ·rw[dd 1 0 rfl];congr 1;omega
  ·rw[dd 0 1 rfl];congr 1;omega
 ·have hv3:v<1000:=hv2
  simp(disch:=first|assumption|omega|(simp -implicitDefEqProofs only[X3,X4]<;>first|assumption|omega)|decide) only[TF,U4,t0,t1,t4,s1,s2,s3,z0,z1,Uh,Nat.reduceLeDiff,Nat.reduceSub,Nat.reduceAdd,Xb,WV,YD,Ar,As,Xu,Z3,XL,Uh,Qb,Qc,Qd,S9,Re,Qa,RA,To,Row.st_size,Row.st_own,Row.st_fz,Zg,DM,Zu,Ye,Zw,Z8,Yp,Yv,Y6,Nat.reducePow,Nat.reduceDiv,Nat.reduceMod,Nat.reduceEqDiff,reduceCtorEq,Z6,Lb,qU,Ad]
  refine⟨_,rfl,?_⟩
  have e0:nI .u8 (48+v/100)=Vd (OE (v/100)):=by
   show AV.int .u8 (.ofNat _)=AV.int .u8 (.ofNat _)
   rw[HC (by omega)]
  rw[e0]
  refine FB.one (FB.pair (m:=3) (fb) (by omega) rfl rfl ?_ ?_) (by omega) ?_
  ·rw[dd 2 0 rfl];congr 1;omega
  ·rw[dd 1 1 rfl];congr 1;omega
  ·rw[dd 0 2 rfl];congr 1;omega
 ·have hv3:v<10000:=hv2
  simp(disch:=first|assumption|omega|(simp -implicitDefEqProofs only[X3,X4]<;>first|assumption|omega)|decide) only[TF,U4,t0,t1,t4,s1,s2,s3,z0,z1,Uh,Nat.reduceLeDiff,Nat.reduceSub,Nat.reduceAdd,Xb,WV,YD,Ar,As,Xu,Z3,XL,Uh,Qb,Qc,Qd,S9,Re,Qa,RA,To,Row.st_size,Row.st_own,Row.st_fz,Zg,DM,Zu,Ye,Zw,Z8,Yp,Yv,Y6,Nat.reducePow,Nat.reduceDiv,Nat.reduceMod,Nat.reduceEqDiff,reduceCtorEq,Z6,Lb,qU,Ad]
  refine⟨_,rfl,?_⟩
  refine FB.pair (m:=2) (FB.pair (m:=4) (fb) (by omega) rfl rfl ?_ ?_) (by omega) rfl rfl ?_ ?_
  ·rw[dd 3 0 rfl];congr 1;omega
  ·rw[dd 2 1 rfl];congr 1;omega
  ·rw[dd 1 2 rfl];congr 1;omega
  ·rw[dd 0 3 rfl];congr 1;omega
 ·have hv3:v<100000:=hv2
  simp(disch:=first|assumption|omega|(simp -implicitDefEqProofs only[X3,X4]<;>first|assumption|omega)|decide) only[TF,U4,t0,t1,t4,s1,s2,s3,z0,z1,Uh,Nat.reduceLeDiff,Nat.reduceSub,Nat.reduceAdd,Xb,WV,YD,Ar,As,Xu,Z3,XL,Uh,Qb,Qc,Qd,S9,Re,Qa,RA,To,Row.st_size,Row.st_own,Row.st_fz,Zg,DM,Zu,Ye,Zw,Z8,Yp,Yv,Y6,Nat.reducePow,Nat.reduceDiv,Nat.reduceMod,Nat.reduceEqDiff,reduceCtorEq,Z6,Lb,qU,Ad]
  refine⟨_,rfl,?_⟩
  have e0:nI .u8 (48+v/10000)=Vd (OE (v/10000)):=by
   show AV.int .u8 (.ofNat _)=AV.int .u8 (.ofNat _)
   rw[HC (by omega)]
  rw[e0]
  refine FB.one (FB.pair (m:=3) (FB.pair (m:=5) (fb) (by omega) rfl rfl ?_ ?_) (by omega) rfl rfl ?_ ?_) (by omega) ?_
  ·rw[dd 4 0 rfl];congr 1;omega
  ·rw[dd 3 1 rfl];congr 1;omega
  ·rw[dd 2 2 rfl];congr 1;omega
  ·rw[dd 1 3 rfl];congr 1;omega
  ·rw[dd 0 4 rfl];congr 1;omega
 ·have hv3:v<1000000:=hv2
  simp(disch:=first|assumption|omega|(simp -implicitDefEqProofs only[X3,X4]<;>first|assumption|omega)|decide) only[TF,U4,t0,t1,t4,s1,s2,s3,z0,z1,Uh,Nat.reduceLeDiff,Nat.reduceSub,Nat.reduceAdd,Xb,WV,YD,Ar,As,Xu,Z3,XL,Uh,Qb,Qc,Qd,S9,Re,Qa,RA,To,Row.st_size,Row.st_own,Row.st_fz,Zg,DM,Zu,Ye,Zw,Z8,Yp,Yv,Y6,Nat.reducePow,Nat.reduceDiv,Nat.reduceMod,Nat.reduceEqDiff,reduceCtorEq,Z6,Lb,qU,Ad]
  refine⟨_,rfl,?_⟩
  refine FB.pair (m:=2) (FB.pair (m:=4) (FB.pair (m:=6) (fb) (by omega) rfl rfl ?_ ?_) (by omega) rfl rfl ?_ ?_) (by omega) rfl rfl ?_ ?_
  ·rw[dd 5 0 rfl];congr 1;omega
  ·rw[dd 4 1 rfl];congr 1;omega
  ·rw[dd 3 2 rfl];congr 1;omega
  ·rw[dd 2 3 rfl];congr 1;omega
  ·rw[dd 1 4 rfl];congr 1;omega
  ·rw[dd 0 5 rfl];congr 1;omega
 ·have hv3:v<10000000:=hv2
  simp(disch:=first|assumption|omega|(simp -implicitDefEqProofs only[X3,X4]<;>first|assumption|omega)|decide) only[TF,U4,t0,t1,t4,s1,s2,s3,z0,z1,Uh,Nat.reduceLeDiff,Nat.reduceSub,Nat.reduceAdd,Xb,WV,YD,Ar,As,Xu,Z3,XL,Uh,Qb,Qc,Qd,S9,Re,Qa,RA,To,Row.st_size,Row.st_own,Row.st_fz,Zg,DM,Zu,Ye,Zw,Z8,Yp,Yv,Y6,Nat.reducePow,Nat.reduceDiv,Nat.reduceMod,Nat.reduceEqDiff,reduceCtorEq,Z6,Lb,qU,Ad]
  refine⟨_,rfl,?_⟩
  have e0:nI .u8 (48+v/10000/100)=Vd (OE (v/10000/100)):=by
   show AV.int .u8 (.ofNat _)=AV.int .u8 (.ofNat _)
   rw[HC (by omega)]
  rw[e0]
  refine FB.one (FB.pair (m:=3) (FB.pair (m:=5) (FB.pair (m:=7) (fb) (by omega) rfl rfl ?_ ?_) (by omega) rfl rfl ?_ ?_) (by omega) rfl rfl ?_ ?_) (by omega) ?_
  ·rw[dd 6 0 rfl];congr 1;omega
  ·rw[dd 5 1 rfl];congr 1;omega
  ·rw[dd 4 2 rfl];congr 1;omega
  ·rw[dd 3 3 rfl];congr 1;omega
  ·rw[dd 2 4 rfl];congr 1;omega
  ·rw[dd 1 5 rfl];congr 1;omega
  ·rw[dd 0 6 rfl];congr 1;omega
theorem xX{l:Nat}(hl:l<n)(hlh:l<=h)(hh:h<=n)(b o:Nat)(k j:IntKind)(H:Heap):LG n 1 (.ptr b o) (some (nI k l)) (some (nI j h)) H=.val (.slice b (o+l) (h - l) (some (n - l))) H:=by
 show ZP (Nat.ble h n) (ZP (Nat.ble l h) (cond (Nat.beq l n) _ (OR.val (.slice b (o+l*1) (h - l) (some (n - l))) H)))=_
 rw[Zk hh,Zk hlh,Yy,Zb (by omega),Xl];rfl
theorem Cm(m:Nat):SQ (.ofNat m)=dec m:=rfl
theorem wZ(m:Nat):SQ (.negSucc m)=45::dec (m+1):=by unfold SQ;rw[if_pos (Int.negSucc_lt_zero m)];rfl
theorem pD(k:IntKind)(m:Nat):AV.int k (.ofNat m)=nI k m:=rfl
theorem sQ(E:Env Zn fs fuel){z:Int}(g:Pv H)(hro:H.ro<=H.nx)(hz1: -9223372036854775808<=z)(hz2:z<9223372036854775808):
  ∃H',ZE (LK Zn fs fuel 2) fs fuel (n+2) 91 [.int .i64 z,nI .i64 10] H=.ret (.str (SQ z)) H'∧Zs H H' []:=by
 rw[ZI (ZA E.n91 (.inl (by decide)) _ _) E.f91]
 cases z with
 |ofNat m=>
  have hz2:m<9223372036854775808:=by simp at hz2;omega
  by_cases h:m<100
  ·have es:=λ{j}=>ZdR (Zn:=Zn) (fs:=fs) (fuel:=fuel) E (k:=2) (n:=j) (by decide) (H:=H) h
   have d0:decide (0<=m)=true:=Ze (ZZ _)
   have d1:decide (m<100)=true:=Ze h
   simp(disch:=first|assumption|omega|(simp -implicitDefEqProofs only[X3,X4]<;>first|assumption|omega)|decide) only[pD,d0,d1,es,P5,xX,Jm,Jn,Zd,Uj,Nat.reduceSub,YI,Zy,Yt,xl,xg,Q9,IR,CX,Rz,To,Row.st_size,Row.st_own,Row.st_fz,Zg,YL,c91,Zu,Ye,Zw,Z8,Yp,Yv,Y6,Nat.reduceEqDiff,reduceCtorEq,Z6,Vk]
   exact⟨_,rfl,Zs.refl _ _⟩
  ·skip
   obtain⟨H1,hH1⟩:=Sa (H.new (.row ⟨144,1,24,.leaf,nI .u8 0,0,false,true,true⟩))
   have IY:H1.nx=H.nx+1:=by rw[<-hH1];rfl
   have MX:H1.ro=H.ro:=by rw[<-hH1];rfl
   have k1:Zs H H1 []:=by rw[<-hH1];exact Zs.new H _ []
   have ga:H1.t.get H.nx=some (.row ⟨144,1,24,.leaf,nI .u8 0,0,false,true,true⟩):=by rw[<-hH1,ZW rfl]
   have hl:=Pc (m)
   have hl2:VI (m)<=20:=TX (by decide) (Nat.lt_trans (show m<18446744073709551616 by omega) (by decide))
   have en:=λ{j}=>FO (Zn:=Zn) (fs:=fs) (fuel:=fuel) E (k:=2) (n:=j) (by decide) (H:=H1) (g.keep k1 (by simp)) (d:=m) (by omega) (by omega)
   obtain⟨R,ef,fb⟩:=sN (Zn:=Zn) (fs:=fs) (fuel:=fuel) E (k:=2) (n:=n) (H:=H1) (b:=H.nx) (zo:=1) (nd:=VI (m)) (u:=m) (c:=some 23) ga (by omega) (by rw[MX];exact hro) rfl rfl rfl (by omega) (by omega) (Dd _)
   have s1:=fb.size;have s2:=fb.own;have s3:=fb.fz
   have el: ∀c,BR (.slice H.nx 1 (VI m) c) (H1.put H.nx (.row R))=.val (.str (SQ (.ofNat m))) (H1.put H.nx (.row R)):=λc=>by
    refine M5 (Xw _ _ _) (by rw[Cm,Rr]) (by rw[s1];omega) λi hi=>?_
    rw[fb.get,Cm,if_pos (by omega),show 1+i - 1=i by omega];rfl
   have d0:decide (0<=m)=true:=Ze (ZZ _)
   have d1:decide (m<100)=false:=Zb h
   have d2:decide (m<0)=false:=Zb (T4 _)
   simp(disch:=first|assumption|omega|(simp -implicitDefEqProofs only[X3,X4]<;>first|assumption|omega)|decide) only[pD,d0,d1,d2,en,ef,el,hH1,IY,MX,s1,s2,s3,P5,xX,Jm,Jn,Zd,Uj,Nat.reduceSub,YI,Zy,Yt,xl,xg,Q9,IR,CX,Rz,To,Row.st_size,Row.st_own,Row.st_fz,Zg,YL,c91,Zu,Ye,Zw,Z8,Yp,Yv,Y6,Nat.reduceEqDiff,reduceCtorEq,Z6,Vk]
   exact⟨_,rfl,k1.then_put λh=>absurd h (U5 _)⟩
 |negSucc m=>
  have hz1:m<9223372036854775808:=by omega
  obtain⟨H1,hH1⟩:=Sa (H.new (.row ⟨144,1,24,.leaf,nI .u8 0,0,false,true,true⟩))
  have IY:H1.nx=H.nx+1:=by rw[<-hH1];rfl
  have MX:H1.ro=H.ro:=by rw[<-hH1];rfl
  have k1:Zs H H1 []:=by rw[<-hH1];exact Zs.new H _ []
  have ga:H1.t.get H.nx=some (.row ⟨144,1,24,.leaf,nI .u8 0,0,false,true,true⟩):=by rw[<-hH1,ZW rfl]
  have hl:=Pc (m+1)
  have hl2:VI (m+1)<=20:=TX (by decide) (Nat.lt_trans (show m+1<18446744073709551616 by omega) (by decide))
  have en:=λ{j}=>FO (Zn:=Zn) (fs:=fs) (fuel:=fuel) E (k:=2) (n:=j) (by decide) (H:=H1) (g.keep k1 (by simp)) (d:=m+1) (by omega) (by omega)
  obtain⟨R,ef,fb⟩:=sN (Zn:=Zn) (fs:=fs) (fuel:=fuel) E (k:=2) (n:=n) (H:=H1) (b:=H.nx) (zo:=1) (nd:=VI (m+1)) (u:=m+1) (c:=some 23) ga (by omega) (by rw[MX];exact hro) rfl rfl rfl (by omega) (by omega) (Dd _)
  have s1:=fb.size;have s2:=fb.own;have s3:=fb.fz
  have el: ∀c,BR (.slice H.nx 0 (1+VI (m+1)) c) (H1.put H.nx (.row (R.st 0 (nI .u8 45))))=.val (.str (SQ (.negSucc m))) (H1.put H.nx (.row (R.st 0 (nI .u8 45)))):=λc=>by
   refine M5 (Xw _ _ _) (by rw[wZ,ZS,Rr];omega) (by rw[Row.st_size,s1];omega) λi hi=>?_
   rw[Zd,Row.st_get,fb.get,wZ]
   by_cases h0:0=i
   ·subst h0;rw[if_pos rfl];rfl
   ·rw[if_neg h0,if_pos (by omega)]
    obtain⟨j,rfl⟩: ∃j,i=j+1:=⟨i - 1,by omega⟩
    rfl
  have e9:18446744073709551616 - (18446744073709551615 - m)=m+1:=by omega
  simp(disch:=first|assumption|omega|(simp -implicitDefEqProofs only[X3,X4]<;>first|assumption|omega)|decide) only[en,ef,el,hH1,e9,IY,MX,s1,s2,s3,P5,xX,Jm,Jn,Zd,Uj,Nat.reduceSub,YI,Zy,Yt,xl,xg,Q9,IR,CX,Rz,To,Row.st_size,Row.st_own,Row.st_fz,Zg,YL,c91,Zu,Ye,Zw,Z8,Yp,Yv,Y6,Nat.reduceEqDiff,reduceCtorEq,Z6,Vk]
  exact⟨_,rfl,k1.then_put λh=>absurd h (U5 _)⟩
theorem gh(E:Env Zn fs fuel)(hk:3<=k){z:Int}(g:Pv H)(hro:H.ro<=H.nx)(hz1: -9223372036854775808<=z)(hz2:z<9223372036854775808):
  ZE (LK Zn fs fuel k) fs fuel (n+1) 91 [.int .i64 z,nI .i64 10] H=.ret (.str (SQ z)) H:=by
 obtain⟨H',e,g⟩:=sQ E (n:=898) (H:=H) g hro hz1 hz2
 exact Yl (r:=2) rfl rfl e g (rfl) hk
theorem yT(E:Env Zn fs fuel){z:Int}(g:Pv H)(hro:H.ro<=H.nx)(hz1: -9223372036854775808<=z)(hz2:z<9223372036854775808):
  ∃H',ZE (LK Zn fs fuel 3) fs fuel (n+2) 71 [.int .i64 z,nI .i64 10] H=.ret (.str (SQ z)) H'∧Zs H H' []:=by
 rw[ZI (ZA E.n71 (.inl (by decide)) _ _) E.f71]
 have es:=λ{j}=>gh (Zn:=Zn) (fs:=fs) (fuel:=fuel) E (k:=3) (n:=j) (by decide) g hro hz1 hz2
 simp(disch:=first|assumption|omega|(simp -implicitDefEqProofs only[X3,X4]<;>first|assumption|omega)|decide) only[es,c71,Zu,Ye,Zw,Z8,Yp,Yv,Y6,Nat.reduceEqDiff,reduceCtorEq,Z6]
 exact⟨_,rfl,Zs.refl _ _⟩
theorem gf(E:Env Zn fs fuel)(hk:4<=k){z:Int}(g:Pv H)(hro:H.ro<=H.nx)(hz1: -9223372036854775808<=z)(hz2:z<9223372036854775808):
  ZE (LK Zn fs fuel k) fs fuel (n+1) 71 [.int .i64 z,nI .i64 10] H=.ret (.str (SQ z)) H:=by
 obtain⟨H',e,g⟩:=yT E (n:=898) (H:=H) g hro hz1 hz2
 exact Yl (r:=3) rfl rfl e g (rfl) hk
def TT(n:Nat):List UInt8:=if n<8 then [OE n] else TT (n/8)++[OE (n % 8)]
termination_by n
decreasing_by omega
theorem Dk(h:n<8):TT n=[OE n]:=by rw[TT,if_pos h]
theorem Dj(h:8<=n):TT n=TT (n/8)++[OE (n % 8)]:=by rw[TT,if_neg (by omega)]
theorem Gr: ∀(k n:Nat),1<=k->n<8^k->(TT n).length<=k
 |0,_,h,_=>by omega
 |k+1,n,_,h=>by
  by_cases h8:n<8
  ·rw[Dk h8];exact Nat.succ_le_succ (ZZ _)
  ·rw[Dj (by omega),Zj]
   have hk:1<=k:=by
    rcases k with _|k
    ·rw[Zd,Nat.pow_one] at h;omega
    ·omega
   have:=Gr k (n/8) hk (by rw[Sn] at h;omega)
   show _+1<=_
   omega
theorem dJ(n:Nat):1<=(TT n).length:=by
 by_cases h8:n<8
 ·rw[Dk h8];exact Zp _
 ·rw[Dj (by omega),Zj];show 1<=_+1;omega
theorem Za5{a:Nat}(h:a<18446744073709551616)(H:Heap):DI RI (nI .u64 a) (nI .u64 7) H=.val (nI .u64 (a % 8)) H:=by
 show ZP (P3 .u64 .u64) (TK .u64 (.ofNat (RI (TG .u64) (SP (TG .u64) (.ofNat a)) (SP (TG .u64) (.ofNat 7)))) H)=_
 have h2:RI (TG .u64) (SP (TG .u64) (.ofNat a)) (SP (TG .u64) (.ofNat 7))=a % 8:=by
  show Nat.land (a % 18446744073709551616) 7=_
  rw[YB h]
  exact Nat.and_two_pow_sub_one_eq_mod a 3
 rw[XG,Vn,h2,G6,YB (by omega)]
 rfl
theorem ZeQ: ∀i,i<8->J0.getD i 0=OE i:=by decide
theorem dI{u:Nat}(h:u<8)(H:Heap):Ma (.str J0) (nI .u64 u) H=.val (Vd (OE u)) H:=by
 rw[Ll (by show u<36;omega),ZeQ _ h]
structure OB(r:Row)(i:Nat)(s:List UInt8):Prop where
 size:r.size=65
 own:r.own=true
 fz:r.fz=0
 le:i<=65
 len:s.length=65 - i
 get: ∀j,j<s.length->r.get (i+j)=Vd (s.getD j 0)
theorem OB.push{r:Row}(h:OB r i s)(hi:0<i)(x:UInt8):OB (r.st (i - 1) (Vd x)) (i - 1) (x::s):=by
 have h1:=h.le;have h2:=h.len
 refine⟨h.size,h.own,h.fz,by omega,by rw[ZS];omega,λj hj=>?_⟩
 rw[Row.st_get]
 rcases j with _|j
 ·rw[if_pos (by omega)];rfl
 ·rw[if_neg (by omega),show i - 1+(j+1)=i+j by omega,h.get j (by rw[ZS] at hj;omega)];rfl
theorem ZiO(E:Env Zn fs fuel):ZE (LK Zn fs fuel k) fs fuel (n+1) 126 [nI .i64 8] H=.ret (.bool true) H:=by
 rw[ZI (ZA E.n126 (.inr rfl) _ _) E.f126]
 have b: ∀G:Heap,DI RI (nI .i64 8) (nI .i64 7) G=.val (nI .i64 0) G:=λG=>rfl
 have s: ∀G:Heap,M6 (nI .i64 8) (nI .i64 1) G=.val (nI .i64 7) G:=λG=>rfl
 have e: ∀G:Heap,N6 Vp false (nI .i64 0) (nI .i64 0) G=.val (.bool true) G:=λG=>rfl
 simp only[b,s,e,Zex,Zu,Ye,Zw,Z6]
theorem tz8(E:Env Zn fs fuel)(g:Pv H):ZE (LK Zn fs fuel k) fs fuel (n+2) 127 [nI .u64 8] H=.ret (nI .i64 3) H:=by
 rw[ZI (ZA E.n127 (.inr rfl) _ _) E.f127]
 have e6: ∀{j},ZE (LK Zn fs fuel k) fs fuel (j+1) 133 [nI .u64 8] H=.ret (nI .i64 3) H:=λ{j}=>by
  rw[ZI (ZA E.n133 (.inr rfl) _ _) E.f133]
  obtain⟨_,_,r,g1,g2,g3⟩:=g
  have e: ∀G:Heap,N6 Vp false (nI .u64 8) (nI .u64 0) G=.val (.bool false) G:=λG=>rfl
  have ng: ∀G:Heap,rP (nI .u64 8) G=.val (nI .u64 18446744073709551608) G:=λG=>rfl
  have b: ∀G:Heap,DI RI (nI .u64 8) (nI .u64 18446744073709551608) G=.val (nI .u64 8) G:=λG=>rfl
  have m: ∀G:Heap,di (nI .u64 8) (nI .u64 285870213051353865) G=.val (nI .u64 2286961704410830920) G:=λG=>rfl
  have s: ∀G:Heap,bi (nI .u64 2286961704410830920) (nI .u64 58) G=.val (nI .u64 7) G:=λG=>rfl
  have i: ∀G:Heap,zr 64 1 (.ptr 6 0) (nI .u64 7) G=.val (.ptr 6 7) G:=λG=>Rz (by decide) _ _ _ _
  have l: ∀G,ld1 (some (.row r)) 7 G=.val (nI .u8 3) G:=λG=>by rw[O1 g2,g3]
  have v: ∀G:Heap,Ol .i64 (nI .u8 3) G=.val (nI .i64 3) G:=λG=>rfl
  simp only[e,ng,b,m,s,i,g1,l,v,ZeA,Zu,Ye,Zw,Z6]
 simp only[e6,Zey,Zu,Ye,Zw,Z6]
structure OL(H0:Heap)(b n0:Nat)(m:Nat)(tm:TM)(H:Heap):Prop where
 t3:W8 tm=.bool false
 t4:Y4 tm=.bool false
 t10:YY tm=.nils
 t12:Xr tm=.ptr b 0
 t13:Xf tm=nI .i64 m
 t14:Xo tm=nI .u64 3
 t15:Wb tm=nI .u64 8
 t16:XF tm=nI .u64 7
 le:44<=m
 u: ∃u R s,Wc tm=nI .u64 u∧u<8^(m - 43)∧u<9223372036854775808∧H=H0.put b (.row R)∧OB R m s∧TT n0=TT u++s
def OLQ(H0:Heap)(b n0:Nat)(o:Out)(tm:TM)(H:Heap):Prop:=o=.exit 0∧ ∃m,OL H0 b n0 m tm H∧ ∀u,Wc tm=nI .u64 u->u<8
theorem ZbU{n0:Nat}(hb:b<H0.nx)(hro:H0.ro<=b)(cx:Ctx)(X0:X)(m:Nat)(tm:TM)(H:Heap)(hI:OL H0 b n0 m tm H):
  ∃o tm' H',Hv cx tm H X0=.ok o tm' H' X0∧((o=.normal∧ ∃k,k<m∧OL H0 b n0 k tm' H')∨(o≠.normal∧OLQ H0 b n0 o tm' H')):=by
 obtain⟨t3,t4,t10,t12,t13,t14,t15,t16,hle,u,R,s,t1,hu1,hu2,rfl,ob,ho⟩:=hI
 have GY:=t3;have Qk:=t4;have ZcC:=t10;have ZcD:=t12;have bV:=t14;have Zjo:=t15;have ji:=t16;have t1':=t1
 simp only[Kn,vx,fe,fh,ZhE,fi] at t1 t12 t13 t14 t15 t16
 have s1:=ob.size;have s2:=ob.own;have s3:=ob.fz;have s4:=ob.le
 by_cases h8:8<=u
 ·have d1:decide (8<=u)=true:=Ze h8
  have hm45:45<=m:=by
   rcases Nat.lt_or_ge m 45 with h|h
   ·obtain rfl:m=44:=by omega
    simp at hu1;omega
   ·exact h
  simp(disch:=first|assumption|omega|(simp -implicitDefEqProofs only[X3,X4]<;>first|assumption|omega)|decide) only[t1,t12,t13,t14,t15,t16,d1,Xu,XL,Za5,RF,Xu,XL,Rz,To,dI,Hv,Zu,Ye,Z8,Nat.reducePow,Z6,Vk]
  refine⟨_,_,_,rfl,.inl ⟨rfl,m - 1,by omega,GY,Qk,ZcC,ZcD,rfl,bV,Zjo,ji,by omega,u/8,_,_,rfl,?_,by omega,rfl,ob.push (by omega) _,?_⟩⟩
  ·rw[show m - 43=(m - 1 - 43)+1 by omega,Sn] at hu1;omega
  ·rw[ho,Dj h8,Xj];rfl
 ·have d1:decide (8<=u)=false:=Zb h8
  simp only[t1,t15,d1,Xu,Xu,Hv,Zu,Ye,Z6,Vk]
  refine⟨_,_,_,rfl,?_⟩
  exact .inr ⟨by simp,rfl,m,⟨GY,Qk,ZcC,ZcD,t13,bV,Zjo,ji,hle,u,R,s,t1',hu1,hu2,rfl,ob,ho⟩,λv hv=>by have:nI .u64 u=nI .u64 v:=t1'.symm.trans hv;cases this;omega⟩
theorem Zme(E:Env Zn fs fuel){u:Nat}(g:Pv H)(hro:H.ro<=H.nx)(hu:u<9223372036854775808):
  ∃H',ZE (LK Zn fs fuel k) fs fuel (n+3) 113 [.nils,nI .u64 u,nI .i64 8,.bool false,.bool false] H=.ret (.tup [.nils,.str (TT u)]) H'∧Zs H H' []:=by
 rw[ZI (ZA E.n113 (.inr rfl) _ _) E.f113]
 obtain⟨H1,hH1⟩:=Sa (H.new (.row ⟨159,1,65,.leaf,nI .u8 0,0,false,true,true⟩))
 have IY:H1.nx=H.nx+1:=by rw[<-hH1];rfl
 have MX:H1.ro=H.ro:=by rw[<-hH1];rfl
 have k1:Zs H H1 []:=by rw[<-hH1];exact Zs.new H _ []
 have ga:H1.t.get H.nx=some (.row ⟨159,1,65,.leaf,nI .u8 0,0,false,true,true⟩):=by rw[<-hH1,ZW rfl]
 have e1:=λ{j}=>ZiO E (k:=k) (n:=j) (H:=H1)
 have e2:=λ{j}=>tz8 E (k:=k) (n:=j) (H:=H1) (g.keep k1 (by simp))
 have w1: ∀G:Heap,Ol .u64 (nI .i64 8) G=.val (nI .u64 8) G:=λG=>rfl
 have w2: ∀G:Heap,Ol .u64 (nI .i64 3) G=.val (nI .u64 3) G:=λG=>rfl
 have w3: ∀G:Heap,M6 (nI .u64 8) (nI .u64 1) G=.val (nI .u64 7) G:=λG=>rfl
 have f1: ∀G:Heap,Tf XE YH (nI .i64 8) (nI .i64 2) G=.val (.bool false) G:=λG=>rfl
 have f2: ∀G:Heap,N6 Vp false (nI .i64 8) (nI .i64 10) G=.val (.bool false) G:=λG=>rfl
 have f3: ∀G:Heap,Tf UG WJ (nI .i64 8) (nI .i64 36) G=.val (.bool false) G:=λG=>rfl
 have hf:=E.big
 simp only[aL,hH1,e1,e2,w1,w2,w3,f1,f2,f3,Zeu,Zu,Ye,Z6,Vk,]
 generalize hL:Wv (Hv _) fuel _ _ _=L
 obtain⟨o,Pu,H2,rfl,_,rfl,m,z,hz⟩:=YA (P:=λT=>OL H1 H.nx u 65 T H1) (Q:=OLQ H1 H.nx u)
  (λT hi=>YP (OL H1 H.nx u) (OLQ H1 H.nx u) (λm tm H' h=>ZbU (by omega) (by omega) _ _ m tm H' h) fuel 65 T H1 (by omega) hi) hL
  ⟨by rfl,by rfl,by rfl,by rfl,by rfl,by rfl,by rfl,by rfl,by decide,u,_,[],by rfl,ZT hu (by decide),hu,(ut ga).symm,⟨rfl,rfl,rfl,Zp _,rfl,λj hj=>by cases hj⟩,by rw[Yd]⟩
 obtain⟨t3,t4,t10,t12,t13,t14,t15,t16,hle,u2,R,s,t1,hu1,hu2,rfl,ob,ho⟩:=z
 have h8:=hz _ t1
 simp only[Kn,Px,Tp,pN,vx,fe] at t1 t3 t4 t10 t12 t13
 have s1:=ob.size;have s2:=ob.own;have s3:=ob.fz;have s4:=ob.le
 have ob2:=ob.push (by omega) (OE u2)
 have el: ∀cc,BR (.slice H.nx (m - 1) (65 - (m - 1)) cc) (H1.put H.nx (.row (R.st (m - 1) (Vd (OE u2)))))=.val (.str (TT u)) (H1.put H.nx (.row (R.st (m - 1) (Vd (OE u2))))):=λcc=>by
  rw[ho,Dk h8]
  exact M5 (Xw _ _ _) ob2.len (by show _<=R.size;omega) λi hi=>ob2.get i (by rw[ob2.len];exact hi)
 simp(disch:=first|assumption|omega|(simp -implicitDefEqProofs only[X3,X4]<;>first|assumption|omega)|decide) only[t1,t3,t4,t10,t12,t13,el,P5,Jn,dI,XL,XL,Rz,To,dI,Zu,Ye,Zw,Z8,Z6,Vk,QS,Lb]
 refine⟨_,rfl,?_⟩
 exact k1.then_put (by omega)
theorem hZ(E:Env Zn fs fuel){u:Nat}(g:Pv H)(hro:H.ro<=H.nx)(hu:u<9223372036854775808):
  ∃H',ZE (LK Zn fs fuel 2) fs fuel (n+4) 91 [nI .i64 u,nI .i64 8] H=.ret (.str (TT u)) H'∧Zs H H' []:=by
 rw[ZI (ZA E.n91 (.inl (by decide)) _ _) E.f91]
 obtain⟨H1,e1,k1⟩:=Zme E (k:=2) (n:=n) (H:=H) g hro hu
 have f2: ∀G:Heap,N6 Vp false (nI .i64 8) (nI .i64 10) G=.val (.bool false) G:=λG=>rfl
 simp(disch:=omega) only[e1,f2,Zy,T4,Zy,decide_false,Q9,c91,Zu,Ye,Zw,Z6,Vk]
 refine⟨_,rfl,?_⟩
 exact k1
theorem Zmf(E:Env Zn fs fuel)(hk:3<=k){u:Nat}(g:Pv H)(hro:H.ro<=H.nx)(hu:u<9223372036854775808):
  ZE (LK Zn fs fuel k) fs fuel (n+1) 91 [nI .i64 u,nI .i64 8] H=.ret (.str (TT u)) H:=by
 obtain⟨H',e,g⟩:=hZ E (n:=896) (H:=H) g hro hu
 exact Yl (r:=2) rfl rfl e g (rfl) hk
theorem kX(E:Env Zn fs fuel){u:Nat}(g:Pv H)(hro:H.ro<=H.nx)(hu:u<9223372036854775808):
  ∃H',ZE (LK Zn fs fuel 3) fs fuel (n+4) 71 [nI .i64 u,nI .i64 8] H=.ret (.str (TT u)) H'∧Zs H H' []:=by
 rw[ZI (ZA E.n71 (.inl (by decide)) _ _) E.f71]
 have e1:=λ{j}=>Zmf E (k:=3) (n:=j) (by decide) g hro hu
 simp only[e1,c71,Zu,Ye,Zw,Z6]
 refine⟨_,rfl,?_⟩
 exact Zs.refl _ _
theorem Zi0(E:Env Zn fs fuel)(hk:4<=k){u:Nat}(g:Pv H)(hro:H.ro<=H.nx)(hu:u<9223372036854775808):
  ZE (LK Zn fs fuel k) fs fuel (n+1) 71 [nI .i64 u,nI .i64 8] H=.ret (.str (TT u)) H:=by
 obtain⟨H',e,g⟩:=kX E (n:=896) (H:=H) g hro hu
 exact Yl (r:=3) rfl rfl e g (rfl) hk
end
end
end Go.AI
