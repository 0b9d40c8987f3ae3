/- The document's paths and Members: walked: proved without conditions but those that each names. -/
import Derived.Test.YtlaambpobnkkbaaGreatDoorPB
import Derived.Test.YtlaambpobnkkbaaGreatDoorPA
set_option maxRecDepth 1000000
set_option maxHeartbeats 0
set_option linter.unusedVariables false
set_option linter.unusedSimpArgs false
namespace Go.AI
open Go
noncomputable section
theorem Do{s:List UInt8}{p:UInt8->Bool}(h: ∀j,j<s.length->p (s.getD j 0)=false):s.any p=false:=by
 rw[Ty]
 intro e
 rw[Q9] at e
 obtain⟨x,hx,hp⟩:=e
 obtain⟨i,hi,rfl⟩:=S5 hx
 have:=h i hi
 rw[Ze,Zk hi] at this
 have this:p s[i]=false:=this
 rw[this] at hp;cases hp
theorem KI{s:List UInt8}{p:UInt8->Bool}{i:Nat}(hi:i<s.length)(h:p (s.getD i 0)=true):s.any p=true:=by
 rw[Q9]
 rw[Ze,Zk hi] at h
 exact⟨_,Xp hi,h⟩
theorem Ju{a:UInt8}{x:Nat}(hx:x<256):a.toNat=x↔a=UInt8.ofNat x:=by
 constructor
 ·intro h;rw[<-h];exact(UInt8.ofNat_toNat (x:=a)).symm
 ·intro h;rw[h];exact UInt8.toNat_ofNat_of_lt' (by simpa using hx)
structure HSI(s:List UInt8)(x:Nat)(H0:Heap)(m:Nat)(tm:TM)(H:Heap):Prop where
 heap:H=H0
 t0:Yu tm=.str s
 t1:XR tm=nI .u8 x
 i: ∃i,YT tm=nI .i64 i∧i+m=s.length∧ ∀j,j<i->(s.getD j 0).toNat≠x
def HSQ(s:List UInt8)(x:Nat)(H0:Heap)(o:Out)(tm:TM)(H:Heap):Prop:=H=H0∧((o=.ret∧Xu tm=.bool true∧Pe [UInt8.ofNat x] s=true)∨(o=.exit 0∧Pe [UInt8.ofNat x] s=false))
theorem Zaz{s:List UInt8}{x:Nat}(hx:x<256)(hs:s.length<=90000){H0:Heap}(cx:Ctx)(X0:X)(m:Nat)(tm:TM)(H:Heap)(hI:HSI s x H0 m tm H):
  ∃o tm' H',Fp cx tm H X0=.ok o tm' H' X0∧((o=.normal∧ ∃k,k<m∧HSI s x H0 k tm' H')∨(o≠.normal∧HSQ s x H0 o tm' H')):=by
 obtain⟨rfl,t0,t1,i,t5,him,hn⟩:=hI
 have t0':=t0;have t1':=t1
 simp only[VF] at t0
 simp only[Ov] at t1
 simp only[Ss] at t5
 cases m with
 |zero=>
  have d1:decide (i<s.length)=false:=Zb (by omega)
  simp only[t0,t5,d1,Zv,Z0,Fp,ZI,Yw,Yt]
  refine⟨_,_,_,rfl,?_⟩
  exact .inr ⟨by simp,rfl,.inr ⟨rfl,Do λj hj=>Zb λh=>hn j (by omega) ((Ju hx).2 (by simpa using h))⟩⟩
 |succ m=>
  have hi:i<s.length:=by omega
  have d1:decide (i<s.length)=true:=Zd hi
  by_cases h:(s.getD i 0).toNat=x
  ·have d2:decide ((s.getD i 0).toNat=x)=true:=Zd h
   simp(disch:=omega) only[t0,t1,t5,d1,d2,U1,Zv,YW,Z0,Fp,ZI,Yw,Yt]
   refine⟨_,_,_,rfl,?_⟩
   exact .inr ⟨by simp,rfl,.inl ⟨rfl,rfl,KI hi (Zd (by simpa using (Ju hx).1 h))⟩⟩
  ·have d2:decide ((s.getD i 0).toNat=x)=false:=Zb h
   simp(disch:=omega) only[t0,t1,t5,d1,d2,U1,Zv,YW,YU,Z0,Fp,ZI,Yw,Yt]
   refine⟨_,_,_,rfl,.inl ⟨rfl,m,by omega,rfl,t0',t1',i+1,rfl,by omega,λj hj=>?_⟩⟩
   by_cases e:j=i
   ·rw[e];exact h
   ·exact hn j (by omega)
theorem gI{Zr:Lib}{fs:T CF}{fuel:Nat}(E:Env Zr fs fuel){n:Nat}{s:List UInt8}{x:Nat}{H:Heap}(hx:x<256)(hs:s.length<=90000):
  ∃H',ZU (LK Zr fs fuel 0) fs fuel (n+2) 41 [.str s,nI .u8 x] H=.ret (.bool (Pe [UInt8.ofNat x] s)) H'∧Zw H H' []:=by
 rw[Z4 (Z3 E.n41 (.inl (by decide)) _ _) E.f41]
 simp only[c41,ZI,Yt]
 generalize hL:XD (Fp _) fuel _ _ _=L
 obtain⟨o,Nb,H1,rfl,_,rfl,z⟩:=YG (P:=λT=>HSI s x H s.length T H) (Q:=HSQ s x H)
  (λT hi=>YX (HSI s x H) (HSQ s x H) (λm tm H1 h=>Zaz hx hs _ _ m tm H1 h) fuel s.length T H (by have:=E.big;omega) hi) hL
  ⟨rfl,rfl,rfl,0,rfl,by omega,λj hj=>by omega⟩
 rcases z with⟨rfl,t4,e⟩|⟨rfl,e⟩
 ·simp only[Tb] at t4
  rw[e]
  simp only[t4,ZI,ZG,Yt]
  refine⟨_,rfl,?_⟩
  exact Zw.refl _ _
 ·rw[e]
  simp only[ZI,Yw,ZG,Yt]
  refine⟨_,rfl,?_⟩
  exact Zw.refl _ _
theorem Zaq{Zr:Lib}{fs:T CF}{fuel:Nat}(E:Env Zr fs fuel){k n:Nat}(hk:1<=k){s:List UInt8}{x:Nat}{H:Heap}(hx:x<256)(hs:s.length<=90000):
  ZU (LK Zr fs fuel k) fs fuel (n+1) 41 [.str s,nI .u8 x] H=.ret (.bool (Pe [UInt8.ofNat x] s)) H:=by
 obtain⟨H',e,g⟩:=gI E (n:=898) (H:=H) hx hs
 exact YI (r:=0) rfl rfl e g (rfl) hk
theorem tS{Zr:Lib}{fs:T CF}{fuel:Nat}(E:Env Zr fs fuel){n:Nat}{s p:List UInt8}{H:Heap}(hs:s.length<=90000):
  ∃H',ZU (LK Zr fs fuel 0) fs fuel (n+2) 39 [.str s,.str p] H=.ret (.bool (O6 p s)) H'∧Zw H H' []:=by
 rw[Z4 (Z3 E.n39 (.inl (by decide)) _ _) E.f39]
 unfold O6
 by_cases h:p.length<=s.length
 ·rw[Zd h]
  have d1:decide (p.length<=s.length)=true:=Zd h
  simp(disch:=omega) only[d1,Xf,Wh,Xc,Z0,N4,c39,ZI,Yw,ZG,Yl,Yt]
  refine⟨_,rfl,?_⟩
  exact Zw.refl _ _
 ·rw[Zb h]
  have d1:decide (p.length<=s.length)=false:=Zb h
  simp only[d1,Y0,Wh,Z0,c39,ZI,Yw,ZG,Yt]
  refine⟨_,rfl,?_⟩
  exact Zw.refl _ _
theorem jj{Zr:Lib}{fs:T CF}{fuel:Nat}(E:Env Zr fs fuel){k n:Nat}(hk:1<=k){s p:List UInt8}{H:Heap}(hs:s.length<=90000):
  ZU (LK Zr fs fuel k) fs fuel (n+1) 39 [.str s,.str p] H=.ret (.bool (O6 p s)) H:=by
 obtain⟨H',e,g⟩:=tS E (n:=898) (H:=H) hs
 exact YI (r:=0) rfl rfl e g (rfl) hk
def Gf(s:List UInt8):Bool:=!Pe [47,0] s&&decide (1<=s.length)&&decide (s.length<=255)&&!decide (s=Af)&&!decide (s=J2)
structure NMI(s:List UInt8)(H0:Heap)(m:Nat)(tm:TM)(H:Heap):Prop where
 heap:H=H0
 t0:Yu tm=.str s
 i: ∃i,Xx tm=nI .i64 i∧i+m=s.length∧ ∀j,j<i->decide (s.getD j 0∈([47,0]:List UInt8))=false
def NMQ(s:List UInt8)(H0:Heap)(o:Out)(tm:TM)(H:Heap):Prop:=H=H0∧Yu tm=.str s∧((o=.ret∧Vt tm=.bool false∧Pe [47,0] s=true)∨(o=.exit 0∧Pe [47,0] s=false))
theorem xw{a:UInt8}:a∈([47,0]:List UInt8)↔a.toNat=0∨a.toNat=47:=by
 rw[Ju (by decide),Ju (by decide)]
 simp[or_comm]
theorem Zbm{s:List UInt8}(hs:s.length<=90000){H0:Heap}(cx:Ctx)(X0:X)(m:Nat)(tm:TM)(H:Heap)(hI:NMI s H0 m tm H):
  ∃o tm' H',Iu cx tm H X0=.ok o tm' H' X0∧((o=.normal∧ ∃k,k<m∧NMI s H0 k tm' H')∨(o≠.normal∧NMQ s H0 o tm' H')):=by
 obtain⟨rfl,t0,i,t3,him,hn⟩:=hI
 have t0':=t0
 simp only[VF] at t0
 simp only[UN] at t3
 cases m with
 |zero=>
  have d1:decide (i<s.length)=false:=Zb (by omega)
  simp only[t0,t3,d1,Zv,Z0,Iu,ZI,Yw,Yt]
  refine⟨_,_,_,rfl,?_⟩
  exact .inr ⟨by simp,rfl,t0',.inr ⟨rfl,Do λj hj=>hn j (by omega)⟩⟩
 |succ m=>
  have hi:i<s.length:=by omega
  have d1:decide (i<s.length)=true:=Zd hi
  by_cases h:(s.getD i 0).toNat=0
  ·have d2:decide ((s.getD i 0).toNat=0)=true:=Zd h
   simp(disch:=omega) only[t0,t3,d1,d2,U1,Zv,YW,Z0,Iu,ZI,Yw,Yt]
   refine⟨_,_,_,rfl,?_⟩
   exact .inr ⟨by simp,rfl,t0',.inl ⟨rfl,rfl,KI hi (Zd (xw.2 (.inl h)))⟩⟩
  ·have d2:decide ((s.getD i 0).toNat=0)=false:=Zb h
   by_cases h2:(s.getD i 0).toNat=47
   ·have d3:decide ((s.getD i 0).toNat=47)=true:=Zd h2
    simp(disch:=omega) only[t0,t3,d1,d2,d3,U1,Zv,YW,Z0,Iu,ZI,Yw,Yt]
    refine⟨_,_,_,rfl,?_⟩
    exact .inr ⟨by simp,rfl,t0',.inl ⟨rfl,rfl,KI hi (Zd (xw.2 (.inr h2)))⟩⟩
   ·have d3:decide ((s.getD i 0).toNat=47)=false:=Zb h2
    simp(disch:=omega) only[t0,t3,d1,d2,d3,U1,Zv,YW,YU,Z0,Iu,ZI,Yw,Yt]
    refine⟨_,_,_,rfl,.inl ⟨rfl,m,by omega,rfl,t0',i+1,rfl,by omega,λj hj=>?_⟩⟩
    by_cases e:j=i
    ·rw[e];exact Zb λhm=>by rcases xw.1 hm with h3|h3<;>omega
    ·exact hn j (by omega)
theorem mM{Zr:Lib}{fs:T CF}{fuel:Nat}(E:Env Zr fs fuel){n:Nat}{s:List UInt8}{H:Heap}(hs:s.length<=90000):
  ∃H',ZU (LK Zr fs fuel 0) fs fuel (n+2) 57 [.str s] H=.ret (.bool (Gf s)) H'∧Zw H H' []:=by
 rw[Z4 (Z3 E.n57 (.inl (by decide)) _ _) E.f57]
 simp only[c57,ZI,Yt]
 generalize hL:XD (Iu _) fuel _ _ _=L
 obtain⟨o,Nb,H1,rfl,_,rfl,t0,z⟩:=YG (P:=λT=>NMI s H s.length T H) (Q:=NMQ s H)
  (λT hi=>YX (NMI s H) (NMQ s H) (λm tm H1 h=>Zbm hs _ _ m tm H1 h) fuel s.length T H (by have:=E.big;omega) hi) hL
  ⟨rfl,rfl,0,rfl,by omega,λj hj=>by omega⟩
 simp only[VF] at t0
 rcases z with⟨rfl,t2,e⟩|⟨rfl,e⟩
 ·simp only[Sk] at t2
  rw[show Gf s=false by unfold Gf;rw[e];rfl]
  simp only[t2,ZI,ZG,Yt]
  refine⟨_,rfl,?_⟩
  exact Zw.refl _ _
 ·have hd:Gf s=(decide (1<=s.length)&&decide (s.length<=255)&&!decide (s=Af)&&!decide (s=J2)):=by unfold Gf;rw[e];rfl
  rw[hd]
  unfold Af J2
  by_cases h0: ¬(1<=s.length)
  ·have d0:decide (1<=s.length)=false:=Zb h0
   rw[d0]
   simp only[t0,d0,Y0,Wh,Z0,ZI,Yw,ZG,Yt,Vf]
   refine⟨_,rfl,?_⟩
   exact Zw.refl _ _
  have d0:decide (1<=s.length)=true:=Zd (Decidable.not_not.1 h0)
  by_cases h1: ¬(s.length<=255)
  ·have d1:decide (s.length<=255)=false:=Zb h1
   rw[d1]
   try rw[d0]
   simp only[t0,d0,d1,Y0,VH,Wh,Xh,Z0,ZI,Yw,ZG,Yt,Vf]
   refine⟨_,rfl,?_⟩
   exact Zw.refl _ _
  have d1:decide (s.length<=255)=true:=Zd (Decidable.not_not.1 h1)
  by_cases h2:s=[46]
  ·have d2:decide (s=[46])=true:=Zd h2
   rw[d2]
   try rw[d0]
   try rw[d1]
   simp only[t0,d0,d1,d2,Y0,VH,Sp,YJ,Wh,Xh,T2,Z0,ZI,Yw,ZG,Yt,Vf]
   refine⟨_,rfl,?_⟩
   exact Zw.refl _ _
  have d2:decide (s=[46])=false:=Zb h2
  by_cases h3:s=[46,46]
  ·have d3:decide (s=[46,46])=true:=Zd h3
   rw[d3]
   try rw[d0]
   try rw[d1]
   try rw[d2]
   simp only[t0,d0,d1,d2,d3,VH,Sp,YJ,Y7,Wh,Xh,T2,Z0,ZI,Yw,ZG,Yt,Vf]
   refine⟨_,rfl,?_⟩
   exact Zw.refl _ _
  have d3:decide (s=[46,46])=false:=Zb h3
  rw[d0,d1,d2,d3]
  simp only[t0,d0,d1,d2,d3,Sp,Y7,Wh,Xh,T2,Z0,ZI,Yw,ZG,Yt,Vf]
  refine⟨_,rfl,?_⟩
  exact Zw.refl _ _
theorem Zjd{Zr:Lib}{fs:T CF}{fuel:Nat}(E:Env Zr fs fuel){k n:Nat}(hk:1<=k){s:List UInt8}{H:Heap}(hs:s.length<=90000):
  ZU (LK Zr fs fuel k) fs fuel (n+1) 57 [.str s] H=.ret (.bool (Gf s)) H:=by
 obtain⟨H',e,g⟩:=mM E (n:=898) (H:=H) hs
 exact YI (r:=0) rfl rfl e g (rfl) hk
theorem vK(s:List UInt8):YF s=(Gf s&&decide (s.length<=251)&&!O6 yy s):=by
 unfold YF Gf
 by_cases h:s.length<=251
 ·have h2:decide (s.length<=255)=true:=Zd (by omega)
  rw[h2,Zd h]
  have h3:(!decide (s=[]))=decide (1<=s.length):=by
   cases s with
   |nil=>rfl
   |cons a l=>simp
  rw[h3]
  cases decide (1<=s.length)<;>cases decide (s=Af)<;>cases decide (s=J2)<;>cases Pe [47,0] s<;>cases O6 yy s<;>rfl
 ·rw[Zb h];simp
theorem ny{Zr:Lib}{fs:T CF}{fuel:Nat}(E:Env Zr fs fuel){n:Nat}{s:List UInt8}{H:Heap}(hs:s.length<=90000):
  ∃H',ZU (LK Zr fs fuel 1) fs fuel (n+2) 37 [.str s] H=.ret (.bool (YF s)) H'∧Zw H H' []:=by
 rw[Z4 (Z3 E.n37 (.inl (by decide)) _ _) E.f37]
 have e1:=λ{j}=>Zjd E (k:=1) (n:=j) (by decide) (s:=s) (H:=H) hs
 have e2:=λ{j}=>jj E (k:=1) (n:=j) (by decide) (s:=s) (p:=[46,119,104,46]) (H:=H) hs
 rw[vK,show yy=[46,119,104,46] from rfl]
 cases ha:Gf s with
 |false=>
  rw[ha] at e1
  simp only[e1,Y0,c37,ZI,Yw,ZG,Yt]
  refine⟨_,rfl,?_⟩
  exact Zw.refl _ _
 |true=>
  rw[ha] at e1
  by_cases h:s.length<=251
  ·have d1:decide (s.length<=251)=true:=Zd h
   rw[d1]
   cases hb:O6 [46,119,104,46] s with
   |false=>
    rw[hb] at e2
    simp only[d1,e1,e2,Xf,Y7,Xh,Z0,c37,ZI,Yw,ZG,Yl,Yt]
    refine⟨_,rfl,?_⟩
    exact Zw.refl _ _
   |true=>
    rw[hb] at e2
    simp only[d1,e1,e2,Xf,YJ,Xh,Z0,c37,ZI,Yw,ZG,Yl,Yt]
    refine⟨_,rfl,?_⟩
    exact Zw.refl _ _
  ·have d1:decide (s.length<=251)=false:=Zb h
   rw[d1]
   simp only[d1,e1,Y0,VH,Xh,Z0,c37,ZI,Yw,ZG,Yt]
   refine⟨_,rfl,?_⟩
   exact Zw.refl _ _
theorem qW{Zr:Lib}{fs:T CF}{fuel:Nat}(E:Env Zr fs fuel){k n:Nat}(hk:2<=k){s:List UInt8}{H:Heap}(hs:s.length<=90000):
  ZU (LK Zr fs fuel k) fs fuel (n+1) 37 [.str s] H=.ret (.bool (YF s)) H:=by
 obtain⟨H',e,g⟩:=ny E (n:=898) (H:=H) hs
 exact YI (r:=1) rfl rfl e g (rfl) hk
def N5(l:List (List UInt8)):List (List AV):=l.map λp=>[.str p]
theorem ko(l:List (List UInt8))(p:List UInt8):N5 (l++[p])=N5 l++[[.str p]]:=by unfold N5;rw[YA];rfl
theorem UW(l:List (List UInt8)):(N5 l).length=l.length:=by unfold N5;rw[Zp]
theorem ic{x:Nat}{s:List UInt8}(h: ∀j,j<s.length->(s.getD j 0).toNat≠x):TJ x s=0:=by
 rw[RT]
 intro c hc
 obtain⟨i,hi,rfl⟩:=S5 hc
 have:=h i hi
 rwa [Ze,Zk hi] at this
theorem ia{x:Nat}: ∀{s:List UInt8} {i:Nat},(∀j,j<i->(s.getD j 0).toNat≠x)->i<s.length->(s.getD i 0).toNat=x->TJ x s=i+1
 |[],i,_,h,_=>by simp at h
 |a::s,0,_,_,e=>by
  have e:a.toNat=x:=e
  show(if a.toNat=x then 1 else _)=1
  rw[if_pos e]
 |a::s,i+1,hn,h,e=>by
  have h0:a.toNat≠x:=hn 0 (by omega)
  have ih:=ia (s:=s) (i:=i) (λj hj=>by simpa using hn (j+1) (by omega)) (by simpa using h) (by simpa using e)
  show(if a.toNat=x then 1 else _)=_
  rw[if_neg h0,ih,if_neg (by omega)]
structure DSI(s:List UInt8)(H0:Heap)(m:Nat)(tm:TM)(H:Heap):Prop where
 t0:Yu tm=.str s
 i: ∃i f v q,YT tm=nI .i64 i∧Xu tm=nI .i64 f∧Xx tm=v∧i+m=s.length+1∧f<=s.length+1∧(i<=s.length->f<=i∧(Y9 s).drop q=Y9 (s.drop f)∧ ∀j,f<=j->j<i->(s.getD j 0).toNat≠47)∧(i=s.length+1->q=(Y9 s).length)∧q<=i∧q<=(Y9 s).length∧RG H v 9 1 (N5 ((Y9 s).take q)) H0.nx
 k:Zw H0 H []
def DSQ(s:List UInt8)(H0:Heap)(o:Out)(tm:TM)(H:Heap):Prop:=o=.exit 0∧DSI s H0 0 tm H
theorem Zaa{s:List UInt8}(hs:s.length<=90000){H0:Heap}(hro:H0.ro<=H0.nx)(cx:Ctx)(X0:X)(m:Nat)(tm:TM)(H:Heap)(hI:DSI s H0 m tm H):
  ∃o tm' H',Iq cx tm H X0=.ok o tm' H' X0∧((o=.normal∧ ∃k,k<m∧DSI s H0 k tm' H')∨(o≠.normal∧DSQ s H0 o tm' H')):=by
 obtain⟨t0,⟨i,f,v,q,t5,t4,t3,him,hf,hd,hq,hqi,hql,hw⟩,k0⟩:=hI
 have t0':=t0;have My:=t3;have tz:=t4
 simp only[VF] at t0
 simp only[UN] at t3
 simp only[Tb] at t4
 simp only[Ss] at t5
 cases m with
 |zero=>
  have d1:decide (i<=s.length)=false:=Zb (by omega)
  simp only[t0,t5,d1,Xh,Z0,Iq,ZI,Yw,Yt]
  refine⟨_,_,_,rfl,?_⟩
  exact .inr ⟨by simp,rfl,t0',⟨i,f,v,q,by simp only[Ss];exact t5,tz,My,him,hf,hd,hq,hqi,hql,hw⟩,k0⟩
 |succ m=>
  have hi:i<=s.length:=by omega
  have d1:decide (i<=s.length)=true:=Zd hi
  obtain⟨hfi,hdr,hno⟩:=hd hi
  have n0:=k0.nx
  have lay_: ∀(rest:List (List UInt8)),Y9 (s.drop f)=(s.take i).drop f::rest-> ∃v' H2,U0 9 1 16 v (.slice H.nx 0 1 none) (H.new (rG 9 1 [.str ((s.take i).drop f)] 0 false true true))=.val v' H2∧RG H2 v' 9 1 (N5 ((Y9 s).take (q+1))) H0.nx∧Zw H0 H2 []∧(Y9 s).drop (q+1)=rest∧q+1<=(Y9 s).length:=by
   intro rest he
   rw[he] at hdr
   obtain⟨h1,h2⟩:=Fv [] hdr
   have ZmL:q+1<=(Y9 s).length:=by
    have:=congrArg List.length hdr
    rw[Ya,Ye] at this;omega
   have htk:(Y9 s).take (q+1)=(Y9 s).take q++[(s.take i).drop f]:=by
    rw[UB,<-h1,Ze,Zk (by omega)];rfl
   obtain⟨v',H2,ea,w2,k2,hb2,n2⟩:=Br (bytes:=16) hw (by decide) (by decide) (by rw[UW,ZW];omega) (by rw[k0.ro];omega) (by omega) (x:=[.str ((s.take i).drop f)]) rfl
   refine⟨v',H2,ea,by rw[htk,ko];exact w2,k0.trans k2 λx hx hlt=>?_,h2,ZmL⟩
   rcases hw with⟨_,e⟩|⟨_,b,r,e,_,hlo⟩
   ·subst e;cases hx
   ·subst e
    rw[ZD.1 hx] at hlt
    omega
  have bs:=λ(x:AV) (hx:x.cells=[x]) (G:Heap)=>Sg 9 (.str []) x hx G
  by_cases h:i=s.length
  ·have d2:decide (i=s.length)=true:=Zd h
   have d3:decide (s.length=s.length)=true:=Zd rfl
   have hz:TJ 47 (s.drop f)=0:=ic λj hj=>by
    rw[Ya] at hj
    rw[Ze,Xl,<-Ze]
    exact hno (f+j) (by omega) (by omega)
   have htl:(s.take i).drop f=s.drop f:=by rw[h,Xg]
   obtain⟨v',H2,ea,w2,k2,e2,q2⟩:=lay_ [] (by rw[Pq hz,htl])
   have hmid:=λG=>zY (s:=s) hfi hi .i64 .i64 G
   simp(disch:=first|assumption|omega|(simp -implicitDefEqProofs only[Y3,Y4]<;>first|assumption|omega)|decide) only[t0,t3,t4,t5,d1,d2,hmid,bs,Qr,ea,Z9,Wn,Zy,ZH,Xh,YW,YU,Z0,Iq,ZI,Yw,Yl,Yt,Vf]
   refine⟨_,_,_,rfl,.inl ⟨rfl,m,by omega,t0',⟨i+1,i+1,v',q+1,rfl,rfl,rfl,by omega,by omega,λh=>by omega,λ_=>?_,by omega,q2,w2⟩,k2⟩⟩
   have:=congrArg List.length e2
   rw[Ya] at this
   have:(Y9 s).length - (q+1)=0:=this
   omega
  ·have d2:decide (i=s.length)=false:=Zb h
   have hi2:i<s.length:=by omega
   have hidx:=λG=>U1 hi2 .i64 G
   have gE:(s.drop f).getD (i - f) 0=s.getD i 0:=by
    rw[Ze,Xl,<-Ze,show f+(i - f)=i by omega]
   by_cases h2:(s.getD i 0).toNat=47
   ·have d3:decide ((s.getD i 0).toNat=47)=true:=Zd h2
    have hz:TJ 47 (s.drop f)=(i - f)+1:=ia (λj hj=>by
     rw[Ze,Xl,<-Ze]
     exact hno (f+j) (by omega) (by omega)) (by rw[Ya];omega) (by rw[gE];exact h2)
    have htl:(s.take i).drop f=(s.drop f).take (i - f):=by rw[List.drop_take]
    obtain⟨v',H2,ea,w2,k2,e2,q2⟩:=lay_ (Y9 ((s.drop f).drop (i - f+1))) (by rw[Lj hz,htl])
    have hmid:=λG=>zY (s:=s) hfi hi .i64 .i64 G
    simp(disch:=first|assumption|omega|(simp -implicitDefEqProofs only[Y3,Y4]<;>first|assumption|omega)|decide) only[t0,t3,t4,t5,d1,d2,d3,hidx,hmid,bs,Qr,ea,Z9,Wn,Zy,ZH,Xh,YW,YU,Z0,Iq,ZI,Yw,Yl,Yt,Vf]
    refine⟨_,_,_,rfl,.inl ⟨rfl,m,by omega,t0',⟨i+1,i+1,v',q+1,rfl,rfl,rfl,by omega,by omega,λ_=>⟨Zo _,?_,λj h3 h4=>by omega⟩,λh=>by omega,by omega,q2,w2⟩,k2⟩⟩
    rw[e2,SG,show f+(i - f+1)=i+1 by omega]
   ·have d3:decide ((s.getD i 0).toNat=47)=false:=Zb h2
    simp(disch:=omega) only[t0,t5,d1,d2,d3,hidx,Xh,YW,YU,Z0,Iq,ZI,Yw,Yt]
    refine⟨_,_,_,rfl,.inl ⟨rfl,m,by omega,t0',⟨i+1,f,v,q,rfl,tz,My,by omega,hf,λ_=>⟨by omega,hdr,λj h3 h4=>?_⟩,λh=>by omega,by omega,hql,hw⟩,k0⟩⟩
    by_cases e:j=i
    ·rw[e];exact h2
    ·exact hno j h3 (by omega)
theorem jP{Zr:Lib}{fs:T CF}{fuel:Nat}(E:Env Zr fs fuel){k n:Nat}{s:List UInt8}(hs:s.length<=90000){H:Heap}(hro:H.ro<=H.nx):
  ∃v H',ZU (LK Zr fs fuel k) fs fuel (n+1) 36 [.str s] H=.ret v H'∧RG H' v 9 1 (N5 (Z6 s)) H.nx∧Zw H H' []:=by
 rw[Z4 (Z3 E.n36 (.inr rfl) _ _) E.f36]
 unfold Z6
 by_cases h0:s=[]
 ·have d1:decide (s=[])=true:=Zd h0
  rw[if_pos h0]
  simp only[d1,Xc,c36,ZI,Yw,ZG,Yt]
  exact⟨_,_,rfl,.inl ⟨rfl,rfl⟩,Zw.refl _ _⟩
 have d1:decide (s=[])=false:=Zb h0
 rw[if_neg h0]
 simp only[d1,Xc,c36,ZI,Yw,Yt]
 generalize hL:XD (Iq _) fuel _ _ _=L
 obtain⟨o,Nb,H1,rfl,_,rfl,t0,⟨i,f,v,q,t5,t4,t3,him,hf,hd,hq,hqi,hql,hw⟩,k0⟩:=YG (P:=λT=>DSI s H (s.length+1) T H) (Q:=DSQ s H)
  (λT hi=>YX (DSI s H) (DSQ s H) (λm tm H1 h=>Zaa hs hro _ _ m tm H1 h) fuel (s.length+1) T H (by have:=E.big;omega) hi) hL
  (by exact⟨rfl,⟨0,0,.nils,0,rfl,rfl,rfl,by omega,by omega,λ_=>⟨Zo _,rfl,λj h1 h2=>by omega⟩,λh=>by omega,by omega,by omega,.inl ⟨rfl,rfl⟩⟩,Zw.refl _ _⟩)
 simp only[UN] at t3
 rw[hq (by omega),Xg] at hw
 simp only[t3,ZI,Yw,ZG,Yt,Vf]
 exact⟨_,_,rfl,hw,k0⟩
def SO(out p:List UInt8):List UInt8:=if p=[] then out else(if out=[] then [] else out++[47])++p
def W6(l:List (List UInt8)):List UInt8:=l.foldl SO []
theorem FI(out p:List UInt8):(SO out p).length<=out.length+1+p.length:=by
 unfold SO
 split
 ·omega
 ·split
  ·rw[ZE];show 0+_<=_;omega
  ·rw[ZE,ZE];show _+1+_<=_;omega
theorem mj{l:List (List UInt8)}: ∀{out:List UInt8},(∀x∈l,x.length<=90000)->(l.foldl SO out).length<=out.length+l.length*90001:=by
 induction l with
 |nil=>intro out _;simp
 |cons a l ih=>
  intro out h
  rw[U6,Ye]
  have h1:=ih (out:=SO out a) λx hx=>h x (ZC _ hx)
  have h2:=FI out a
  have h3:=h a (Zs ..)
  omega
theorem sS(l:List (List UInt8))(p:List UInt8):W6 (l++[p])=SO (W6 l) p:=by
 unfold W6;rw[List.foldl_append];rfl
theorem DG{l:List (List UInt8)}{i:Nat}(h:i<l.length):(N5 l).getD i []=[.str (l.getD i [])]:=by
 unfold N5
 rw[Ze,ZZ,Ze,Zk h];rfl
structure JOI(v:AV)(l:List (List UInt8))(H0:Heap)(m:Nat)(tm:TM)(H:Heap):Prop where
 heap:H=H0
 t0:Yu tm=v
 i: ∃i,Xu tm=nI .i64 i∧Xx tm=.str (W6 (l.take i))∧i+m=l.length
def JOQ(v:AV)(l:List (List UInt8))(H0:Heap)(o:Out)(tm:TM)(H:Heap):Prop:=o=.exit 0∧H=H0∧Xx tm=.str (W6 l)
theorem ZaL{v:AV}{l:List (List UInt8)}(hl:l.length<=90001)(hs: ∀x∈l,x.length<=90000){H0:Heap}(hN:Sl H0 1 v (N5 l))(cx:Ctx)(X0:X)(m:Nat)(tm:TM)(H:Heap)(hI:JOI v l H0 m tm H):
  ∃o tm' H',Ir cx tm H X0=.ok o tm' H' X0∧((o=.normal∧ ∃k,k<m∧JOI v l H0 k tm' H')∨(o≠.normal∧JOQ v l H0 o tm' H')):=by
 obtain⟨rfl,t0,i,t4,t3,him⟩:=hI
 have t0':=t0;have My:=t3
 simp only[VF] at t0
 simp only[UN] at t3
 simp only[Tb] at t4
 have ln: ∀G,Oy v G=.val (nI .i64 l.length) G:=λG=>by rw[hN.len,UW]
 cases m with
 |zero=>
  have d1:decide (i<l.length)=false:=Zb (by omega)
  obtain rfl:i=l.length:=by omega
  rw[Xg] at t3 My
  simp only[t0,t4,ln,Zv,XT,decide_false,Ir,ZI,Yw,Yt]
  refine⟨_,_,_,rfl,?_⟩
  exact .inr ⟨by simp,rfl,rfl,by simp only[UN];exact t3⟩
 |succ m=>
  have hi:i<l.length:=by omega
  have d1:decide (i<l.length)=true:=Zd hi
  obtain⟨b,o,r,eI,hb,gb,_,eE⟩:=hN.at_ (i:=i) (by rw[UW];exact hi)
  have e0: ∀G,ld1 (some (.row r)) o G=.val (.str (l.getD i [])) G:=λG=>by
   have:=eE 0 G (by decide)
   rw[DG hi] at this;exact this
  have htk:l.take (i+1)=l.take i++[l.getD i []]:=by
   rw[UB,Ze,Zk hi];rfl
  have hpl:(l.getD i []).length<=90000:=hs _ (by rw[Ze,Zk hi];exact Xp hi)
  have hjl:(W6 (l.take i)).length<=i*90001:=by
   have:=mj (l:=l.take i) (out:=[]) λx hx=>hs x (VO hx)
   rw[ZW,Wb (by omega)] at this
   have this:(W6 (l.take i)).length<=0+i*90001:=this
   omega
  have hnx:W6 (l.take (i+1))=SO (W6 (l.take i)) (l.getD i []):=by rw[htk,sS]
  generalize W6 (l.take i)=w at*
  generalize l.getD i []=p at*
  have a1: ∀G,DP (.str w) (.str [47]) G=.val (.str (w++[47])) G:=λG=>KH (by show w.length+1<=_;omega) G
  have a2: ∀G,DP (.str (w++[47])) (.str p) G=.val (.str (w++[47]++p)) G:=λG=>KH (by rw[ZE];show w.length+1+p.length<=_;omega) G
  have a3: ∀G,DP (.str w) (.str p) G=.val (.str (w++p)) G:=λG=>KH (by omega) G
  by_cases h1:p=[]
  ·have d2:decide (p=[])=true:=Zd h1
   simp(disch:=omega) only[t0,t4,ln,d1,d2,eI,gb,e0,Zv,Xc,YU,Ir,ZI,Yw,Yt]
   refine⟨_,_,_,rfl,?_⟩
   exact .inl ⟨rfl,m,by omega,rfl,t0',i+1,rfl,by rw[hnx];unfold SO;rw[if_pos h1];exact My,by omega⟩
  ·have d2:decide (p=[])=false:=Zb h1
   by_cases h2:w=[]
   ·have d3:decide (w=[])=true:=Zd h2
    simp(disch:=omega) only[t0,t3,t4,ln,d1,d2,d3,eI,gb,e0,a3,T2,YJ,Zv,Xc,T2,YU,Ir,ZI,Yw,Yt]
    refine⟨_,_,_,rfl,?_⟩
    exact .inl ⟨rfl,m,by omega,rfl,t0',i+1,rfl,by rw[hnx];unfold SO;rw[if_neg h1,if_pos h2,h2];rfl,by omega⟩
   ·have d3:decide (w=[])=false:=Zb h2
    simp(disch:=omega) only[t0,t3,t4,ln,d1,d2,d3,eI,gb,e0,a1,a2,T2,Y7,Zv,Xc,T2,YU,Ir,ZI,Yw,Yt]
    refine⟨_,_,_,rfl,?_⟩
    exact .inl ⟨rfl,m,by omega,rfl,t0',i+1,rfl,by rw[hnx];unfold SO;rw[if_neg h1,if_neg h2];rfl,by omega⟩
theorem nv{Zr:Lib}{fs:T CF}{fuel:Nat}(E:Env Zr fs fuel){n:Nat}{v:AV}{l:List (List UInt8)}{H:Heap}(hl:l.length<=90001)(hs: ∀x∈l,x.length<=90000)(hN:Sl H 1 v (N5 l)):
  ∃H',ZU (LK Zr fs fuel 2) fs fuel (n+2) 38 [v] H=.ret (.str (W6 l)) H'∧Zw H H' []:=by
 rw[Z4 (Z3 E.n38 (.inl (by decide)) _ _) E.f38]
 have hf:=E.big
 simp only[c38,ZI,Yt]
 generalize hL:XD (Ir _) fuel _ _ _=L
 obtain⟨o,Nb,H1,rfl,_,rfl,rfl,t3⟩:=YG (P:=λT=>JOI v l H l.length T H) (Q:=JOQ v l H)
  (λT hi=>YX (JOI v l H) (JOQ v l H) (λm tm H1 h=>ZaL hl hs hN _ _ m tm H1 h) fuel l.length T H (by omega) hi) hL
  ⟨rfl,rfl,0,rfl,rfl,by omega⟩
 simp only[UN] at t3
 simp only[t3,ZI,Yw,ZG,Yt]
 refine⟨_,rfl,?_⟩
 exact Zw.refl _ _
theorem Zco{Zr:Lib}{fs:T CF}{fuel:Nat}(E:Env Zr fs fuel){k n:Nat}(hk:3<=k){v:AV}{l:List (List UInt8)}{H:Heap}(hl:l.length<=90001)(hs: ∀x∈l,x.length<=90000)(hN:Sl H 1 v (N5 l)):
  ZU (LK Zr fs fuel k) fs fuel (n+1) 38 [v] H=.ret (.str (W6 l)) H:=by
 obtain⟨H',e,g⟩:=nv E (n:=898) (H:=H) hl hs hN
 exact YI (r:=2) rfl rfl e g (rfl) hk
structure MDI(s:List UInt8)(v:AV)(l:List (List UInt8))(H0:Heap)(m:Nat)(tm:TM)(H:Heap):Prop where
 heap:H=H0
 t0:Yu tm=.str s
 t3:Xx tm=v
 i: ∃i,Xu tm=nI .i64 i∧i+m=l.length∧ ∀j,j<i->YF (l.getD j [])=true
def MDQ(s:List UInt8)(v:AV)(l:List (List UInt8))(H0:Heap)(o:Out)(tm:TM)(H:Heap):Prop:=H=H0∧((o=.ret∧Vt tm=.bool false∧l.all YF=false)∨(o=.exit 0∧Yu tm=.str s∧Xx tm=v∧l.all YF=true))
theorem Zbg{Zr:Lib}{fs:T CF}{fuel:Nat}(E:Env Zr fs fuel){n:Nat}{s:List UInt8}{v:AV}{l:List (List UInt8)}(hl:l.length<=90001)(hs: ∀x∈l,x.length<=90000){H0:Heap}(hN:Sl H0 1 v (N5 l))(y f dd q)(X0:X)(m:Nat)(tm:TM)(H:Heap)(hI:MDI s v l H0 m tm H):
  ∃o tm' H',Fo ⟨ZU (LK Zr fs fuel 3) fs fuel (n+1),y,f,dd,q⟩ tm H X0=.ok o tm' H' X0∧((o=.normal∧ ∃k,k<m∧MDI s v l H0 k tm' H')∨(o≠.normal∧MDQ s v l H0 o tm' H')):=by
 obtain⟨rfl,t0,t3,i,t4,him,hn⟩:=hI
 have t0':=t0;have My:=t3
 simp only[VF] at t0
 simp only[UN] at t3
 simp only[Tb] at t4
 have ln: ∀G,Oy v G=.val (nI .i64 l.length) G:=λG=>by rw[hN.len,UW]
 cases m with
 |zero=>
  have d1:decide (i<l.length)=false:=Zb (by omega)
  simp only[t3,t4,ln,d1,Zv,Fo,ZI,Yw,Yt]
  refine⟨_,_,_,rfl,?_⟩
  exact .inr ⟨by simp,rfl,.inr ⟨rfl,t0',My,tL λj hj=>hn j (by omega)⟩⟩
 |succ m=>
  have hi:i<l.length:=by omega
  have d1:decide (i<l.length)=true:=Zd hi
  obtain⟨b,o,r,eI,hb,gb,_,eE⟩:=hN.at_ (i:=i) (by rw[UW];exact hi)
  have e0: ∀G,ld1 (some (.row r)) o G=.val (.str (l.getD i [])) G:=λG=>by
   have:=eE 0 G (by decide)
   rw[DG hi] at this;exact this
  have hpl:(l.getD i []).length<=90000:=hs _ (by rw[Ze,Zk hi];exact Xp hi)
  have e1:=λ{j}=>qW E (k:=3) (n:=j) (by decide) (H:=H) hpl
  cases hm:YF (l.getD i []) with
  |true=>
   rw[hm] at e1
   simp(disch:=omega) only[t3,t4,ln,d1,eI,gb,e0,e1,Zv,YU,Fo,ZI,Yw,Yl,Yt]
   refine⟨_,_,_,rfl,.inl ⟨rfl,m,by omega,rfl,t0',My,i+1,rfl,by omega,λj hj=>?_⟩⟩
   by_cases h:j=i
   ·rw[h];exact hm
   ·exact hn j (by omega)
  |false=>
   rw[hm] at e1
   simp only[t3,t4,ln,d1,eI,gb,e0,e1,Zv,Fo,ZI,Yw,Yl,Yt]
   refine⟨_,_,_,rfl,?_⟩
   exact .inr ⟨by simp,rfl,.inl ⟨rfl,rfl,xE hi hm⟩⟩
theorem nz{Zr:Lib}{fs:T CF}{fuel:Nat}(E:Env Zr fs fuel){n:Nat}{s:List UInt8}{H:Heap}(hs:s.length<=90000)(hro:H.ro<=H.nx):
  ∃H',ZU (LK Zr fs fuel 3) fs fuel (n+2) 40 [.str s] H=.ret (.bool (T6 s)) H'∧Zw H H' []:=by
 rw[Z4 (Z3 E.n40 (.inl (by decide)) _ _) E.f40]
 have hf:=E.big
 have hnl:=FO s
 have hns: ∀x∈Z6 s,x.length<=s.length:=λx hx=>K6 hx
 obtain⟨v,H1,e1,hw,k1⟩:=jP E (k:=3) (n:=n) hs (H:=H) hro
 have hN:=Sl.of_buf hw
 simp only[e1,c40,ZI,Yw,Yt]
 generalize hL:XD (Fo _) fuel _ _ _=L
 obtain⟨o,Nb,H2,rfl,_,rfl,z⟩:=YG (P:=λT=>MDI s v (Z6 s) H1 (Z6 s).length T H1) (Q:=MDQ s v (Z6 s) H1)
  (λT hi=>YX (MDI s v (Z6 s) H1) (MDQ s v (Z6 s) H1) (λm tm H1 h=>Zbg E (by omega) (λx hx=>ZX (hns x hx) hs) hN _ _ _ _ _ m tm H1 h) fuel (Z6 s).length T H1 (by omega) hi) hL
  ⟨rfl,rfl,rfl,0,rfl,by omega,λj hj=>by omega⟩
 rcases z with⟨rfl,t2,e⟩|⟨rfl,t0,t3,e⟩
 ·simp only[Sk] at t2
  rw[show T6 s=false by unfold T6;rw[e,VH]]
  simp only[t2,ZI,ZG,Yt]
  refine⟨_,rfl,?_⟩
  exact k1
 ·simp only[VF] at t0
  simp only[UN] at t3
  have ln: ∀G,Oy v G=.val (nI .i64 (Z6 s).length) G:=λG=>by rw[hN.len,UW]
  by_cases h1:(Z6 s).length<=254
  ·have d1:decide ((Z6 s).length<=254)=true:=Zd h1
   have d1':decide ((Z6 s).length<255)=true:=Zd (by omega)
   by_cases h2:s.length<=4080
   ·have d2:decide (s.length<=4080)=true:=Zd h2
    rw[show T6 s=true by unfold T6;rw[e,d1',d2];rfl]
    simp only[t0,t3,ln,d1,d2,Xh,Z0,ZI,Yw,ZG,Yt]
    refine⟨_,rfl,?_⟩
    exact k1
   ·have d2:decide (s.length<=4080)=false:=Zb h2
    rw[show T6 s=false by unfold T6;rw[d2];rfl]
    simp only[t0,t3,ln,d1,d2,Xh,Z0,ZI,Yw,ZG,Yt]
    refine⟨_,rfl,?_⟩
    exact k1
  ·have d1:decide ((Z6 s).length<=254)=false:=Zb h1
   have d1':decide ((Z6 s).length<255)=false:=Zb (by omega)
   rw[show T6 s=false by unfold T6;rw[d1',VH];rfl]
   simp only[t3,ln,d1,Xh,ZI,Yw,ZG,Yt]
   refine⟨_,rfl,?_⟩
   exact k1
theorem jN{Zr:Lib}{fs:T CF}{fuel:Nat}(E:Env Zr fs fuel){k n:Nat}(hk:4<=k){s:List UInt8}{H:Heap}(hs:s.length<=90000)(hro:H.ro<=H.nx):
  ZU (LK Zr fs fuel k) fs fuel (n+1) 40 [.str s] H=.ret (.bool (T6 s)) H:=by
 obtain⟨H',e,g⟩:=nz E (n:=898) (H:=H) hs hro
 exact YI (r:=3) rfl rfl e g (rfl) hk
theorem uF{c:UInt8}(h:c.toNat=47):c=47:=U9.1 h
theorem z7: ∀s:List UInt8,Y9 s=(if Tk 47 s=0 then [] else Y9 (s.take (Tk 47 s - 1)))++[s.drop (Tk 47 s)]
 |[]=>rfl
 |c::s=>by
  have ih:=z7 s
  rw[Y9,Tk]
  by_cases h0:Tk 47 s=0
  ·rw[if_pos h0,ZQ,h0,Zz] at ih
   rw[if_pos h0]
   by_cases hc:c.toNat=47
   ·rw[if_pos hc,if_pos hc,ih];rfl
   ·rw[if_neg hc,if_neg hc,ih];rfl
  ·rw[if_neg h0] at ih
   rw[if_neg h0,if_neg (show ¬Tk 47 s+1=0 by omega)]
   obtain⟨d,hd⟩: ∃d,Tk 47 s=d+1:=⟨Tk 47 s - 1,by omega⟩
   rw[hd] at ih ⊢
   rw[show d+1 - 1=d by omega] at ih
   rw[show d+1+1 - 1=d+1 by omega]
   show _=Y9 (c::s.take d)++[s.drop (d+1)]
   rw[Y9]
   by_cases hc:c.toNat=47
   ·rw[if_pos hc,if_pos hc,ih];rfl
   ·rw[if_neg hc,if_neg hc,ih]
    cases hs:Y9 (s.take d) with
    |nil=>exact absurd hs (Q0 _)
    |cons a b=>rfl
theorem wL: ∀{s:List UInt8} {d:Nat},Tk 47 s=d+1->s.take (d+1)=s.take d++[47]
 |[],d,h=>by simp[Tk] at h
 |c::s,d,h=>by
  rw[Tk] at h
  by_cases h0:Tk 47 s=0
  ·rw[if_pos h0] at h
   by_cases hc:c.toNat=47
   ·rw[if_pos hc] at h
    obtain rfl:d=0:=by omega
    rw[uF hc];rfl
   ·rw[if_neg hc] at h;omega
  ·rw[if_neg h0] at h
   obtain⟨e,he⟩: ∃e,Tk 47 s=e+1:=⟨Tk 47 s - 1,by omega⟩
   obtain rfl:d=e+1:=by omega
   have:=wL he
   show c::s.take (e+1)=c::(s.take e++[47])
   rw[this]
theorem Cl: ∀{s:List UInt8},∀c∈s.drop (Tk 47 s),c.toNat≠47
 |[],c,h=>by simp[Tk] at h
 |a::s,c,h=>by
  rw[Tk] at h
  by_cases h0:Tk 47 s=0
  ·rw[if_pos h0] at h
   have ih:= @Cl s
   rw[h0,Zz] at ih
   by_cases hc:a.toNat=47
   ·rw[if_pos hc] at h
    exact ih c h
   ·rw[if_neg hc] at h
    rcases ZR.1 h with rfl|h
    ·exact hc
    ·exact ih c h
  ·rw[if_neg h0] at h
   exact Cl c h
theorem z6: ∀(d b:List UInt8),Y9 (d++47::b)=Y9 d++Y9 b
 |[],b=>rfl
 |c::d,b=>by
  have ih:=z6 d b
  rw[Wq,Y9,Y9]
  by_cases hc:c.toNat=47
  ·rw[if_pos hc,if_pos hc,ih];rfl
  ·rw[if_neg hc,if_neg hc,ih]
   cases hs:Y9 d with
   |nil=>exact absurd hs (Q0 _)
   |cons x y=>rfl
theorem sT: ∀(n:Nat) (d acc:List UInt8),d.length<=n->(∀x∈Y9 d,x≠[])->(Y9 d).foldl SO acc=(if acc=[] then [] else acc++[47])++d:=by
 intro n
 induction n with
 |zero=>
  intro d acc h hx
  obtain rfl:d=[]:=YR.1 (by omega)
  exact absurd rfl (hx [] (Zs ..))
 |succ n ih=>
  intro d acc h hx
  cases hf:TJ 47 d with
  |zero=>
   rw[Pq hf] at hx ⊢
   show SO acc d=_
   unfold SO
   rw[if_neg (hx d (Zs ..))]
  |succ j=>
   obtain⟨hj,hc⟩:=y5 hf
   rw[Lj hf] at hx ⊢
   rw[U6]
   have h1:=hx _ (Zs ..)
   have hne:SO acc (d.take j)=(if acc=[] then [] else acc++[47])++d.take j:=by
    unfold SO;rw[if_neg h1]
   have hn2:SO acc (d.take j)≠[]:=by
    rw[hne];intro e
    exact h1 (List.append_eq_nil_iff.1 e).2
   rw[ih _ _ (by rw[Ya];omega) λx hx'=>hx x (ZC _ hx'),if_neg hn2,hne]
   have hd:d=d.take j++([47]++d.drop (j+1)):=by
    have e1:d.drop j=d.getD j 0::d.drop (j+1):=by
     rw[Ws hj,Ze,Zk hj];rfl
    have e2:=Se j d
    rw[e1,uF hc] at e2
    exact e2.symm
   conv=>rhs;rw[hd]
   simp only[Xk]
def W5(s:List UInt8):Nat:=
 if s=qw then 4 else if Z6 s=[] then 0 else
 if ((Z6 s).take ((Z6 s).length - 1)).all YF then
  (if YF ((Z6 s).getD ((Z6 s).length - 1) []) then(if T6 s then 1 else 0)
   else if (Z6 s).getD ((Z6 s).length - 1) []=lD then(if T6 (W6 ((Z6 s).take ((Z6 s).length - 1))) then 3 else 0)
   else if O6 yy ((Z6 s).getD ((Z6 s).length - 1) [])&&YF (((Z6 s).getD ((Z6 s).length - 1) []).drop 4) then(if T6 (W6 [W6 ((Z6 s).take ((Z6 s).length - 1)),((Z6 s).getD ((Z6 s).length - 1) []).drop 4]) then 2 else 0)
   else 0)
 else 0
theorem rn{s:List UInt8}(h:YF s=true):s≠[]:=by
 intro e;subst e;simp[YF] at h
theorem eU{s:List UInt8}(h:O6 yy s=true):YF s=false:=by
 unfold YF;rw[h];simp
theorem AK(s:List UInt8):W5 s=(Y8 s).1:=by
 unfold W5 Y8
 by_cases h0:s=qw
 ·rw[if_pos h0,if_pos h0]
 rw[if_neg h0,if_neg h0]
 by_cases hE:s=[]
 ·subst hE
  rw[if_pos (show Z6 []=[] from rfl)]
  rfl
 have hN:Z6 s=Y9 s:=if_neg hE
 rw[if_neg (by rw[hN];exact Q0 s)]
 have hsc:=z7 s
 obtain⟨A,hA⟩: ∃A,(if Tk 47 s=0 then [] else Y9 (s.take (Tk 47 s - 1)))=A:=⟨_,rfl⟩
 rw[hA] at hsc
 have hb:s.drop (Tk 47 s)=XC s:=rfl
 rw[hb] at hsc
 have hlen:(Z6 s).length - 1=A.length:=by rw[hN,hsc];simp
 have hL:(Z6 s).getD ((Z6 s).length - 1) []=XC s:=by
  rw[hlen,hN,hsc,Ze,Z5 (Zo _),Ti];rfl
 have hI:(Z6 s).take ((Z6 s).length - 1)=A:=by
  rw[hlen,hN,hsc,List.take_left]
 rw[hL,hI]
 have hall:(Z6 s).all YF=(A.all YF&&YF (XC s)):=by
  rw[hN,hsc,List.all_append,List.all_cons,List.all_nil,Sp]
 have hbn: ∀c∈XC s,c.toNat≠47:=Cl
 have hbf: ∀k,TJ 47 ((XC s).drop k)=0:=λk=>RT.2 λc hc=>hbn c (UA hc)
 have hdb:Uw s++XC s=s:=Se ..
 have ZeY:(Tk 47 s=0∧A=[]∧Uw s=[])∨ ∃d,Tk 47 s=d+1∧A=Y9 (s.take d)∧Uw s=s.take d++[47]:=by
  cases hc:Tk 47 s with
  |zero=>
   rw[hc,if_pos rfl] at hA
   exact .inl ⟨rfl,hA.symm,by unfold Uw;rw[hc];rfl⟩
  |succ d=>
   rw[hc,if_neg (by omega)] at hA
   exact .inr ⟨d,rfl,hA.symm,by unfold Uw;rw[hc];exact wL hc⟩
 have Zau: ∀k,Uw s++(XC s).drop k≠[]->Z6 (Uw s++(XC s).drop k)=A++[(XC s).drop k]:=by
  intro k hne
  unfold Z6
  rw[if_neg hne]
  rcases ZeY with⟨_,hA0,hd0⟩|⟨d,_,hA1,hd1⟩
  ·rw[hA0,hd0,ZQ,ZQ,Pq (hbf k)]
  ·rw[hA1,hd1,Xk]
   show Y9 (s.take d++47::(XC s).drop k)=_
   rw[z6,Pq (hbf k)]
 cases hAll:A.all YF with
 |false=>
  rw[if_neg (by simp)]
  have Zmg: ∃d,Tk 47 s=d+1∧A=Y9 (s.take d)∧Uw s=s.take d++[47]:=by
   rcases ZeY with⟨_,hA0,_⟩|h
   ·rw[hA0] at hAll;cases hAll
   ·exact h
  obtain⟨d,hd,hA1,hd1⟩:=Zmg
  have hbad:NR s=true:=by
   unfold NR Tt
   by_cases h1:RE (XC s)=1
   ·rw[if_pos h1,hdb]
    have:T6 s=false:=by unfold T6;rw[hall,hAll];simp
    rw[this];rfl
   ·rw[if_neg h1]
    by_cases h2:RE (XC s)=2
    ·rw[if_pos h2]
     have hne:Uw s++(XC s).drop 4≠[]:=by rw[hd1];simp
     have:T6 (Uw s++(XC s).drop 4)=false:=by
      unfold T6;rw[Zau 4 hne,List.all_append,hAll];simp
     rw[this];rfl
    ·rw[if_neg h2]
     by_cases h3:s.take d=[]
     ·rw[hd1,h3];simp
     ·have hns:FP (Uw s)=s.take d:=by
       unfold FP
       rw[hd1]
       rw[if_pos ⟨by rw[ZE];show 1<=_+1;omega,by rw[ZE];show(s.take d++[47]).drop ((s.take d).length+1 - 1)=_;rw[W3,List.drop_left]⟩]
       rw[ZE]
       show(s.take d++[47]).take ((s.take d).length+1 - 1)=_
       rw[W3,List.take_left]
      have:T6 (FP (Uw s))=false:=by
       rw[hns]
       unfold T6 Z6
       rw[if_neg h3,<-hA1,hAll,VH]
      rw[this];rfl
  rw[hbad];rfl
 |true=>
  rw[if_pos rfl]
  have hAx: ∀x∈A,YF x=true:=YH.1 hAll
  have gO:(A=[]∧Uw s=[]∧W6 A=[])∨ ∃d,A=Y9 (s.take d)∧Uw s=s.take d++[47]∧W6 A=s.take d∧s.take d≠[]:=by
   rcases ZeY with⟨_,hA0,hd0⟩|⟨d,_,hA1,hd1⟩
   ·exact .inl ⟨hA0,hd0,by rw[hA0];rfl⟩
   ·refine .inr ⟨d,hA1,hd1,?_,?_⟩
    ·unfold W6
     rw[hA1,sT _ _ _ (Zo _) λx hx=>rn (hAx x (by rw[hA1];exact hx)),if_pos rfl,ZQ]
    ·intro e
     have:([]:List UInt8)∈A:=by rw[hA1,e];exact Zs ..
     exact rn (hAx _ this) rfl
  have hds:decide (Uw s=[47])=false:=by
   refine Zb λe=>?_
   rcases gO with⟨_,hd0,_⟩|⟨d,_,hd1,_,hne⟩
   ·rw[hd0] at e;cases e
   ·rw[hd1] at e
    have:=congrArg List.length e
    rw[ZE] at this
    have:(s.take d).length+1=1:=this
    exact hne (YR.1 (by omega))
  by_cases ho:XC s=lD
  ·have hp:O6 yy (XC s)=true:=by rw[ho];rfl
   have hl:RE (XC s)=3:=by unfold RE;rw[if_pos ho]
   rw[eU hp,if_neg (by simp),if_pos ho]
   have ht:Tt s=W6 A:=by
    unfold Tt
    rw[hl,if_neg (by decide),if_neg (by decide)]
    rcases gO with⟨_,hd0,hj⟩|⟨d,_,hd1,hj,hne⟩
    ·rw[hd0,hj];rfl
    ·rw[hj]
     unfold FP
     rw[hd1]
     rw[if_pos ⟨by rw[ZE];show 1<=_+1;omega,by rw[ZE];show(s.take d++[47]).drop ((s.take d).length+1 - 1)=_;rw[W3,List.drop_left]⟩]
     rw[ZE]
     show(s.take d++[47]).take ((s.take d).length+1 - 1)=_
     rw[W3,List.take_left]
   have hbad:NR s=!T6 (W6 A):=by
    unfold NR
    rw[ht,hds,hl];simp
   rw[hbad]
   cases T6 (W6 A) with
   |true=>rw[if_pos rfl];show 3=(if (!true)=true then _ else _:Nat×List UInt8).1;rw[if_neg (by simp)];exact hl.symm
   |false=>rfl
  ·by_cases hp:O6 yy (XC s)=true
   ·have hl:RE (XC s)=2:=by unfold RE;rw[if_neg ho,if_pos hp]
    rw[eU hp,if_neg (by simp),if_neg ho,hp,Xf]
    have ht:Tt s=Uw s++(XC s).drop 4:=by
     unfold Tt
     rw[hl,if_neg (by decide),if_pos rfl]
    cases hm:YF ((XC s).drop 4) with
    |false=>
     rw[if_neg (by simp)]
     have hbad:NR s=true:=by unfold NR;rw[hl,hm];simp
     rw[hbad];rfl
    |true=>
     rw[if_pos rfl]
     have hb4:=rn hm
     have hj2:W6 [W6 A,(XC s).drop 4]=Uw s++(XC s).drop 4:=by
      show SO (SO [] (W6 A)) ((XC s).drop 4)=_
      rcases gO with⟨_,hd0,hj⟩|⟨d,_,hd1,hj,hne⟩
      ·rw[hj,hd0]
       unfold SO
       rw[if_pos rfl,if_neg hb4,if_pos rfl]
      ·rw[hj,hd1]
       unfold SO
       rw[if_neg hne,if_neg hb4,if_pos rfl,ZQ,if_neg hne]
     rw[hj2]
     have hne:Uw s++(XC s).drop 4≠[]:=λe=>hb4 (List.append_eq_nil_iff.1 e).2
     have hbad:NR s=!T6 (Uw s++(XC s).drop 4):=by
      unfold NR
      rw[ht,hds,hl,hm,Zb hne];simp
     rw[hbad]
     cases T6 (Uw s++(XC s).drop 4) with
     |true=>rw[if_pos rfl];show 2=(if (!true)=true then _ else _:Nat×List UInt8).1;rw[if_neg (by simp)];exact hl.symm
     |false=>rfl
   ·have hp:O6 yy (XC s)=false:=by simpa using hp
    have hl:RE (XC s)=1:=by unfold RE;rw[if_neg ho,hp];rfl
    have ht:Tt s=s:=by unfold Tt;rw[hl,if_pos rfl,hdb]
    have hbad:NR s=!T6 s:=by
     unfold NR
     rw[ht,hds,hl,Zb hE];simp
    rw[hbad]
    cases hm:YF (XC s) with
    |true=>
     rw[if_pos rfl]
     cases T6 s with
     |true=>rw[if_pos rfl];show 1=(if (!true)=true then _ else _:Nat×List UInt8).1;rw[if_neg (by simp)];exact hl.symm
     |false=>rfl
    |false=>
     rw[if_neg (by simp),if_neg ho,hp,Y0,if_neg (by simp)]
     have:T6 s=false:=by unfold T6;rw[hall,hm];simp
     rw[this];rfl
def Ny(s:List UInt8):List UInt8:=
 if W5 s=1 then s else if W5 s=3 then W6 ((Z6 s).take ((Z6 s).length - 1)) else if W5 s=2 then W6 [W6 ((Z6 s).take ((Z6 s).length - 1)),((Z6 s).getD ((Z6 s).length - 1) []).drop 4] else []
def G3(l:List (List UInt8)):Nat:=(l.map λp=>p.length+1).sum
theorem bG(a b:List (List UInt8)):G3 (a++b)=G3 a+G3 b:=by unfold G3;rw[YA,List.sum_append]
theorem z8: ∀s:List UInt8,G3 (Y9 s)=s.length+1
 |[]=>rfl
 |c::s=>by
  have ih:=z8 s
  rw[Y9]
  split
  ·show 0+1+G3 (Y9 s)=_
   rw[ih,Ye];omega
  ·split
   ·rename_i h;exact absurd h (Q0 s)
   ·rename_i a b h
    rw[h] at ih
    have ih:a.length+1+G3 b=_:=ih
    show(c::a).length+1+G3 b=_
    rw[Ye,Ye];omega
theorem AW: ∀(l:List (List UInt8)) (out:List UInt8),(l.foldl SO out).length<=out.length+G3 l
 |[],out=>by simp[G3]
 |a::l,out=>by
  have h1:=AW l (SO out a)
  have h2:=FI out a
  show _<=out.length+(a.length+1+G3 l)
  rw[U6];omega
theorem qs{l:List (List UInt8)}{m:Nat}(h:m<l.length):l.take (m+1)=l.take m++[l.getD m []]:=by
 rw[UB,Ze,Zk h];rfl
theorem yt(l:List (List UInt8)):(N5 l).flatten=l.map .str:=by
 induction l with
 |nil=>rfl
 |cons a l ih=>
  show [AV.str a]++(N5 l).flatten=_
  rw[ih];rfl
theorem jF{s:List UInt8}(h:s≠[]):(W6 ((Z6 s).take ((Z6 s).length - 1))).length<=s.length∧(W6 [W6 ((Z6 s).take ((Z6 s).length - 1)),((Z6 s).getD ((Z6 s).length - 1) []).drop 4]).length<=s.length+1:=by
 have hN:Z6 s=Y9 s:=if_neg h
 have hne:(Z6 s).length≠0:=by rw[hN];intro e;exact Q0 s (YR.1 e)
 have hs:G3 (Z6 s)=s.length+1:=by rw[hN];exact z8 s
 have ht:Z6 s=(Z6 s).take ((Z6 s).length - 1)++[(Z6 s).getD ((Z6 s).length - 1) []]:=by
  have:=qs (l:=Z6 s) (m:=(Z6 s).length - 1) (by omega)
  rw[show(Z6 s).length - 1+1=(Z6 s).length by omega,Xg] at this
  exact this
 generalize(Z6 s).take ((Z6 s).length - 1)=A at*
 generalize(Z6 s).getD ((Z6 s).length - 1) []=b at*
 rw[ht,bG] at hs
 have hb:G3 [b]=b.length+1:=rfl
 have h1:=AW A []
 have h1:(W6 A).length<=0+G3 A:=h1
 refine⟨by omega,?_⟩
 have h3:=FI (SO [] (W6 A)) (b.drop 4)
 have h4:(SO [] (W6 A)).length<=(W6 A).length:=by
  unfold SO
  split
  ·exact Ym _
  ·rw[if_pos rfl,ZQ];exact Zo _
 rw[Ya] at h3
 show(SO (SO [] (W6 A)) (b.drop 4)).length<=_
 omega
theorem eS{b:List UInt8}(h:O6 [46,119,104,46] b=true):4<=b.length:=by
 unfold O6 at h
 rw[Yv] at h
 exact Zm h.1
structure CDI(s b:List UInt8)(v:AV)(l:List (List UInt8))(H0:Heap)(m:Nat)(tm:TM)(H:Heap):Prop where
 heap:H=H0
 t0:Yu tm=.str s
 t4:Xu tm=v
 t5:YT tm=.str b
 i: ∃i,Wm tm=nI .i64 i∧i+m=l.length - 1∧ ∀j,j<i->YF (l.getD j [])=true
def CDQ(s b:List UInt8)(v:AV)(l:List (List UInt8))(H0:Heap)(o:Out)(tm:TM)(H:Heap):Prop:=H=H0∧((o=.ret∧Vt tm=nI .i64 0∧Xx tm=.str []∧(l.take (l.length - 1)).all YF=false)∨(o=.exit 0∧Yu tm=.str s∧Xu tm=v∧YT tm=.str b∧(l.take (l.length - 1)).all YF=true))
theorem AZ{l:List (List UInt8)}{k i:Nat}(h:i<k):(l.take k).getD i []=l.getD i []:=by
 rw[Ze,XK h,<-Ze]
theorem aQ{Zr:Lib}{fs:T CF}{fuel:Nat}(E:Env Zr fs fuel){n:Nat}{s b:List UInt8}{v:AV}{l:List (List UInt8)}(hl:l.length<=90001)(h1:1<=l.length)(hs: ∀x∈l,x.length<=90000){H0:Heap}(hN:Sl H0 1 v (N5 l))(y f dd q)(X0:X)(m:Nat)(tm:TM)(H:Heap)(hI:CDI s b v l H0 m tm H):
  ∃o tm' H',Fi ⟨ZU (LK Zr fs fuel 4) fs fuel (n+1),y,f,dd,q⟩ tm H X0=.ok o tm' H' X0∧((o=.normal∧ ∃k,k<m∧CDI s b v l H0 k tm' H')∨(o≠.normal∧CDQ s b v l H0 o tm' H')):=by
 obtain⟨rfl,t0,t4,t5,i,t6,him,hn⟩:=hI
 have t0':=t0;have tz:=t4;have Dj:=t5
 simp only[VF] at t0
 simp only[Tb] at t4
 simp only[Ss] at t5
 simp only[NA] at t6
 have ln: ∀G,Oy v G=.val (nI .i64 l.length) G:=λG=>by rw[hN.len,UW]
 have hlt:(l.take (l.length - 1)).length=l.length - 1:=by rw[ZW];omega
 cases m with
 |zero=>
  have d1:decide (i<l.length - 1)=false:=Zb (by omega)
  simp(disch:=omega) only[t4,t6,ln,d1,Zv,Vp,Fi,ZI,Yw,Yt]
  refine⟨_,_,_,rfl,?_⟩
  exact .inr ⟨by simp,rfl,.inr ⟨rfl,t0',tz,Dj,tL λj hj=>by rw[hlt] at hj;rw[AZ hj];exact hn j (by omega)⟩⟩
 |succ m=>
  have hi:i<l.length - 1:=by omega
  have d1:decide (i<l.length - 1)=true:=Zd hi
  obtain⟨bb,o,r,eI,hb,gb,_,eE⟩:=hN.at_ (i:=i) (by rw[UW];omega)
  have e0: ∀G,ld1 (some (.row r)) o G=.val (.str (l.getD i [])) G:=λG=>by
   have:=eE 0 G (by decide)
   rw[DG (by omega)] at this;exact this
  have hpl:(l.getD i []).length<=90000:=hs _ (by rw[Ze,Zk (by omega)];exact Xp (by omega))
  have e1:=λ{j}=>qW E (k:=4) (n:=j) (by decide) (H:=H) hpl
  cases hm:YF (l.getD i []) with
  |true=>
   rw[hm] at e1
   simp(disch:=omega) only[t4,t6,ln,d1,eI,gb,e0,e1,Zv,Vp,YU,Fi,ZI,Yw,Yl,Yt,Vf]
   refine⟨_,_,_,rfl,.inl ⟨rfl,m,by omega,rfl,t0',tz,Dj,i+1,rfl,by omega,λj hj=>?_⟩⟩
   by_cases h:j=i
   ·rw[h];exact hm
   ·exact hn j (by omega)
  |false=>
   rw[hm] at e1
   simp(disch:=omega) only[t4,t6,ln,d1,eI,gb,e0,e1,Zv,Vp,Fi,ZI,Yw,Yl,Yt,Vf]
   refine⟨_,_,_,rfl,?_⟩
   exact .inr ⟨by simp,rfl,.inl ⟨rfl,rfl,rfl,xE (i:=i) (by rw[hlt];exact hi) (by rw[AZ hi];exact hm)⟩⟩
theorem sv{Zr:Lib}{fs:T CF}{fuel:Nat}(E:Env Zr fs fuel){n:Nat}{s:List UInt8}{H:Heap}(hs:s.length<=80000)(hro:H.ro<=H.nx):
  ∃H',ZU (LK Zr fs fuel 4) fs fuel (n+2) 25 [.str s] H=.ret (.tup [nI .i64 (W5 s),.str (Ny s)]) H'∧Zw H H' []:=by
 rw[Z4 (Z3 E.n25 (.inl (by decide)) _ _) E.f25]
 have hf:=E.big
 by_cases h0:s=[46,119,104,46,46,119,104,46,116,111,99]
 ·have d0:decide (s=[46,119,104,46,46,119,104,46,116,111,99])=true:=Zd h0
  have hc:W5 s=4:=by unfold W5;rw[if_pos (show s=qw from h0)]
  have hg:Ny s=[]:=by unfold Ny;rw[hc];rfl
  rw[hc,hg]
  simp only[d0,Xc,c25,ZI,Yw,ZG,Yt,]
  refine⟨_,rfl,?_⟩
  exact Zw.refl _ _
 have d0:decide (s=[46,119,104,46,46,119,104,46,116,111,99])=false:=Zb h0
 have h0': ¬s=qw:=h0
 have hnl:=FO s
 have hns: ∀x∈Z6 s,x.length<=s.length:=λx hx=>K6 hx
 obtain⟨v,H1,e1,hw,k1⟩:=jP E (k:=4) (n:=n) (s:=s) (by omega) (H:=H) hro
 have hN:=Sl.of_buf hw
 have ln: ∀G,Oy v G=.val (nI .i64 (Z6 s).length) G:=λG=>by rw[hN.len,UW]
 by_cases hE:s=[]
 ·have hz:Z6 s=[]:=by rw[hE];rfl
  have dz:decide ((Z6 s).length=0)=true:=Zd (by rw[hz];rfl)
  have hc:W5 s=0:=by unfold W5;rw[if_neg h0',if_pos hz]
  have hg:Ny s=[]:=by unfold Ny;rw[hc];rfl
  rw[hc,hg]
  simp only[d0,e1,ln,dz,YW,Xc,c25,ZI,Yw,ZG,Yt,]
  refine⟨_,rfl,?_⟩
  exact k1
 have hz:Z6 s≠[]:=by
  unfold Z6;rw[if_neg hE];exact Q0 s
 have hpos:1<=(Z6 s).length:=Uz.2 hz
 have dz:decide ((Z6 s).length=0)=false:=Zb (by omega)
 obtain⟨cl1,cl2⟩:=jF hE
 have qa:H1.ro<=H1.nx:=by rw[k1.ro];exact ZX hro k1.nx
 obtain⟨bb,o,r,eI,hb,gb,_,eE⟩:=hN.at_ (i:=(Z6 s).length - 1) (by rw[UW];omega)
 have e0: ∀G,ld1 (some (.row r)) o G=.val (.str ((Z6 s).getD ((Z6 s).length - 1) [])) G:=λG=>by
  have:=eE 0 G (by decide)
  rw[DG (by omega)] at this;exact this
 have hbl:((Z6 s).getD ((Z6 s).length - 1) []).length<=90000:=ZX (hns _ (by rw[Ze,Zk (by omega)];exact Xp (by omega))) (by omega)
 obtain⟨A,hA⟩: ∃A,(Z6 s).take ((Z6 s).length - 1)=A:=⟨_,rfl⟩
 obtain⟨b,hB⟩: ∃b,(Z6 s).getD ((Z6 s).length - 1) []=b:=⟨_,rfl⟩
 have hAs: ∀x∈A,x.length<=90000:=λx hx=>by
  have:=hns x (by rw[<-hA] at hx;exact VO hx)
  omega
 have hAl:A.length<=90001:=by rw[<-hA,ZW];omega
 obtain⟨v2,sl,hN2⟩: ∃v2,(∀G:Heap,G.t=H1.t->Pp 1 v none (some (nI .i64 ((Z6 s).length - 1:Nat))) G=.val v2 G)∧Sl H1 1 v2 (N5 A):=by
  rcases hw with⟨e,_⟩|⟨hne,bk,rr,ev,hr,_⟩
  ·exfalso;unfold N5 at e;exact hz (List.map_eq_nil_iff.1 e)
  ·rw[UW] at ev
   refine⟨.slice bk 0 ((Z6 s).length - 1) none,λG hG=>?_,?_⟩
   ·rw[ev]
    exact z0 (by rw[hG];exact hr.at_) hr.szr (by rw[hr.size,UW,Xr]) (by omega) (by omega) .i64
   ·have hlen:A.length=(Z6 s).length - 1:=by rw[<-hA,ZW];omega
    refine⟨λl hl=>?_,.inr ⟨bk,0,none,by rw[UW,hlen],hr.low,λ_=>⟨rr,hr.at_,by rw[UW,hlen,hr.size,UW];omega,λi hi=>?_⟩⟩⟩
    ·unfold N5 at hl
     obtain⟨p,_,rfl⟩:=YV.1 hl
     rfl
    ·rw[UW,hlen] at hi
     rw[Zf,hr.cells.get i (by rw[flat_len hr.each,UW];omega),yt,yt,Ze,Ze,ZZ,ZZ,<-hA,XK (by omega)]
 have sl:=sl H1 rfl
 simp(disch:=omega) only[d0,e1,ln,dz,eI,gb,e0,YW,Xc,Vp,c25,ZI,Yw,Yt,]
 rw[hB]
 generalize hL:XD (Fi _) fuel _ _ _=L
 obtain⟨o,Nb,H2,rfl,_,rfl,z⟩:=YG (P:=λT=>CDI s b v (Z6 s) H1 ((Z6 s).length - 1) T H1) (Q:=CDQ s b v (Z6 s) H1)
  (λT hi=>YX (CDI s b v (Z6 s) H1) (CDQ s b v (Z6 s) H1) (λm tm H1 h=>aQ E (by omega) hpos (λx hx=>ZX (hns x hx) (by omega)) hN _ _ _ _ _ m tm H1 h) fuel ((Z6 s).length - 1) T H1 (by omega) hi) hL
  (by exact⟨rfl,rfl,rfl,rfl,0,rfl,by omega,λj hj=>by omega⟩)
 rcases z with⟨rfl,t2,t3,e⟩|⟨rfl,t0,t4,t5,e⟩
 ·simp only[Sk] at t2
  simp only[UN] at t3
  have hc:W5 s=0:=by unfold W5;rw[if_neg h0',if_neg hz,e];rfl
  have hg:Ny s=[]:=by unfold Ny;rw[hc];rfl
  rw[hc,hg]
  simp only[t2,t3,ZI,ZG,Yt,]
  refine⟨_,rfl,?_⟩
  exact k1
 ·simp only[VF] at t0
  simp only[Tb] at t4
  simp only[Ss] at t5
  have hIf: ∀x y:Nat,(if ((Z6 s).take ((Z6 s).length - 1)).all YF then x else y)=x:=λx y=>by rw[e];rfl
  rw[hA] at cl1 cl2
  rw[hB] at hbl cl2
  have j1:=λ{q}=>Zco E (k:=4) (n:=q) (by decide) (H:=H2) hAl hAs hN2
  have eb:=λ{q}=>qW E (k:=4) (n:=q) (by decide) (H:=H2) hbl
  cases hm:YF b with
  |true=>
   rw[hm] at eb
   have em:=λ{q}=>jN E (k:=4) (n:=q) (by decide) (s:=s) (H:=H2) (by omega) qa
   cases hp:T6 s with
   |true=>
    rw[hp] at em
    have hc:W5 s=1:=by unfold W5;rw[if_neg h0',if_neg hz,hIf,hB,hm,hp];rfl
    have hg:Ny s=s:=by unfold Ny;rw[if_pos hc]
    rw[hc,hg]
    simp(disch:=omega) only[t0,t4,t5,ln,sl,j1,eb,em,YW,Vp,decide_false,ZI,Yw,ZG,Yl,reduceCtorEq,Yt,Vf,PE]
    refine⟨_,rfl,?_⟩
    exact k1
   |false=>
    rw[hp] at em
    have hc:W5 s=0:=by unfold W5;rw[if_neg h0',if_neg hz,hIf,hB,hm,hp];rfl
    have hg:Ny s=[]:=by unfold Ny;rw[hc];rfl
    rw[hc,hg]
    simp(disch:=omega) only[t0,t4,t5,ln,sl,j1,eb,em,YW,Vp,decide_false,ZI,Yw,ZG,Yl,reduceCtorEq,Yt,Vf,PE]
    refine⟨_,rfl,?_⟩
    exact k1
  |false=>
   rw[hm] at eb
   by_cases ho:b=[46,119,104,46,46,119,104,46,46,111,112,113]
   ·have do_:decide (b=[46,119,104,46,46,119,104,46,46,111,112,113])=true:=Zd ho
    have ho':b=lD:=ho
    have em:=λ{q}=>jN E (k:=4) (n:=q) (by decide) (s:=W6 A) (H:=H2) (by omega) qa
    cases hp:T6 (W6 A) with
    |true=>
     rw[hp] at em
     have hc:W5 s=3:=by unfold W5;rw[if_neg h0',if_neg hz,hIf,hB,hm,if_neg (by simp),if_pos ho',hA,hp];rfl
     have hg:Ny s=W6 A:=by unfold Ny;rw[if_neg (by rw[hc];decide),if_pos hc,hA]
     rw[hc,hg]
     simp(disch:=omega) only[t4,t5,ln,sl,j1,eb,do_,em,YW,Xc,Vp,decide_false,ZI,Yw,ZG,Yl,reduceCtorEq,Yt,Vf,PE]
     refine⟨_,rfl,?_⟩
     exact k1
    |false=>
     rw[hp] at em
     have hc:W5 s=0:=by unfold W5;rw[if_neg h0',if_neg hz,hIf,hB,hm,if_neg (by simp),if_pos ho',hA,hp];rfl
     have hg:Ny s=[]:=by unfold Ny;rw[hc];rfl
     rw[hc,hg]
     simp(disch:=omega) only[t4,t5,ln,sl,j1,eb,do_,em,YW,Xc,Vp,decide_false,ZI,Yw,ZG,Yl,reduceCtorEq,Yt,Vf,PE]
     refine⟨_,rfl,?_⟩
     exact k1
   ·have do_:decide (b=[46,119,104,46,46,119,104,46,46,111,112,113])=false:=Zb ho
    have ho': ¬b=lD:=ho
    have eg:=λ{q}=>jj E (k:=4) (n:=q) (by decide) (H:=H2) (p:=[46,119,104,46]) hbl
    cases hw2:O6 [46,119,104,46] b with
    |false=>
     rw[hw2] at eg
     have gX:O6 yy b=false:=hw2
     have hc:W5 s=0:=by unfold W5;rw[if_neg h0',if_neg hz,hIf,hB,hm,if_neg (by simp),if_neg ho',gX,Y0];rfl
     have hg:Ny s=[]:=by unfold Ny;rw[hc];rfl
     rw[hc,hg]
     simp(disch:=omega) only[t4,t5,ln,sl,j1,eb,do_,eg,YW,Xc,Vp,decide_true,ZI,Yw,ZG,Yl,Yt,Vf,PE]
     refine⟨_,rfl,?_⟩
     exact k1
    |true=>
     rw[hw2] at eg
     have gX:O6 yy b=true:=hw2
     have h4:=eS hw2
     have e4:=λ{q}=>qW E (k:=4) (n:=q) (by decide) (s:=b.drop 4) (H:=H2) (by rw[Ya];omega)
     have s4:=λG=>Rg h4 .i64 G
     cases hm4:YF (b.drop 4) with
     |false=>
      rw[hm4] at e4
      have hc:W5 s=0:=by unfold W5;rw[if_neg h0',if_neg hz,hIf,hB,hm,if_neg (by simp),if_neg ho',gX,hm4];rfl
      have hg:Ny s=[]:=by unfold Ny;rw[hc];rfl
      rw[hc,hg]
      simp(disch:=omega) only[t4,t5,ln,sl,j1,eb,do_,eg,e4,s4,YW,Xc,Vp,decide_true,ZI,Yw,ZG,Yl,Yt,Vf,PE]
      refine⟨_,rfl,?_⟩
      exact k1
     |true=>
      rw[hm4] at e4
      have bs: ∀(a q:List UInt8) (G:Heap),S9 9 1 2 [.str [],.str []] [(0,1,.str a),(1,1,.str q)] G=.val (.slice G.nx 0 2 none) (G.new (rG 9 1 [.str a,.str q] 0 false true true)):=λ_ _ _=>rfl
      obtain⟨H3,hH3⟩: ∃G,H2.new (rG 9 1 [.str (W6 A),.str (b.drop 4)] 0 false true true)=G:=⟨_,rfl⟩
      have k3:Zw H2 H3 []:=by rw[<-hH3];exact Zw.new _ _ _
      have g3:H3.t.get H2.nx=some (rG 9 1 [.str (W6 A),.str (b.drop 4)] 0 false true true):=by rw[<-hH3];exact Yi rfl _
      have n3:H3.nx=H2.nx+1:=by rw[<-hH3];rfl
      have ro3:H3.ro<=H3.nx:=by rw[k3.ro];omega
      have hN3:Sl H3 1 (.slice H2.nx 0 2 none) (N5 [W6 A,b.drop 4]):=Sl.of_rG (ls:=N5 [W6 A,b.drop 4]) g3 (by omega) (λl hl=>by
       unfold N5 at hl
       obtain⟨p,_,rfl⟩:=YV.1 hl
       rfl)
      have j2:=λ{q}=>Zco E (k:=4) (n:=q) (by decide) (H:=H3) (l:=[W6 A,b.drop 4]) (by show 2<=_;decide) (λx hx=>by
       rcases ZR.1 hx with rfl|hx
       ·omega
       ·rw[ZD.1 hx,Ya];omega) hN3
      have em:=λ{q}=>jN E (k:=4) (n:=q) (by decide) (s:=W6 [W6 A,b.drop 4]) (H:=H3) (by omega) ro3
      cases hp:T6 (W6 [W6 A,b.drop 4]) with
      |true=>
       rw[hp] at em
       have hc:W5 s=2:=by unfold W5;rw[if_neg h0',if_neg hz,hIf,hB,hm,if_neg (by simp),if_neg ho',gX,hm4,hA,hp];rfl
       have hg:Ny s=W6 [W6 A,b.drop 4]:=by unfold Ny;rw[if_neg (by rw[hc];decide),if_neg (by rw[hc];decide),if_pos hc,hA,hB]
       rw[hc,hg]
       simp(disch:=omega) only[t4,t5,ln,sl,j1,eb,do_,eg,e4,s4,bs,hH3,j2,em,Z9,Zy,ZH,Wo,Ui,V8,List.flatten_nil,Wq,ZQ,YW,Xc,Vp,decide_false,ZI,Yw,ZG,Yl,reduceCtorEq,Yt,Vf,PE]
       refine⟨_,rfl,?_⟩
       exact k1.trans' k3
      |false=>
       rw[hp] at em
       have hc:W5 s=0:=by unfold W5;rw[if_neg h0',if_neg hz,hIf,hB,hm,if_neg (by simp),if_neg ho',gX,hm4,hA,hp];rfl
       have hg:Ny s=[]:=by unfold Ny;rw[hc];rfl
       rw[hc,hg]
       simp(disch:=omega) only[t4,t5,ln,sl,j1,eb,do_,eg,e4,s4,bs,hH3,j2,em,Z9,Zy,ZH,Wo,Ui,V8,List.flatten_nil,Wq,ZQ,YW,Xc,Vp,decide_false,ZI,Yw,ZG,Yl,reduceCtorEq,Yt,Vf,PE]
       refine⟨_,rfl,?_⟩
       exact k1.trans' k3
theorem jL{Zr:Lib}{fs:T CF}{fuel:Nat}(E:Env Zr fs fuel){k n:Nat}(hk:5<=k){s:List UInt8}{H:Heap}(hs:s.length<=80000)(hro:H.ro<=H.nx):
  ZU (LK Zr fs fuel k) fs fuel (n+1) 25 [.str s] H=.ret (.tup [nI .i64 (W5 s),.str (Ny s)]) H:=by
 obtain⟨H',e,g⟩:=sv E (n:=898) (H:=H) hs hro
 exact YI (r:=4) rfl rfl e g (rfl) hk
theorem oU(s:List UInt8):Pe [0,61,10] s=(Pe [UInt8.ofNat 0] s||Pe [UInt8.ofNat 61] s||Pe [UInt8.ofNat 10] s):=by
 unfold Pe
 induction s with
 |nil=>rfl
 |cons a s ih=>
  simp only[List.any_cons]
  rw[ih]
  have h:decide (a∈([0,61,10]:List UInt8))=(decide (a∈([UInt8.ofNat 0]:List UInt8))||decide (a∈([UInt8.ofNat 61]:List UInt8))||decide (a∈([UInt8.ofNat 10]:List UInt8))):=by
   rw[Vi]
   simp only[V7,decide_eq_true_eq,ZR,U7,or_false]
   constructor
   ·rintro (h|h|h)
    ·exact .inl (.inl h)
    ·exact .inl (.inr h)
    ·exact .inr h
   ·rintro ((h|h)|h)
    ·exact .inl h
    ·exact .inr (.inl h)
    ·exact .inr (.inr h)
  rw[h]
  generalize decide (a∈([UInt8.ofNat 0]:List UInt8))=x
  generalize decide (a∈([UInt8.ofNat 61]:List UInt8))=y
  generalize decide (a∈([UInt8.ofNat 10]:List UInt8))=z
  cases x<;>cases y<;>cases z<;>simp
theorem pc(s:List UInt8):decide (TJ 0 s=0)=!Pe [UInt8.ofNat 0] s:=by
 cases h:Pe [UInt8.ofNat 0] s with
 |true=>
  refine Zb λe=>?_
  unfold Pe at h
  rw[Q9] at h
  obtain⟨x,hx,hd⟩:=h
  have hd:=Zm hd
  rw[ZD.1 hd] at hx
  exact RT.1 e _ hx rfl
 |false=>
  refine Zd (RT.2 λc hc e=>?_)
  rw[Ty] at h
  refine h ?_
  unfold Pe
  rw[Q9]
  exact⟨c,hc,Zd (ZD.2 ((Ju (by decide)).1 e))⟩
abbrev ndO(m:Mem)(av dv:AV):Obj:=rG 26 1 [.int .i64 m.kind,nI .u32 m.mode,nI .u32 m.uid,nI .u32 m.gid,.int .i64 m.time,av,dv,.str m.link] 0 false true true
structure DAI(H0:Heap)(q:Nat)(l:List NP)(m:Nat)(tm:TM)(H:Heap):Prop where
 heap:H=H0
 t5:YT tm=.ptr q 0
 i: ∃i,Wm tm=nI .i64 i∧i+m=l.length∧ ∀j,j<i->b7 l j=true
def DAQ(H0:Heap)(q:Nat)(l:List NP)(o:Out)(tm:TM)(H:Heap):Prop:=H=H0∧((o=.ret∧Vt tm=.bool false∧Mr l=false)∨(o=.exit 0∧YT tm=.ptr q 0∧Mr l=decide (l.length<=16)))
theorem aU{Zr:Lib}{fs:T CF}{fuel:Nat}(E:Env Zr fs fuel){n:Nat}{av dv:AV}{me:Mem}{q:Nat}{l:List NP}(hl:l.length<=90000)(hs: ∀i,i<l.length->(l.getD i ([],[])).1.length<=90000){H0:Heap}(gq:H0.t.get q=some (ndO me av dv))(hN:Sz H0 2 av (N0 l))(y f dd qq)(X0:X)(m:Nat)(tm:TM)(H:Heap)(hI:DAI H0 q l m tm H):
  ∃o tm' H',Nh ⟨ZU (LK Zr fs fuel 5) fs fuel (n+1),y,f,dd,qq⟩ tm H X0=.ok o tm' H' X0∧((o=.normal∧ ∃k,k<m∧DAI H0 q l k tm' H')∨(o≠.normal∧DAQ H0 q l o tm' H')):=by
 obtain⟨rfl,t5,i,t6,him,hn⟩:=hI
 have Dj:=t5
 simp only[Ss] at t5
 simp only[NA] at t6
 have ln:=hN.len
 rw[QZ] at ln
 have l5: ∀G,ld1 (some (ndO me av dv)) 5 G=.val av G:=λG=>by rw[Yf (show 5<8 by decide)];rfl
 cases m with
 |zero=>
  have d1:decide (i<l.length)=false:=Zb (by omega)
  simp only[t5,t6,gq,l5,ln,d1,Zv,Zf,Zf,Nh,ZI,Yw,Yt,Vf]
  refine⟨_,_,_,rfl,?_⟩
  exact .inr ⟨by simp,rfl,.inr ⟨rfl,Dj,fL λj hj=>hn j (by omega)⟩⟩
 |succ m=>
  have d1:decide (i<l.length)=true:=Zd (by omega)
  have hi:i<l.length:=by omega
  obtain⟨b,o,r,eI,hb,gb,_,eE⟩:=hN.at_ (i:=i) (by rw[QZ];omega)
  have ra:=Gz hi
  have e0:=λG=>eE 0 G (by decide)
  rw[ra,Zj] at e0
  simp only[Zn] at e0
  have zH:b7 l i=(!decide ((l.getD i ([],[])).1=[])&&decide ((l.getD i ([],[])).1.length<=242)&&!Pe [0,61,10] (l.getD i ([],[])).1&&(decide (i=0)||!Wx (l.getD (i - 1) ([],[])).1 (l.getD i ([],[])).1)):=rfl
  have hpl:=hs i hi
  generalize hp:(l.getD i ([],[])).1=p at*
  rw[oU] at zH
  have f1:=λ{j}=>Zaq E (k:=5) (n:=j) (by decide) (H:=H) (s:=p) (x:=0) (by decide) hpl
  have f2:=λ{j}=>Zaq E (k:=5) (n:=j) (by decide) (H:=H) (s:=p) (x:=61) (by decide) hpl
  have f3:=λ{j}=>Zaq E (k:=5) (n:=j) (by decide) (H:=H) (s:=p) (x:=10) (by decide) hpl
  by_cases h1:p=[]
  ·have d2:decide (p=[])=true:=Zd h1
   simp only[t5,t6,gq,l5,ln,d1,eI,gb,e0,d2,Zv,Xc,Zj,Zf,Zf,Zj,Nh,ZI,Yw,Yt,Vf,PE]
   refine⟨_,_,_,rfl,?_⟩
   exact .inr ⟨by simp,rfl,.inl ⟨rfl,rfl,J9 hi (by rw[zH];rw[d2];rfl)⟩⟩
  have d2:decide (p=[])=false:=Zb h1
  by_cases h2:242<p.length
  ·have d3:decide (242<p.length)=true:=Zd h2
   simp only[t5,t6,gq,l5,ln,d1,eI,gb,e0,d2,d3,Zv,Yy,Xc,Z0,Zj,Zf,Zf,Zj,Nh,ZI,Yw,Yt,Vf,PE]
   refine⟨_,_,_,rfl,?_⟩
   exact .inr ⟨by simp,rfl,.inl ⟨rfl,rfl,J9 hi (by rw[zH];rw[Zb (show ¬p.length<=242 by omega)];simp)⟩⟩
  have d3:decide (242<p.length)=false:=Zb h2
  have d3':decide (p.length<=242)=true:=Zd (by omega)
  cases c1:Pe [UInt8.ofNat 0] p with
  |true=>
   rw[c1] at f1
   simp only[t5,t6,gq,l5,ln,d1,eI,gb,e0,d2,d3,f1,Zv,Yy,Xc,Z0,Zj,Zf,Zf,Zj,Nh,ZI,Yw,Yt,Vf,PE]
   refine⟨_,_,_,rfl,?_⟩
   exact .inr ⟨by simp,rfl,.inl ⟨rfl,rfl,J9 hi (by rw[zH];rw[c1];simp)⟩⟩
  |false=>
   rw[c1] at f1
   cases c2:Pe [UInt8.ofNat 61] p with
   |true=>
    rw[c2] at f2
    simp only[t5,t6,gq,l5,ln,d1,eI,gb,e0,d2,d3,f1,f2,Zv,Yy,Xc,Z0,Zj,Zf,Zf,Zj,Nh,ZI,Yw,Yt,Vf,PE]
    refine⟨_,_,_,rfl,?_⟩
    exact .inr ⟨by simp,rfl,.inl ⟨rfl,rfl,J9 hi (by rw[zH];rw[c2];simp)⟩⟩
   |false=>
    rw[c2] at f2
    cases c3:Pe [UInt8.ofNat 10] p with
    |true=>
     rw[c3] at f3
     simp only[t5,t6,gq,l5,ln,d1,eI,gb,e0,d2,d3,f1,f2,f3,Zv,Yy,Xc,Z0,Zj,Zf,Zf,Zj,Nh,ZI,Yw,Yt,Vf,PE]
     refine⟨_,_,_,rfl,?_⟩
     exact .inr ⟨by simp,rfl,.inl ⟨rfl,rfl,J9 hi (by rw[zH];rw[c3];simp)⟩⟩
    |false=>
     rw[c3] at f3
     by_cases h0:i=0
     ·have d4:decide (0<i)=false:=Zb (by omega)
      simp(disch:=omega) only[t5,t6,gq,l5,ln,d1,eI,gb,e0,d2,d3,f1,f2,f3,d4,Zv,Yy,Xc,YU,Z0,Zj,Zf,Zf,Zj,Nh,ZI,Yw,Yt,Vf,PE]
      refine⟨_,_,_,rfl,.inl ⟨rfl,m,by omega,rfl,Dj,i+1,rfl,by omega,λq hq=>?_⟩⟩
      obtain rfl:q=i:=by omega
      rw[zH,d2,d3',c1,c2,c3,Zd h0];rfl
     ·have d4:decide (0<i)=true:=Zd (by omega)
      obtain⟨b2,o2,r2,qY,hb2,nM,_,eE2⟩:=hN.at_ (i:=i - 1) (by rw[QZ];omega)
      have eF:=λG=>eE2 0 G (by decide)
      rw[Gz (by omega),Zj] at eF
      simp only[Zn] at eF
      cases hg:Wx (l.getD (i - 1) ([],[])).1 p with
      |true=>
       simp(disch:=omega) only[t5,t6,gq,l5,ln,d1,eI,gb,e0,d2,d3,f1,f2,f3,d4,qY,nM,eF,hg,Zv,Yy,Xc,Vp,Z0,Zj,Zf,Zf,Zj,geS,Nh,ZI,Yw,Yt,Vf,PE]
       refine⟨_,_,_,rfl,?_⟩
       exact .inr ⟨by simp,rfl,.inl ⟨rfl,rfl,J9 hi (by rw[zH];rw[hg,Zb h0];simp)⟩⟩
      |false=>
       simp(disch:=omega) only[t5,t6,gq,l5,ln,d1,eI,gb,e0,d2,d3,f1,f2,f3,d4,qY,nM,eF,hg,Zv,Yy,Xc,Vp,YU,Z0,Zj,Zf,Zf,Zj,geS,Nh,ZI,Yw,Yt,Vf,PE]
       refine⟨_,_,_,rfl,.inl ⟨rfl,m,by omega,rfl,Dj,i+1,rfl,by omega,λq hq=>?_⟩⟩
       by_cases hqi:q=i
       ·rw[hqi,zH,d2,d3',c1,c2,c3,hg];simp
       ·exact hn q (by omega)
theorem wN{Zr:Lib}{fs:T CF}{fuel:Nat}(E:Env Zr fs fuel){n:Nat}{cs:List AV}{m:Mem}{H:Heap}(hs:wj m)(hk:m.link.length<=90000)(hro:H.ro<=H.nx)(hm:yD H cs m):
  ∃H',ZU (LK Zr fs fuel 5) fs fuel (n+2) 26 [.agg cs] H=.ret (.bool (Wu m)) H'∧Zw H H' []:=by
 rw[Z4 (Z3 E.n26 (.inl (by decide)) _ _) E.f26]
 have hf:=E.big
 obtain⟨av,dv,rfl,hA,hD⟩:=hm
 obtain⟨H1,hH1⟩: ∃G,H.new (rG 28 1 [.str m.path,.int .i64 m.kind,nI .u32 m.mode,nI .u32 m.uid,nI .u32 m.gid,.int .i64 m.time,av,dv,.str m.link] 0 false true true)=G:=⟨_,rfl⟩
 obtain⟨H2,hH2⟩: ∃G,H1.new (rG 26 1 [.int .i64 m.kind,nI .u32 m.mode,nI .u32 m.uid,nI .u32 m.gid,.int .i64 m.time,av,dv,.str m.link] 0 false true true)=G:=⟨_,rfl⟩
 have k1:Zw H H1 []:=by rw[<-hH1];exact Zw.new _ _ _
 have k2:Zw H H2 []:=by rw[<-hH2];exact k1.then_new _
 have g1:H1.t.get H.nx=some (rG 28 1 [.str m.path,.int .i64 m.kind,nI .u32 m.mode,nI .u32 m.uid,nI .u32 m.gid,.int .i64 m.time,av,dv,.str m.link] 0 false true true):=by rw[<-hH1];exact Yi rfl _
 have gD:H2.t.get H1.nx=some (ndO m av dv):=by rw[<-hH2];exact Yi rfl _
 have g2:H2.t.get H1.nx=some (rG 26 1 [.int .i64 m.kind,nI .u32 m.mode,nI .u32 m.uid,nI .u32 m.gid,.int .i64 m.time,av,dv,.str m.link] 0 false true true):=gD
 have qa:H1.ro<=H1.nx:=by rw[k1.ro];exact ZX hro k1.nx
 have sf:=U4 (n:=8) (b:=H1.nx) (l:=[nI .i64 0,nI .u32 0,nI .u32 0,nI .u32 0,nI .i64 0,.nils,.nils,.str []]) (vs:=[.int .i64 m.kind,nI .u32 m.mode,nI .u32 m.uid,nI .u32 m.gid,.int .i64 m.time,av,dv,.str m.link]) (H:=H1.new (rG 26 1 [nI .i64 0,nI .u32 0,nI .u32 0,nI .u32 0,nI .i64 0,.nils,.nils,.str []] 0 false true true)) rfl rfl (by decide) (by show H1.ro<=_;exact qa) 26 1 false true
 rw[Us rfl,hH2] at sf
 have ec:=λ{j}=>jL E (k:=5) (n:=j) (by decide) (s:=m.path) (H:=H1) hs.path qa
 rw[AK] at ec
 have ln:=hD.len
 rw[TI] at ln
 have lA:=hA.len
 rw[QZ] at lA
 have hA2:=hA.keep0 k2
 by_cases h1:(Y8 m.path).1=0
 ·have d1:decide ((Y8 m.path).1=0)=true:=Zd h1
  rw[show Wu m=false by unfold Wu;rw[d1];rfl]
  simp(disch:=first|assumption|omega|(simp -implicitDefEqProofs only[Y3,Y4]<;>first|assumption|omega)|decide) only[ec,g1,sf,hH1,Yf,Xo,XU,d1,YW,Zj,Zf,Zf,Zj,Y2,Zz,ZA,ZJ,Zn,aN,ZI,Yw,ZG,Yt,Vf,]
  refine⟨_,rfl,?_⟩
  exact k2
 have d1:decide ((Y8 m.path).1=0)=false:=Zb h1
 by_cases h2:m.kind<1
 ·have d2:decide (m.kind<((1:Nat):Int))=true:=Zd h2
  have e2:decide (bQ m.kind=0)=true:=Zd (by unfold bQ;rw[if_neg (by omega),if_neg (by omega),if_neg (by omega),if_neg (by omega)])
  rw[show Wu m=false by unfold Wu;rw[e2];simp]
  simp(disch:=first|assumption|omega|(simp -implicitDefEqProofs only[Y3,Y4]<;>first|assumption|omega)|decide) only[ec,g1,sf,hH1,g2,Yf,Xo,XU,d1,d2,YW,Zj,Zf,Zf,Zj,Y2,Zz,ZA,ZJ,Zn,Up,aN,ZI,Yw,ZG,Yt,Vf,]
  refine⟨_,rfl,?_⟩
  exact k2
 have d2:decide (m.kind<((1:Nat):Int))=false:=Zb h2
 by_cases h2b:4<m.kind
 ·have d2b:decide (((4:Nat):Int)<m.kind)=true:=Zd h2b
  have e2:decide (bQ m.kind=0)=true:=Zd (by unfold bQ;rw[if_neg (by omega),if_neg (by omega),if_neg (by omega),if_neg (by omega)])
  rw[show Wu m=false by unfold Wu;rw[e2];simp]
  simp(disch:=first|assumption|omega|(simp -implicitDefEqProofs only[Y3,Y4]<;>first|assumption|omega)|decide) only[ec,g1,sf,hH1,g2,Yf,Xo,XU,d1,d2,d2b,YW,Zj,Zf,Zf,Zj,Y2,Zz,ZA,ZJ,Zn,Up,Ry,aN,ZI,Yw,ZG,Yt,Vf,]
  refine⟨_,rfl,?_⟩
  exact k2
 have d2b:decide (((4:Nat):Int)<m.kind)=false:=Zb h2b
 have e2:decide (bQ m.kind=0)=false:=Zb (by
  have h:m.kind=1∨m.kind=2∨m.kind=3∨m.kind=4:=by omega
  rcases h with h|h|h|h<;>rw[h]<;>decide)
 by_cases h3:4095<m.mode
 ·have d3:decide (4095<m.mode)=true:=Zd h3
  have h3':decide (m.mode<=4095)=false:=Zb (by omega)
  rw[show Wu m=false by unfold Wu;rw[h3'];simp]
  simp(disch:=first|assumption|omega|(simp -implicitDefEqProofs only[Y3,Y4]<;>first|assumption|omega)|decide) only[ec,g1,sf,hH1,g2,Yf,Xo,XU,d1,d2,d2b,d3,Yy,YW,Zj,Zf,Zf,Zj,Y2,Zz,ZA,ZJ,Zn,Zq,Up,Ry,aN,ZI,Yw,ZG,Yt,Vf,]
  refine⟨_,rfl,?_⟩
  exact k2
 have d3:decide (4095<m.mode)=false:=Zb h3
 have h3':decide (m.mode<=4095)=true:=Zd (by omega)
 by_cases h4:16<m.attrs.length
 ·have d4:decide (16<m.attrs.length)=true:=Zd h4
  have h4':Mr m.attrs=false:=by unfold Mr;rw[Zb (show ¬m.attrs.length<=16 by omega),VH]
  rw[show Wu m=false by unfold Wu;rw[h4'];simp]
  simp(disch:=first|assumption|omega|(simp -implicitDefEqProofs only[Y3,Y4]<;>first|assumption|omega)|decide) only[ec,g1,sf,hH1,g2,lA,Yf,Xo,XU,d1,d2,d2b,d3,d4,Yy,YW,Zj,Zf,Zf,Zj,Y2,Zz,ZA,ZJ,Zn,Zq,Up,Ry,aN,ZI,Yw,ZG,Yt,Vf,]
  refine⟨_,rfl,?_⟩
  exact k2
 have d4:decide (16<m.attrs.length)=false:=Zb h4
 simp(disch:=first|assumption|omega|(simp -implicitDefEqProofs only[Y3,Y4]<;>first|assumption|omega)|decide) only[ec,g1,sf,hH1,g2,lA,Yf,Xo,XU,d1,d2,d2b,d3,d4,Yy,YW,Zj,Zf,Zf,Zj,Y2,Zz,ZA,ZJ,Zn,Zq,Up,Ry,aN,ZI,Yw,ZG,Yt,Vf,]
 generalize hL:XD (Nh _) fuel _ _ _=L
 obtain⟨o,Nb,H3,rfl,_,rfl,z⟩:=YG (P:=λT=>DAI H2 H1.nx m.attrs m.attrs.length T H2) (Q:=DAQ H2 H1.nx m.attrs)
  (λT hi=>YX (DAI H2 H1.nx m.attrs) (DAQ H2 H1.nx m.attrs) (λm tm H2 h=>aU E hs.attrs hs.keys gD hA2 _ _ _ _ _ m tm H2 h) fuel m.attrs.length T H2 (by have:=hs.attrs;omega) hi) hL
  (by exact⟨rfl,rfl,0,rfl,by omega,λj hj=>by omega⟩)
 rcases z with⟨rfl,t2,e⟩|⟨rfl,t5,e⟩
 ·simp only[Sk] at t2
  rw[show Wu m=false by unfold Wu;rw[e];simp]
  simp only[t2,ZI,ZG,Yt,]
  refine⟨_,rfl,?_⟩
  exact k2
 ·simp only[Ss] at t5
  rw[Zd (show m.attrs.length<=16 by omega)] at e
  have fz:=λ{j}=>Zaq E (k:=5) (n:=j) (by decide) (H:=H3) (s:=m.link) (x:=0) (by decide) hk
  have hml:Wu m=(R3 m.link (decide (m.kind=3))&&decide (m.data.length<=16777216)&&(decide (m.kind=2)||decide (m.data.length=0))):=by
   unfold Wu;rw[d1,e2,h3',e];rfl
  by_cases h5:m.kind=3
  ·have d5:decide (m.kind=((3:Nat):Int))=true:=Zd h5
   have d5':decide (m.kind=3)=true:=d5
   by_cases k1_:m.link=[]
   ·have dk:decide (m.link=[])=true:=Zd k1_
    rw[hml,show R3 m.link (decide (m.kind=3))=false by rw[d5'];unfold R3;rw[dk];rfl,Y0,Y0]
    simp(disch:=first|assumption|omega|(simp -implicitDefEqProofs only[Y3,Y4]<;>first|assumption|omega)|decide) only[t5,g2,Yf,d5,dk,Wi,Xc,Zj,Zf,Zf,Zj,Zn,Zq,Pg,ZI,Yw,ZG,Yt,PE,DN]
    refine⟨_,rfl,?_⟩
    exact k2
   have dk:decide (m.link=[])=false:=Zb k1_
   by_cases k3_:4096<m.link.length
   ·have dl:decide (4096<m.link.length)=true:=Zd k3_
    rw[hml,show R3 m.link (decide (m.kind=3))=false by rw[d5'];unfold R3;rw[Zb (show ¬m.link.length<=4096 by omega)];simp,Y0,Y0]
    simp(disch:=first|assumption|omega|(simp -implicitDefEqProofs only[Y3,Y4]<;>first|assumption|omega)|decide) only[t5,g2,Yf,d5,dk,dl,Wi,Yy,Xc,Z0,Zj,Zf,Zf,Zj,Zn,Zq,Pg,ZI,Yw,ZG,Yt,PE,DN]
    refine⟨_,rfl,?_⟩
    exact k2
   have dl:decide (4096<m.link.length)=false:=Zb k3_
   have dl':decide (m.link.length<=4096)=true:=Zd (by omega)
   cases cz:Pe [UInt8.ofNat 0] m.link with
   |true=>
    rw[cz] at fz
    rw[hml,show R3 m.link (decide (m.kind=3))=false by rw[d5'];unfold R3;rw[pc,cz];simp,Y0,Y0]
    simp(disch:=first|assumption|omega|(simp -implicitDefEqProofs only[Y3,Y4]<;>first|assumption|omega)|decide) only[t5,g2,fz,Yf,d5,dk,dl,Wi,Yy,Xc,Z0,Zj,Zf,Zf,Zj,Zn,Zq,Pg,ZI,Yw,ZG,Yt,PE,DN]
    refine⟨_,rfl,?_⟩
    exact k2
   |false=>
    rw[cz] at fz
    rw[hml,show R3 m.link (decide (m.kind=3))=true by rw[d5'];unfold R3;rw[pc,cz,dk,dl'];rfl,Xf]
    by_cases h6:m.data.length<=16777216
    ·have d6:decide (m.data.length<=16777216)=true:=Zd h6
     rw[d6,Xf]
     by_cases h7:m.kind=2
     ·have d7:decide (m.kind=((2:Nat):Int))=true:=Zd h7
      have d7':decide (m.kind=2)=true:=d7
      rw[d7',PO]
      simp(disch:=omega) only[t5,g2,ln,fz,Yf,d5,dk,dl,d6,d7,Xh,Yy,Xc,Z0,Zj,Zf,Zf,Zj,Zn,Zq,Pg,SP,YJ,ZI,Yw,ZG,Yt,PE,DN]
      refine⟨_,rfl,?_⟩
      exact k2
     ·have d7:decide (m.kind=((2:Nat):Int))=false:=Zb h7
      have d7':decide (m.kind=2)=false:=d7
      rw[d7',Bool.false_or]
      simp(disch:=first|assumption|omega|(simp -implicitDefEqProofs only[Y3,Y4]<;>first|assumption|omega)|decide) only[t5,g2,ln,fz,Yf,d5,dk,dl,d6,d7,Xh,Yy,YW,Xc,Z0,Zj,Zf,Zf,Zj,Zn,Zq,Pg,SP,YJ,ZI,Yw,ZG,Yt,PE,DN]
      refine⟨_,rfl,?_⟩
      exact k2
    ·have d6:decide (m.data.length<=16777216)=false:=Zb h6
     rw[d6,Y0]
     simp(disch:=first|assumption|omega|(simp -implicitDefEqProofs only[Y3,Y4]<;>first|assumption|omega)|decide) only[t5,g2,ln,fz,Yf,d5,dk,dl,d6,Wi,Xh,Yy,Xc,Z0,Zj,Zf,Zf,Zj,Zn,Zq,Pg,SP,YJ,ZI,Yw,ZG,Yt,PE,DN]
     refine⟨_,rfl,?_⟩
     exact k2
  ·have d5:decide (m.kind=((3:Nat):Int))=false:=Zb h5
   have d5':decide (m.kind=3)=false:=d5
   by_cases k1_:m.link=[]
   ·have dk:decide (m.link=[])=true:=Zd k1_
    rw[hml,show R3 m.link (decide (m.kind=3))=true by rw[d5'];exact dk,Xf]
    by_cases h6:m.data.length<=16777216
    ·have d6:decide (m.data.length<=16777216)=true:=Zd h6
     rw[d6,Xf]
     by_cases h7:m.kind=2
     ·have d7:decide (m.kind=((2:Nat):Int))=true:=Zd h7
      have d7':decide (m.kind=2)=true:=d7
      rw[d7',PO]
      simp(disch:=first|assumption|omega|(simp -implicitDefEqProofs only[Y3,Y4]<;>first|assumption|omega)|decide) only[t5,g2,ln,Yf,d5,dk,d6,d7,Wi,Xh,T2,Zj,Zf,Zf,Zj,Zn,Zq,Pg,SP,YJ,Y7,ZI,Yw,ZG,Yt,PE,DN]
      refine⟨_,rfl,?_⟩
      exact k2
     ·have d7:decide (m.kind=((2:Nat):Int))=false:=Zb h7
      have d7':decide (m.kind=2)=false:=d7
      rw[d7',Bool.false_or]
      simp(disch:=first|assumption|omega|(simp -implicitDefEqProofs only[Y3,Y4]<;>first|assumption|omega)|decide) only[t5,g2,ln,Yf,d5,dk,d6,d7,Wi,Xh,YW,T2,Zj,Zf,Zf,Zj,Zn,Zq,Pg,SP,YJ,Y7,ZI,Yw,ZG,Yt,PE,DN]
      refine⟨_,rfl,?_⟩
      exact k2
    ·have d6:decide (m.data.length<=16777216)=false:=Zb h6
     rw[d6,Y0]
     simp(disch:=first|assumption|omega|(simp -implicitDefEqProofs only[Y3,Y4]<;>first|assumption|omega)|decide) only[t5,g2,ln,Yf,d5,dk,d6,Wi,Xh,T2,Zj,Zf,Zf,Zj,Zn,Zq,Pg,SP,YJ,Y7,ZI,Yw,ZG,Yt,PE,DN]
     refine⟨_,rfl,?_⟩
     exact k2
   have dk:decide (m.link=[])=false:=Zb k1_
   rw[hml,show R3 m.link (decide (m.kind=3))=false by rw[d5'];exact dk,Y0,Y0]
   simp(disch:=first|assumption|omega|(simp -implicitDefEqProofs only[Y3,Y4]<;>first|assumption|omega)|decide) only[t5,g2,Yf,d5,dk,Wi,T2,Zj,Zf,Zf,Zj,Zn,Zq,Pg,SP,Y7,ZI,Yw,ZG,Yt,PE,DN]
   refine⟨_,rfl,?_⟩
   exact k2
theorem aY{Zr:Lib}{fs:T CF}{fuel:Nat}(E:Env Zr fs fuel){k n:Nat}(hk6:6<=k){cs:List AV}{m:Mem}{H:Heap}(hs:wj m)(hk:m.link.length<=90000)(hro:H.ro<=H.nx)(hm:yD H cs m):
  ZU (LK Zr fs fuel k) fs fuel (n+1) 26 [.agg cs] H=.ret (.bool (Wu m)) H:=by
 obtain⟨H',e,g⟩:=wN E (n:=898) (H:=H) hs hk hro hm
 exact YI (r:=5) rfl rfl e g (rfl) hk6
end
end Go.AI
