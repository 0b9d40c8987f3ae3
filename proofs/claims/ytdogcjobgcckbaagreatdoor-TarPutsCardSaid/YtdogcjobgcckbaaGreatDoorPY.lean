/- What may be a Member, by the document's code: walked: proved without conditions but those that each names. -/
import Derived.Test.YtdogcjobgcckbaaGreatDoorPA
import Derived.Test.YtdogcjobgcckbaaGreatDoorPC
set_option maxRecDepth 1000000
set_option maxHeartbeats 0
set_option linter.unusedVariables false
set_option linter.unusedSimpArgs false
namespace Go.AI
open Go
noncomputable section
section
variable {Zn:Lib} {fs:T CF} {fuel k n i h b:Nat} {H H0:Heap} {s:List UInt8} {cs:List AV}
theorem qX{p:UInt8->Bool}(h: ∀j,j<s.length->p (s.getD j 0)=false):s.any p=false:=by
 rw[TZ]
 intro e
 rw[Qi] at e
 obtain⟨x,hx,hp⟩:=e
 obtain⟨i,hi,rfl⟩:=Qn hx
 have:=h i hi
 rw[Zf,Zl hi] at this
 have this:p s[i]=false:=this
 rw[this] at hp;cases hp
theorem DA{p:UInt8->Bool}(hi:i<s.length)(h:p (s.getD i 0)=true):s.any p=true:=by
 rw[Qi]
 rw[Zf,Zl hi] at h
 exact⟨_,Xd hi,h⟩
theorem Ox{a:UInt8}{x:Nat}(hx:x<256):a.toNat=x↔a=UInt8.ofNat x:=by
 constructor
 ·intro h;rw[<-h];exact(UInt8.ofNat_toNat (x:=a)).symm
 ·intro h;rw[h];exact UInt8.toNat_ofNat_of_lt' (by simpa using hx)
structure HSI(s:List UInt8)(x:Nat)(H0:Heap)(m:Nat)(tm:TM)(H:Heap):Prop where
 heap:H=H0
 t0:Yb tm=.str s
 t1:Wc tm=nI .u8 x
 i: ∃i,YW tm=nI .i64 i∧i+m=s.length∧ ∀j,j<i->(s.getD j 0).toNat≠x
def HSQ(s:List UInt8)(x:Nat)(H0:Heap)(o:Out)(tm:TM)(H:Heap):Prop:=H=H0∧((o=.ret∧Y4 tm=.bool true∧Ts [UInt8.ofNat x] s=true)∨(o=.exit 0∧Ts [UInt8.ofNat x] s=false))
theorem ZaQ{x:Nat}(hx:x<256)(hs:s.length<=90000)(cx:Ctx)(X0:X)(m:Nat)(tm:TM)(H:Heap)(hI:HSI s x H0 m tm H):
  ∃o tm' H',Fi cx tm H X0=.ok o tm' H' X0∧((o=.normal∧ ∃k,k<m∧HSI s x H0 k tm' H')∨(o≠.normal∧HSQ s x H0 o tm' H')):=by
 obtain⟨rfl,t0,t1,i,t5,him,hn⟩:=hI
 have t0':=t0;have t1':=t1
 simp only[Sb,Kn,QP] at t0 t1 t5
 cases m with
 |zero=>
  have d1:decide (i<s.length)=false:=Zb (by omega)
  simp only[t0,t5,d1,Zy,ZG,Fi,Zu,Ye,Z6]
  refine⟨_,_,_,rfl,?_⟩
  exact .inr ⟨by simp,rfl,.inr ⟨rfl,qX λj hj=>Zb λh=>hn j (by omega) ((Ox hx).2 (by simpa using h))⟩⟩
 |succ m=>
  have hi:i<s.length:=by omega
  have d1:decide (i<s.length)=true:=Ze hi
  by_cases h:(s.getD i 0).toNat=x
  ·have d2:decide ((s.getD i 0).toNat=x)=true:=Ze h
   simp(disch:=omega) only[t0,t1,t5,d1,d2,XD,Zy,YL,ZG,Fi,Zu,Ye,Z6]
   refine⟨_,_,_,rfl,?_⟩
   exact .inr ⟨by simp,rfl,.inl ⟨rfl,rfl,DA hi (Ze (by simpa using (Ox hx).1 h))⟩⟩
  ·have d2:decide ((s.getD i 0).toNat=x)=false:=Zb h
   simp(disch:=omega) only[t0,t1,t5,d1,d2,XD,Zy,YL,YI,ZG,Fi,Zu,Ye,Z6]
   refine⟨_,_,_,rfl,.inl ⟨rfl,m,by omega,rfl,t0',t1',i+1,rfl,by omega,λj hj=>?_⟩⟩
   by_cases e:j=i
   ·rw[e];exact h
   ·exact hn j (by omega)
theorem fw(E:Env Zn fs fuel){x:Nat}(hx:x<256)(hs:s.length<=90000):
  ∃H',ZE (LK Zn fs fuel 0) fs fuel (n+2) 36 [.str s,nI .u8 x] H=.ret (.bool (Ts [UInt8.ofNat x] s)) H'∧Zs H H' []:=by
 rw[ZI (ZA E.n36 (.inl (by decide)) _ _) E.f36]
 simp only[c36,Zu,Z6]
 generalize hL:Wv (Fi _) fuel _ _ _=L
 obtain⟨o,Pu,H1,rfl,_,rfl,z⟩:=YA (P:=λT=>HSI s x H s.length T H) (Q:=HSQ s x H)
  (λT hi=>YP (HSI s x H) (HSQ s x H) (λm tm H1 h=>ZaQ hx hs _ _ m tm H1 h) fuel s.length T H (by have:=E.big;omega) hi) hL
  ⟨rfl,rfl,rfl,0,rfl,by omega,λj hj=>by omega⟩
 rcases z with⟨rfl,t4,e⟩|⟨rfl,e⟩
 ·simp only[Tp] at t4
  rw[e]
  simp only[t4,Zu,Zw,Z6]
  refine⟨_,rfl,?_⟩
  exact Zs.refl _ _
 ·rw[e]
  simp only[Zu,Ye,Zw,Z6]
  refine⟨_,rfl,?_⟩
  exact Zs.refl _ _
theorem ZaC(E:Env Zn fs fuel)(hk:1<=k){x:Nat}(hx:x<256)(hs:s.length<=90000):
  ZE (LK Zn fs fuel k) fs fuel (n+1) 36 [.str s,nI .u8 x] H=.ret (.bool (Ts [UInt8.ofNat x] s)) H:=by
 obtain⟨H',e,g⟩:=fw E (n:=898) (H:=H) hx hs
 exact Yl (r:=0) rfl rfl e g (rfl) hk
theorem tS(E:Env Zn fs fuel){p:List UInt8}(hs:s.length<=90000):
  ∃H',ZE (LK Zn fs fuel 0) fs fuel (n+2) 68 [.str s,.str p] H=.ret (.bool (Pm p s)) H'∧Zs H H' []:=by
 rw[ZI (ZA E.n68 (.inl (by decide)) _ _) E.f68]
 unfold Pm
 by_cases h:p.length<=s.length
 ·rw[Ze h]
  have d1:decide (p.length<=s.length)=true:=Ze h
  simp(disch:=omega) only[d1,X9,Xu,YT,ZG,Us,c68,Zu,Ye,Zw,Z8,Z6]
  refine⟨_,rfl,?_⟩
  exact Zs.refl _ _
 ·rw[Zb h]
  have d1:decide (p.length<=s.length)=false:=Zb h
  simp only[d1,Z7,Xu,ZG,c68,Zu,Ye,Zw,Z6]
  refine⟨_,rfl,?_⟩
  exact Zs.refl _ _
theorem jN(E:Env Zn fs fuel)(hk:1<=k){p:List UInt8}(hs:s.length<=90000):
  ZE (LK Zn fs fuel k) fs fuel (n+1) 68 [.str s,.str p] H=.ret (.bool (Pm p s)) H:=by
 obtain⟨H',e,g⟩:=tS E (n:=898) (H:=H) hs
 exact Yl (r:=0) rfl rfl e g (rfl) hk
def Gk(s:List UInt8):Bool:=!Ts [47,0] s&&decide (1<=s.length)&&decide (s.length<=255)&&!decide (s=Ai)&&!decide (s=JM)
structure NMI(s:List UInt8)(H0:Heap)(m:Nat)(tm:TM)(H:Heap):Prop where
 heap:H=H0
 t0:Yb tm=.str s
 i: ∃i,W8 tm=nI .i64 i∧i+m=s.length∧ ∀j,j<i->decide (s.getD j 0∈([47,0]:List UInt8))=false
def NMQ(s:List UInt8)(H0:Heap)(o:Out)(tm:TM)(H:Heap):Prop:=H=H0∧Yb tm=.str s∧((o=.ret∧VX tm=.bool false∧Ts [47,0] s=true)∨(o=.exit 0∧Ts [47,0] s=false))
theorem xo{a:UInt8}:a∈([47,0]:List UInt8)↔a.toNat=0∨a.toNat=47:=by
 rw[Ox (by decide),Ox (by decide)]
 simp[or_comm]
theorem ZbA(hs:s.length<=90000)(cx:Ctx)(X0:X)(m:Nat)(tm:TM)(H:Heap)(hI:NMI s H0 m tm H):
  ∃o tm' H',Iz cx tm H X0=.ok o tm' H' X0∧((o=.normal∧ ∃k,k<m∧NMI s H0 k tm' H')∨(o≠.normal∧NMQ s H0 o tm' H')):=by
 obtain⟨rfl,t0,i,t3,him,hn⟩:=hI
 have t0':=t0
 simp only[Sb,Px] at t0 t3
 cases m with
 |zero=>
  have d1:decide (i<s.length)=false:=Zb (by omega)
  simp only[t0,t3,d1,Zy,ZG,Iz,Zu,Ye,Z6]
  refine⟨_,_,_,rfl,?_⟩
  exact .inr ⟨by simp,rfl,t0',.inr ⟨rfl,qX λj hj=>hn j (by omega)⟩⟩
 |succ m=>
  have hi:i<s.length:=by omega
  have d1:decide (i<s.length)=true:=Ze hi
  by_cases h:(s.getD i 0).toNat=0
  ·have d2:decide ((s.getD i 0).toNat=0)=true:=Ze h
   simp(disch:=omega) only[t0,t3,d1,d2,XD,Zy,YL,ZG,Iz,Zu,Ye,Z6]
   refine⟨_,_,_,rfl,?_⟩
   exact .inr ⟨by simp,rfl,t0',.inl ⟨rfl,rfl,DA hi (Ze (xo.2 (.inl h)))⟩⟩
  ·have d2:decide ((s.getD i 0).toNat=0)=false:=Zb h
   by_cases h2:(s.getD i 0).toNat=47
   ·have d3:decide ((s.getD i 0).toNat=47)=true:=Ze h2
    simp(disch:=omega) only[t0,t3,d1,d2,d3,XD,Zy,YL,ZG,Iz,Zu,Ye,Z6]
    refine⟨_,_,_,rfl,?_⟩
    exact .inr ⟨by simp,rfl,t0',.inl ⟨rfl,rfl,DA hi (Ze (xo.2 (.inr h2)))⟩⟩
   ·have d3:decide ((s.getD i 0).toNat=47)=false:=Zb h2
    simp(disch:=omega) only[t0,t3,d1,d2,d3,XD,Zy,YL,YI,ZG,Iz,Zu,Ye,Z6]
    refine⟨_,_,_,rfl,.inl ⟨rfl,m,by omega,rfl,t0',i+1,rfl,by omega,λj hj=>?_⟩⟩
    by_cases e:j=i
    ·rw[e];exact Zb λhm=>by rcases xo.1 hm with h3|h3<;>omega
    ·exact hn j (by omega)
theorem lH(E:Env Zn fs fuel)(hs:s.length<=90000):
  ∃H',ZE (LK Zn fs fuel 0) fs fuel (n+2) 89 [.str s] H=.ret (.bool (Gk s)) H'∧Zs H H' []:=by
 rw[ZI (ZA E.n89 (.inl (by decide)) _ _) E.f89]
 simp only[c89,Zu,Z6]
 generalize hL:Wv (Iz _) fuel _ _ _=L
 obtain⟨o,Pu,H1,rfl,_,rfl,t0,z⟩:=YA (P:=λT=>NMI s H s.length T H) (Q:=NMQ s H)
  (λT hi=>YP (NMI s H) (NMQ s H) (λm tm H1 h=>ZbA hs _ _ m tm H1 h) fuel s.length T H (by have:=E.big;omega) hi) hL
  ⟨rfl,rfl,0,rfl,by omega,λj hj=>by omega⟩
 simp only[Sb] at t0
 rcases z with⟨rfl,t2,e⟩|⟨rfl,e⟩
 ·simp only[IN] at t2
  rw[show Gk s=false by unfold Gk;rw[e];rfl]
  simp only[t2,Zu,Zw,Z6]
  refine⟨_,rfl,?_⟩
  exact Zs.refl _ _
 ·have hd:Gk s=(decide (1<=s.length)&&decide (s.length<=255)&&!decide (s=Ai)&&!decide (s=JM)):=by unfold Gk;rw[e];rfl
  rw[hd]
  unfold Ai JM
  by_cases h0: ¬(1<=s.length)
  ·have d0:decide (1<=s.length)=false:=Zb h0
   rw[d0]
   simp only[t0,d0,Z7,Xu,ZG,Zu,Ye,Zw,Z6,Vk]
   refine⟨_,rfl,?_⟩
   exact Zs.refl _ _
  have d0:decide (1<=s.length)=true:=Ze (Decidable.not_not.1 h0)
  by_cases h1: ¬(s.length<=255)
  ·have d1:decide (s.length<=255)=false:=Zb h1
   rw[d1]
   try rw[d0]
   simp only[t0,d0,d1,Z7,YS,Xu,Yt,ZG,Zu,Ye,Zw,Z6,Vk]
   refine⟨_,rfl,?_⟩
   exact Zs.refl _ _
  have d1:decide (s.length<=255)=true:=Ze (Decidable.not_not.1 h1)
  by_cases h2:s=[46]
  ·have d2:decide (s=[46])=true:=Ze h2
   rw[d2]
   try rw[d0]
   try rw[d1]
   simp only[t0,d0,d1,d2,Z7,YS,RU,Yq,Xu,Yt,Wu,ZG,Zu,Ye,Zw,Z6,Vk]
   refine⟨_,rfl,?_⟩
   exact Zs.refl _ _
  have d2:decide (s=[46])=false:=Zb h2
  by_cases h3:s=[46,46]
  ·have d3:decide (s=[46,46])=true:=Ze h3
   rw[d3]
   try rw[d0]
   try rw[d1]
   try rw[d2]
   simp only[t0,d0,d1,d2,d3,YS,RU,Yq,Y2,Xu,Yt,Wu,ZG,Zu,Ye,Zw,Z6,Vk]
   refine⟨_,rfl,?_⟩
   exact Zs.refl _ _
  have d3:decide (s=[46,46])=false:=Zb h3
  rw[d0,d1,d2,d3]
  simp only[t0,d0,d1,d2,d3,RU,Y2,Xu,Yt,Wu,ZG,Zu,Ye,Zw,Z6,Vk]
  refine⟨_,rfl,?_⟩
  exact Zs.refl _ _
theorem ZiB(E:Env Zn fs fuel)(hk:1<=k)(hs:s.length<=90000):
  ZE (LK Zn fs fuel k) fs fuel (n+1) 89 [.str s] H=.ret (.bool (Gk s)) H:=by
 obtain⟨H',e,g⟩:=lH E (n:=898) (H:=H) hs
 exact Yl (r:=0) rfl rfl e g (rfl) hk
theorem vW(s:List UInt8):YG s=(Gk s&&decide (s.length<=251)&&!Pm B5 s):=by
 unfold YG Gk
 by_cases h:s.length<=251
 ·have h2:decide (s.length<=255)=true:=Ze (by omega)
  rw[h2,Ze h]
  have h3:(!decide (s=[]))=decide (1<=s.length):=by
   cases s with
   |nil=>rfl
   |cons a l=>simp
  rw[h3]
  cases decide (1<=s.length)<;>cases decide (s=Ai)<;>cases decide (s=JM)<;>cases Ts [47,0] s<;>cases Pm B5 s<;>rfl
 ·rw[Zb h];simp
theorem nM(E:Env Zn fs fuel)(hs:s.length<=90000):
  ∃H',ZE (LK Zn fs fuel 1) fs fuel (n+2) 66 [.str s] H=.ret (.bool (YG s)) H'∧Zs H H' []:=by
 rw[ZI (ZA E.n66 (.inl (by decide)) _ _) E.f66]
 have e1:=λ{j}=>ZiB E (k:=1) (n:=j) (by decide) (s:=s) (H:=H) hs
 have e2:=λ{j}=>jN E (k:=1) (n:=j) (by decide) (s:=s) (p:=[46,119,104,46]) (H:=H) hs
 rw[vW,show B5=[46,119,104,46] from rfl]
 cases ha:Gk s with
 |false=>
  rw[ha] at e1
  simp only[e1,Z7,c66,Zu,Ye,Zw,Z6]
  refine⟨_,rfl,?_⟩
  exact Zs.refl _ _
 |true=>
  rw[ha] at e1
  by_cases h:s.length<=251
  ·have d1:decide (s.length<=251)=true:=Ze h
   rw[d1]
   cases hb:Pm [46,119,104,46] s with
   |false=>
    rw[hb] at e2
    simp only[d1,e1,e2,X9,Y2,Yt,ZG,c66,Zu,Ye,Zw,Z8,Z6]
    refine⟨_,rfl,?_⟩
    exact Zs.refl _ _
   |true=>
    rw[hb] at e2
    simp only[d1,e1,e2,X9,Yq,Yt,ZG,c66,Zu,Ye,Zw,Z8,Z6]
    refine⟨_,rfl,?_⟩
    exact Zs.refl _ _
  ·have d1:decide (s.length<=251)=false:=Zb h
   rw[d1]
   simp only[d1,e1,Z7,YS,Yt,ZG,c66,Zu,Ye,Zw,Z6]
   refine⟨_,rfl,?_⟩
   exact Zs.refl _ _
theorem pu(E:Env Zn fs fuel)(hk:2<=k)(hs:s.length<=90000):
  ZE (LK Zn fs fuel k) fs fuel (n+1) 66 [.str s] H=.ret (.bool (YG s)) H:=by
 obtain⟨H',e,g⟩:=nM E (n:=898) (H:=H) hs
 exact Yl (r:=1) rfl rfl e g (rfl) hk
def NL(l:List (List UInt8)):List (List AV):=l.map λp=>[.str p]
theorem jh(l:List (List UInt8))(p:List UInt8):NL (l++[p])=NL l++[[.str p]]:=by unfold NL;rw[Xv];rfl
theorem UD(l:List (List UInt8)):(NL l).length=l.length:=by unfold NL;rw[Zx]
theorem gu{x:Nat}(h: ∀j,j<s.length->(s.getD j 0).toNat≠x):V6 x s=0:=by
 rw[T5]
 intro c hc
 obtain⟨i,hi,rfl⟩:=Qn hc
 have:=h i hi
 rwa [Zf,Zl hi] at this
theorem gt{x:Nat}: ∀{s:List UInt8} {i:Nat},(∀j,j<i->(s.getD j 0).toNat≠x)->i<s.length->(s.getD i 0).toNat=x->V6 x s=i+1
 |[],i,_,h,_=>by simp at h
 |a::s,0,_,_,e=>by
  have e:a.toNat=x:=e
  show(if a.toNat=x then 1 else _)=1
  rw[if_pos e]
 |a::s,i+1,hn,h,e=>by
  have h0:a.toNat≠x:=hn 0 (by omega)
  have ih:=gt (s:=s) (i:=i) (λj hj=>by simpa using hn (j+1) (by omega)) (by simpa using h) (by simpa using e)
  show(if a.toNat=x then 1 else _)=_
  rw[if_neg h0,ih,if_neg (by omega)]
structure DSI(s:List UInt8)(H0:Heap)(m:Nat)(tm:TM)(H:Heap):Prop where
 t0:Yb tm=.str s
 i: ∃i f v q,YW tm=nI .i64 i∧Y4 tm=nI .i64 f∧W8 tm=v∧i+m=s.length+1∧f<=s.length+1∧(i<=s.length->f<=i∧(YU s).drop q=YU (s.drop f)∧ ∀j,f<=j->j<i->(s.getD j 0).toNat≠47)∧(i=s.length+1->q=(YU s).length)∧q<=i∧q<=(YU s).length∧RM H v 9 1 (NL ((YU s).take q)) H0.nx
 k:Zs H0 H []
def DSQ(s:List UInt8)(H0:Heap)(o:Out)(tm:TM)(H:Heap):Prop:=o=.exit 0∧DSI s H0 0 tm H
theorem Zak(hs:s.length<=90000)(hro:H0.ro<=H0.nx)(cx:Ctx)(X0:X)(m:Nat)(tm:TM)(H:Heap)(hI:DSI s H0 m tm H):
  ∃o tm' H',Iw cx tm H X0=.ok o tm' H' X0∧((o=.normal∧ ∃k,k<m∧DSI s H0 k tm' H')∨(o≠.normal∧DSQ s H0 o tm' H')):=by
 obtain⟨t0,⟨i,f,v,q,t5,t4,t3,him,hf,hd,hq,hqi,hql,hw⟩,k0⟩:=hI
 have t0':=t0;have GY:=t3;have Qk:=t4
 simp only[Sb,Px,Tp,QP] at t0 t3 t4 t5
 cases m with
 |zero=>
  have d1:decide (i<=s.length)=false:=Zb (by omega)
  simp only[t0,t5,d1,Yt,ZG,Iw,Zu,Ye,Z6]
  refine⟨_,_,_,rfl,?_⟩
  exact .inr ⟨by simp,rfl,t0',⟨i,f,v,q,by simp only[QP];exact t5,Qk,GY,him,hf,hd,hq,hqi,hql,hw⟩,k0⟩
 |succ m=>
  have hi:i<=s.length:=by omega
  have d1:decide (i<=s.length)=true:=Ze hi
  obtain⟨hfi,hdr,hno⟩:=hd hi
  have n0:=k0.nx
  have lay_: ∀(rest:List (List UInt8)),YU (s.drop f)=(s.take i).drop f::rest-> ∃v' H2,UT 9 1 16 v (.slice H.nx 0 1 none) (H.new (rH 9 [.str ((s.take i).drop f)]))=.val v' H2∧RM H2 v' 9 1 (NL ((YU s).take (q+1))) H0.nx∧Zs H0 H2 []∧(YU s).drop (q+1)=rest∧q+1<=(YU s).length:=by
   intro rest he
   rw[he] at hdr
   obtain⟨h1,h2⟩:=Fp [] hdr
   have ZmO:q+1<=(YU s).length:=by
    have:=congrArg List.length hdr
    rw[Ym,ZS] at this;omega
   have htk:(YU s).take (q+1)=(YU s).take q++[(s.take i).drop f]:=by
    rw[WR,<-h1,Zf,Zl (by omega)];rfl
   obtain⟨v',H2,ea,w2,k2,hb2,n2⟩:=uq (bytes:=16) hw (by decide) (by decide) (by rw[UD,ZC];omega) (by rw[k0.ro];omega) (by omega) (x:=[.str ((s.take i).drop f)]) rfl
   refine⟨v',H2,ea,by rw[htk,jh];exact w2,k0.trans k2 λx hx hlt=>?_,h2,ZmO⟩
   rcases hw with⟨_,e⟩|⟨_,b,r,e,_,hlo⟩
   ·subst e;cases hx
   ·subst e
    rw[Zq.1 hx] at hlt
    omega
  have bs:=λ(x:AV) (hx:x.cells=[x]) (G:Heap)=>N3 9 (.str []) x hx G
  by_cases h:i=s.length
  ·have d2:decide (i=s.length)=true:=Ze h
   have d3:decide (s.length=s.length)=true:=Ze rfl
   have hz:V6 47 (s.drop f)=0:=gu λj hj=>by
    rw[Ym] at hj
    rw[Zf,Xa,<-Zf]
    exact hno (f+j) (by omega) (by omega)
   have htl:(s.take i).drop f=s.drop f:=by rw[h,XV]
   obtain⟨v',H2,ea,w2,k2,e2,q2⟩:=lay_ [] (by rw[Qv hz,htl])
   have hmid:=λG=>Jo (s:=s) hfi hi .i64 .i64 G
   simp(disch:=first|assumption|omega|(simp -implicitDefEqProofs only[X3,X4]<;>first|assumption|omega)|decide) only[t0,t3,t4,t5,d1,d2,hmid,bs,QF,ea,Ys,Ya,ZD,ZM,Yt,YL,YI,ZG,Iw,Zu,Ye,Z8,Z6,Vk]
   refine⟨_,_,_,rfl,.inl ⟨rfl,m,by omega,t0',⟨i+1,i+1,v',q+1,rfl,rfl,rfl,by omega,by omega,λh=>by omega,λ_=>?_,by omega,q2,w2⟩,k2⟩⟩
   have:=congrArg List.length e2
   rw[Ym] at this
   have:(YU s).length - (q+1)=0:=this
   omega
  ·have d2:decide (i=s.length)=false:=Zb h
   have hi2:i<s.length:=by omega
   have hidx:=λG=>XD hi2 .i64 G
   have gE:(s.drop f).getD (i - f) 0=s.getD i 0:=by
    rw[Zf,Xa,<-Zf,show f+(i - f)=i by omega]
   by_cases h2:(s.getD i 0).toNat=47
   ·have d3:decide ((s.getD i 0).toNat=47)=true:=Ze h2
    have hz:V6 47 (s.drop f)=(i - f)+1:=gt (λj hj=>by
     rw[Zf,Xa,<-Zf]
     exact hno (f+j) (by omega) (by omega)) (by rw[Ym];omega) (by rw[gE];exact h2)
    have htl:(s.take i).drop f=(s.drop f).take (i - f):=by rw[List.drop_take]
    obtain⟨v',H2,ea,w2,k2,e2,q2⟩:=lay_ (YU ((s.drop f).drop (i - f+1))) (by rw[M0 hz,htl])
    have hmid:=λG=>Jo (s:=s) hfi hi .i64 .i64 G
    simp(disch:=first|assumption|omega|(simp -implicitDefEqProofs only[X3,X4]<;>first|assumption|omega)|decide) only[t0,t3,t4,t5,d1,d2,d3,hidx,hmid,bs,QF,ea,Ys,Ya,ZD,ZM,Yt,YL,YI,ZG,Iw,Zu,Ye,Z8,Z6,Vk]
    refine⟨_,_,_,rfl,.inl ⟨rfl,m,by omega,t0',⟨i+1,i+1,v',q+1,rfl,rfl,rfl,by omega,by omega,λ_=>⟨Zp _,?_,λj h3 h4=>by omega⟩,λh=>by omega,by omega,q2,w2⟩,k2⟩⟩
    rw[e2,SW,show f+(i - f+1)=i+1 by omega]
   ·have d3:decide ((s.getD i 0).toNat=47)=false:=Zb h2
    simp(disch:=omega) only[t0,t5,d1,d2,d3,hidx,Yt,YL,YI,ZG,Iw,Zu,Ye,Z6]
    refine⟨_,_,_,rfl,.inl ⟨rfl,m,by omega,t0',⟨i+1,f,v,q,rfl,Qk,GY,by omega,hf,λ_=>⟨by omega,hdr,λj h3 h4=>?_⟩,λh=>by omega,by omega,hql,hw⟩,k0⟩⟩
    by_cases e:j=i
    ·rw[e];exact h2
    ·exact hno j h3 (by omega)
theorem iK(E:Env Zn fs fuel)(hs:s.length<=90000)(hro:H.ro<=H.nx):
  ∃v H',ZE (LK Zn fs fuel k) fs fuel (n+1) 65 [.str s] H=.ret v H'∧RM H' v 9 1 (NL (Z4 s)) H.nx∧Zs H H' []:=by
 rw[ZI (ZA E.n65 (.inr rfl) _ _) E.f65]
 unfold Z4
 by_cases h0:s=[]
 ·have d1:decide (s=[])=true:=Ze h0
  rw[if_pos h0]
  simp only[d1,YT,c65,Zu,Ye,Zw,Z6]
  exact⟨_,_,rfl,.inl ⟨rfl,rfl⟩,Zs.refl _ _⟩
 have d1:decide (s=[])=false:=Zb h0
 rw[if_neg h0]
 simp only[d1,YT,c65,Zu,Ye,Z6]
 generalize hL:Wv (Iw _) fuel _ _ _=L
 obtain⟨o,Pu,H1,rfl,_,rfl,t0,⟨i,f,v,q,t5,t4,t3,him,hf,hd,hq,hqi,hql,hw⟩,k0⟩:=YA (P:=λT=>DSI s H (s.length+1) T H) (Q:=DSQ s H)
  (λT hi=>YP (DSI s H) (DSQ s H) (λm tm H1 h=>Zak hs hro _ _ m tm H1 h) fuel (s.length+1) T H (by have:=E.big;omega) hi) hL
  (by exact⟨rfl,⟨0,0,.nils,0,rfl,rfl,rfl,by omega,by omega,λ_=>⟨Zp _,rfl,λj h1 h2=>by omega⟩,λh=>by omega,by omega,by omega,.inl ⟨rfl,rfl⟩⟩,Zs.refl _ _⟩)
 simp only[Px] at t3
 rw[hq (by omega),XV] at hw
 simp only[t3,Zu,Ye,Zw,Z6,Vk]
 exact⟨_,_,rfl,hw,k0⟩
def T8(out p:List UInt8):List UInt8:=if p=[] then out else(if out=[] then [] else out++[47])++p
def WZ(l:List (List UInt8)):List UInt8:=l.foldl T8 []
theorem FA(out p:List UInt8):(T8 out p).length<=out.length+1+p.length:=by
 unfold T8
 split
 ·omega
 ·split
  ·rw[Zj];show 0+_<=_;omega
  ·rw[Zj,Zj];show _+1+_<=_;omega
theorem mS{l:List (List UInt8)}: ∀{out:List UInt8},(∀x∈l,x.length<=90000)->(l.foldl T8 out).length<=out.length+l.length*90001:=by
 induction l with
 |nil=>intro out _;simp
 |cons a l ih=>
  intro out h
  rw[Wf,ZS]
  have h1:=ih (out:=T8 out a) λx hx=>h x (Zz _ hx)
  have h2:=FA out a
  have h3:=h a (Zt ..)
  omega
theorem rf(l:List (List UInt8))(p:List UInt8):WZ (l++[p])=T8 (WZ l) p:=by
 unfold WZ;rw[List.foldl_append];rfl
theorem Do{l:List (List UInt8)}(h:i<l.length):(NL l).getD i []=[.str (l.getD i [])]:=by
 unfold NL
 rw[Zf,YE,Zf,Zl h];rfl
structure JOI(v:AV)(l:List (List UInt8))(H0:Heap)(m:Nat)(tm:TM)(H:Heap):Prop where
 heap:H=H0
 t0:Yb tm=v
 i: ∃i,Y4 tm=nI .i64 i∧W8 tm=.str (WZ (l.take i))∧i+m=l.length
def JOQ(v:AV)(l:List (List UInt8))(H0:Heap)(o:Out)(tm:TM)(H:Heap):Prop:=o=.exit 0∧H=H0∧W8 tm=.str (WZ l)
theorem Za2{v:AV}{l:List (List UInt8)}(hl:l.length<=90001)(hs: ∀x∈l,x.length<=90000)(hN:Sl H0 1 v (NL l))(cx:Ctx)(X0:X)(m:Nat)(tm:TM)(H:Heap)(hI:JOI v l H0 m tm H):
  ∃o tm' H',Ix cx tm H X0=.ok o tm' H' X0∧((o=.normal∧ ∃k,k<m∧JOI v l H0 k tm' H')∨(o≠.normal∧JOQ v l H0 o tm' H')):=by
 obtain⟨rfl,t0,i,t4,t3,him⟩:=hI
 have t0':=t0;have GY:=t3
 simp only[Sb,Px,Tp] at t0 t3 t4
 have ln: ∀G,NV v G=.val (nI .i64 l.length) G:=λG=>by rw[hN.len,UD]
 cases m with
 |zero=>
  have d1:decide (i<l.length)=false:=Zb (by omega)
  obtain rfl:i=l.length:=by omega
  rw[XV] at t3 GY
  simp only[t0,t4,ln,Zy,U5,decide_false,Ix,Zu,Ye,Z6]
  refine⟨_,_,_,rfl,?_⟩
  exact .inr ⟨by simp,rfl,rfl,by simp only[Px];exact t3⟩
 |succ m=>
  have hi:i<l.length:=by omega
  have d1:decide (i<l.length)=true:=Ze hi
  obtain⟨b,o,r,eI,hb,gb,_,eE⟩:=hN.at_ (i:=i) (by rw[UD];exact hi)
  have e0: ∀G,ld1 (some (.row r)) o G=.val (.str (l.getD i [])) G:=λG=>by
   have:=eE 0 G (by decide)
   rw[Do hi] at this;exact this
  have htk:l.take (i+1)=l.take i++[l.getD i []]:=by
   rw[WR,Zf,Zl hi];rfl
  have hpl:(l.getD i []).length<=90000:=hs _ (by rw[Zf,Zl hi];exact Xd hi)
  have hjl:(WZ (l.take i)).length<=i*90001:=by
   have:=mS (l:=l.take i) (out:=[]) λx hx=>hs x (X5 hx)
   rw[ZC,Wl (by omega)] at this
   have this:(WZ (l.take i)).length<=0+i*90001:=this
   omega
  have hnx:WZ (l.take (i+1))=T8 (WZ (l.take i)) (l.getD i []):=by rw[htk,rf]
  generalize WZ (l.take i)=w at*
  generalize l.getD i []=p at*
  have a1: ∀G,Ty (.str w) (.str [47]) G=.val (.str (w++[47])) G:=λG=>VU (by show w.length+1<=_;omega) G
  have a2: ∀G,Ty (.str (w++[47])) (.str p) G=.val (.str (w++[47]++p)) G:=λG=>VU (by rw[Zj];show w.length+1+p.length<=_;omega) G
  have a3: ∀G,Ty (.str w) (.str p) G=.val (.str (w++p)) G:=λG=>VU (by omega) G
  by_cases h1:p=[]
  ·have d2:decide (p=[])=true:=Ze h1
   simp(disch:=omega) only[t0,t4,ln,d1,d2,eI,gb,e0,Zy,YT,YI,Ix,Zu,Ye,Z6]
   refine⟨_,_,_,rfl,?_⟩
   exact .inl ⟨rfl,m,by omega,rfl,t0',i+1,rfl,by rw[hnx];unfold T8;rw[if_pos h1];exact GY,by omega⟩
  ·have d2:decide (p=[])=false:=Zb h1
   by_cases h2:w=[]
   ·have d3:decide (w=[])=true:=Ze h2
    simp(disch:=omega) only[t0,t3,t4,ln,d1,d2,d3,eI,gb,e0,a3,Wu,Yq,Zy,YT,Wu,YI,Ix,Zu,Ye,Z6]
    refine⟨_,_,_,rfl,?_⟩
    exact .inl ⟨rfl,m,by omega,rfl,t0',i+1,rfl,by rw[hnx];unfold T8;rw[if_neg h1,if_pos h2,h2];rfl,by omega⟩
   ·have d3:decide (w=[])=false:=Zb h2
    simp(disch:=omega) only[t0,t3,t4,ln,d1,d2,d3,eI,gb,e0,a1,a2,Wu,Y2,Zy,YT,Wu,YI,Ix,Zu,Ye,Z6]
    refine⟨_,_,_,rfl,?_⟩
    exact .inl ⟨rfl,m,by omega,rfl,t0',i+1,rfl,by rw[hnx];unfold T8;rw[if_neg h1,if_neg h2];rfl,by omega⟩
theorem nL(E:Env Zn fs fuel){v:AV}{l:List (List UInt8)}(hl:l.length<=90001)(hs: ∀x∈l,x.length<=90000)(hN:Sl H 1 v (NL l)):
  ∃H',ZE (LK Zn fs fuel 2) fs fuel (n+2) 67 [v] H=.ret (.str (WZ l)) H'∧Zs H H' []:=by
 rw[ZI (ZA E.n67 (.inl (by decide)) _ _) E.f67]
 have hf:=E.big
 simp only[c67,Zu,Z6]
 generalize hL:Wv (Ix _) fuel _ _ _=L
 obtain⟨o,Pu,H1,rfl,_,rfl,rfl,t3⟩:=YA (P:=λT=>JOI v l H l.length T H) (Q:=JOQ v l H)
  (λT hi=>YP (JOI v l H) (JOQ v l H) (λm tm H1 h=>Za2 hl hs hN _ _ m tm H1 h) fuel l.length T H (by omega) hi) hL
  ⟨rfl,rfl,0,rfl,rfl,by omega⟩
 simp only[Px] at t3
 simp only[t3,Zu,Ye,Zw,Z6]
 refine⟨_,rfl,?_⟩
 exact Zs.refl _ _
theorem ZcY(E:Env Zn fs fuel)(hk:3<=k){v:AV}{l:List (List UInt8)}(hl:l.length<=90001)(hs: ∀x∈l,x.length<=90000)(hN:Sl H 1 v (NL l)):
  ZE (LK Zn fs fuel k) fs fuel (n+1) 67 [v] H=.ret (.str (WZ l)) H:=by
 obtain⟨H',e,g⟩:=nL E (n:=898) (H:=H) hl hs hN
 exact Yl (r:=2) rfl rfl e g (rfl) hk
structure MDI(s:List UInt8)(v:AV)(l:List (List UInt8))(H0:Heap)(m:Nat)(tm:TM)(H:Heap):Prop where
 heap:H=H0
 t0:Yb tm=.str s
 t3:W8 tm=v
 i: ∃i,Y4 tm=nI .i64 i∧i+m=l.length∧ ∀j,j<i->YG (l.getD j [])=true
def MDQ(s:List UInt8)(v:AV)(l:List (List UInt8))(H0:Heap)(o:Out)(tm:TM)(H:Heap):Prop:=H=H0∧((o=.ret∧VX tm=.bool false∧l.all YG=false)∨(o=.exit 0∧Yb tm=.str s∧W8 tm=v∧l.all YG=true))
theorem Zbt(E:Env Zn fs fuel){v:AV}{l:List (List UInt8)}(hl:l.length<=90001)(hs: ∀x∈l,x.length<=90000)(hN:Sl H0 1 v (NL l))(y f dd q)(X0:X)(m:Nat)(tm:TM)(H:Heap)(hI:MDI s v l H0 m tm H):
  ∃o tm' H',Fl ⟨ZE (LK Zn fs fuel 3) fs fuel (n+1),y,f,dd,q⟩ tm H X0=.ok o tm' H' X0∧((o=.normal∧ ∃k,k<m∧MDI s v l H0 k tm' H')∨(o≠.normal∧MDQ s v l H0 o tm' H')):=by
 obtain⟨rfl,t0,t3,i,t4,him,hn⟩:=hI
 have t0':=t0;have GY:=t3
 simp only[Sb,Px,Tp] at t0 t3 t4
 have ln: ∀G,NV v G=.val (nI .i64 l.length) G:=λG=>by rw[hN.len,UD]
 cases m with
 |zero=>
  have d1:decide (i<l.length)=false:=Zb (by omega)
  simp only[t3,t4,ln,d1,Zy,Fl,Zu,Ye,Z6]
  refine⟨_,_,_,rfl,?_⟩
  exact .inr ⟨by simp,rfl,.inr ⟨rfl,t0',GY,tM λj hj=>hn j (by omega)⟩⟩
 |succ m=>
  have hi:i<l.length:=by omega
  have d1:decide (i<l.length)=true:=Ze hi
  obtain⟨b,o,r,eI,hb,gb,_,eE⟩:=hN.at_ (i:=i) (by rw[UD];exact hi)
  have e0: ∀G,ld1 (some (.row r)) o G=.val (.str (l.getD i [])) G:=λG=>by
   have:=eE 0 G (by decide)
   rw[Do hi] at this;exact this
  have hpl:(l.getD i []).length<=90000:=hs _ (by rw[Zf,Zl hi];exact Xd hi)
  have e1:=λ{j}=>pu E (k:=3) (n:=j) (by decide) (H:=H) hpl
  cases hm:YG (l.getD i []) with
  |true=>
   rw[hm] at e1
   simp(disch:=omega) only[t3,t4,ln,d1,eI,gb,e0,e1,Zy,YI,Fl,Zu,Ye,Z8,Z6]
   refine⟨_,_,_,rfl,.inl ⟨rfl,m,by omega,rfl,t0',GY,i+1,rfl,by omega,λj hj=>?_⟩⟩
   by_cases h:j=i
   ·rw[h];exact hm
   ·exact hn j (by omega)
  |false=>
   rw[hm] at e1
   simp only[t3,t4,ln,d1,eI,gb,e0,e1,Zy,Fl,Zu,Ye,Z8,Z6]
   refine⟨_,_,_,rfl,?_⟩
   exact .inr ⟨by simp,rfl,.inl ⟨rfl,rfl,xy hi hm⟩⟩
theorem nO(E:Env Zn fs fuel)(hs:s.length<=90000)(hro:H.ro<=H.nx):
  ∃H',ZE (LK Zn fs fuel 3) fs fuel (n+2) 69 [.str s] H=.ret (.bool (Tg s)) H'∧Zs H H' []:=by
 rw[ZI (ZA E.n69 (.inl (by decide)) _ _) E.f69]
 have hf:=E.big
 have hnl:=FK s
 have hns: ∀x∈Z4 s,x.length<=s.length:=λx hx=>Ku hx
 obtain⟨v,H1,e1,hw,k1⟩:=iK E (k:=3) (n:=n) hs (H:=H) hro
 have hN:=Sl.of_buf hw
 simp only[e1,c69,Zu,Ye,Z6]
 generalize hL:Wv (Fl _) fuel _ _ _=L
 obtain⟨o,Pu,H2,rfl,_,rfl,z⟩:=YA (P:=λT=>MDI s v (Z4 s) H1 (Z4 s).length T H1) (Q:=MDQ s v (Z4 s) H1)
  (λT hi=>YP (MDI s v (Z4 s) H1) (MDQ s v (Z4 s) H1) (λm tm H1 h=>Zbt E (by omega) (λx hx=>Z5 (hns x hx) hs) hN _ _ _ _ _ m tm H1 h) fuel (Z4 s).length T H1 (by omega) hi) hL
  ⟨rfl,rfl,rfl,0,rfl,by omega,λj hj=>by omega⟩
 rcases z with⟨rfl,t2,e⟩|⟨rfl,t0,t3,e⟩
 ·simp only[IN] at t2
  rw[show Tg s=false by unfold Tg;rw[e,YS]]
  simp only[t2,Zu,Zw,Z6]
  refine⟨_,rfl,?_⟩
  exact k1
 ·simp only[Sb,Px] at t0 t3
  have ln: ∀G,NV v G=.val (nI .i64 (Z4 s).length) G:=λG=>by rw[hN.len,UD]
  by_cases h1:(Z4 s).length<=254
  ·have d1:decide ((Z4 s).length<=254)=true:=Ze h1
   have d1':decide ((Z4 s).length<255)=true:=Ze (by omega)
   by_cases h2:s.length<=4080
   ·have d2:decide (s.length<=4080)=true:=Ze h2
    rw[show Tg s=true by unfold Tg;rw[e,d1',d2];rfl]
    simp only[t0,t3,ln,d1,d2,Yt,ZG,Zu,Ye,Zw,Z6]
    refine⟨_,rfl,?_⟩
    exact k1
   ·have d2:decide (s.length<=4080)=false:=Zb h2
    rw[show Tg s=false by unfold Tg;rw[d2];rfl]
    simp only[t0,t3,ln,d1,d2,Yt,ZG,Zu,Ye,Zw,Z6]
    refine⟨_,rfl,?_⟩
    exact k1
  ·have d1:decide ((Z4 s).length<=254)=false:=Zb h1
   have d1':decide ((Z4 s).length<255)=false:=Zb (by omega)
   rw[show Tg s=false by unfold Tg;rw[d1',YS];rfl]
   simp only[t3,ln,d1,Yt,Zu,Ye,Zw,Z6]
   refine⟨_,rfl,?_⟩
   exact k1
theorem iG(E:Env Zn fs fuel)(hk:4<=k)(hs:s.length<=90000)(hro:H.ro<=H.nx):
  ZE (LK Zn fs fuel k) fs fuel (n+1) 69 [.str s] H=.ret (.bool (Tg s)) H:=by
 obtain⟨H',e,g⟩:=nO E (n:=898) (H:=H) hs hro
 exact Yl (r:=3) rfl rfl e g (rfl) hk
end
theorem uO{c:UInt8}(h:c.toNat=47):c=47:=UN.1 h
theorem yc: ∀s:List UInt8,YU s=(if VF 47 s=0 then [] else YU (s.take (VF 47 s - 1)))++[s.drop (VF 47 s)]
 |[]=>rfl
 |c::s=>by
  have ih:=yc s
  rw[YU,VF]
  by_cases h0:VF 47 s=0
  ·rw[if_pos h0,ZY,h0,Yk] at ih
   rw[if_pos h0]
   by_cases hc:c.toNat=47
   ·rw[if_pos hc,if_pos hc,ih];rfl
   ·rw[if_neg hc,if_neg hc,ih];rfl
  ·rw[if_neg h0] at ih
   rw[if_neg h0,if_neg (show ¬VF 47 s+1=0 by omega)]
   obtain⟨d,hd⟩: ∃d,VF 47 s=d+1:=⟨VF 47 s - 1,by omega⟩
   rw[hd] at ih ⊢
   rw[show d+1 - 1=d by omega] at ih
   rw[show d+1+1 - 1=d+1 by omega]
   show _=YU (c::s.take d)++[s.drop (d+1)]
   rw[YU]
   by_cases hc:c.toNat=47
   ·rw[if_pos hc,if_pos hc,ih];rfl
   ·rw[if_neg hc,if_neg hc,ih]
    cases hs:YU (s.take d) with
    |nil=>exact absurd hs (SH _)
    |cons a b=>rfl
theorem wO: ∀{s:List UInt8} {d:Nat},VF 47 s=d+1->s.take (d+1)=s.take d++[47]
 |[],d,h=>by simp[VF] at h
 |c::s,d,h=>by
  rw[VF] at h
  by_cases h0:VF 47 s=0
  ·rw[if_pos h0] at h
   by_cases hc:c.toNat=47
   ·rw[if_pos hc] at h
    obtain rfl:d=0:=by omega
    rw[uO hc];rfl
   ·rw[if_neg hc] at h;omega
  ·rw[if_neg h0] at h
   obtain⟨e,he⟩: ∃e,VF 47 s=e+1:=⟨VF 47 s - 1,by omega⟩
   obtain rfl:d=e+1:=by omega
   have:=wO he
   show c::s.take (e+1)=c::(s.take e++[47])
   rw[this]
theorem Cc: ∀{s:List UInt8},∀c∈s.drop (VF 47 s),c.toNat≠47
 |[],c,h=>by simp[VF] at h
 |a::s,c,h=>by
  rw[VF] at h
  by_cases h0:VF 47 s=0
  ·rw[if_pos h0] at h
   have ih:= @Cc s
   rw[h0,Yk] at ih
   by_cases hc:a.toNat=47
   ·rw[if_pos hc] at h
    exact ih c h
   ·rw[if_neg hc] at h
    rcases ZO.1 h with rfl|h
    ·exact hc
    ·exact ih c h
  ·rw[if_neg h0] at h
   exact Cc c h
theorem yb: ∀(d b:List UInt8),YU (d++47::b)=YU d++YU b
 |[],b=>rfl
 |c::d,b=>by
  have ih:=yb d b
  rw[Vg,YU,YU]
  by_cases hc:c.toNat=47
  ·rw[if_pos hc,if_pos hc,ih];rfl
  ·rw[if_neg hc,if_neg hc,ih]
   cases hs:YU d with
   |nil=>exact absurd hs (SH _)
   |cons x y=>rfl
theorem rh: ∀(n:Nat) (d acc:List UInt8),d.length<=n->(∀x∈YU d,x≠[])->(YU d).foldl T8 acc=(if acc=[] then [] else acc++[47])++d:=by
 intro n
 induction n with
 |zero=>
  intro d acc h hx
  obtain rfl:d=[]:=YO.1 (by omega)
  exact absurd rfl (hx [] (Zt ..))
 |succ n ih=>
  intro d acc h hx
  cases hf:V6 47 d with
  |zero=>
   rw[Qv hf] at hx ⊢
   show T8 acc d=_
   unfold T8
   rw[if_neg (hx d (Zt ..))]
  |succ j=>
   obtain⟨hj,hc⟩:=yV hf
   rw[M0 hf] at hx ⊢
   rw[Wf]
   have h1:=hx _ (Zt ..)
   have hne:T8 acc (d.take j)=(if acc=[] then [] else acc++[47])++d.take j:=by
    unfold T8;rw[if_neg h1]
   have hn2:T8 acc (d.take j)≠[]:=by
    rw[hne];intro e
    exact h1 (List.append_eq_nil_iff.1 e).2
   rw[ih _ _ (by rw[Ym];omega) λx hx'=>hx x (Zz _ hx'),if_neg hn2,hne]
   have hd:d=d.take j++([47]++d.drop (j+1)):=by
    have e1:d.drop j=d.getD j 0::d.drop (j+1):=by
     rw[List.drop_eq_getElem_cons hj,Zf,Zl hj];rfl
    have e2:=VK j d
    rw[e1,uO hc] at e2
    exact e2.symm
   conv=>rhs;rw[hd]
   simp only[Xj]
def WP(s:List UInt8):Nat:=
 if s=wg then 4 else if Z4 s=[] then 0 else
 if ((Z4 s).take ((Z4 s).length - 1)).all YG then
  (if YG ((Z4 s).getD ((Z4 s).length - 1) []) then(if Tg s then 1 else 0)
   else if (Z4 s).getD ((Z4 s).length - 1) []=xJ then(if Tg (WZ ((Z4 s).take ((Z4 s).length - 1))) then 3 else 0)
   else if Pm B5 ((Z4 s).getD ((Z4 s).length - 1) [])&&YG (((Z4 s).getD ((Z4 s).length - 1) []).drop 4) then(if Tg (WZ [WZ ((Z4 s).take ((Z4 s).length - 1)),((Z4 s).getD ((Z4 s).length - 1) []).drop 4]) then 2 else 0)
   else 0)
 else 0
theorem rK{s:List UInt8}(h:YG s=true):s≠[]:=by
 intro e;subst e;simp[YG] at h
theorem cC{s:List UInt8}(h:Pm B5 s=true):YG s=false:=by
 unfold YG;rw[h];simp
theorem AQ(s:List UInt8):WP s=(We s).1:=by
 unfold WP We
 by_cases h0:s=wg
 ·rw[if_pos h0,if_pos h0]
 rw[if_neg h0,if_neg h0]
 by_cases hE:s=[]
 ·subst hE
  rw[if_pos (show Z4 []=[] from rfl)]
  rfl
 have hN:Z4 s=YU s:=if_neg hE
 rw[if_neg (by rw[hN];exact SH s)]
 have hsc:=yc s
 obtain⟨A,hA⟩:=Sa ((if VF 47 s=0 then [] else YU (s.take (VF 47 s - 1))))
 rw[hA] at hsc
 have hb:s.drop (VF 47 s)=Xk s:=rfl
 rw[hb] at hsc
 have hlen:(Z4 s).length - 1=A.length:=by rw[hN,hsc];simp
 have hL:(Z4 s).getD ((Z4 s).length - 1) []=Xk s:=by
  rw[hlen,hN,hsc,Zf,Yi (Zp _),Rq];rfl
 have hI:(Z4 s).take ((Z4 s).length - 1)=A:=by
  rw[hlen,hN,hsc,List.take_left]
 rw[hL,hI]
 have hall:(Z4 s).all YG=(A.all YG&&YG (Xk s)):=by
  rw[hN,hsc,List.all_append,List.all_cons,List.all_nil,RU]
 have hbn: ∀c∈Xk s,c.toNat≠47:=Cc
 have hbf: ∀k,V6 47 ((Xk s).drop k)=0:=λk=>T5.2 λc hc=>hbn c (VC hc)
 have hdb:VP s++Xk s=s:=VK ..
 have Zff:(VF 47 s=0∧A=[]∧VP s=[])∨ ∃d,VF 47 s=d+1∧A=YU (s.take d)∧VP s=s.take d++[47]:=by
  cases hc:VF 47 s with
  |zero=>
   rw[hc,if_pos rfl] at hA
   exact .inl ⟨rfl,hA.symm,by unfold VP;rw[hc];rfl⟩
  |succ d=>
   rw[hc,if_neg (by omega)] at hA
   exact .inr ⟨d,rfl,hA.symm,by unfold VP;rw[hc];exact wO hc⟩
 have ZaJ: ∀k,VP s++(Xk s).drop k≠[]->Z4 (VP s++(Xk s).drop k)=A++[(Xk s).drop k]:=by
  intro k hne
  unfold Z4
  rw[if_neg hne]
  rcases Zff with⟨_,y2,hd0⟩|⟨d,_,hA1,hd1⟩
  ·rw[y2,hd0,ZY,ZY,Qv (hbf k)]
  ·rw[hA1,hd1,Xj]
   show YU (s.take d++47::(Xk s).drop k)=_
   rw[yb,Qv (hbf k)]
 cases hAll:A.all YG with
 |false=>
  rw[if_neg (by simp)]
  have Zmn: ∃d,VF 47 s=d+1∧A=YU (s.take d)∧VP s=s.take d++[47]:=by
   rcases Zff with⟨_,y2,_⟩|h
   ·rw[y2] at hAll;cases hAll
   ·exact h
  obtain⟨d,hd,hA1,hd1⟩:=Zmn
  have hbad:Ob s=true:=by
   unfold Ob UK
   by_cases h1:TE (Xk s)=1
   ·rw[if_pos h1,hdb]
    have:Tg s=false:=by unfold Tg;rw[hall,hAll];simp
    rw[this];rfl
   ·rw[if_neg h1]
    by_cases h2:TE (Xk s)=2
    ·rw[if_pos h2]
     have hne:VP s++(Xk s).drop 4≠[]:=by rw[hd1];simp
     have:Tg (VP s++(Xk s).drop 4)=false:=by
      unfold Tg;rw[ZaJ 4 hne,List.all_append,hAll];simp
     rw[this];rfl
    ·rw[if_neg h2]
     by_cases h3:s.take d=[]
     ·rw[hd1,h3];simp
     ·have hns:Gm (VP s)=s.take d:=by
       unfold Gm
       rw[hd1]
       rw[if_pos ⟨by rw[Zj];show 1<=_+1;omega,by rw[Zj];show(s.take d++[47]).drop ((s.take d).length+1 - 1)=_;rw[Wk,List.drop_left]⟩]
       rw[Zj]
       show(s.take d++[47]).take ((s.take d).length+1 - 1)=_
       rw[Wk,List.take_left]
      have:Tg (Gm (VP s))=false:=by
       rw[hns]
       unfold Tg Z4
       rw[if_neg h3,<-hA1,hAll,YS]
      rw[this];rfl
  rw[hbad];rfl
 |true=>
  rw[if_pos rfl]
  have hAx: ∀x∈A,YG x=true:=Yo.1 hAll
  have fE:(A=[]∧VP s=[]∧WZ A=[])∨ ∃d,A=YU (s.take d)∧VP s=s.take d++[47]∧WZ A=s.take d∧s.take d≠[]:=by
   rcases Zff with⟨_,y2,hd0⟩|⟨d,_,hA1,hd1⟩
   ·exact .inl ⟨y2,hd0,by rw[y2];rfl⟩
   ·refine .inr ⟨d,hA1,hd1,?_,?_⟩
    ·unfold WZ
     rw[hA1,rh _ _ _ (Zp _) λx hx=>rK (hAx x (by rw[hA1];exact hx)),if_pos rfl,ZY]
    ·intro e
     have:([]:List UInt8)∈A:=by rw[hA1,e];exact Zt ..
     exact rK (hAx _ this) rfl
  have hds:decide (VP s=[47])=false:=by
   refine Zb λe=>?_
   rcases fE with⟨_,hd0,_⟩|⟨d,_,hd1,_,hne⟩
   ·rw[hd0] at e;cases e
   ·rw[hd1] at e
    have:=congrArg List.length e
    rw[Zj] at this
    have:(s.take d).length+1=1:=this
    exact hne (YO.1 (by omega))
  by_cases ho:Xk s=xJ
  ·have hp:Pm B5 (Xk s)=true:=by rw[ho];rfl
   have hl:TE (Xk s)=3:=by unfold TE;rw[if_pos ho]
   rw[cC hp,if_neg (by simp),if_pos ho]
   have ht:UK s=WZ A:=by
    unfold UK
    rw[hl,if_neg (by decide),if_neg (by decide)]
    rcases fE with⟨_,hd0,hj⟩|⟨d,_,hd1,hj,hne⟩
    ·rw[hd0,hj];rfl
    ·rw[hj]
     unfold Gm
     rw[hd1]
     rw[if_pos ⟨by rw[Zj];show 1<=_+1;omega,by rw[Zj];show(s.take d++[47]).drop ((s.take d).length+1 - 1)=_;rw[Wk,List.drop_left]⟩]
     rw[Zj]
     show(s.take d++[47]).take ((s.take d).length+1 - 1)=_
     rw[Wk,List.take_left]
   have hbad:Ob s=!Tg (WZ A):=by
    unfold Ob
    rw[ht,hds,hl];simp
   rw[hbad]
   cases Tg (WZ A) with
   |true=>rw[if_pos rfl];show 3=(if (!true)=true then _ else _:Nat×List UInt8).1;rw[if_neg (by simp)];exact hl.symm
   |false=>rfl
  ·by_cases hp:Pm B5 (Xk s)=true
   ·have hl:TE (Xk s)=2:=by unfold TE;rw[if_neg ho,if_pos hp]
    rw[cC hp,if_neg (by simp),if_neg ho,hp,X9]
    have ht:UK s=VP s++(Xk s).drop 4:=by
     unfold UK
     rw[hl,if_neg (by decide),if_pos rfl]
    cases hm:YG ((Xk s).drop 4) with
    |false=>
     rw[if_neg (by simp)]
     have hbad:Ob s=true:=by unfold Ob;rw[hl,hm];simp
     rw[hbad];rfl
    |true=>
     rw[if_pos rfl]
     have hb4:=rK hm
     have hj2:WZ [WZ A,(Xk s).drop 4]=VP s++(Xk s).drop 4:=by
      show T8 (T8 [] (WZ A)) ((Xk s).drop 4)=_
      rcases fE with⟨_,hd0,hj⟩|⟨d,_,hd1,hj,hne⟩
      ·rw[hj,hd0]
       unfold T8
       rw[if_pos rfl,if_neg hb4,if_pos rfl]
      ·rw[hj,hd1]
       unfold T8
       rw[if_neg hne,if_neg hb4,if_pos rfl,ZY,if_neg hne]
     rw[hj2]
     have hne:VP s++(Xk s).drop 4≠[]:=λe=>hb4 (List.append_eq_nil_iff.1 e).2
     have hbad:Ob s=!Tg (VP s++(Xk s).drop 4):=by
      unfold Ob
      rw[ht,hds,hl,hm,Zb hne];simp
     rw[hbad]
     cases Tg (VP s++(Xk s).drop 4) with
     |true=>rw[if_pos rfl];show 2=(if (!true)=true then _ else _:Nat×List UInt8).1;rw[if_neg (by simp)];exact hl.symm
     |false=>rfl
   ·have hp:Pm B5 (Xk s)=false:=by simpa using hp
    have hl:TE (Xk s)=1:=by unfold TE;rw[if_neg ho,hp];rfl
    have ht:UK s=s:=by unfold UK;rw[hl,if_pos rfl,hdb]
    have hbad:Ob s=!Tg s:=by
     unfold Ob
     rw[ht,hds,hl,Zb hE];simp
    rw[hbad]
    cases hm:YG (Xk s) with
    |true=>
     rw[if_pos rfl]
     cases Tg s with
     |true=>rw[if_pos rfl];show 1=(if (!true)=true then _ else _:Nat×List UInt8).1;rw[if_neg (by simp)];exact hl.symm
     |false=>rfl
    |false=>
     rw[if_neg (by simp),if_neg ho,hp,Z7,if_neg (by simp)]
     have:Tg s=false:=by unfold Tg;rw[hall,hm];simp
     rw[this];rfl
section
variable {Zn:Lib} {fs:T CF} {fuel k n i h b:Nat} {H H0:Heap} {s:List UInt8} {cs:List AV}
def OY(s:List UInt8):List UInt8:=
 if WP s=1 then s else if WP s=3 then WZ ((Z4 s).take ((Z4 s).length - 1)) else if WP s=2 then WZ [WZ ((Z4 s).take ((Z4 s).length - 1)),((Z4 s).getD ((Z4 s).length - 1) []).drop 4] else []
def GW(l:List (List UInt8)):Nat:=(l.map λp=>p.length+1).sum
theorem bU(a b:List (List UInt8)):GW (a++b)=GW a+GW b:=by unfold GW;rw[Xv,List.sum_append]
theorem yd: ∀s:List UInt8,GW (YU s)=s.length+1
 |[]=>rfl
 |c::s=>by
  have ih:=yd s
  rw[YU]
  split
  ·show 0+1+GW (YU s)=_
   rw[ih,ZS];omega
  ·split
   ·rename_i h;exact absurd h (SH s)
   ·rename_i a b h
    rw[h] at ih
    have ih:a.length+1+GW b=_:=ih
    show(c::a).length+1+GW b=_
    rw[ZS,ZS];omega
theorem A3: ∀(l:List (List UInt8)) (out:List UInt8),(l.foldl T8 out).length<=out.length+GW l
 |[],out=>by simp[GW]
 |a::l,out=>by
  have h1:=A3 l (T8 out a)
  have h2:=FA out a
  show _<=out.length+(a.length+1+GW l)
  rw[Wf];omega
theorem qK{l:List (List UInt8)}{m:Nat}(h:m<l.length):l.take (m+1)=l.take m++[l.getD m []]:=by
 rw[WR,Zf,Zl h];rfl
theorem yq(l:List (List UInt8)):(NL l).flatten=l.map .str:=by
 induction l with
 |nil=>rfl
 |cons a l ih=>
  show [AV.str a]++(NL l).flatten=_
  rw[ih];rfl
theorem ir(h:s≠[]):(WZ ((Z4 s).take ((Z4 s).length - 1))).length<=s.length∧(WZ [WZ ((Z4 s).take ((Z4 s).length - 1)),((Z4 s).getD ((Z4 s).length - 1) []).drop 4]).length<=s.length+1:=by
 have hN:Z4 s=YU s:=if_neg h
 have hne:(Z4 s).length≠0:=by rw[hN];intro e;exact SH s (YO.1 e)
 have hs:GW (Z4 s)=s.length+1:=by rw[hN];exact yd s
 have ht:Z4 s=(Z4 s).take ((Z4 s).length - 1)++[(Z4 s).getD ((Z4 s).length - 1) []]:=by
  have:=qK (l:=Z4 s) (m:=(Z4 s).length - 1) (by omega)
  rw[show(Z4 s).length - 1+1=(Z4 s).length by omega,XV] at this
  exact this
 generalize(Z4 s).take ((Z4 s).length - 1)=A at*
 generalize(Z4 s).getD ((Z4 s).length - 1) []=b at*
 rw[ht,bU] at hs
 have hb:GW [b]=b.length+1:=rfl
 have h1:=A3 A []
 have h1:(WZ A).length<=0+GW A:=h1
 refine⟨by omega,?_⟩
 have h3:=FA (T8 [] (WZ A)) (b.drop 4)
 have h4:(T8 [] (WZ A)).length<=(WZ A).length:=by
  unfold T8
  split
  ·exact ZZ _
  ·rw[if_pos rfl,ZY];exact Zp _
 rw[Ym] at h3
 show(T8 (T8 [] (WZ A)) (b.drop 4)).length<=_
 omega
theorem cB{b:List UInt8}(h:Pm [46,119,104,46] b=true):4<=b.length:=by
 unfold Pm at h
 rw[Yw] at h
 exact Zm h.1
structure CDI(s b:List UInt8)(v:AV)(l:List (List UInt8))(H0:Heap)(m:Nat)(tm:TM)(H:Heap):Prop where
 heap:H=H0
 t0:Yb tm=.str s
 t4:Y4 tm=v
 t5:YW tm=.str b
 i: ∃i,XI tm=nI .i64 i∧i+m=l.length - 1∧ ∀j,j<i->YG (l.getD j [])=true
def CDQ(s b:List UInt8)(v:AV)(l:List (List UInt8))(H0:Heap)(o:Out)(tm:TM)(H:Heap):Prop:=H=H0∧((o=.ret∧VX tm=nI .i64 0∧W8 tm=.str []∧(l.take (l.length - 1)).all YG=false)∨(o=.exit 0∧Yb tm=.str s∧Y4 tm=v∧YW tm=.str b∧(l.take (l.length - 1)).all YG=true))
theorem A7{l:List (List UInt8)}(h:i<k):(l.take k).getD i []=l.getD i []:=by
 rw[Zf,Xe h,<-Zf]
theorem Zad(E:Env Zn fs fuel){b:List UInt8}{v:AV}{l:List (List UInt8)}(hl:l.length<=90001)(h1:1<=l.length)(hs: ∀x∈l,x.length<=90000)(hN:Sl H0 1 v (NL l))(y f dd q)(X0:X)(m:Nat)(tm:TM)(H:Heap)(hI:CDI s b v l H0 m tm H):
  ∃o tm' H',Fh ⟨ZE (LK Zn fs fuel 4) fs fuel (n+1),y,f,dd,q⟩ tm H X0=.ok o tm' H' X0∧((o=.normal∧ ∃k,k<m∧CDI s b v l H0 k tm' H')∨(o≠.normal∧CDQ s b v l H0 o tm' H')):=by
 obtain⟨rfl,t0,t4,t5,i,t6,him,hn⟩:=hI
 have t0':=t0;have Qk:=t4;have PE:=t5
 simp only[Sb,Tp,QP,EU] at t0 t4 t5 t6
 have ln: ∀G,NV v G=.val (nI .i64 l.length) G:=λG=>by rw[hN.len,UD]
 have hlt:(l.take (l.length - 1)).length=l.length - 1:=by rw[ZC];omega
 cases m with
 |zero=>
  have d1:decide (i<l.length - 1)=false:=Zb (by omega)
  simp(disch:=omega) only[t4,t6,ln,d1,Zy,XL,Fh,Zu,Ye,Z6]
  refine⟨_,_,_,rfl,?_⟩
  exact .inr ⟨by simp,rfl,.inr ⟨rfl,t0',Qk,PE,tM λj hj=>by rw[hlt] at hj;rw[A7 hj];exact hn j (by omega)⟩⟩
 |succ m=>
  have hi:i<l.length - 1:=by omega
  have d1:decide (i<l.length - 1)=true:=Ze hi
  obtain⟨bb,o,r,eI,hb,gb,_,eE⟩:=hN.at_ (i:=i) (by rw[UD];omega)
  have e0: ∀G,ld1 (some (.row r)) o G=.val (.str (l.getD i [])) G:=λG=>by
   have:=eE 0 G (by decide)
   rw[Do (by omega)] at this;exact this
  have hpl:(l.getD i []).length<=90000:=hs _ (by rw[Zf,Zl (by omega)];exact Xd (by omega))
  have e1:=λ{j}=>pu E (k:=4) (n:=j) (by decide) (H:=H) hpl
  cases hm:YG (l.getD i []) with
  |true=>
   rw[hm] at e1
   simp(disch:=omega) only[t4,t6,ln,d1,eI,gb,e0,e1,Zy,XL,YI,Fh,Zu,Ye,Z8,Z6,Vk]
   refine⟨_,_,_,rfl,.inl ⟨rfl,m,by omega,rfl,t0',Qk,PE,i+1,rfl,by omega,λj hj=>?_⟩⟩
   by_cases h:j=i
   ·rw[h];exact hm
   ·exact hn j (by omega)
  |false=>
   rw[hm] at e1
   simp(disch:=omega) only[t4,t6,ln,d1,eI,gb,e0,e1,Zy,XL,Fh,Zu,Ye,Z8,Z6,Vk]
   refine⟨_,_,_,rfl,?_⟩
   exact .inr ⟨by simp,rfl,.inl ⟨rfl,rfl,rfl,xy (i:=i) (by rw[hlt];exact hi) (by rw[A7 hi];exact hm)⟩⟩
theorem sE(E:Env Zn fs fuel)(hs:s.length<=80000)(hro:H.ro<=H.nx):
  ∃H',ZE (LK Zn fs fuel 4) fs fuel (n+2) 35 [.str s] H=.ret (.tup [nI .i64 (WP s),.str (OY s)]) H'∧Zs H H' []:=by
 rw[ZI (ZA E.n35 (.inl (by decide)) _ _) E.f35]
 have hf:=E.big
 by_cases h0:s=[46,119,104,46,46,119,104,46,116,111,99]
 ·have d0:decide (s=[46,119,104,46,46,119,104,46,116,111,99])=true:=Ze h0
  have hc:WP s=4:=by unfold WP;rw[if_pos (show s=wg from h0)]
  have hg:OY s=[]:=by unfold OY;rw[hc];rfl
  rw[hc,hg]
  simp only[d0,YT,c35,Zu,Ye,Zw,Z6,]
  refine⟨_,rfl,?_⟩
  exact Zs.refl _ _
 have d0:decide (s=[46,119,104,46,46,119,104,46,116,111,99])=false:=Zb h0
 have h0': ¬s=wg:=h0
 have hnl:=FK s
 have hns: ∀x∈Z4 s,x.length<=s.length:=λx hx=>Ku hx
 obtain⟨v,H1,e1,hw,k1⟩:=iK E (k:=4) (n:=n) (s:=s) (by omega) (H:=H) hro
 have hN:=Sl.of_buf hw
 have ln: ∀G,NV v G=.val (nI .i64 (Z4 s).length) G:=λG=>by rw[hN.len,UD]
 by_cases hE:s=[]
 ·have hz:Z4 s=[]:=by rw[hE];rfl
  have dz:decide ((Z4 s).length=0)=true:=Ze (by rw[hz];rfl)
  have hc:WP s=0:=by unfold WP;rw[if_neg h0',if_pos hz]
  have hg:OY s=[]:=by unfold OY;rw[hc];rfl
  rw[hc,hg]
  simp only[d0,e1,ln,dz,YL,YT,c35,Zu,Ye,Zw,Z6,]
  refine⟨_,rfl,?_⟩
  exact k1
 have hz:Z4 s≠[]:=by
  unfold Z4;rw[if_neg hE];exact SH s
 have hpos:1<=(Z4 s).length:=Tc.2 hz
 have dz:decide ((Z4 s).length=0)=false:=Zb (by omega)
 obtain⟨cl1,cl2⟩:=ir hE
 have MX:H1.ro<=H1.nx:=by rw[k1.ro];exact Z5 hro k1.nx
 obtain⟨bb,o,r,eI,hb,gb,_,eE⟩:=hN.at_ (i:=(Z4 s).length - 1) (by rw[UD];omega)
 have e0: ∀G,ld1 (some (.row r)) o G=.val (.str ((Z4 s).getD ((Z4 s).length - 1) [])) G:=λG=>by
  have:=eE 0 G (by decide)
  rw[Do (by omega)] at this;exact this
 have hbl:((Z4 s).getD ((Z4 s).length - 1) []).length<=90000:=Z5 (hns _ (by rw[Zf,Zl (by omega)];exact Xd (by omega))) (by omega)
 obtain⟨A,hA⟩:=Sa ((Z4 s).take ((Z4 s).length - 1))
 obtain⟨b,hB⟩:=Sa ((Z4 s).getD ((Z4 s).length - 1) [])
 have hAs: ∀x∈A,x.length<=90000:=λx hx=>by
  have:=hns x (by rw[<-hA] at hx;exact X5 hx)
  omega
 have hAl:A.length<=90001:=by rw[<-hA,ZC];omega
 obtain⟨v2,sl,hN2⟩: ∃v2,(∀G:Heap,G.t=H1.t->Pq 1 v none (some (nI .i64 ((Z4 s).length - 1:Nat))) G=.val v2 G)∧Sl H1 1 v2 (NL A):=by
  rcases hw with⟨e,_⟩|⟨hne,bk,rr,ev,hr,_⟩
  ·exfalso;unfold NL at e;exact hz (List.map_eq_nil_iff.1 e)
  ·rw[UD] at ev
   refine⟨.slice bk 0 ((Z4 s).length - 1) none,λG hG=>?_,?_⟩
   ·rw[ev]
    exact z4 (by rw[hG];exact hr.at_) hr.szr (by rw[hr.size,UD,Xl]) (by omega) (by omega) .i64
   ·have hlen:A.length=(Z4 s).length - 1:=by rw[<-hA,ZC];omega
    refine⟨λl hl=>?_,.inr ⟨bk,0,none,by rw[UD,hlen],hr.low,λ_=>⟨rr,hr.at_,by rw[UD,hlen,hr.size,UD];omega,λi hi=>?_⟩⟩⟩
    ·unfold NL at hl
     obtain⟨p,_,rfl⟩:=YQ.1 hl
     rfl
    ·rw[UD,hlen] at hi
     rw[Zd,hr.cells.get i (by rw[flat_len hr.each,UD];omega),yq,yq,Zf,Zf,YE,YE,<-hA,Xe (by omega)]
 have sl:=sl H1 rfl
 simp(disch:=omega) only[d0,e1,ln,dz,eI,gb,e0,YL,YT,XL,c35,Zu,Ye,Z6,]
 rw[hB]
 generalize hL:Wv (Fh _) fuel _ _ _=L
 obtain⟨o,Pu,H2,rfl,_,rfl,z⟩:=YA (P:=λT=>CDI s b v (Z4 s) H1 ((Z4 s).length - 1) T H1) (Q:=CDQ s b v (Z4 s) H1)
  (λT hi=>YP (CDI s b v (Z4 s) H1) (CDQ s b v (Z4 s) H1) (λm tm H1 h=>Zad E (by omega) hpos (λx hx=>Z5 (hns x hx) (by omega)) hN _ _ _ _ _ m tm H1 h) fuel ((Z4 s).length - 1) T H1 (by omega) hi) hL
  (by exact⟨rfl,rfl,rfl,rfl,0,rfl,by omega,λj hj=>by omega⟩)
 rcases z with⟨rfl,t2,t3,e⟩|⟨rfl,t0,t4,t5,e⟩
 ·simp only[IN,Px] at t2 t3
  have hc:WP s=0:=by unfold WP;rw[if_neg h0',if_neg hz,e];rfl
  have hg:OY s=[]:=by unfold OY;rw[hc];rfl
  rw[hc,hg]
  simp only[t2,t3,Zu,Zw,Z6,]
  refine⟨_,rfl,?_⟩
  exact k1
 ·simp only[Sb,Tp,QP] at t0 t4 t5
  have hIf: ∀x y:Nat,(if ((Z4 s).take ((Z4 s).length - 1)).all YG then x else y)=x:=λx y=>by rw[e];rfl
  rw[hA] at cl1 cl2
  rw[hB] at hbl cl2
  have j1:=λ{q}=>ZcY E (k:=4) (n:=q) (by decide) (H:=H2) hAl hAs hN2
  have eb:=λ{q}=>pu E (k:=4) (n:=q) (by decide) (H:=H2) hbl
  cases hm:YG b with
  |true=>
   rw[hm] at eb
   have em:=λ{q}=>iG E (k:=4) (n:=q) (by decide) (s:=s) (H:=H2) (by omega) MX
   cases hp:Tg s with
   |true=>
    rw[hp] at em
    have hc:WP s=1:=by unfold WP;rw[if_neg h0',if_neg hz,hIf,hB,hm,hp];rfl
    have hg:OY s=s:=by unfold OY;rw[if_pos hc]
    rw[hc,hg]
    simp(disch:=omega) only[t0,t4,t5,ln,sl,j1,eb,em,YL,XL,decide_false,Zu,Ye,Zw,Z8,reduceCtorEq,Z6,Vk,QS]
    refine⟨_,rfl,?_⟩
    exact k1
   |false=>
    rw[hp] at em
    have hc:WP s=0:=by unfold WP;rw[if_neg h0',if_neg hz,hIf,hB,hm,hp];rfl
    have hg:OY s=[]:=by unfold OY;rw[hc];rfl
    rw[hc,hg]
    simp(disch:=omega) only[t0,t4,t5,ln,sl,j1,eb,em,YL,XL,decide_false,Zu,Ye,Zw,Z8,reduceCtorEq,Z6,Vk,QS]
    refine⟨_,rfl,?_⟩
    exact k1
  |false=>
   rw[hm] at eb
   by_cases ho:b=[46,119,104,46,46,119,104,46,46,111,112,113]
   ·have do_:decide (b=[46,119,104,46,46,119,104,46,46,111,112,113])=true:=Ze ho
    have ho':b=xJ:=ho
    have em:=λ{q}=>iG E (k:=4) (n:=q) (by decide) (s:=WZ A) (H:=H2) (by omega) MX
    cases hp:Tg (WZ A) with
    |true=>
     rw[hp] at em
     have hc:WP s=3:=by unfold WP;rw[if_neg h0',if_neg hz,hIf,hB,hm,if_neg (by simp),if_pos ho',hA,hp];rfl
     have hg:OY s=WZ A:=by unfold OY;rw[if_neg (by rw[hc];decide),if_pos hc,hA]
     rw[hc,hg]
     simp(disch:=omega) only[t4,t5,ln,sl,j1,eb,do_,em,YL,YT,XL,decide_false,Zu,Ye,Zw,Z8,reduceCtorEq,Z6,Vk,QS]
     refine⟨_,rfl,?_⟩
     exact k1
    |false=>
     rw[hp] at em
     have hc:WP s=0:=by unfold WP;rw[if_neg h0',if_neg hz,hIf,hB,hm,if_neg (by simp),if_pos ho',hA,hp];rfl
     have hg:OY s=[]:=by unfold OY;rw[hc];rfl
     rw[hc,hg]
     simp(disch:=omega) only[t4,t5,ln,sl,j1,eb,do_,em,YL,YT,XL,decide_false,Zu,Ye,Zw,Z8,reduceCtorEq,Z6,Vk,QS]
     refine⟨_,rfl,?_⟩
     exact k1
   ·have do_:decide (b=[46,119,104,46,46,119,104,46,46,111,112,113])=false:=Zb ho
    have ho': ¬b=xJ:=ho
    have eg:=λ{q}=>jN E (k:=4) (n:=q) (by decide) (H:=H2) (p:=[46,119,104,46]) hbl
    cases hw2:Pm [46,119,104,46] b with
    |false=>
     rw[hw2] at eg
     have fI:Pm B5 b=false:=hw2
     have hc:WP s=0:=by unfold WP;rw[if_neg h0',if_neg hz,hIf,hB,hm,if_neg (by simp),if_neg ho',fI,Z7];rfl
     have hg:OY s=[]:=by unfold OY;rw[hc];rfl
     rw[hc,hg]
     simp(disch:=omega) only[t4,t5,ln,sl,j1,eb,do_,eg,YL,YT,XL,decide_true,Zu,Ye,Zw,Z8,Z6,Vk,QS]
     refine⟨_,rfl,?_⟩
     exact k1
    |true=>
     rw[hw2] at eg
     have fI:Pm B5 b=true:=hw2
     have h4:=cB hw2
     have e4:=λ{q}=>pu E (k:=4) (n:=q) (by decide) (s:=b.drop 4) (H:=H2) (by rw[Ym];omega)
     have s4:=λG=>Ur h4 .i64 G
     cases hm4:YG (b.drop 4) with
     |false=>
      rw[hm4] at e4
      have hc:WP s=0:=by unfold WP;rw[if_neg h0',if_neg hz,hIf,hB,hm,if_neg (by simp),if_neg ho',fI,hm4];rfl
      have hg:OY s=[]:=by unfold OY;rw[hc];rfl
      rw[hc,hg]
      simp(disch:=omega) only[t4,t5,ln,sl,j1,eb,do_,eg,e4,s4,YL,YT,XL,decide_true,Zu,Ye,Zw,Z8,Z6,Vk,QS]
      refine⟨_,rfl,?_⟩
      exact k1
     |true=>
      rw[hm4] at e4
      have bs: ∀(a q:List UInt8) (G:Heap),UU 9 1 2 [.str [],.str []] [(0,1,.str a),(1,1,.str q)] G=.val (.slice G.nx 0 2 none) (G.new (rH 9 [.str a,.str q])):=λ_ _ _=>rfl
      obtain⟨H3,hH3⟩:=Sa (H2.new (rH 9 [.str (WZ A),.str (b.drop 4)]))
      have k3:Zs H2 H3 []:=by rw[<-hH3];exact Zs.new _ _ _
      have g3:H3.t.get H2.nx=some (rH 9 [.str (WZ A),.str (b.drop 4)]):=by rw[<-hH3];exact ZW rfl _
      have n3:H3.nx=H2.nx+1:=by rw[<-hH3];rfl
      have ro3:H3.ro<=H3.nx:=by rw[k3.ro];omega
      have hN3:Sl H3 1 (.slice H2.nx 0 2 none) (NL [WZ A,b.drop 4]):=Sl.of_rG (ls:=NL [WZ A,b.drop 4]) g3 (by omega) (λl hl=>by
       unfold NL at hl
       obtain⟨p,_,rfl⟩:=YQ.1 hl
       rfl)
      have j2:=λ{q}=>ZcY E (k:=4) (n:=q) (by decide) (H:=H3) (l:=[WZ A,b.drop 4]) (by show 2<=_;decide) (λx hx=>by
       rcases ZO.1 hx with rfl|hx
       ·omega
       ·rw[Zq.1 hx,Ym];omega) hN3
      have em:=λ{q}=>iG E (k:=4) (n:=q) (by decide) (s:=WZ [WZ A,b.drop 4]) (H:=H3) (by omega) ro3
      cases hp:Tg (WZ [WZ A,b.drop 4]) with
      |true=>
       rw[hp] at em
       have hc:WP s=2:=by unfold WP;rw[if_neg h0',if_neg hz,hIf,hB,hm,if_neg (by simp),if_neg ho',fI,hm4,hA,hp];rfl
       have hg:OY s=WZ [WZ A,b.drop 4]:=by unfold OY;rw[if_neg (by rw[hc];decide),if_neg (by rw[hc];decide),if_pos hc,hA,hB]
       rw[hc,hg]
       simp(disch:=omega) only[t4,t5,ln,sl,j1,eb,do_,eg,e4,s4,bs,hH3,j2,em,Ys,ZD,ZM,Wa,List.replicate_zero,XY,List.flatten_nil,Vg,ZY,YL,YT,XL,decide_false,Zu,Ye,Zw,Z8,reduceCtorEq,Z6,Vk,QS]
       refine⟨_,rfl,?_⟩
       exact k1.trans' k3
      |false=>
       rw[hp] at em
       have hc:WP s=0:=by unfold WP;rw[if_neg h0',if_neg hz,hIf,hB,hm,if_neg (by simp),if_neg ho',fI,hm4,hA,hp];rfl
       have hg:OY s=[]:=by unfold OY;rw[hc];rfl
       rw[hc,hg]
       simp(disch:=omega) only[t4,t5,ln,sl,j1,eb,do_,eg,e4,s4,bs,hH3,j2,em,Ys,ZD,ZM,Wa,List.replicate_zero,XY,List.flatten_nil,Vg,ZY,YL,YT,XL,decide_false,Zu,Ye,Zw,Z8,reduceCtorEq,Z6,Vk,QS]
       refine⟨_,rfl,?_⟩
       exact k1.trans' k3
theorem ZeO(E:Env Zn fs fuel)(hk:5<=k)(hs:s.length<=80000)(hro:H.ro<=H.nx):
  ZE (LK Zn fs fuel k) fs fuel (n+1) 35 [.str s] H=.ret (.tup [nI .i64 (WP s),.str (OY s)]) H:=by
 obtain⟨H',e,g⟩:=sE E (n:=898) (H:=H) hs hro
 exact Yl (r:=4) rfl rfl e g (rfl) hk
theorem nq(s:List UInt8):Ts [0,61,10] s=(Ts [UInt8.ofNat 0] s||Ts [UInt8.ofNat 61] s||Ts [UInt8.ofNat 10] s):=by
 unfold Ts
 induction s with
 |nil=>rfl
 |cons a s ih=>
  simp only[List.any_cons]
  rw[ih]
  have h:decide (a∈([0,61,10]:List UInt8))=(decide (a∈([UInt8.ofNat 0]:List UInt8))||decide (a∈([UInt8.ofNat 61]:List UInt8))||decide (a∈([UInt8.ofNat 10]:List UInt8))):=by
   rw[Vb]
   simp only[Uz,decide_eq_true_eq,ZO,Ua,or_false]
   constructor
   ·rintro (h|h|h)
    ·exact .inl (.inl h)
    ·exact .inl (.inr h)
    ·exact .inr h
   ·rintro ((h|h)|h)
    ·exact .inl h
    ·exact .inr (.inl h)
    ·exact .inr (.inr h)
  rw[h]
  generalize decide (a∈([UInt8.ofNat 0]:List UInt8))=x
  generalize decide (a∈([UInt8.ofNat 61]:List UInt8))=y
  generalize decide (a∈([UInt8.ofNat 10]:List UInt8))=z
  cases x<;>cases y<;>cases z<;>simp
theorem pE(s:List UInt8):decide (V6 0 s=0)=!Ts [UInt8.ofNat 0] s:=by
 cases h:Ts [UInt8.ofNat 0] s with
 |true=>
  refine Zb λe=>?_
  unfold Ts at h
  rw[Qi] at h
  obtain⟨x,hx,hd⟩:=h
  have hd:=Zm hd
  rw[Zq.1 hd] at hx
  exact T5.1 e _ hx rfl
 |false=>
  refine Ze (T5.2 λc hc e=>?_)
  rw[TZ] at h
  refine h ?_
  unfold Ts
  rw[Qi]
  exact⟨c,hc,Ze (Zq.2 ((Ox (by decide)).1 e))⟩
abbrev ndO(m:Mem)(av dv:AV):Obj:=rH 34 [.int .i64 m.kind,nI .u32 m.mode,nI .u32 m.uid,nI .u32 m.gid,.int .i64 m.time,av,dv,.str m.link]
structure DAI(H0:Heap)(q:Nat)(l:List NP)(m:Nat)(tm:TM)(H:Heap):Prop where
 heap:H=H0
 t5:YW tm=.ptr q 0
 i: ∃i,XI tm=nI .i64 i∧i+m=l.length∧ ∀j,j<i->dL l j=true
def DAQ(H0:Heap)(q:Nat)(l:List NP)(o:Out)(tm:TM)(H:Heap):Prop:=H=H0∧((o=.ret∧VX tm=.bool false∧Pb l=false)∨(o=.exit 0∧YW tm=.ptr q 0∧Pb l=decide (l.length<=16)))
theorem Zah(E:Env Zn fs fuel){av dv:AV}{me:Mem}{q:Nat}{l:List NP}(hl:l.length<=90000)(hs: ∀i,i<l.length->(l.getD i ([],[])).1.length<=90000)(gq:H0.t.get q=some (ndO me av dv))(hN:Sz H0 2 av (V8 l))(y f dd qq)(X0:X)(m:Nat)(tm:TM)(H:Heap)(hI:DAI H0 q l m tm H):
  ∃o tm' H',OD ⟨ZE (LK Zn fs fuel 5) fs fuel (n+1),y,f,dd,qq⟩ tm H X0=.ok o tm' H' X0∧((o=.normal∧ ∃k,k<m∧DAI H0 q l k tm' H')∨(o≠.normal∧DAQ H0 q l o tm' H')):=by
 obtain⟨rfl,t5,i,t6,him,hn⟩:=hI
 have PE:=t5
 simp only[QP,EU] at t5 t6
 have ln:=hN.len
 rw[XK] at ln
 have l5: ∀G,ld1 (some (ndO me av dv)) 5 G=.val av G:=λG=>by rw[WH (show 5<8 by decide)];rfl
 cases m with
 |zero=>
  have d1:decide (i<l.length)=false:=Zb (by omega)
  simp only[t5,t6,gq,l5,ln,d1,Zy,Zd,Zd,OD,Zu,Ye,Z6,Vk]
  refine⟨_,_,_,rfl,?_⟩
  exact .inr ⟨by simp,rfl,.inr ⟨rfl,PE,eW λj hj=>hn j (by omega)⟩⟩
 |succ m=>
  have d1:decide (i<l.length)=true:=Ze (by omega)
  have hi:i<l.length:=by omega
  obtain⟨b,o,r,eI,hb,gb,_,eE⟩:=hN.at_ (i:=i) (by rw[XK];omega)
  have ra:=Sy hi
  have e0:=λG=>eE 0 G (by decide)
  rw[ra,Zg] at e0
  simp only[ZV] at e0
  have tH:dL l i=(!decide ((l.getD i ([],[])).1=[])&&decide ((l.getD i ([],[])).1.length<=242)&&!Ts [0,61,10] (l.getD i ([],[])).1&&(decide (i=0)||!W5 (l.getD (i - 1) ([],[])).1 (l.getD i ([],[])).1)):=rfl
  have hpl:=hs i hi
  generalize hp:(l.getD i ([],[])).1=p at*
  rw[nq] at tH
  have f1:=λ{j}=>ZaC E (k:=5) (n:=j) (by decide) (H:=H) (s:=p) (x:=0) (by decide) hpl
  have f2:=λ{j}=>ZaC E (k:=5) (n:=j) (by decide) (H:=H) (s:=p) (x:=61) (by decide) hpl
  have f3:=λ{j}=>ZaC E (k:=5) (n:=j) (by decide) (H:=H) (s:=p) (x:=10) (by decide) hpl
  by_cases h1:p=[]
  ·have d2:decide (p=[])=true:=Ze h1
   simp only[t5,t6,gq,l5,ln,d1,eI,gb,e0,d2,Zy,YT,Zg,Zd,Zd,Zg,OD,Zu,Ye,Z6,Vk,QS]
   refine⟨_,_,_,rfl,?_⟩
   exact .inr ⟨by simp,rfl,.inl ⟨rfl,rfl,J1 hi (by rw[tH];rw[d2];rfl)⟩⟩
  have d2:decide (p=[])=false:=Zb h1
  by_cases h2:242<p.length
  ·have d3:decide (242<p.length)=true:=Ze h2
   simp only[t5,t6,gq,l5,ln,d1,eI,gb,e0,d2,d3,Zy,Z3,YT,ZG,Zg,Zd,Zd,Zg,OD,Zu,Ye,Z6,Vk,QS]
   refine⟨_,_,_,rfl,?_⟩
   exact .inr ⟨by simp,rfl,.inl ⟨rfl,rfl,J1 hi (by rw[tH];rw[Zb (show ¬p.length<=242 by omega)];simp)⟩⟩
  have d3:decide (242<p.length)=false:=Zb h2
  have d3':decide (p.length<=242)=true:=Ze (by omega)
  cases c1:Ts [UInt8.ofNat 0] p with
  |true=>
   rw[c1] at f1
   simp only[t5,t6,gq,l5,ln,d1,eI,gb,e0,d2,d3,f1,Zy,Z3,YT,ZG,Zg,Zd,Zd,Zg,OD,Zu,Ye,Z6,Vk,QS]
   refine⟨_,_,_,rfl,?_⟩
   exact .inr ⟨by simp,rfl,.inl ⟨rfl,rfl,J1 hi (by rw[tH];rw[c1];simp)⟩⟩
  |false=>
   rw[c1] at f1
   cases c2:Ts [UInt8.ofNat 61] p with
   |true=>
    rw[c2] at f2
    simp only[t5,t6,gq,l5,ln,d1,eI,gb,e0,d2,d3,f1,f2,Zy,Z3,YT,ZG,Zg,Zd,Zd,Zg,OD,Zu,Ye,Z6,Vk,QS]
    refine⟨_,_,_,rfl,?_⟩
    exact .inr ⟨by simp,rfl,.inl ⟨rfl,rfl,J1 hi (by rw[tH];rw[c2];simp)⟩⟩
   |false=>
    rw[c2] at f2
    cases c3:Ts [UInt8.ofNat 10] p with
    |true=>
     rw[c3] at f3
     simp only[t5,t6,gq,l5,ln,d1,eI,gb,e0,d2,d3,f1,f2,f3,Zy,Z3,YT,ZG,Zg,Zd,Zd,Zg,OD,Zu,Ye,Z6,Vk,QS]
     refine⟨_,_,_,rfl,?_⟩
     exact .inr ⟨by simp,rfl,.inl ⟨rfl,rfl,J1 hi (by rw[tH];rw[c3];simp)⟩⟩
    |false=>
     rw[c3] at f3
     by_cases h0:i=0
     ·have d4:decide (0<i)=false:=Zb (by omega)
      simp(disch:=omega) only[t5,t6,gq,l5,ln,d1,eI,gb,e0,d2,d3,f1,f2,f3,d4,Zy,Z3,YT,YI,ZG,Zg,Zd,Zd,Zg,OD,Zu,Ye,Z6,Vk,QS]
      refine⟨_,_,_,rfl,.inl ⟨rfl,m,by omega,rfl,PE,i+1,rfl,by omega,λq hq=>?_⟩⟩
      obtain rfl:q=i:=by omega
      rw[tH,d2,d3',c1,c2,c3,Ze h0];rfl
     ·have d4:decide (0<i)=true:=Ze (by omega)
      obtain⟨b2,o2,r2,iM,hb2,ID,_,eE2⟩:=hN.at_ (i:=i - 1) (by rw[XK];omega)
      have eF:=λG=>eE2 0 G (by decide)
      rw[Sy (by omega),Zg] at eF
      simp only[ZV] at eF
      cases hg:W5 (l.getD (i - 1) ([],[])).1 p with
      |true=>
       simp(disch:=omega) only[t5,t6,gq,l5,ln,d1,eI,gb,e0,d2,d3,f1,f2,f3,d4,iM,ID,eF,hg,Zy,Z3,YT,XL,ZG,Zg,Zd,Zd,Zg,geS,OD,Zu,Ye,Z6,Vk,QS]
       refine⟨_,_,_,rfl,?_⟩
       exact .inr ⟨by simp,rfl,.inl ⟨rfl,rfl,J1 hi (by rw[tH];rw[hg,Zb h0];simp)⟩⟩
      |false=>
       simp(disch:=omega) only[t5,t6,gq,l5,ln,d1,eI,gb,e0,d2,d3,f1,f2,f3,d4,iM,ID,eF,hg,Zy,Z3,YT,XL,YI,ZG,Zg,Zd,Zd,Zg,geS,OD,Zu,Ye,Z6,Vk,QS]
       refine⟨_,_,_,rfl,.inl ⟨rfl,m,by omega,rfl,PE,i+1,rfl,by omega,λq hq=>?_⟩⟩
       by_cases hqi:q=i
       ·rw[hqi,tH,d2,d3',c1,c2,c3,hg];simp
       ·exact hn q (by omega)
theorem wS(E:Env Zn fs fuel){m:Mem}(hs:JJ m)(hk:m.link.length<=90000)(hro:H.ro<=H.nx)(hm:QN H cs m):
  ∃H',ZE (LK Zn fs fuel 5) fs fuel (n+2) 10 [.agg cs] H=.ret (.bool (YZ m)) H'∧Zs H H' []:=by
 rw[ZI (ZA E.n10 (.inl (by decide)) _ _) E.f10]
 have hf:=E.big
 obtain⟨av,dv,rfl,hA,hD⟩:=hm
 obtain⟨H1,hH1⟩:=Sa (H.new (rH 36 [.str m.path,.int .i64 m.kind,nI .u32 m.mode,nI .u32 m.uid,nI .u32 m.gid,.int .i64 m.time,av,dv,.str m.link]))
 obtain⟨H2,hH2⟩:=Sa (H1.new (rH 34 [.int .i64 m.kind,nI .u32 m.mode,nI .u32 m.uid,nI .u32 m.gid,.int .i64 m.time,av,dv,.str m.link]))
 have k1:Zs H H1 []:=by rw[<-hH1];exact Zs.new _ _ _
 have k2:Zs H H2 []:=by rw[<-hH2];exact k1.then_new _
 have g1:H1.t.get H.nx=some (rH 36 [.str m.path,.int .i64 m.kind,nI .u32 m.mode,nI .u32 m.uid,nI .u32 m.gid,.int .i64 m.time,av,dv,.str m.link]):=by rw[<-hH1];exact ZW rfl _
 have gD:H2.t.get H1.nx=some (ndO m av dv):=by rw[<-hH2];exact ZW rfl _
 have g2:H2.t.get H1.nx=some (rH 34 [.int .i64 m.kind,nI .u32 m.mode,nI .u32 m.uid,nI .u32 m.gid,.int .i64 m.time,av,dv,.str m.link]):=gD
 have MX:H1.ro<=H1.nx:=by rw[k1.ro];exact Z5 hro k1.nx
 have sf:=Tn (n:=8) (b:=H1.nx) (l:=[nI .i64 0,nI .u32 0,nI .u32 0,nI .u32 0,nI .i64 0,.nils,.nils,.str []]) (vs:=[.int .i64 m.kind,nI .u32 m.mode,nI .u32 m.uid,nI .u32 m.gid,.int .i64 m.time,av,dv,.str m.link]) (H:=H1.new (rH 34 [nI .i64 0,nI .u32 0,nI .u32 0,nI .u32 0,nI .i64 0,.nils,.nils,.str []])) rfl rfl (by decide) (by show H1.ro<=_;exact MX) 34 1 false true
 rw[Tm rfl,hH2] at sf
 have ec:=λ{j}=>ZeO E (k:=5) (n:=j) (by decide) (s:=m.path) (H:=H1) hs.path MX
 rw[AQ] at ec
 have ln:=hD.len
 rw[TB] at ln
 have lA:=hA.len
 rw[XK] at lA
 have hA2:=hA.keep0 k2
 by_cases h1:(We m.path).1=0
 ·have d1:decide ((We m.path).1=0)=true:=Ze h1
  rw[show YZ m=false by unfold YZ;rw[d1];rfl]
  simp(disch:=first|assumption|omega|(simp -implicitDefEqProofs only[X3,X4]<;>first|assumption|omega)|decide) only[ec,g1,sf,hH1,WH,Vr,XS,d1,YL,Zg,Zd,Zd,Zg,Y8,Yk,Y3,YN,ZV,c10,Zu,Ye,Zw,Z6,Vk,]
  refine⟨_,rfl,?_⟩
  exact k2
 have d1:decide ((We m.path).1=0)=false:=Zb h1
 by_cases h2:m.kind<1
 ·have d2:decide (m.kind<((1:Nat):Int))=true:=Ze h2
  have e2:decide (Dt m.kind=0)=true:=Ze (by unfold Dt;rw[if_neg (by omega),if_neg (by omega),if_neg (by omega),if_neg (by omega)])
  rw[show YZ m=false by unfold YZ;rw[e2];simp]
  simp(disch:=first|assumption|omega|(simp -implicitDefEqProofs only[X3,X4]<;>first|assumption|omega)|decide) only[ec,g1,sf,hH1,g2,WH,Vr,XS,d1,d2,YL,Zg,Zd,Zd,Zg,Y8,Yk,Y3,YN,ZV,Lo,c10,Zu,Ye,Zw,Z6,Vk,]
  refine⟨_,rfl,?_⟩
  exact k2
 have d2:decide (m.kind<((1:Nat):Int))=false:=Zb h2
 by_cases h2b:4<m.kind
 ·have d2b:decide (((4:Nat):Int)<m.kind)=true:=Ze h2b
  have e2:decide (Dt m.kind=0)=true:=Ze (by unfold Dt;rw[if_neg (by omega),if_neg (by omega),if_neg (by omega),if_neg (by omega)])
  rw[show YZ m=false by unfold YZ;rw[e2];simp]
  simp(disch:=first|assumption|omega|(simp -implicitDefEqProofs only[X3,X4]<;>first|assumption|omega)|decide) only[ec,g1,sf,hH1,g2,WH,Vr,XS,d1,d2,d2b,YL,Zg,Zd,Zd,Zg,Y8,Yk,Y3,YN,ZV,Lo,IM,c10,Zu,Ye,Zw,Z6,Vk,]
  refine⟨_,rfl,?_⟩
  exact k2
 have d2b:decide (((4:Nat):Int)<m.kind)=false:=Zb h2b
 have e2:decide (Dt m.kind=0)=false:=Zb (by
  have h:m.kind=1∨m.kind=2∨m.kind=3∨m.kind=4:=by omega
  rcases h with h|h|h|h<;>rw[h]<;>decide)
 by_cases h3:4095<m.mode
 ·have d3:decide (4095<m.mode)=true:=Ze h3
  have h3':decide (m.mode<=4095)=false:=Zb (by omega)
  rw[show YZ m=false by unfold YZ;rw[h3'];simp]
  simp(disch:=first|assumption|omega|(simp -implicitDefEqProofs only[X3,X4]<;>first|assumption|omega)|decide) only[ec,g1,sf,hH1,g2,WH,Vr,XS,d1,d2,d2b,d3,Z3,YL,Zg,Zd,Zd,Zg,Y8,Yk,Y3,YN,ZV,YJ,Lo,IM,c10,Zu,Ye,Zw,Z6,Vk,]
  refine⟨_,rfl,?_⟩
  exact k2
 have d3:decide (4095<m.mode)=false:=Zb h3
 have h3':decide (m.mode<=4095)=true:=Ze (by omega)
 by_cases h4:16<m.attrs.length
 ·have d4:decide (16<m.attrs.length)=true:=Ze h4
  have h4':Pb m.attrs=false:=by unfold Pb;rw[Zb (show ¬m.attrs.length<=16 by omega),YS]
  rw[show YZ m=false by unfold YZ;rw[h4'];simp]
  simp(disch:=first|assumption|omega|(simp -implicitDefEqProofs only[X3,X4]<;>first|assumption|omega)|decide) only[ec,g1,sf,hH1,g2,lA,WH,Vr,XS,d1,d2,d2b,d3,d4,Z3,YL,Zg,Zd,Zd,Zg,Y8,Yk,Y3,YN,ZV,YJ,Lo,IM,c10,Zu,Ye,Zw,Z6,Vk,]
  refine⟨_,rfl,?_⟩
  exact k2
 have d4:decide (16<m.attrs.length)=false:=Zb h4
 simp(disch:=first|assumption|omega|(simp -implicitDefEqProofs only[X3,X4]<;>first|assumption|omega)|decide) only[ec,g1,sf,hH1,g2,lA,WH,Vr,XS,d1,d2,d2b,d3,d4,Z3,YL,Zg,Zd,Zd,Zg,Y8,Yk,Y3,YN,ZV,YJ,Lo,IM,c10,Zu,Ye,Zw,Z6,Vk,]
 generalize hL:Wv (OD _) fuel _ _ _=L
 obtain⟨o,Pu,H3,rfl,_,rfl,z⟩:=YA (P:=λT=>DAI H2 H1.nx m.attrs m.attrs.length T H2) (Q:=DAQ H2 H1.nx m.attrs)
  (λT hi=>YP (DAI H2 H1.nx m.attrs) (DAQ H2 H1.nx m.attrs) (λm tm H2 h=>Zah E hs.attrs hs.keys gD hA2 _ _ _ _ _ m tm H2 h) fuel m.attrs.length T H2 (by have:=hs.attrs;omega) hi) hL
  (by exact⟨rfl,rfl,0,rfl,by omega,λj hj=>by omega⟩)
 rcases z with⟨rfl,t2,e⟩|⟨rfl,t5,e⟩
 ·simp only[IN] at t2
  rw[show YZ m=false by unfold YZ;rw[e];simp]
  simp only[t2,Zu,Zw,Z6,]
  refine⟨_,rfl,?_⟩
  exact k2
 ·simp only[QP] at t5
  rw[Ze (show m.attrs.length<=16 by omega)] at e
  have fz:=λ{j}=>ZaC E (k:=5) (n:=j) (by decide) (H:=H3) (s:=m.link) (x:=0) (by decide) hk
  have hml:YZ m=(Se m.link (decide (m.kind=3))&&decide (m.data.length<=16777216)&&(decide (m.kind=2)||decide (m.data.length=0))):=by
   unfold YZ;rw[d1,e2,h3',e];rfl
  by_cases h5:m.kind=3
  ·have d5:decide (m.kind=((3:Nat):Int))=true:=Ze h5
   have d5':decide (m.kind=3)=true:=d5
   by_cases k1_:m.link=[]
   ·have dk:decide (m.link=[])=true:=Ze k1_
    rw[hml,show Se m.link (decide (m.kind=3))=false by rw[d5'];unfold Se;rw[dk];rfl,Z7,Z7]
    simp(disch:=first|assumption|omega|(simp -implicitDefEqProofs only[X3,X4]<;>first|assumption|omega)|decide) only[t5,g2,WH,d5,dk,Uk,YT,Zg,Zd,Zd,Zg,ZV,YJ,S1,Zu,Ye,Zw,Z6,QS,Lb]
    refine⟨_,rfl,?_⟩
    exact k2
   have dk:decide (m.link=[])=false:=Zb k1_
   by_cases k3_:4096<m.link.length
   ·have dl:decide (4096<m.link.length)=true:=Ze k3_
    rw[hml,show Se m.link (decide (m.kind=3))=false by rw[d5'];unfold Se;rw[Zb (show ¬m.link.length<=4096 by omega)];simp,Z7,Z7]
    simp(disch:=first|assumption|omega|(simp -implicitDefEqProofs only[X3,X4]<;>first|assumption|omega)|decide) only[t5,g2,WH,d5,dk,dl,Uk,Z3,YT,ZG,Zg,Zd,Zd,Zg,ZV,YJ,S1,Zu,Ye,Zw,Z6,QS,Lb]
    refine⟨_,rfl,?_⟩
    exact k2
   have dl:decide (4096<m.link.length)=false:=Zb k3_
   have dl':decide (m.link.length<=4096)=true:=Ze (by omega)
   cases cz:Ts [UInt8.ofNat 0] m.link with
   |true=>
    rw[cz] at fz
    rw[hml,show Se m.link (decide (m.kind=3))=false by rw[d5'];unfold Se;rw[pE,cz];simp,Z7,Z7]
    simp(disch:=first|assumption|omega|(simp -implicitDefEqProofs only[X3,X4]<;>first|assumption|omega)|decide) only[t5,g2,fz,WH,d5,dk,dl,Uk,Z3,YT,ZG,Zg,Zd,Zd,Zg,ZV,YJ,S1,Zu,Ye,Zw,Z6,QS,Lb]
    refine⟨_,rfl,?_⟩
    exact k2
   |false=>
    rw[cz] at fz
    rw[hml,show Se m.link (decide (m.kind=3))=true by rw[d5'];unfold Se;rw[pE,cz,dk,dl'];rfl,X9]
    by_cases h6:m.data.length<=16777216
    ·have d6:decide (m.data.length<=16777216)=true:=Ze h6
     rw[d6,X9]
     by_cases h7:m.kind=2
     ·have d7:decide (m.kind=((2:Nat):Int))=true:=Ze h7
      have d7':decide (m.kind=2)=true:=d7
      rw[d7',QV]
      simp(disch:=omega) only[t5,g2,ln,fz,WH,d5,dk,dl,d6,d7,Yt,Z3,YT,ZG,Zg,Zd,Zd,Zg,ZV,YJ,S1,IX,Yq,Zu,Ye,Zw,Z6,QS,Lb]
      refine⟨_,rfl,?_⟩
      exact k2
     ·have d7:decide (m.kind=((2:Nat):Int))=false:=Zb h7
      have d7':decide (m.kind=2)=false:=d7
      rw[d7',Bool.false_or]
      simp(disch:=first|assumption|omega|(simp -implicitDefEqProofs only[X3,X4]<;>first|assumption|omega)|decide) only[t5,g2,ln,fz,WH,d5,dk,dl,d6,d7,Yt,Z3,YL,YT,ZG,Zg,Zd,Zd,Zg,ZV,YJ,S1,IX,Yq,Zu,Ye,Zw,Z6,QS,Lb]
      refine⟨_,rfl,?_⟩
      exact k2
    ·have d6:decide (m.data.length<=16777216)=false:=Zb h6
     rw[d6,Z7]
     simp(disch:=first|assumption|omega|(simp -implicitDefEqProofs only[X3,X4]<;>first|assumption|omega)|decide) only[t5,g2,ln,fz,WH,d5,dk,dl,d6,Uk,Yt,Z3,YT,ZG,Zg,Zd,Zd,Zg,ZV,YJ,S1,IX,Yq,Zu,Ye,Zw,Z6,QS,Lb]
     refine⟨_,rfl,?_⟩
     exact k2
  ·have d5:decide (m.kind=((3:Nat):Int))=false:=Zb h5
   have d5':decide (m.kind=3)=false:=d5
   by_cases k1_:m.link=[]
   ·have dk:decide (m.link=[])=true:=Ze k1_
    rw[hml,show Se m.link (decide (m.kind=3))=true by rw[d5'];exact dk,X9]
    by_cases h6:m.data.length<=16777216
    ·have d6:decide (m.data.length<=16777216)=true:=Ze h6
     rw[d6,X9]
     by_cases h7:m.kind=2
     ·have d7:decide (m.kind=((2:Nat):Int))=true:=Ze h7
      have d7':decide (m.kind=2)=true:=d7
      rw[d7',QV]
      simp(disch:=first|assumption|omega|(simp -implicitDefEqProofs only[X3,X4]<;>first|assumption|omega)|decide) only[t5,g2,ln,WH,d5,dk,d6,d7,Uk,Yt,Wu,Zg,Zd,Zd,Zg,ZV,YJ,S1,IX,Yq,Y2,Zu,Ye,Zw,Z6,QS,Lb]
      refine⟨_,rfl,?_⟩
      exact k2
     ·have d7:decide (m.kind=((2:Nat):Int))=false:=Zb h7
      have d7':decide (m.kind=2)=false:=d7
      rw[d7',Bool.false_or]
      simp(disch:=first|assumption|omega|(simp -implicitDefEqProofs only[X3,X4]<;>first|assumption|omega)|decide) only[t5,g2,ln,WH,d5,dk,d6,d7,Uk,Yt,YL,Wu,Zg,Zd,Zd,Zg,ZV,YJ,S1,IX,Yq,Y2,Zu,Ye,Zw,Z6,QS,Lb]
      refine⟨_,rfl,?_⟩
      exact k2
    ·have d6:decide (m.data.length<=16777216)=false:=Zb h6
     rw[d6,Z7]
     simp(disch:=first|assumption|omega|(simp -implicitDefEqProofs only[X3,X4]<;>first|assumption|omega)|decide) only[t5,g2,ln,WH,d5,dk,d6,Uk,Yt,Wu,Zg,Zd,Zd,Zg,ZV,YJ,S1,IX,Yq,Y2,Zu,Ye,Zw,Z6,QS,Lb]
     refine⟨_,rfl,?_⟩
     exact k2
   have dk:decide (m.link=[])=false:=Zb k1_
   rw[hml,show Se m.link (decide (m.kind=3))=false by rw[d5'];exact dk,Z7,Z7]
   simp(disch:=first|assumption|omega|(simp -implicitDefEqProofs only[X3,X4]<;>first|assumption|omega)|decide) only[t5,g2,WH,d5,dk,Uk,Wu,Zg,Zd,Zd,Zg,ZV,YJ,S1,IX,Y2,Zu,Ye,Zw,Z6,QS,Lb]
   refine⟨_,rfl,?_⟩
   exact k2
theorem Da(E:Env Zn fs fuel)(hk6:6<=k){m:Mem}(hs:JJ m)(hk:m.link.length<=90000)(hro:H.ro<=H.nx)(hm:QN H cs m):
  ZE (LK Zn fs fuel k) fs fuel (n+1) 10 [.agg cs] H=.ret (.bool (YZ m)) H:=by
 obtain⟨H',e,g⟩:=wS E (n:=898) (H:=H) hs hk hro hm
 exact Yl (r:=5) rfl rfl e g (rfl) hk6
end
end
end Go.AI
