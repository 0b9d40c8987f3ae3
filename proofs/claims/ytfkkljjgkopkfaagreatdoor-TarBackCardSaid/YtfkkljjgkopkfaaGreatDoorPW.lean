/- Records read: walked; proved, conditions as named. -/
import Derived.Test.YtfkkljjgkopkfaaGreatDoorPV
import Derived.Test.YtfkkljjgkopkfaaGreatDoorPT
set_option maxRecDepth 1000000
set_option maxHeartbeats 0
set_option linter.all false
namespace Go.AI
open Go
noncomputable section
section
variable {Zq:Lib} {fs:T CF} {Zk k n i h b:Nat} {H H0:Heap} {s:Zd} {cs:List AV}
structure DGI(Hs:Heap)(v:AV)(z:Nat)(m:Nat)(tm:TM)(H:Heap):Prop where
 h:H=Hs
 t0:Z6 tm=v
 i: ∃i u,Va tm=nI .i64 i∧V0 tm=nI .i64 u∧i+m=WS z∧u=Uk ((dec z).take i)∧u<10^i
def DGQ(Hs:Heap)(z:Nat)(o:Out)(tm:TM)(H:Heap):Prop:=o=.exit 0∧H=Hs∧Va tm=nI .i64 (WS z)∧V0 tm=nI .i64 z
def Zqk{u:Nat}(h:i<=9)(hu:u<10^i):u<1000000000:=ZK hu (TD (by decide) h)
def bT{v:AV}{l t:Zd}{z:Nat}{Hs:Heap}(hR:Rd Hs v l)(hl:l=dec z++32::t)(hl2:l.length<=1000000000)(hz:WS z<=9)(cx:Ctx)(X0:X)(m:Nat)(tm:TM)(H:Heap)(hI:DGI Hs v z m tm H):
  ∃o tm' H',GF cx tm H X0=.ok o tm' H' X0∧((o=.normal∧ ∃k,k<m∧DGI Hs v z k tm' H')∨(o≠.normal∧DGQ Hs z o tm' H')):=by
 obtain⟨rfl,t0,i,u,t2,t3,him,hue,hu⟩:=hI;have t0':=t0;have t2':=t2;have D7:=t3;simp only[Pa,zU,Il] at t0 t2 t3;have ln:=hR.len;have hu9:=Zqk (by omega) hu;have hdl:=SE z;have hll:l.length=WS z+1+t.length:=by rw[hl,Zh,hdl];show WS z+(t.length+1)=_;omega
 have d1:decide (i<l.length)=true:=Zi (by omega);obtain⟨b,o,r,eI,hb,gb,ld⟩:=hR.at_ i (by omega);have ld': ∀G,ld1 (some (.row r)) o G=.val (nI .u8 (l.getD i 0).toNat) G:=ld;cases m with
 |zero=>
  obtain rfl:i=WS z:=by omega
  have hx:(l.getD (WS z) 0).toNat=32:=by rw[hl,NH,hdl,if_neg (by omega),Ut];rfl
  rw[hx] at ld';have d2:decide (48<=32)=false:=rfl;simp only[t0,t2,ln,d1,eI,gb,ld',Yr,ZE,Nat.reduceLeDiff,decide_false,ZE,Yr,GF,ZG,Yj,Yg];refine⟨_,_,_,rfl,.inr ⟨by simp,rfl,rfl,t2',?_⟩⟩;have hz2:u=z:=by rw[hue,Z1 (by omega),vm]
  rw[<-hz2];exact D7
 |succ m=>
  have hgd:l.getD i 0=(dec z).getD i 0:=by rw[hl,NH,hdl,if_pos (by omega)]
  have hmem:l.getD i 0∈dec z:=by
   rw[hgd,Ze,Zm (by omega)];exact XD _
  obtain⟨q1,q2⟩:=yD hmem;have hnx:Uk ((dec z).take (i+1))=10*u+((l.getD i 0).toNat - 48):=by
   have e:(dec z).take (i+1)=(dec z).take i++[l.getD i 0]:=by
    rw[hgd,WF,Ze,Zm (by omega)];rfl
   rw[e,L6,<-hue]
  generalize(l.getD i 0).toNat=x at*;have d2:decide (48<=x)=true:=Zi q1;have d3:decide (x<=57)=true:=Zi q2;have d4:decide (i<9)=true:=Zi (by omega);obtain⟨d,rfl⟩: ∃d,x=48+d:=⟨x - 48,by omega⟩;rw[WA] at hnx;have e1: ∀G,eK (nI .i64 10) (nI .i64 u) G=.val (nI .i64 (10*u)) G:=λG=>Ar (by omega) G;have e2: ∀G,Mh (nI .u8 (48+d)) (nI .u8 48) G=.val (nI .u8 d) G:=λG=>by rw[FW (by omega) (by omega),WA]
  have e3:=λG:Heap=>V1 (j:=.u8) (a:=d) (by omega) G;have e4: ∀G,Sr (nI .i64 (10*u)) (nI .i64 d) G=.val (nI .i64 (10*u+d)) G:=λG=>Y0 (by omega) G;have e5: ∀G,Sr (nI .i64 i) (nI .i64 1) G=.val (nI .i64 (i+1)) G:=λG=>Y0 (by omega) G;simp only[t0,t2,t3,ln,d1,eI,gb,ld',d2,d3,d4,e1,e2,e3,e4,e5,AE,Yr,Y4,ZE,ZE,Y4,Yr,GF,ZG,Yj,Yg,UH];refine⟨_,_,_,rfl,.inl ⟨rfl,m,by omega,rfl,t0',i+1,10*u+d,rfl,rfl,by omega,hnx.symm,?_⟩⟩;rw[WB];omega
def ZeS(E:Env Zq fs Zk)(hk:1<=k){v:AV}{l t:Zd}{z:Nat}(hR:Rd H v l)(hl:l=dec z++32::t)(hl2:l.length<=1000000000)(hz:WS z<=9):
  ZA (LK Zq fs Zk k) fs Zk (n+1) 134 [v] H=.ret (.tup [nI .i64 (WS z),nI .i64 z]) H:=by
 have run: ∃H',ZA (LK Zq fs Zk 0) fs Zk (898+2) 134 [v] H=.ret (.tup [nI .i64 (WS z),nI .i64 z]) H'∧Zu H H' []:=by
  rw[Z5 E.f134 (.inl (by decide))];have hf:=E.big;simp only[Nat.reduceAdd,Zhh,ZG,Yg];generalize hL:Vq (GF _) Zk _ _ _=L;obtain⟨o,OS,H1,rfl,_,rfl,h1,t2,t3⟩:=YP (P:=λT=>DGI H v z (WS z) T H) (Q:=DGQ H z)
   (λT hi=>Y5 (DGI H v z) (DGQ H z) (λm tm H1 h=>bT hR hl hl2 hz _ _ m tm H1 h) Zk (WS z) T H (by omega) hi) hL
   (by exact⟨rfl,rfl,0,0,rfl,rfl,by omega,by rw[Xd];rfl,by decide⟩)
  subst h1;simp only[zU,Il] at t2 t3;simp only[t2,t3,ZG,Yj,Zz,Yg,UH];refine⟨_,rfl,?_⟩;exact Zu.refl _ _
 obtain⟨H',e,g⟩:=run;exact Yh (r:=0) rfl rfl e g rfl hk
def TP(u:Nat):Prop:= ∃k,1<=k∧u=10^k
def Zjy{u:Nat}(h:TP (u/10))(h2:u % 10=0):TP u:=by
 obtain⟨k,h1,h3⟩:=h;exact⟨k+1,by omega,by rw[WB];omega⟩
structure TWI(Hs:Heap)(T:Prop)(m:Nat)(tm:TM)(H:Heap):Prop where
 h:H=Hs
 i: ∃u,Z6 tm=nI .i64 u∧u<10^m∧u<1000000000∧(TP u->T)
def TWQ(Hs:Heap)(T:Prop)(o:Out)(tm:TM)(H:Heap):Prop:=o=.exit 0∧H=Hs∧ ∃u,Z6 tm=nI .i64 u∧(TP u->T)
def Zfl{Hs:Heap}{T:Prop}(cx:Ctx)(X0:X)(m:Nat)(tm:TM)(H:Heap)(hI:TWI Hs T m tm H):
  ∃o tm' H',JH cx tm H X0=.ok o tm' H' X0∧((o=.normal∧ ∃k,k<m∧TWI Hs T k tm' H')∨(o≠.normal∧TWQ Hs T o tm' H')):=by
 obtain⟨rfl,u,t0,hu,hu9,hT⟩:=hI;have t0':=t0;simp only[Pa] at t0;have e1:=λG:Heap=>mZ (a:=u) (b:=10) (by decide) G;have e2:=λG:Heap=>ZbJ (a:=u) (b:=10) (by decide) (by omega) G
 by_cases h1:10<u
 ·have d1:decide (10<u)=true:=Zi h1
  by_cases h2:u % 10=0
  ·have d2:decide (u % 10=0)=true:=Zi h2
   cases m with
   |zero=>simp at hu;omega
   |succ m=>
    simp only[t0,d1,e1,d2,e2,Yn,YQ,Yn,JH,ZG,Yj,Yg];refine⟨_,_,_,rfl,?_⟩;exact .inl ⟨rfl,m,by omega,rfl,u/10,rfl,by rw[WB] at hu;omega,by omega,λh=>hT (Zjy h h2)⟩
  ·have d2:decide (u % 10=0)=false:=Zc h2
   simp only[t0,d1,e1,d2,Yn,YQ,Yn,JH,ZG,Yj,Yg];refine⟨_,_,_,rfl,?_⟩;exact .inr ⟨by simp,rfl,rfl,u,t0',hT⟩
 ·have d1:decide (10<u)=false:=Zc h1
  simp only[t0,d1,Yn,Yn,JH,ZG,Yj,Yg];refine⟨_,_,_,rfl,?_⟩;exact .inr ⟨by simp,rfl,rfl,u,t0',hT⟩
def Zjf(E:Env Zq fs Zk)(hk:1<=k){u:Nat}(hu:u<1000000000):
  ∃b,ZA (LK Zq fs Zk k) fs Zk (n+1) 136 [nI .i64 u] H=.ret (.bool b) H∧(b=true->TP u):=by
 have run: ∃b H',ZA (LK Zq fs Zk 0) fs Zk (898+2) 136 [nI .i64 u] H=.ret (.bool b) H'∧Zu H H' []∧(b=true->TP u):=by
  rw[Z5 E.f136 (.inl (by decide))];have hf:=E.big;simp only[Nat.reduceAdd,Zhi,ZG,Yg];generalize hL:Vq (JH _) Zk _ _ _=L;obtain⟨o,OS,H1,rfl,_,rfl,h1,w,t0,ht⟩:=YP (P:=λT=>TWI H (TP u) 9 T H) (Q:=TWQ H (TP u))
   (λT hi=>Y5 (TWI H (TP u)) (TWQ H (TP u)) (λm tm H1 h=>Zfl _ _ m tm H1 h) Zk 9 T H (by omega) hi) hL
   (by exact⟨rfl,u,rfl,hu,hu,λh=>h⟩)
  subst h1;simp only[Pa] at t0;simp only[t0,YQ,ZG,Yj,Zz,Yg];exact⟨_,_,rfl,Zu.refl _ _,λh=>ht ⟨1,Zs _,Zr h⟩⟩
 obtain⟨b,H',e,g,ht⟩:=run;exact⟨b,Yh (r:=0) rfl rfl e g rfl hk,ht⟩
def cutX(x:Nat)(s:Zd):Zd×Zd×Bool:=if W2 x s=0 then(s,[],false) else(s.take (W2 x s - 1),s.drop (W2 x s),true)
def ru(E:Env Zq fs Zk){x:UInt8}:
  ∃H',ZA (LK Zq fs Zk 1) fs Zk (n+2) 124 [.str s,.str [x]] H=.ret (mI (W2 x.toNat s)) H'∧Zu H H' []:=by
 rw[Z5 E.f124 (.inl (by decide))];have e1:=λ{j}=>jD E (k:=1) (n:=j) (by decide) (s:=s) (x:=x.toNat) (H:=H) (UInt8.toNat_lt x);have wl:([x]:Zd).length=1:=rfl;have w0:([x]:Zd).getD 0 0=x:=rfl
 by_cases h:([x]:Zd)=s
 ·have d_h:decide (([x]:Zd)=s)=true:=Zi h
  simp only[wl,d_h,YQ,Wi,ZZ,decide_false,tU,ZG,Yj,Zz,reduceCtorEq,Yg];subst h;exact⟨_,(by unfold W2;rw[if_pos rfl];rfl),Zu.refl _ _⟩
 ·have d_h:decide (([x]:Zd)=s)=false:=Zc h
  simp(disch:=omega) only[wl,w0,e1,d_h,X7,YQ,Wi,ZZ,decide_true,decide_false,tU,ZG,Yj,Zz,reduceCtorEq,Yg];refine⟨_,rfl,?_⟩;exact Zu.refl _ _
def ZdY(E:Env Zq fs Zk)(hk:2<=k){x:UInt8}:
  ZA (LK Zq fs Zk k) fs Zk (n+1) 124 [.str s,.str [x]] H=.ret (mI (W2 x.toNat s)) H:=by
 obtain⟨H',e,g⟩:=ru E (n:=898) (H:=H);exact Yh (r:=1) rfl rfl e g (O2 _ _) hk
def dQ(E:Env Zq fs Zk){x:UInt8}(hs:s.length<=100000000):
  ∃H',ZA (LK Zq fs Zk 3) fs Zk (n+2) 162 [.str s,.str [x]] H=.ret (.tup [.str (cutX x.toNat s).1,.str (cutX x.toNat s).2.1,.bool (cutX x.toNat s).2.2]) H'∧Zu H H' []:=by
 rw[Z5 E.f162 (.inl (by decide))];have e1:=λ{j}=>ZdY E (k:=3) (n:=j) (by decide) (s:=s) (x:=x) (H:=H);have hfl:W2 x.toNat s<=s.length:=ZhR;have wl:([x]:Zd).length=1:=rfl;unfold cutX
 by_cases h0:W2 x.toNat s=0
 ·have c0: ∀G,T2 UQ Wd (mI (W2 x.toNat s)) (nI .i64 0) G=.val (.bool false) G:=λG=>by rw[DB,Zc (by omega)]
  rw[if_pos h0];simp only[e1,c0,Zdf,ZG,Yj,Zz,Yg];refine⟨_,rfl,?_⟩;exact Zu.refl _ _
 ·have c0: ∀G,T2 UQ Wd (mI (W2 x.toNat s)) (nI .i64 0) G=.val (.bool true) G:=λG=>by rw[DB,Zi (by omega)]
  rw[if_neg h0];obtain⟨p,hp⟩: ∃p,W2 x.toNat s=p+1:=⟨W2 x.toNat s - 1,by omega⟩;rw[hp] at e1 c0 hfl ⊢;rw[ZaM] at e1 c0;rw[X8];have ad: ∀G,Sr (nI .i64 p) (nI .i64 1) G=.val (nI .i64 (p+1)) G:=λG=>Y0 (by omega) G;simp(disch:=omega) only[e1,c0,ad,wl,ZZ,Vy,Tj,ZD,ZO,Zdf,ZG,Yj,Zz,Yc,Xc,Yg];refine⟨_,rfl,?_⟩;exact Zu.refl _ _
def Zmd(E:Env Zq fs Zk)(hk:4<=k){x:UInt8}(hs:s.length<=100000000):
  ZA (LK Zq fs Zk k) fs Zk (n+1) 162 [.str s,.str [x]] H=.ret (.tup [.str (cutX x.toNat s).1,.str (cutX x.toNat s).2.1,.bool (cutX x.toNat s).2.2]) H:=by
 obtain⟨H',e,g⟩:=dQ E (n:=898) (H:=H) hs;exact Yh (r:=3) rfl rfl e g (rfl) hk
def Zb0(E:Env Zq fs Zk){x:UInt8}(hs:s.length<=100000000):
  ∃H',ZA (LK Zq fs Zk 4) fs Zk (n+2) 137 [.str s,.str [x]] H=.ret (.tup [.str (cutX x.toNat s).1,.str (cutX x.toNat s).2.1,.bool (cutX x.toNat s).2.2]) H'∧Zu H H' []:=by
 rw[Z5 E.f137 (.inl (by decide))];have e1:=λ{j}=>Zmd E (k:=4) (n:=j) (by decide) (s:=s) (x:=x) (H:=H) hs;simp only[e1,Zhj,ZG,Yj,Zz,Yg];refine⟨_,rfl,?_⟩;exact Zu.refl _ _
def Zmb(E:Env Zq fs Zk)(hk:5<=k){x:UInt8}(hs:s.length<=100000000):
  ZA (LK Zq fs Zk k) fs Zk (n+1) 137 [.str s,.str [x]] H=.ret (.tup [.str (cutX x.toNat s).1,.str (cutX x.toNat s).2.1,.bool (cutX x.toNat s).2.2]) H:=by
 obtain⟨H',e,g⟩:=Zb0 E (n:=898) (H:=H) hs;exact Yh (r:=4) rfl rfl e g (rfl) hk
end
def NZ(s:Zd):Prop:= ∀c∈s,c.toNat≠0
instance (s:Zd):Decidable (NZ s):=by unfold NZ;exact inferInstance
def NZ.nil:NZ []:=λc hc=>by cases hc
def NZ.app{a b:Zd}(h:NZ a)(g:NZ b):NZ (a++b):=λc hc=>by
 rcases Zt.1 hc with hc|hc
 ·exact h c hc
 ·exact g c hc
def NZ.left{a b:Zd}(h:NZ (a++b)):NZ a:=λc hc=>h c (Zt.2 (.inl hc))
def NZ.right{a b:Zd}(h:NZ (a++b)):NZ b:=λc hc=>h c (Zt.2 (.inr hc))
def NZ.take{a:Zd}(h:NZ a)(n:Nat):NZ (a.take n):=λc hc=>h c (Vu hc)
def NZ.drop{a:Zd}(h:NZ a)(n:Nat):NZ (a.drop n):=λc hc=>h c (Ua hc)
def NZ.fst{s:Zd}(h:NZ s):W2 0 s=0:=Qj.2 h
theorem A8: ∀s:Zd,(∀x∈Yv s,NZ x)->NZ s
 |[],_=>λc hc=>by cases hc
 |c::s,h=>by
  unfold Yv at h
  by_cases hc:c.toNat=47
  ·rw[if_pos hc] at h
   have ih:=A8 s λx hx=>h x (.tail _ hx);intro d hd;rcases ZY.1 hd with rfl|hd
   ·omega
   ·exact ih d hd
  ·rw[if_neg hc] at h
   cases hs:Yv s with
   |nil=>exact absurd hs (RA s)
   |cons a t=>
    rw[hs] at h;have h0:NZ (c::a):=h _ (.head _);have ih:=A8 s λx hx=>by
     rw[hs] at hx;rcases ZY.1 hx with rfl|hx
     ·exact λd hd=>h0 d (.tail _ hd)
     ·exact h x (.tail _ hx)
    intro d hd;rcases ZY.1 hd with rfl|hd
    ·exact h0 d (.head _)
    ·exact ih d hd
def Zev{s:Zd}(h:XS s=true):NZ s:=by
 unfold XS at h;simp only[Z4,UM] at h;have ha:MV [47,0] s=false:=h.1.2;intro c hc h0;unfold MV at ha;rw[List.any_eq_false] at ha;have:=ha c hc;have e:c=0:=Wj.1 h0;simp[e] at this
def ZeR{p:Zd}(h:LP p=true):NZ p:=by
 unfold LP at h;simp only[Z4] at h;have hn:=Ya.1 h.2
 by_cases h0:p=[]
 ·subst h0;exact λc hc=>by cases hc
 ·have e:SH p=Yv p:=by unfold SH;rw[if_neg h0]
  rw[e] at hn;exact A8 p λx hx=>Zev (hn x hx)
def si{p:Zd}(h:(Wm p).1≠0):NZ p:=by
 have hp:Tn p++XO p=p:=by unfold Tn XO;exact XN ..
 unfold Wm at h
 by_cases h1:p=lM
 ·subst h1;decide
 ·rw[if_neg h1] at h
  by_cases h2:Ln p=true
  ·rw[if_pos h2] at h;exact absurd rfl h
  ·have h2:Ln p=false:=by simpa using h2
   unfold Ln at h2;simp only[Qy,Bool.not_eq_false'] at h2;have ht:=ZeR h2.1.1.1;have hl:=ua (XO p);have hL:Sy (XO p)=1∨Sy (XO p)=2∨Sy (XO p)=3:=by omega
   unfold S8 at ht;rcases hL with e|e|e
   ·rw[if_pos e,hp] at ht;exact ht
   ·rw[if_neg (by omega),if_pos e] at ht
    have hw:(XO p).take 4=uX:=by
     unfold Sy at e
     by_cases a:XO p=z4
     ·rw[if_pos a] at e;omega
     ·rw[if_neg a] at e
      by_cases b:Qq uX (XO p)=true
      ·unfold Qq at b
       simp only[Z4,decide_eq_true_eq] at b;exact b.2
      ·rw[if_neg b] at e;omega
    rw[<-hp,<-XN 4 (XO p),hw];exact ht.left.app (NZ.app (by decide) ht.right)
   ·rw[if_neg (by omega),if_neg (by omega)] at ht
    have hb:XO p=z4:=by
     unfold Sy at e
     by_cases a:XO p=z4
     ·exact a
     ·rw[if_neg a] at e
      by_cases b:Qq uX (XO p)=true
      ·rw[if_pos b] at e;omega
      ·rw[if_neg b] at e;omega
    have hd:NZ (Tn p):=by
     unfold Cd at ht
     split at ht
     ·rename_i q
      rw[<-XN ((Tn p).length - 1) (Tn p),q.2];exact ht.app (by decide)
     ·exact ht
    rw[<-hp,hb];exact hd.app (by decide)
def jL{p:Zd}{kd:Int}(h:NZ p):NZ (Wp kd p):=by
 unfold Wp
 split
 ·exact h.app (by decide)
 ·exact h
def ii{s:Zd}(h:NZ s):NZ (Wx s).1∧NZ (Wx s).2.1:=by
 unfold Wx
 split
 ·exact⟨NZ.nil,h⟩
 ·split
  ·exact⟨NZ.nil,show NZ [112,97,120] by decide⟩
  ·split
   ·exact⟨NZ.nil,show NZ [112,97,120] by decide⟩
   ·exact⟨h.take _,h.drop _⟩
def wa{s:Zd}:(Wx s).1.length<=155∧(Wx s).2.1.length<=100:=by
 unfold Wx
 split
 ·rename_i h;exact⟨ZN _,h⟩
 ·split
  ·exact⟨ZN _,by show 3<=100;decide⟩
  ·split
   ·exact⟨ZN _,by show 3<=100;decide⟩
   ·rename_i h1 h2 h3
    have hc:=Ed 47 (s.take (min (s.length - 1) 156));rw[Zy] at hc;refine⟨?_,?_⟩
    ·show(s.take _).length<=_;rw[Zy];omega
    ·show(s.drop _).length<=_;rw[Ye];omega
def oj{s:Zd}{n:Nat}(h:NZ s)(hl:s.length<=n):UK s n=s++List.replicate (n - s.length) 0:=by
 unfold UK;rw[h.fst,if_neg (by omega),if_neg (by omega)]
theorem AU{rest:Nat}(hr:rest<=1000000): ∀j x,x<=rest+WS x->rest+20<=x+j->x<=1000100->(∀n,x<=n->n<Jh rest j x->n≠rest+WS n)∧Jh rest j x=rest+WS (Jh rest j x)
 |0,x,h,hj,hx=>by
  have:=TI (n:=x) (k:=8) (by decide) (by show x<100000000;omega);omega
 |j+1,x,h,hj,hx=>by
  have h8:=TI (n:=x) (k:=8) (by decide) (by show x<100000000;omega)
  by_cases he:x=rest+WS x
  ·have e:Jh rest (j+1) x=x:=AW he _
   rw[e];exact⟨λn h1 h2=>by omega,he⟩
  ·have e:Jh rest (j+1) x=Jh rest j (rest+WS x):=by
    show(if x=rest+WS x then _ else _)=_;rw[if_neg he]
   rw[e];have hy:=JV h;obtain⟨a,b⟩:=AU hr j (rest+WS x) (by omega) (by omega) (by omega);refine⟨λn h1 h2=>?_,b⟩
   by_cases hn:n<rest+WS x
   ·have:=JV h1
    intro h3
    by_cases hx:n=x
    ·subst hx;exact he h3
    ·omega
   ·exact a n (by omega) h2
def dy{rest:Nat}(hr:rest<=1000000):(∀n,n<HY rest->n≠rest+WS n)∧HY rest=rest+WS (HY rest):=by
 have hp:=SV (rest+1);obtain⟨a,b⟩:=AU hr 20 (rest+1) (by omega) (by omega) (by omega);refine⟨λn h=>?_,b⟩
 by_cases hn:n<=rest
 ·have:=SV n;omega
 ·exact a n (by omega) h
section
variable {Zq:Lib} {fs:T CF} {Zk k n i h b:Nat} {H H0:Heap} {s:Zd} {cs:List AV}
def ZeY{rest:Nat}(hr:rest<=1000000):HY rest=rest+WS (HY rest):=by
 have key: ∀j x,x<=rest+WS x->x<=rest+21->rest+21<=x+j+1->Jh rest j x=rest+WS (Jh rest j x):=by
  intro j
  induction j with
  |zero=>
   intro x h1 h2 h3;have nd:=TI (n:=x) (k:=20) (by decide) (by omega);show x=rest+WS x;omega
  |succ j ih=>
   intro x h1 h2 h3;have nd:=TI (n:=x) (k:=20) (by decide) (by omega);unfold Jh
   by_cases hq:x=rest+WS x
   ·rw[if_pos hq];exact hq
   ·rw[if_neg hq]
    have:=JV h1;exact ih _ (by omega) (by omega) (by omega)
 exact key 20 (rest+1) (by have:=SV (rest+1);omega) (by omega) (by omega)
theorem vR{x:Nat}{c:UInt8}{r:Zd}(hc:c.toNat=x): ∀{k:Zd},(∀y∈k,y.toNat≠x)->W2 x (k++c::r)=k.length+1
 |[],_=>by show W2 x (c::r)=1;unfold W2;rw[if_pos hc]
 |y::k,h=>by
  show W2 x (y::(k++c::r))=_;unfold W2;rw[if_neg (h y (Zw ..)),vR hc λz hz=>h z (ZC _ hz),if_neg (Nat.succ_ne_zero _)];rfl
def Zdi{x:Nat}{c:UInt8}{k r:Zd}(hc:c.toNat=x)(h: ∀y∈k,y.toNat≠x):cutX x (k++c::r)=(k,r,true):=by
 have e:=vR (x:=x) (c:=c) (r:=r) hc h;unfold cutX;rw[e,if_neg (Nat.succ_ne_zero _),X8,W3,<-Sj,UY];rfl
def ZaQ{k:Zd}(h:Ox k=true):1<=k.length∧k.length<=255∧ ∀y∈k,y.toNat≠61:=by
 unfold Ox at h;rw[Z4,Z4] at h;obtain⟨⟨h1,h2⟩,h3⟩:=h;refine⟨?_,Zr h2,λy hy e=>?_⟩
 ·cases k with
  |nil=>simp at h1
  |cons=>show 1<=_+1;omega
 ·have:y=61:=Wj.1 e
  subst this;unfold MV at h3;have:(k.any λc=>decide (c∈([0,61,10]:Zd)))=true:=List.any_eq_true.2 ⟨61,hy,by decide⟩;rw[this] at h3;cases h3
def gS{z:Nat}(hz:0<z)(r:Zd): ¬((dec z++r).getD 0 0).toNat=48:=by
 have hl:0<(dec z).length:=by rw[SE];exact SV z
 rw[NH,if_pos hl];intro h;exact bP z (by omega) (Wj.1 h)
def qY{x:NP}(h:MT x): ∃z,HY (x.1.length+x.2.length+3)=z∧z=x.1.length+x.2.length+3+WS z∧WS z<=5∧QO x=dec z++32::(x.1++61::(x.2++[10]))∧(QO x).length=z:=by
 have h2:=h.2;have hf:=ZeY (rest:=x.1.length+x.2.length+3) (by omega);have hl:=mT (rest:=x.1.length+x.2.length+3) (by omega);refine⟨_,rfl,hf,TI (by decide) (by omega),?_,?_⟩
 ·unfold QO;simp only[Yq,WE,ZQ]
 ·unfold QO
  simp only[Zh,ZL,XU,SE];omega
def Za2(k:Nat):WS (10^k)=k+1∧WS (10^k - 1)<=max k 1:=by
 constructor
 ·refine Nat.le_antisymm ?_ ?_
  ·exact TI (by omega) (Nat.pow_lt_pow_right (by decide) (ZU k))
  ·apply Classical.byContradiction
   intro h;have:=LN (10^k);have h2:10^WS (10^k)<=10^k:=TD (by decide) (by omega);omega
 ·cases k with
  |zero=>exact TI (by decide) (by decide)
  |succ k=>
   have h:10^(k+1) - 1<10^(k+1):=Nat.sub_lt (Nat.pow_pos (by decide)) (by decide);exact Yb (TI (by omega) h) (by omega)
def Zje{rest:Nat}(hr:rest<=1000000): ¬TP (HY rest):=by
 rintro ⟨k,hk,e⟩;obtain⟨h1,h2⟩:=dy hr;obtain⟨p1,p2⟩:=Za2 k;rw[e] at h1 h2;have p3:WS (10^k - 1)=k:=by
  refine Nat.le_antisymm (by omega) ?_;apply Classical.byContradiction;intro h;have h3:=LN (10^k - 1);have h4:10^WS (10^k - 1)<=10^(k - 1):=TD (by decide) (by omega);have h5:10^k=10^(k - 1)*10:=by rw[<-WB];congr 1;omega
  omega
 exact h1 (10^k - 1) (by omega) (by omega)
def ZeO(E:Env Zq fs Zk){K:Nat}(hK:6<=K){v:AV}{l t:Zd}{x:NP}(hro:H.ro<=H.nx)(bv:BV H v l)(hl:l=QO x++t)(hx:MT x)(hl2:l.length<=1000000000):
  ∃H',ZA (LK Zq fs Zk K) fs Zk (n+2) 112 [v] H=.ret (.tup [.agg [.str x.1,.str x.2],nI .i64 (QO x).length,nI .i64 0]) H'∧Zu H H' []:=by
 rw[Z5 E.f112 (.inr rfl)];obtain⟨z,hzz,hz,hd,hp,hlen⟩:=qY hx;have htp:=Zje (rest:=x.1.length+x.2.length+3) (by have:=hx.2;omega);rw[hzz] at htp;obtain⟨k1,k2,k3⟩:=ZaQ hx.1;have hm:=hx.1;have hx2:=hx.2;rw[hlen];obtain⟨key,val⟩:=x;simp only[] at hz hp k1 k2 k3 hm hx2;generalize hd':WS z=d at hz hd;have hd1:1<=d:=by rw[<-hd'];exact SV z
 have hl':l=dec z++32::(key++61::(val++10::t)):=by rw[hl,hp];simp only[Yq,WE,ZQ]
 have hll:l.length=z+t.length:=by rw[hl,Zh,hlen]
 have hdl:(dec z).length=d:=by rw[SE,hd']
 have bx: ∀G:Heap,MW 23 v G=.val (.ptr G.nx 0) (G.new (rH 23 [v])):=λG=>Gw (by
  rcases bv with⟨_,rfl|⟨b,o,c,rfl⟩⟩|⟨_,b,o,c,r,rfl,_⟩<;>rfl) 23 G
 obtain⟨H1,hH1⟩:=TO (H.new (rH 23 [v]));obtain⟨H2,hH2⟩:=TO (H1.new (rH 73 [.str [],.str []]));have NB:H1.nx=H.nx+1:=by rw[<-hH1];rfl
 have ka:Zu H H1 []:=by rw[<-hH1];exact Zu.new _ _ _
 have kb:Zu H1 H2 []:=by rw[<-hH2];exact Zu.new _ _ _
 have kc:Zu H H2 []:=by rw[<-hH2];exact ka.then_new _
 have g1:H2.t.get H.nx=some (rH 23 [v]):=by rw[kb.get _ (by omega) (by simp),<-hH1];exact ZR rfl _
 have g2:H2.t.get H1.nx=some (rH 73 [.str [],.str []]):=by rw[<-hH2];exact ZR rfl _
 have m9:H2.ro<=H1.nx:=by rw[kc.ro];omega
 have vG:=bv.keep kc (λ_ _ _ _ _=>by simp);have rd:=Rd.of_bv vG;have ln:=vG.len;have l0: ∀G,ld1 (some (rH 23 [v])) 0 G=.val v G:=λG=>XQ (ZU 0) ..;have st:=λa b=>TL (n:=2) (b:=H1.nx) (l:=[.str [],.str []]) (vs:=[.str a,.str b]) (H:=H2) rfl rfl (by decide) m9 73 1 false true;have gp:=λa b=>Yp H2 H1.nx (rH 73 [.str a,.str b]);have bd1: ∀G a,TS [.str [],.str []] [(0,1,.str a)] G=.val (.agg [.str a,.str []]) G:=λ_ _=>rfl;have bd2: ∀G a b,TS [.str [],.str []] [(0,1,.str a),(1,1,.str b)] G=.val (.agg [.str a,.str b]) G:=λ_ _ _=>rfl;have rv: ∀a b kk,rV 2 true (some (rH 73 [.str a,.str b])) 0 kk=kk (.agg [.str a,.str b]):=λa b kk=>ZbL (n:=2) (l:=[.str a,.str b]) rfl kk;have ed:=λ{j}=>ZeS E (k:=K) (n:=j) (by omega) rd hl' hl2 (by omega);rw[hd'] at ed;have c0:decide (d=0)=false:=Zc (by omega);have c1:decide (16777216<z)=false:=Zc (by omega);obtain⟨b0,o0,r0,eI0,_,gb0,ld0⟩:=rd.at_ 0 (by omega);have n6: ∀G,ld1 (some (.row r0)) o0 G=.val (nI .u8 (l.getD 0 0).toNat) G:=ld0;have h48: ¬(l.getD 0 0).toNat=48:=by rw[hl'];exact gS (by omega) _
 have c2:decide ((l.getD 0 0).toNat=48)=false:=Zc h48;obtain⟨w,ew,hw⟩:=Zjf E (k:=K) (n:=n) (by omega) (H:=H2) (u:=z) (by omega);obtain⟨b1,o1,r1,eI1,_,gb1,ld1_⟩:=rd.at_ d (by omega);have hx1:l.getD d 0=32:=by rw[hl',NH,hdl,if_neg (by omega),Ut];rfl
 rw[hx1] at ld1_;have ld1': ∀G,ld1 (some (.row r1)) o1 G=.val (nI .u8 32) G:=ld1_;have c5:decide (d=l.length)=false:=Zc (by omega);cases w with
 |true=>exact absurd (hw rfl) htp
 |false=>
  have a1: ∀G,Sr (nI .i64 d) (nI .i64 1) G=.val (nI .i64 (d+1)) G:=λG=>Y0 (by omega) G;obtain⟨v1,sl1,yp,_⟩:=ky vG (n:=d+1) (by omega) .i64;have sa:Uo 1 v (some (nI .i64 (d+1))) none H2=.val v1 H2:=sl1 H2.nx H2.ro;have hdr:l.drop (d+1)=key++61::(val++10::t):=by
   rw[hl',<-Sj,<-hdl,UY];rfl
  rw[hdr] at yp;have ln1:=yp.len;have hl1:(key++61::(val++10::t)).length=key.length+val.length+2+t.length:=by simp only[Zh,ZL];omega
  rw[hl1] at ln1;have s1: ∀G,Mh (nI .i64 z) (nI .i64 d) G=.val (nI .i64 (key.length+val.length+3)) G:=λG=>by rw[Wz (by omega) (by omega),show z - d=key.length+val.length+3 by omega]
  have s2: ∀G,Mh (nI .i64 (key.length+val.length+3)) (nI .i64 1) G=.val (nI .i64 (key.length+val.length+2)) G:=λG=>by rw[Wz (by omega) (by omega)];rfl
  have s3: ∀G,Mh (nI .i64 (key.length+val.length+2)) (nI .i64 2) G=.val (nI .i64 (key.length+val.length)) G:=λG=>by rw[Wz (by omega) (by omega)];rfl
  have s4: ∀G,Mh (nI .i64 (key.length+val.length+2)) (nI .i64 1) G=.val (nI .i64 (key.length+val.length+1)) G:=λG=>by rw[Wz (by omega) (by omega)];rfl
  have s5: ∀G,Mh (nI .i64 (val.length+1)) (nI .i64 1) G=.val (nI .i64 val.length) G:=λG=>by rw[Wz (by omega) (by omega)];rfl
  have c32:decide ((32:Nat)≠32)=false:=rfl;have c10:decide ((10:Nat)≠10)=false:=rfl;have c6:decide (key.length+val.length+2<3)=false:=Zc (by omega);have c7:decide (key.length+val.length+2<=key.length+val.length+2+t.length)=true:=Zi (by omega);obtain⟨v2,sl2,Kc,_⟩:=Zke yp (n:=key.length+val.length+2) (by omega) (by omega) .i64;have sb:Uo 1 v1 none (some (nI .i64 (key.length+val.length+2))) H2=.val v2 H2:=sl2 H2.nx H2.ro;have htk:(key++61::(val++10::t)).take (key.length+val.length+2)=key++61::(val++[10]):=by
   have:key++61::(val++10::t)=(key++61::(val++[10]))++t:=by simp only[Yq,WE,ZQ]
   rw[this,show key.length+val.length+2=(key++61::(val++[10])).length by simp only[Zh,ZL,XU];omega,W3]
  rw[htk] at Kc;have es:=Gx Kc;have ec:=λ{j}=>Zmb E (k:=K) (n:=j) (by omega) (s:=key++61::(val++[10])) (x:=61) (H:=H2) (by simp only[Zh,ZL,XU];omega);rw[Zdi (x:=UInt8.toNat 61) (c:=61) rfl k3] at ec;have ec': ∀{j},ZA (LK Zq fs Zk K) fs Zk (j+1) 137 [.str (key++61::(val++[10])),.str [61]] H2=.ret (.tup [.str key,.str (val++[10]),.bool true]) H2:=ec;have em:=λ{j}=>Zjd E (k:=K) (n:=j) (by omega) (a:=key) (b:=[]) (H:=H2) (by omega) (by have:=kb.nx;omega);rw[hm] at em;have c8:decide (key.length+val.length<key.length)=false:=Zc (by omega);have lv:(val++[10]).length=val.length+1:=by rw[Zh];rfl
  obtain⟨b3,o3,r3,eI3,_,Dk,ld3_⟩:=(Rd.of_bv Kc).at_ (key.length+val.length+1) (by simp only[Zh,ZL,XU];omega);have hx3:(key++61::(val++[10])).getD (key.length+val.length+1) 0=10:=by
   rw[show key++61::(val++[10])=(key++61::val)++[10] by simp only[Yq,WE],NH,if_neg (by simp only[Zh,ZL];omega),show key.length+val.length+1 - (key++61::val).length=0 by simp only[Zh,ZL];omega];rfl
  rw[hx3] at ld3_;have Zis: ∀G,ld1 (some (.row r3)) o3 G=.val (nI .u8 10) G:=ld3_;have tk: ∀G,ET (.str (val++[10])) none (some (nI .i64 val.length)) G=.val (.str val) G:=λG=>by
   have:=Tj (s:=val++[10]) (n:=val.length) (by omega) .i64 G
   rwa [W3] at this
  simp(maxSteps:=4000000) only[bx,hH1,hH2,g1,g2,l0,ed,c0,c1,eI0,gb0,n6,c2,ew,ln,c5,eI1,gb1,ld1',a1,sa,ln1,s1,s2,s3,s4,s5,c32,c10,c6,c7,sb,es,ec',em,c8,lv,eI3,Dk,Zis,tk,bd1,bd2,st,gp,rv,OA,UJ,RU,HW,Ud,Th,XH,YY,ZO,ZD,Qm,Yr,ZE,Yn,YQ,UI,ZZ,ZD,ZO,ZE,Yn,Yr,Zg6,ZG,Yj,Zz,Yc,Yg,UH,KA,Ca,i4];refine⟨_,rfl,?_⟩;exact kc.then_put (by omega)
def cX{v:AV}{l:Zd}(h:BV H v l)(h0:l≠[])(k:IntKind):
  ∃v' H',Uo 1 v (some (nI k l.length)) none H=.val v' H'∧Zu H H' []∧BV H' v' []∧ ∀b∈Xk v',b<H'.nx:=by
 rcases h with⟨rfl,_⟩|⟨_,b,o,c,r,rfl,hB,hlt⟩
 ·exact absurd rfl h0
 have hcap:l.length<=Wa r o c:=by
  cases c with
  |none=>
   show l.length<=cond (Nat.beq r.sz 1) (r.size - o) _;rw[hB.sz];have:=hB.fits;show l.length<=r.size - o;omega
  |some k=>exact(hB.cap k rfl).1
 have hs:Oa r 1 c=true:=by
  cases c with
  |none=>show Nat.beq r.sz 1=true;rw[hB.sz];rfl
  |some c=>rfl
 have e:Uo 1 (.slice b o l.length c) (some (nI k l.length)) none H=cond (Nat.beq l.length (Wa r o c)) (Option.rec (.val (.slice H.nx 0 (l.length - l.length) none) ⟨Nat.succ H.nx,H.t,H.ro⟩) (λ_=>.val (.slice b o (l.length - l.length) (some 0)) H) c) (.val (.slice b (o+l.length) (l.length - l.length) (OW c l.length)) H):=by
  show Yx H b _=_;unfold Yx;rw[hB.at_];show ZJ (Oa r 1 c) (ZJ (Nat.ble l.length l.length) (ZJ (Nat.ble l.length (Wa r o c)) (cond (Nat.beq l.length (Wa r o c)) _ (.val (.slice b (o+l.length*1) (l.length - l.length) _) H))))=_;rw[hs,Zj (Zs _),Zj hcap,Y6];cases c<;>rfl
 rw[e,Ut,Yl]
 by_cases hq:l.length=Wa r o c
 ·rw[Zi hq]
  cases c with
  |none=>exact⟨_,_,rfl,⟨Ve _,rfl,λ_ _ _=>rfl⟩,.inl ⟨rfl,.inr ⟨_,_,_,rfl⟩⟩,λx hx=>by rw[Zn.1 hx];exact ZU _⟩
  |some c=>exact⟨_,_,rfl,Zu.refl _ _,.inl ⟨rfl,.inr ⟨_,_,_,rfl⟩⟩,λx hx=>by rw[Zn.1 hx];exact hlt⟩
 ·rw[Zc hq]
  exact⟨_,_,rfl,Zu.refl _ _,.inl ⟨rfl,.inr ⟨_,_,_,rfl⟩⟩,λx hx=>by rw[Zn.1 hx];exact hlt⟩
def wh{x:NP}(h:MT x):1<=(QO x).length:=by
 obtain⟨z,_,hz,_,_,hl⟩:=qY h;omega
def Ld(x:NP)(R:List NP):VO (x::R)=QO x++VO R:=rfl
structure PGI(Hs:Heap)(Rs:List NP)(m:Nat)(tm:TM)(H:Heap):Prop where
 k:Zu Hs H []
 v: ∃v R w ls,Z6 tm=v∧BV H v (VO R)∧R.length=m∧(∀x∈R,MT x)∧(∀b∈Xk v,b<H.nx)∧(R≠[]-> ∀b∈Xk v,b<Hs.nx)∧(VO R).length<=100000000∧Xo tm=w∧TZ H w 73 2 (TN ls) Hs.nx∧ls++R=Rs
def PGQ(Hs:Heap)(Rs:List NP)(o:Out)(tm:TM)(H:Heap):Prop:=Zu Hs H []∧o=.exit 0∧ ∃w,Xo tm=w∧TZ H w 73 2 (TN Rs) Hs.nx
def ZeT(E:Env Zq fs Zk){K:Nat}(hK:6<=K){Hs:Heap}{Rs:List NP}(hN:Rs.length<=1000)(hro:Hs.ro<=Hs.nx)(y f dd qq)(X0:X)(m:Nat)(tm:TM)(H:Heap)(hI:PGI Hs Rs m tm H):
  ∃o tm' H',Bm ⟨ZA (LK Zq fs Zk K) fs Zk (n+3),y,f,dd,qq⟩ tm H X0=.ok o tm' H' X0∧((o=.normal∧ ∃k,k<m∧PGI Hs Rs k tm' H')∨(o≠.normal∧PGQ Hs Rs o tm' H')):=by
 obtain⟨k0,v,R,w,ls,t0,bv,hm,hR,hb1,hb2,hlen,t4,hw,hls⟩:=hI;have t0':=t0;have Gk:=t4;simp only[Pa,Pt] at t0 t4;have ln:=bv.len;have roH:H.ro<=H.nx:=by rw[k0.ro];have:=k0.nx;omega
 cases R with
 |nil=>
  have l0:(VO ([]:List NP)).length=0:=rfl;rw[l0] at ln;have d1:decide (0<0)=false:=rfl;simp only[t0,ln,Yn,Vc,decide_false,Yn,Bm,ZG,Yj,Yg];refine⟨_,_,_,rfl,?_⟩;exact .inr ⟨by simp,k0,rfl,w,Gk,by rw[<-hls,ZM];exact hw⟩
 |cons x R=>
  have hx:=hR x (Zw ..);have hp:=wh hx;have hlx:(VO (x::R)).length=(QO x).length+(VO R).length:=by rw[Ld,Zh]
  have d1:decide (0<(VO (x::R)).length)=true:=Zi (by omega);have hb3:=hb2 (by simp);obtain⟨H1,e1,k1⟩:=ZeO E (K:=K) (n:=n+1) hK (H:=H) (v:=v) (l:=VO (x::R)) (t:=VO R) (x:=x) roH bv (Ld x R) hx (by omega);have hlsl:ls.length+(R.length+1)=Rs.length:=by rw[<-hls,Zh];rfl
  obtain⟨p,s⟩:=x;obtain⟨H2,hH2⟩:=TO (H1.new (rH 73 [.str [],.str []]));obtain⟨H3,hH3⟩:=TO (H2.put H1.nx (rH 73 [.str p,.str s]));have nx2:H2.nx=H1.nx+1:=by rw[<-hH2];rfl
  have k2:Zu H H2 []:=by rw[<-hH2];exact k1.then_new _
  have k3:Zu H H3 []:=by rw[<-hH3];exact k2.then_put (by have:=k1.nx;omega)
  have g2:H2.t.get H1.nx=some (rH 73 [.str [],.str []]):=by rw[<-hH2];exact ZR rfl _
  have g3:H3.t.get H1.nx=some (rH 73 [.str p,.str s]):=by rw[<-hH3];exact Yp _ _ _
  have st:=TL (n:=2) (b:=H1.nx) (l:=[.str [],.str []]) (vs:=[.str p,.str s]) (H:=H2) rfl rfl (by decide) (by rw[k2.ro];have:=k1.nx;omega) 73 1 false true;rw[hH3] at st;obtain⟨lw,sw,cw,bw⟩:=Wb hw;have d2:decide ((0:Nat)≠0)=false:=rfl;have ld: ∀G,zI 2 (some (rH 73 [.str p,.str s])) 0 G=.val (.agg [.str p,.str s]) G:=λG=>Tg (l:=[.str p,.str s]) (n:=2) (o:=0) (Zs 2) ..;have bs: ∀G,US 73 2 1 [.str [],.str []] [(0,2,.agg [.str p,.str s])] G=.val (.slice G.nx 0 1 none) (G.new (rG 73 2 [.str p,.str s] 0 false true true)):=λ_=>rfl;have hw3:=hw.below (H':=H3) (λc _ hc=>k3.get c hc (by simp)) k3.ro k3.nx;obtain⟨w',H4,ea,w4,k4,_,n4⟩:=wj (bytes:=32) hw3 (by decide) (by decide) (by rw[Vm];omega) (by rw[k3.ro];have:=k3.nx;omega) (by have:=k3.nx;have:=k0.nx;omega) (x:=[.str p,.str s]) rfl;have kw:=bv.keep k3 (λ_ _ _ _ _=>by simp);have oF:=kw.keep k4 (λb o n c ev hm=>by
   have:=hb3 b (by rw[ev];exact Zn.2 rfl)
   have:=(bw b hm).1
   omega)
  have nV:Zu Hs H4 []:=by
   refine⟨by have:=k0.nx;have:=k3.nx;omega,by rw[k4.ro,k3.ro,k0.ro],λc hc _=>?_⟩;rw[k4.get c (by have:=k0.nx;have:=k3.nx;omega) (λh=>by have:=(bw c h).1;omega),k3.get c (by have:=k0.nx;omega) (by simp),k0.get c hc (by simp)]
  have sl: ∃v' H5,Uo 1 v (some (nI .i64 (QO (p,s)).length)) none H4=.val v' H5∧Zu H4 H5 []∧BV H5 v' (VO R)∧(∀b∈Xk v',b<H5.nx)∧(R≠[]-> ∀b∈Xk v',b<Hs.nx):=by
   have hdr:(VO ((p,s)::R)).drop (QO (p,s)).length=VO R:=by rw[Ld,UY]
   cases R with
   |nil=>
    have hl0:VO [(p,s)]=QO (p,s):=by rw[Ld];exact ZM _
    rw[hl0] at oF;obtain⟨v',H5,a1,a2,a3,a4⟩:=cX oF (λh=>by rw[h] at hp;cases hp) .i64;exact⟨v',H5,a1,a2,a3,a4,λh=>absurd rfl h⟩
   |cons x' R'=>
    have hx':=wh (hR x' (ZC _ (Zw ..)));have hl2:(VO (x'::R')).length=(QO x').length+(VO R').length:=by rw[Ld,Zh]
    obtain⟨v',a1,a2,a3⟩:=ky oF (n:=(QO (p,s)).length) (by omega) .i64;rw[hdr] at a2;exact⟨v',H4,a1 H4.nx H4.ro,Zu.refl _ _,a2,λb hb=>by rw[a3] at hb;have:=hb3 b hb;have:=nV.nx;omega,λ_ b hb=>hb3 b (by rw[<-a3];exact hb)⟩
  obtain⟨v',H5,sv,k5,bv5,hb5,hb6⟩:=sl;simp only[t0,t4,ln,d1,e1,hH2,g2,g3,st,d2,ld,bs,ea,sv,ED,Th,YO,Ys,XH,YY,Yn,UI,YO,Ys,ZD,ZO,Yn,Bm,ZG,Yj,Yg];refine⟨_,_,_,rfl,.inl ⟨rfl,R.length,by rw[<-hm];exact ZU _,nV.trans k5 (λ_ h _=>h),v',R,w',ls++[(p,s)],rfl,bv5,rfl,λy hy=>hR y (ZC _ hy),hb5,hb6,by omega,rfl,?_,by rw[Yq];exact hls⟩⟩;rw[J4];exact w4.below (λc _ hc=>k5.get c hc (by simp)) k5.ro k5.nx
def ZbF(E:Env Zq fs Zk){K:Nat}(hK:6<=K){v:AV}{Rs:List NP}(hro:H.ro<=H.nx)(bv:BV H v (VO Rs))(hb: ∀b∈Xk v,b<H.nx)(hR: ∀x∈Rs,MT x)(hl:Rs.length<=1000)(hlen:(VO Rs).length<=16777216):
  ∃w H',ZA (LK Zq fs Zk K) fs Zk (n+4) 81 [v] H=.ret (.tup [w,nI .i64 0]) H'∧Zu H H' []∧TZ H' w 73 2 (TN Rs) H.nx:=by
 rw[Z5 E.f81 (.inr rfl)];have hf:=E.big;have ln:=bv.len;have d1:decide (16777216<(VO Rs).length)=false:=Zc (by omega);simp only[ln,d1,Yn,Yn,c81,ZG,Yj,Yg];generalize hL:Vq (Bm _) Zk _ _ _=L;obtain⟨o,OS,H1,rfl,ho,k1,rfl,w,t4,hw⟩:=YP (P:=λT=>PGI H Rs Rs.length T H) (Q:=PGQ H Rs)
  (λT hi=>Y5 (PGI H Rs) (PGQ H Rs) (λm tm H1 h=>ZeT E (n:=n) hK hl hro _ _ _ _ _ m tm H1 h) Zk Rs.length T H (by omega) hi) hL
  (by exact⟨Zu.refl _ _,v,Rs,.nils,[],rfl,bv,rfl,hR,hb,λ_=>hb,by omega,rfl,.inl ⟨rfl,rfl⟩,rfl⟩)
 simp only[Pt] at t4;obtain⟨lw,sw,cw,bw⟩:=Wb hw;simp only[t4,ZG,Yj,Zz,Yg];exact⟨_,_,rfl,k1,hw⟩
end
end
end Go.AI
