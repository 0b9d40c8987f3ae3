/- What may be a path, and what it stands for: walked; proved, conditions as named. -/
import Derived.Test.YtfkkljjgkopkfaaGreatDoorP9
import Derived.Test.YtfkkljjgkopkfaaGreatDoorP8
import Derived.Test.YtfkkljjgkopkfaaGreatDoorP7
import Derived.Test.YtfkkljjgkopkfaaGreatDoorP6
set_option maxRecDepth 1000000
set_option maxHeartbeats 0
set_option linter.all false
namespace Go.AI
open Go
noncomputable section
section
variable {Zq:Lib} {fs:T CF} {Zk k n i h b:Nat} {H H0:Heap} {s:Zd} {cs:List AV}
def LQ(G:Heap):T2 UQ Wd (.int .i64 (.negSucc 0)) (nI .i64 0) G=.val (.bool false) G:=rfl
def Zb5:QZ [47,0]:=⟨by decide,by decide,by decide⟩
def ZaP(E:Env Zq fs Zk)(hs:s.length<=90000)(hro:H.ro<=H.nx):
  ∃H',ZA (LK Zq fs Zk 5) fs Zk (n+2) 49 [.str s] H=.ret (.bool (XS s)) H'∧Zu H H' []:=by
 rw[Z5 E.f49 (.inl (by decide))];have e1:=λ{j}=>bF E (k:=5) (n:=j) (by decide) (s:=s) (H:=H) Zb5 hs hro;have e2:=λ{j}=>ZdH E (k:=5) (n:=j) (by decide) (s:=s) (p:=[46,119,104,46]) (H:=H) hs
 by_cases h1:s=[]
 ·have dh1:decide (s=[])=true:=Zi h1
  rw[show XS s=false by unfold XS gU yE uX;simp[h1]];simp only[dh1,VL,c49,ZG,Yj,Zz,Yc,Yg];refine⟨_,rfl,?_⟩;exact Zu.refl _ _
 have dh1:decide (s=[])=false:=Zc h1
 by_cases h2: ¬s.length<=251
 ·have dh2:decide (s.length<=251)=false:=Zc h2
  rw[show XS s=false by unfold XS gU yE uX;simp[h2]];simp only[dh2,dh1,Y4,VL,ZZ,c49,ZG,Yj,Zz,Yc,Yg];refine⟨_,rfl,?_⟩;exact Zu.refl _ _
 have h2:=Decidable.not_not.1 h2;have dh2:decide (s.length<=251)=true:=Zi h2
 by_cases h3:s=[46]
 ·have dh3:decide (s=[46])=true:=Zi h3
  rw[show XS s=false by unfold XS gU yE uX;simp[h3]];simp only[dh3,dh1,dh2,Y4,VL,ZZ,c49,ZG,Yj,Zz,Yc,Yg];refine⟨_,rfl,?_⟩;exact Zu.refl _ _
 have dh3:decide (s=[46])=false:=Zc h3
 by_cases h4:s=[46,46]
 ·have dh4:decide (s=[46,46])=true:=Zi h4
  rw[show XS s=false by unfold XS gU yE uX;simp[h4]];simp only[dh4,dh1,dh2,dh3,Y4,VL,ZZ,c49,ZG,Yj,Zz,Yc,Yg];refine⟨_,rfl,?_⟩;exact Zu.refl _ _
 have dh4:decide (s=[46,46])=false:=Zc h4;cases ha:MV [47,0] s with
 |true=>
  rw[ha] at e1;rw[show XS s=false by unfold XS;simp[ha]];simp only[dh1,dh2,dh3,dh4,e1,Y4,VL,ZZ,c49,ZG,Yj,Zz,Yc,Yg];refine⟨_,rfl,?_⟩;exact Zu.refl _ _
 |false=>
  rw[ha] at e1;cases hb:Qq [46,119,104,46] s with
  |true=>
   rw[hb] at e2;rw[show XS s=false by unfold XS uX;simp[hb]];simp only[dh1,dh2,dh3,dh4,e1,e2,Y4,VL,ZZ,c49,ZG,Yj,Zz,Yc,Yg];refine⟨_,rfl,?_⟩;exact Zu.refl _ _
  |false=>
   rw[hb] at e2;rw[show XS s=true by unfold XS gU yE uX;simp[h1,h2,h3,h4,ha,hb]];simp only[dh1,dh2,dh3,dh4,e1,e2,Y4,VL,ZZ,c49,ZG,Yj,Zz,Yc,Yg];refine⟨_,rfl,?_⟩;exact Zu.refl _ _
def ZlF(E:Env Zq fs Zk)(hk:6<=k)(hs:s.length<=90000)(hro:H.ro<=H.nx):
  ZA (LK Zq fs Zk k) fs Zk (n+1) 49 [.str s] H=.ret (.bool (XS s)) H:=by
 obtain⟨H',e,g⟩:=ZaP E (n:=898) (H:=H) hs hro;exact Yh (r:=5) rfl rfl e g (rfl) hk
def ZaO(E:Env Zq fs Zk)(hs:s.length<=90000)(hro:H.ro<=H.nx):
  ∃H',ZA (LK Zq fs Zk 6) fs Zk (n+2) 73 [.str s] H=.ret (.bool (!XS s)) H'∧Zu H H' []:=by
 rw[Z5 E.f73 (.inl (by decide))];have e1:=λ{j}=>ZlF E (k:=6) (n:=j) (by decide) (s:=s) (H:=H) hs hro;simp only[e1,c73,ZG,Yj,Zz,Yg];refine⟨_,rfl,?_⟩;exact Zu.refl _ _
def Zp7(E:Env Zq fs Zk)(hk:7<=k)(hs:s.length<=90000)(hro:H.ro<=H.nx):
  ZA (LK Zq fs Zk k) fs Zk (n+1) 73 [.str s] H=.ret (.bool (!XS s)) H:=by
 obtain⟨H',e,g⟩:=ZaO E (n:=898) (H:=H) hs hro;exact Yh (r:=6) rfl rfl e g (rfl) hk
structure IFI(v:AV)(l:List (Zd))(H0:Heap)(m:Nat)(tm:TM)(H:Heap):Prop where
 heap:H=H0
 t0:Z6 tm=v
 t1:Xn tm=.func 73 [] []
 t7:XE tm=nI .i64 l.length
 i: ∃i,Xt tm=nI .i64 i∧i+m=l.length∧ ∀j,j<i->XS (l.getD j [])=true
def IFQ(l:List (Zd))(H0:Heap)(o:Out)(tm:TM)(H:Heap):Prop:=H=H0∧((o=.ret∧ ∃p,Xo tm=nI .i64 p∧l.all XS=false)∨(o=.exit 0∧l.all XS=true))
def ZgW{l:List (Zd)}:(∀j,j<l.length->XS (l.getD j [])=true)->l.all XS=true:=λh=>by
 rw[Ya];intro x hx;obtain⟨i,hi,rfl⟩:=I9 hx;have:=h i hi
 rwa [Ze,Zm hi] at this
def Zey{l:List (Zd)}(hi:i<l.length)(h:XS (l.getD i [])=false):l.all XS=false:=by
 rw[Bool.eq_false_iff];intro e;rw[Ya] at e;have:=e _ (XD hi);rw[Ze,Zm hi] at h;have h:XS l[i]=false:=h;rw[h] at this;cases this
def ZdT(E:Env Zq fs Zk)(hk:7<=k){v:AV}{l:List (Zd)}(hl:l.length<=90000)(hs: ∀i,i<l.length->(l.getD i []).length<=90000)(hro:H0.ro<=H0.nx)(hN:vw H0 v l)(y f dd q)(X0:X)(m:Nat)(tm:TM)(H:Heap)(hI:IFI v l H0 m tm H):
  ∃o tm' H',Q6 ⟨ZA (LK Zq fs Zk k) fs Zk (n+1),y,f,dd,q⟩ tm H X0=.ok o tm' H' X0∧((o=.normal∧ ∃k,k<m∧IFI v l H0 k tm' H')∨(o≠.normal∧IFQ l H0 o tm' H')):=by
 obtain⟨rfl,t0,t1,t7,i,t8,him,hn⟩:=hI;have t0':=t0;have t1':=t1;have Cm:=t7;simp only[Pa,Kp,G8,G9] at t0 t1 t7 t8;cases m with
 |zero=>
  have d1:decide (i<l.length)=false:=Zc (by omega);simp only[t7,t8,d1,ZE,Q6,ZG,Yj,Yg];refine⟨_,_,_,rfl,?_⟩;exact .inr ⟨by simp,rfl,.inr ⟨rfl,ZgW λj hj=>hn j (by omega)⟩⟩
 |succ m=>
  have d1:decide (i<l.length)=true:=Zi (by omega);have hi:i<l.length:=by omega
  rcases hN with⟨_,rfl⟩|⟨b,rfl,_,r,g,hz,hsz,how,hb,hg⟩
  ·simp at hi
  ·have hir:i<r.size:=by omega
   have gi:=hg i hi;have e1:=λ{j}=>Zp7 E (k:=k) (n:=j) hk (H:=H) (hs i hi) hro;cases hm:XS (l.getD i []) with
   |true=>
    rw[hm] at e1;simp(disch:=omega) only[t0,t1,t7,t8,d1,g,gi,e1,ZE,Y0,Zl,Y3,ZQ,ZM,Qt,XP,Zl,Q6,ZG,Yj,Zz,Yc,Yg];refine⟨_,_,_,rfl,.inl ⟨rfl,m,by omega,rfl,t0',t1',Cm,i+1,rfl,by omega,λj hj=>?_⟩⟩
    by_cases h:j=i
    ·rw[h];exact hm
    ·exact hn j (by omega)
   |false=>
    rw[hm] at e1;simp(disch:=omega) only[t0,t1,t7,t8,d1,g,gi,e1,ZE,Zl,Y3,ZQ,ZM,Qt,XP,Zl,Q6,ZG,Yj,Zz,Yc,Yg];refine⟨_,_,_,rfl,?_⟩;exact .inr ⟨by simp,rfl,.inl ⟨rfl,i,rfl,Zey hi hm⟩⟩
def ZpJ(E:Env Zq fs Zk)(hk:7<=k){v:AV}{l:List (Zd)}(hl:l.length<=90000)(hs: ∀i,i<l.length->(l.getD i []).length<=90000)(hro:H.ro<=H.nx)(hN:vw H v l):
  ∃w,ZA (LK Zq fs Zk k) fs Zk (n+2) 103 [v,.func 73 [] []] H=.ret w H∧((l.all XS=false∧ ∃p,w=nI .i64 p)∨(l.all XS=true∧w=.int .i64 (.negSucc 0))):=by
 rw[Z5 E.f103 (.inr rfl)];have ln:=hN.len;simp only[ln,Zc0,ZG,Yj,Yg];generalize hL:Vq (Q6 _) Zk _ _ _=L;obtain⟨o,OS,H2,rfl,_,rfl,z⟩:=YP (P:=λT=>IFI v l H l.length T H) (Q:=IFQ l H)
  (λT hi=>Y5 (IFI v l H) (IFQ l H) (λm tm H2 h=>ZdT E hk hl hs hro hN _ _ _ _ _ m tm H2 h) Zk l.length T H (by have:=E.big;omega) hi) hL
  (by exact⟨rfl,rfl,rfl,rfl,0,rfl,by omega,λj hj=>by omega⟩)
 rcases z with⟨rfl,p,t4,e⟩|⟨rfl,e⟩
 ·simp only[Pt] at t4
  simp only[t4,ZG,Zz,Yg];refine⟨_,rfl,?_⟩;exact .inl ⟨e,p,rfl⟩
 ·
  simp only[ZG,Yj,Zz,Yg];refine⟨_,rfl,?_⟩;exact .inr ⟨e,rfl⟩
def ZoQ(E:Env Zq fs Zk)(hk:7<=k){v:AV}{l:List (Zd)}(hl:l.length<=90000)(hs: ∀i,i<l.length->(l.getD i []).length<=90000)(hro:H.ro<=H.nx)(hN:vw H v l):
  ZA (LK Zq fs Zk k) fs Zk (n+3) 72 [v,.func 73 [] []] H=.ret (.bool (!l.all XS)) H:=by
 rw[Z5 E.f72 (.inr rfl)];obtain⟨w,e1,h⟩:=ZpJ E (n:=n) hk hl hs hro hN;rcases h with⟨h,p,rfl⟩|⟨h,rfl⟩
 ·have d1:decide (0<=p)=true:=Zi (ZN _)
  rw[h];simp only[e1,Yr,ZN,decide_true,c72,ZG,Yj,Zz,Yc,Yg]
 ·rw[h]
  simp only[e1,LQ,c72,ZG,Yj,Zz,Yc,Yg]
theorem MI: ∀(s:Zd) (x:Zd),x∈Yv s->x.length<=s.length
 |[],x,h=>by
  have:x=[]:=by simpa [Yv] using h
  rw[this];exact Zs _
 |c::s,x,h=>by
  rw[Yv] at h;rw[ZL]
  split at h
  ·rcases ZY.1 h with rfl|h
   ·exact ZN _
   ·have:=MI s x h;omega
  ·split at h
   ·rename_i e;exact absurd e (RA s)
   ·rename_i a b e
    rcases ZY.1 h with rfl|h
    ·have:=MI s a (by rw[e];exact Zw ..)
     rw[ZL];omega
    ·have:=MI s x (by rw[e];exact ZC _ h);omega
def qt{x:Zd}(h:x∈SH s):x.length<=s.length:=by
 unfold SH at h
 split at h
 ·cases h
 ·exact MI s x h
def eM(s:Zd):(SH s).length<=s.length+1:=by
 unfold SH
 split
 ·exact ZN _
 ·rw[P9];have:=vI 47 s;omega
def Zbv(E:Env Zq fs Zk)(hs:s.length<=89000)(hro:H.ro<=H.nx):
  ∃H',ZA (LK Zq fs Zk 9) fs Zk (n+6) 48 [.str s] H=.ret (.bool (LP s)) H'∧Zu H H' []:=by
 rw[Z5 E.f48 (.inl (by decide))];obtain⟨v,H1,e1,hN,k1⟩:=mP E (k:=9) (n:=n+1) (by decide) (s:=s) (by omega) hro;have ln:=hN.len;have nl:=eM s;have e2:=λ{j}=>ZoQ E (k:=9) (n:=j) (by decide) (v:=v) (l:=SH s) (by omega) (λi hi=>by
  have:(SH s).getD i []∈SH s:=by rw[Ze,Zm hi];exact XD hi
  have:=qt this;omega) (by rw[k1.ro];exact Yb hro k1.nx) hN
 by_cases h1:s.length<=4080
 ·have d1:decide (s.length<=4080)=true:=Zi h1
  by_cases h2:(SH s).length<255
  ·have d2:decide ((SH s).length<255)=true:=Zi h2
   cases hm:(SH s).all XS with
   |true=>
    rw[hm] at e2;rw[show LP s=true by unfold LP;simp only[hm,h1,h2];rfl];simp only[e1,ln,d1,d2,e2,Y4,ZE,ZZ,c48,ZG,Yj,Zz,Yc,Yg];refine⟨_,rfl,?_⟩;exact k1
   |false=>
    rw[hm] at e2;rw[show LP s=false by unfold LP;simp only[hm,Bool.and_false]];simp only[e1,ln,d1,d2,e2,Y4,ZE,ZZ,c48,ZG,Yj,Zz,Yc,Yg];refine⟨_,rfl,?_⟩;exact k1
  ·have d2:decide ((SH s).length<255)=false:=Zc h2
   rw[show LP s=false by unfold LP;rw[d2,Bool.and_false];rfl];simp only[e1,ln,d1,d2,Y4,ZE,ZZ,c48,ZG,Yj,Zz,Yg];refine⟨_,rfl,?_⟩;exact k1
 ·have d1:decide (s.length<=4080)=false:=Zc h1
  rw[show LP s=false by unfold LP;rw[d1];rfl];simp only[e1,d1,Y4,ZZ,c48,ZG,Yj,Zz,Yg];refine⟨_,rfl,?_⟩;exact k1
def Zqh(E:Env Zq fs Zk)(hk:10<=k)(hs:s.length<=89000)(hro:H.ro<=H.nx):
  ZA (LK Zq fs Zk k) fs Zk (n+1) 48 [.str s] H=.ret (.bool (LP s)) H:=by
 obtain⟨H',e,g⟩:=Zbv E (n:=894) (H:=H) hs hro;exact Yh (r:=9) rfl rfl e g (rfl) hk
def cEs:List Ss:=[⟨nI .i64 1,.func 227 [] [],0⟩,⟨nI .i64 2,.func 228 [] [],0⟩,⟨nI .i64 3,.func 229 [] [],0⟩]
def tEs:List Ss:=[⟨nI .i64 1,nI .u8 53,0⟩,⟨nI .i64 2,nI .u8 48,0⟩,⟨nI .i64 3,nI .u8 50,0⟩,⟨nI .i64 4,nI .u8 54,0⟩]
structure Nc(H:Heap):Prop where
 nx:100<=H.nx
 ro:H.ro<=H.nx
 c: ∃r,H.t.get 1=some (.row r)∧0<r.size∧r.get 0=.map 13
 cm:H.t.get 13=some (.cmap cEs)
 t: ∃r,H.t.get 0=some (.row r)∧0<r.size∧r.get 0=.map 12
 tm:H.t.get 12=some (.cmap tEs)
def Nc.keep{H H':Heap}{S:List Nat}(g:Nc H)(k:Zu H H' S)(hS: ∀x∈S,100<=x):Nc H':=by
 obtain⟨a,b,⟨r,c1,c2,c3⟩,d,⟨q,e1,e2,e3⟩,f⟩:=g;have kk:=λx (hx:x<100)=>k.get x (by omega) (λh=>by have:=hS x h;omega);exact⟨Yb a k.nx,by rw[k.ro];exact Yb b k.nx,⟨r,by rw[kk _ (by decide)];exact c1,c2,c3⟩,by rw[kk _ (by decide)];exact d,⟨q,by rw[kk _ (by decide)];exact e1,e2,e3⟩,by rw[kk _ (by decide)];exact f⟩
def Nc.keep0{H H':Heap}(g:Nc H)(k:Zu H H' []):Nc H':=g.keep k (by simp)
def Zeg(G:Heap):lkO WX .nilf false (some (.cmap cEs)) (nI .i64 1) G=.val (.func 227 [] []) G:=rfl
def ZaI(G:Heap):lkO WX .nilf false (some (.cmap cEs)) (nI .i64 2) G=.val (.func 228 [] []) G:=rfl
def Ziu(G:Heap):lkO WX .nilf false (some (.cmap cEs)) (nI .i64 3) G=.val (.func 229 [] []) G:=rfl
def Zew(d:Zd):(Cd d).length<=d.length:=by
 unfold Cd
 split
 ·rw[Zy];omega
 ·exact Zs _
def Gs(p:Zd):(Tn p).length+(XO p).length=p.length:=by
 unfold Tn XO;rw[Zy,Ye];omega
def io{b:Zd}(h:Sy b=2):4<=b.length:=by
 unfold Sy at h
 split at h
 ·cases h
 ·split at h
  ·rename_i e
   unfold Qq uX at e;rw[Z4] at e;exact Zr e.1
  ·cases h
def ce(p:Zd):(S8 p).length<=p.length:=by
 have h:=Gs p;unfold S8
 split
 ·rw[Zh];omega
 ·split
  ·rw[Zh,Ye];omega
  ·have:=Zew (Tn p);omega
def nh(E:Env Zq fs Zk)(hs:s.length<=80000)(g:Nc H):
  ∃H',ZA (LK Zq fs Zk 10) fs Zk (n+2) 22 [.str s] H=.ret (.tup [nI .i64 (Wm s).1,.str (Wm s).2]) H'∧Zu H H' []:=by
 rw[Z5 E.f22 (.inl (by decide))];have e1:=λ{j}=>base E (k:=10) (n:=j) (by decide) (s:=s) (H:=H) (by omega);have e2:=λ{j}=>Zlx E (k:=10) (n:=j) (by decide) (s:=XO s) (H:=H) (by have:=Gs s;omega);have e3:=λ{j}=>ZgJ E (k:=10) (n:=j) (by decide) (s:=s) (p:=XO s) (H:=H) (by omega);rw[cu] at e3;have e4:=λ{j}=>Zqh E (k:=10) (n:=j) (by decide) (s:=S8 s) (H:=H) (by have:=ce s;omega) g.ro;have e6:=λ{j}=>ZlF E (k:=10) (n:=j) (by decide) (s:=(XO s).drop 4) (H:=H) (by rw[Ye];have:=Gs s;omega) g.ro;have nq1:decide (1≠3)=true:=rfl;have nq2:decide (2≠3)=true:=rfl;have nq3:decide (3≠3)=false:=rfl;obtain⟨r,g1,g2,g3⟩:=g.c;have ld: ∀G,ld1 (some (.row r)) 0 G=.val (.map 13) G:=λG=>by rw[Qt g2,g3]
 have gm:=g.cm;have bd:=Gs s;obtain⟨l1,l3⟩:=ua (XO s)
 by_cases h0:s=[46,119,104,46,46,119,104,46,116,111,99]
 ·have d0:decide (s=[46,119,104,46,46,119,104,46,116,111,99])=true:=Zi h0
  rw[show Wm s=(4,[]) by unfold Wm lM;simp[h0]];simp only[d0,Wi,oU,ZG,Yj,Zz,Yg];refine⟨_,rfl,?_⟩;exact Zu.refl _ _
 have d0:decide (s=[46,119,104,46,46,119,104,46,116,111,99])=false:=Zc h0;have h0': ¬s=lM:=h0;have hcl:Sy (XO s)=1∨Sy (XO s)=2∨Sy (XO s)=3:=by omega
 rcases hcl with hc|hc|hc
 ·rw[hc] at e2
  have ht:S8 s=Tn s++XO s:=by unfold S8;simp[hc]
  rw[ht] at e4;have e5:=λ{j}=>ZhA E (k:=10) (n:=j) (by decide) (a:=Tn s) (s:=XO s) (H:=H) (by omega);cases hm:LP (Tn s++XO s) with
  |false=>
   rw[hm] at e4;rw[show Wm s=(0,[]) by unfold Wm Ln;simp[h0',ht,hm,hc]];simp only[d0,e1,e2,e3,e4,e5,g1,ld,gm,Zeg,Qm,Wi,Y3,ZQ,ZM,YM,Xz,oU,ZG,Yj,Zz,Yc,Yg,UH];refine⟨_,rfl,?_⟩;exact Zu.refl _ _
  |true=>
   rw[hm] at e4
   by_cases hz:Tn s++XO s=[]
   ·have dz:decide (Tn s++XO s=[])=true:=Zi hz
    have hz2:LP []=true:=by rw[<-hz];exact hm
    rw[show Wm s=(0,[]) by unfold Wm Ln;rw[ht,dz];simp[h0',hc]];simp only[nq1,d0,e1,e2,e3,e4,e5,g1,ld,gm,Zeg,dz,Qm,UI,Wi,Y3,ZQ,ZM,YM,Xz,oU,ZG,Yj,Zz,Yc,Yg,UH];refine⟨_,rfl,?_⟩;exact Zu.refl _ _
   ·have dz:decide (Tn s++XO s=[])=false:=Zc hz
    by_cases hd:Tn s=[47]
    ·have dd:decide (Tn s=[47])=true:=Zi hd
     rw[show Wm s=(0,[]) by unfold Wm Ln;simp[h0',ht,hc, -List.append_eq_nil_iff,hd]];simp only[nq1,d0,e1,e2,e3,e4,e5,g1,ld,gm,Zeg,dz,dd,YQ,UI,Wi,Nat.reduceEqDiff,decide_false,Y3,ZQ,ZM,YM,Xz,oU,ZG,Yj,Zz,Yc,Nat.reduceEqDiff,Yg,UH];refine⟨_,rfl,?_⟩;exact Zu.refl _ _
    ·have dd:decide (Tn s=[47])=false:=Zc hd
     rw[show Wm s=(1,Tn s++XO s) by unfold Wm Ln;simp[h0',ht,hm,hc, -List.append_eq_nil_iff,hz,hd]];simp only[nq1,d0,e1,e2,e3,e4,e5,g1,ld,gm,Zeg,dz,dd,YQ,UI,Wi,Nat.reduceEqDiff,decide_false,Y3,ZQ,ZM,YM,Xz,oU,ZG,Yj,Zz,Yc,Nat.reduceEqDiff,Yg,UH];refine⟨_,rfl,?_⟩;exact Zu.refl _ _
 ·rw[hc] at e2
  have ht:S8 s=Tn s++(XO s).drop 4:=by unfold S8;simp[hc]
  rw[ht] at e4;have e5:=λ{j}=>ZhB E (k:=10) (n:=j) (by decide) (a:=Tn s) (s:=XO s) (H:=H) (by omega) (io hc);have hp4:=io hc;cases hm:LP (Tn s++(XO s).drop 4) with
  |false=>
   rw[hm] at e4;rw[show Wm s=(0,[]) by unfold Wm Ln;simp[h0',ht,hm,hc]];simp only[d0,e1,e2,e3,e4,e5,g1,ld,gm,ZaI,Qm,Wi,Y3,ZQ,ZM,YM,Xz,oU,ZG,Yj,Zz,Yc,Yg,UH];refine⟨_,rfl,?_⟩;exact Zu.refl _ _
  |true=>
   rw[hm] at e4
   by_cases hz:Tn s++(XO s).drop 4=[]
   ·have dz:decide (Tn s++(XO s).drop 4=[])=true:=Zi hz
    rw[show Wm s=(0,[]) by unfold Wm Ln;rw[ht,dz];simp[h0',hc]];simp only[nq2,d0,e1,e2,e3,e4,e5,g1,ld,gm,ZaI,dz,Qm,UI,Wi,Y3,ZQ,ZM,YM,Xz,oU,ZG,Yj,Zz,Yc,Yg,UH];refine⟨_,rfl,?_⟩;exact Zu.refl _ _
   ·have dz:decide (Tn s++(XO s).drop 4=[])=false:=Zc hz
    cases hn:XS ((XO s).drop 4) with
    |false=>
     rw[hn] at e6;rw[show Wm s=(0,[]) by unfold Wm Ln;simp[h0',ht,hm,hc,hn]];simp(disch:=omega) only[nq2,d0,e1,e2,e3,e4,e5,g1,ld,gm,ZaI,dz,e6,YQ,UI,Wi,Vy,decide_true,Y3,ZQ,ZM,YM,Xz,oU,ZG,Yj,Zz,Yc,Yg,UH];refine⟨_,rfl,?_⟩;exact Zu.refl _ _
    |true=>
     rw[hn] at e6
     by_cases hd:Tn s=[47]
     ·have dd:decide (Tn s=[47])=true:=Zi hd
      rw[show Wm s=(0,[]) by unfold Wm Ln;simp[h0',ht,hc,hn, -List.append_eq_nil_iff,hd]];simp(disch:=omega) only[nq2,d0,e1,e2,e3,e4,e5,g1,ld,gm,ZaI,dz,e6,dd,YQ,UI,Wi,Vy,decide_true,Y3,ZQ,ZM,YM,Xz,oU,ZG,Yj,Zz,Yc,Yg,UH];refine⟨_,rfl,?_⟩;exact Zu.refl _ _
     ·have dd:decide (Tn s=[47])=false:=Zc hd
      rw[show Wm s=(2,Tn s++(XO s).drop 4) by unfold Wm Ln;simp[h0',ht,hm,hc,hn, -List.append_eq_nil_iff,hz,hd]];simp(disch:=omega) only[nq2,d0,e1,e2,e3,e4,e5,g1,ld,gm,ZaI,dz,e6,dd,YQ,UI,Wi,Vy,decide_true,Y3,ZQ,ZM,YM,Xz,oU,ZG,Yj,Zz,Yc,Yg,UH];refine⟨_,rfl,?_⟩;exact Zu.refl _ _
 ·rw[hc] at e2
  have ht:S8 s=Cd (Tn s):=by unfold S8;simp[hc]
  rw[ht] at e4;have e5:=λ{j}=>ZhC E (k:=10) (n:=j) (by decide) (a:=Tn s) (s:=XO s) (H:=H) (by omega);cases hm:LP (Cd (Tn s)) with
  |false=>
   rw[hm] at e4;rw[show Wm s=(0,[]) by unfold Wm Ln;simp[h0',ht,hm,hc]];simp only[d0,e1,e2,e3,e4,e5,g1,ld,gm,Ziu,Qm,Wi,Y3,ZQ,ZM,YM,Xz,oU,ZG,Yj,Zz,Yc,Yg,UH];refine⟨_,rfl,?_⟩;exact Zu.refl _ _
  |true=>
   rw[hm] at e4
   by_cases hd:Tn s=[47]
   ·have dd:decide (Tn s=[47])=true:=Zi hd
    rw[show Wm s=(0,[]) by unfold Wm Ln;simp[h0',ht,hc,hd]];simp only[nq3,d0,e1,e2,e3,e4,e5,g1,ld,gm,Ziu,dd,YQ,UI,Wi,Nat.reduceEqDiff,decide_false,Y3,ZQ,ZM,YM,Xz,oU,ZG,Yj,Zz,Yc,Nat.reduceEqDiff,Yg,UH];refine⟨_,rfl,?_⟩;exact Zu.refl _ _
   ·have dd:decide (Tn s=[47])=false:=Zc hd
    rw[show Wm s=(3,Cd (Tn s)) by unfold Wm Ln;simp[h0',ht,hm,hc,hd]];simp only[nq3,d0,e1,e2,e3,e4,e5,g1,ld,gm,Ziu,dd,YQ,UI,Wi,Nat.reduceEqDiff,decide_false,Y3,ZQ,ZM,YM,Xz,oU,ZG,Yj,Zz,Yc,Nat.reduceEqDiff,Yg,UH];refine⟨_,rfl,?_⟩;exact Zu.refl _ _
def nf(E:Env Zq fs Zk)(hk:11<=k)(hs:s.length<=80000)(g:Nc H):
  ZA (LK Zq fs Zk k) fs Zk (n+1) 22 [.str s] H=.ret (.tup [nI .i64 (Wm s).1,.str (Wm s).2]) H:=by
 obtain⟨H',e,g⟩:=nh E (n:=898) (H:=H) hs g;exact Yh (r:=10) rfl rfl e g (rfl) hk
end
def W9{b:Bool}{k:OR}{v:AV}{H:Heap}(h:ZJ b k=.val v H):k=.val v H:=by
 cases b with
 |true=>exact h
 |false=>cases h
def dg{H:Heap}{b:Nat}{k:Row->OR}{v:AV}{H':Heap}(h:Yx H b k=.val v H'): ∃r,k r=.val v H':=by
 unfold Yx at h
 split at h
 ·exact⟨_,h⟩
 ·cases h
def P4{H:Heap}{e sz:Nat}{l:List AV}{ex:Bool}{c:Nat}(hc:c<H.nx):(H.newRow e sz l ex).t.get c=H.t.get c:=by
 rw[NA,SF (by omega)]
def i9{v:AV}{e sz bytes:Nat}{H:Heap}{n:Nat}{new:List AV}{v':AV}{H':Heap}(h:Oh v e sz bytes H n new=.val v' H'){c:Nat}(hc:c<H.nx)(hv: ∀b o l q,v=.slice b o l q->c≠b):H'.t.get c=H.t.get c:=by
 cases v with
 |nils=>
  replace h:cond (Nat.beq n 0) (.val .nils H) (ZJ (Nat.ble (Nat.mul n bytes) 140737488355328) (.val (.slice H.nx 0 n none) (H.newRow e sz new false)))=OR.val v' H':=h
  cases h0:Nat.beq n 0 with
  |true=>rw[h0] at h;cases h;rfl
  |false=>
   rw[h0] at h;have h:=W9 (show ZJ (Nat.ble (Nat.mul n bytes) 140737488355328) (.val (.slice H.nx 0 n none) (H.newRow e sz new false))=OR.val v' H' from h);cases h;exact P4 hc
 |slice0=>
  replace h:cond (Nat.beq n 0) (.val .slice0 H) (ZJ (Nat.ble (Nat.mul n bytes) 140737488355328) (.val (.slice H.nx 0 n none) (H.newRow e sz new false)))=OR.val v' H':=h
  cases h0:Nat.beq n 0 with
  |true=>rw[h0] at h;cases h;rfl
  |false=>
   rw[h0] at h;have h:=W9 (show ZJ (Nat.ble (Nat.mul n bytes) 140737488355328) (.val (.slice H.nx 0 n none) (H.newRow e sz new false))=OR.val v' H' from h);cases h;exact P4 hc
 |slice b o len cap=>
  have hb:=hv b o len cap rfl
  replace h:Yx H b (λr=>ZJ (Oa r sz cap) (cond (Nat.ble (Nat.add len n) (Wa r o cap)) (KG H (.slice b o len cap) b o len n sz cap r new) (NG H e b o len n sz bytes cap r new)))=OR.val v' H':=h
  obtain⟨r,h⟩:=dg h;have h:=W9 h;cases h0:Nat.ble (Nat.add len n) (Wa r o cap) with
  |true=>
   rw[h0] at h
   replace h:KG H (.slice b o len cap) b o len n sz cap r new=OR.val v' H':=h
   unfold KG at h;cases h1:Nat.beq n 0 with
   |true=>rw[h1] at h;cases h;rfl
   |false=>
    rw[h1] at h;have h:=W9 (W9 (W9 h));cases h;exact UO (λe=>hb e.symm) ..
  |false=>
   rw[h0] at h
   replace h:NG H e b o len n sz bytes cap r new=OR.val v' H':=h
   unfold NG at h;have h:=W9 (W9 h);cases cap with
   |some q=>cases h;exact P4 hc
   |none=>
    cases h1:r.exact with
    |true=>
     have h:=W9 (show ZJ (Nat.beq (Nat.mod o sz) 0) (.val (.slice H.nx 0 (Nat.add len n) none) (H.newRow e sz (Vw r o (Nat.mul len sz)++new) false))=OR.val v' H' by rw[h1] at h;exact h);cases h;exact P4 hc
    |false=>
     have h:F5 H e b o len n sz r new=OR.val v' H':=by rw[h1] at h;exact h
     unfold F5 at h;have h:=W9 (W9 (W9 (W9 (W9 h))));cases h;show((H.t.del b).set H.nx _).get c=_;rw[T.get_set,if_neg (by omega),T.get_del,if_neg λe=>hb e.symm]
 |_=>cases h
def cR{v:AV}{e sz bytes:Nat}{H:Heap}{n:Nat}{new:List AV}{v':AV}{H':Heap}(h:Oh v e sz bytes H n new=.val v' H')(hcap: ∀b o l q,v=.slice b o l q-> ∀r,H.t.get b=some (.row r)->Nat.ble (Nat.add l n) (Wa r o q)=false): ∀b o l q,v'=.slice b o l q->b=H.nx:=by
 intro b0 o0 l0 q0 e0;cases v with
 |nils=>
  replace h:cond (Nat.beq n 0) (.val .nils H) (ZJ (Nat.ble (Nat.mul n bytes) 140737488355328) (.val (.slice H.nx 0 n none) (H.newRow e sz new false)))=OR.val v' H':=h
  cases h0:Nat.beq n 0 with
  |true=>rw[h0] at h;cases h;cases e0
  |false=>
   rw[h0] at h;have h:=W9 (show ZJ (Nat.ble (Nat.mul n bytes) 140737488355328) (.val (.slice H.nx 0 n none) (H.newRow e sz new false))=OR.val v' H' from h);cases h;cases e0;rfl
 |slice0=>
  replace h:cond (Nat.beq n 0) (.val .slice0 H) (ZJ (Nat.ble (Nat.mul n bytes) 140737488355328) (.val (.slice H.nx 0 n none) (H.newRow e sz new false)))=OR.val v' H':=h
  cases h0:Nat.beq n 0 with
  |true=>rw[h0] at h;cases h;cases e0
  |false=>
   rw[h0] at h;have h:=W9 (show ZJ (Nat.ble (Nat.mul n bytes) 140737488355328) (.val (.slice H.nx 0 n none) (H.newRow e sz new false))=OR.val v' H' from h);cases h;cases e0;rfl
 |slice b o len cap=>
  have hb:=hcap b o len cap rfl
  replace h:Yx H b (λr=>ZJ (Oa r sz cap) (cond (Nat.ble (Nat.add len n) (Wa r o cap)) (KG H (.slice b o len cap) b o len n sz cap r new) (NG H e b o len n sz bytes cap r new)))=OR.val v' H':=h
  unfold Yx at h
  split at h
  ·rename_i r hr
   have h:=W9 h;rw[hb r hr] at h
   replace h:NG H e b o len n sz bytes cap r new=OR.val v' H':=h
   unfold NG at h;have h:=W9 (W9 h);cases cap with
   |some q=>cases h;cases e0;rfl
   |none=>
    cases h1:r.exact with
    |true=>
     have h:=W9 (show ZJ (Nat.beq (Nat.mod o sz) 0) (.val (.slice H.nx 0 (Nat.add len n) none) (H.newRow e sz (Vw r o (Nat.mul len sz)++new) false))=OR.val v' H' by rw[h1] at h;exact h);cases h;cases e0;rfl
    |false=>
     have h:F5 H e b o len n sz r new=OR.val v' H':=by rw[h1] at h;exact h
     unfold F5 at h;have h:=W9 (W9 (W9 (W9 (W9 h))));cases h;cases e0;rfl
  ·cases h
 |_=>cases h
def mW{H:Heap}{v:AV}{e sz bytes:Nat}{ls:List (List AV)}{lo:Nat}(h:TZ H v e sz ls lo)(hsz:1<=sz)(hby:1<=bytes)(hl:(ls.length+1)*bytes<=140737488355328)(hro:H.ro<=H.nx)(hlo:lo<=H.nx){x:List AV}(hx:x.length=sz):
  ∃v' H',TH e sz bytes v (.slice H.nx 0 1 none) (H.newRow e sz x true)=.val v' H'∧TZ H' v' e sz (ls++[x]) lo∧Below lo H H'∧
   (∀c,c<H.nx->(∀b o l q,v=.slice b o l q->c≠b)->H'.t.get c=H.t.get c)∧ ∀b o l q,v'=.slice b o l q->H.nx<=b:=by
 obtain⟨v',H',ea,rb,w⟩:=dC h hsz hby hl hro hlo hx;generalize hH1:H.newRow e sz x true=H1 at ea;have NB:H1.nx=H.nx+1:=by rw[<-hH1];rfl
 have gx:H1.t.get H.nx=some (.row ⟨e,sz,YN x,T.ofList x,.unk,0,false,true,true⟩):=by rw[<-hH1,EA,MD,if_pos rfl]
 have cx:=Cells.new e sz x 0 false true true;have ap:TH e sz bytes v (.slice H.nx 0 1 none) H1=Oh v e sz bytes H1 1 x:=by
  show ZJ (Nat.ble 1 sz) (ZJ (Nat.ble 1 bytes) (Ww H1 sz (.slice H.nx 0 1 none) 1 λnew=>Oh v e sz bytes H1 1 new))=_;rw[Zj hsz,Zj hby];show(Ww H1 sz (.slice H.nx 0 1 none) 1 λnew=>Oh v e sz bytes H1 1 new)=_;generalize(⟨e,sz,YN x,T.ofList x,.unk,0,false,true,true⟩:Row)=r0 at gx cx;unfold Ww Yx;simp only[gx];show ZJ (Nat.ble (0+1*sz) r0.size) (Oh v e sz bytes H1 1 (Vw r0 0 (1*sz)))=_;rw[Rk,cx.size,hx,Zj (show 0+sz<=sz by omega)];have:=cx.load (o:=0) (n:=sz) (by omega);rw[this,YL,Z1 (by omega)];rfl
 rw[ap] at ea;refine⟨v',H',by rw[ap];exact ea,rb,w,λc hc hv=>?_,λb o l q e'=>?_⟩
 ·rw[i9 ea (by omega) hv,<-hH1,P4 hc]
 ·have:=cR ea (λb o l q ev r hr=>by
   rcases h with⟨_,rfl⟩|⟨_,b2,r2,rfl,g,_⟩
   ·cases ev
   ·cases ev
    have hg:H1.t.get b=some (.row r2):=by rw[<-hH1,P4 g.low];exact g.at_
    rw[hg] at hr
    cases hr
    have hcap:Wa r 0 none=ls.length:=by
     show cond (Nat.beq r.sz 1) (r.size - 0) ((r.size - 0)/r.sz)=_
     rw[g.szr,g.size,RK]
     by_cases h1:sz=1
     ·subst h1;show ls.length*1=_;omega
     ·rw[Yl,Zc h1]
      exact Nat.mul_div_cancel _ (by omega)
    rw[hcap]
    cases h:Nat.ble (Nat.add ls.length 1) ls.length with
    |false=>rfl
    |true=>have:=ZS h;have:ls.length+1<=ls.length:=this;omega) b o l q e'
  omega
def Xk:AV->List Nat
 |.slice b _ _ _=>[b]
 |_=>[]
def wj{H:Heap}{v:AV}{e sz bytes:Nat}{ls:List (List AV)}{lo:Nat}(h:TZ H v e sz ls lo)(hsz:1<=sz)(hby:1<=bytes)(hl:(ls.length+1)*bytes<=140737488355328)(hro:H.ro<=H.nx)(hlo:lo<=H.nx){x:List AV}(hx:x.length=sz):
  ∃v' H',TH e sz bytes v (.slice H.nx 0 1 none) (H.new (rG e sz x 0 false true true))=.val v' H'∧TZ H' v' e sz (ls++[x]) lo∧Zu H H' (Xk v)∧(∀b∈Xk v',H.nx<=b)∧H.nx<H'.nx:=by
 obtain⟨v',H',a,b,w,c,d⟩:=mW h hsz hby hl hro hlo hx;have hn:H.nx<H'.nx:=by
  rcases b with⟨e,_⟩|⟨_,b,r,e,g,_⟩
  ·simp at e
  ·have:=d _ _ _ _ e;have:=g.low;omega
 refine⟨v',H',a,b,⟨w.nx,w.ro,λx hx hn=>c x hx λb o l q e he=>hn ?_⟩,λx hx=>?_,hn⟩
 ·subst e;rw[he];exact Zn.2 rfl
 ·rcases b with⟨e,_⟩|⟨_,b,r,e,g,_⟩
  ·simp at e
  ·subst e
   rw[Zn.1 hx];exact d _ _ _ _ rfl
def Sz(H:Heap)(sz:Nat)(v:AV)(ls:List (List AV)):Prop:=(ls=[]∧v=.slice0)∨Sl H sz v ls
def Sz.keep{H H':Heap}{sz:Nat}{v:AV}{ls:List (List AV)}{S:List Nat}(h:Sz H sz v ls)(k:Zu H H' S)(hS: ∀b o n c,v=.slice b o n c->b∉S):Sz H' sz v ls:=by
 rcases h with h|h
 ·exact .inl h
 ·exact .inr (h.keep k hS)
def Sz.keep0{H H':Heap}{sz:Nat}{v:AV}{ls:List (List AV)}(h:Sz H sz v ls)(k:Zu H H' []):Sz H' sz v ls:=h.keep k (by simp)
def Cut(H:Heap)(sz:Nat)(v:AV)(ls:List (List AV)):Prop:=Sz H sz v ls∧ ∀(k:Nat),k<=ls.length-> ∃v',(∀G:Heap,(∀c,c<H.nx->G.t.get c=H.t.get c)->Uo sz v none (some (nI .i64 k)) G=.val v' G)∧Sz H sz v' (ls.take k)
def Cut.keep{H H':Heap}{sz:Nat}{v:AV}{ls:List (List AV)}(h:Cut H sz v ls)(k:Zu H H' []):Cut H' sz v ls:=
 ⟨h.1.keep0 k,λn hn=>by
  obtain⟨v',h1,h2⟩:=h.2 n hn
  exact⟨v',λG hG=>h1 G λc hc=>(hG c (ZK hc k.nx)).trans (k.get c hc (by simp)),h2.keep0 k⟩⟩
def EP(r:Row)(sz n:Nat):List (List AV):=(List.range n).map λi=>(List.range sz).map λj=>r.get (i*sz+j)
def Md(r:Row)(sz n:Nat):(EP r sz n).length=n:=by unfold EP;simp
def wx(r:Row)(sz n:Nat): ∀l∈EP r sz n,l.length=sz:=by
 intro l hl;unfold EP at hl;obtain⟨i,_,rfl⟩:=YC.1 hl;simp
def ir(r:Row)(sz:Nat){n i:Nat}(h:i<n):(EP r sz n).getD i []=(List.range sz).map λj=>r.get (i*sz+j):=by
 unfold EP;rw[Ze,Z3,WQ h];rfl
def dI(r:Row)(sz:Nat)(hsz:1<=sz){n i:Nat}(h:i<n*sz):(EP r sz n).flatten.getD i .unk=r.get i:=by
 have hq:i/sz<n:=Q3 (by rw[VE];exact h);have hm:i % sz<sz:=Wh _ (by omega);have:=AI.flat_at (ls:=EP r sz n) (i:=i/sz) (wx r sz n) (by rw[Md];exact hq);rw[ir r sz hq] at this;have e:i/sz*sz+i % sz=i:=by rw[VE];exact Rh i sz
 have h2:=congrArg (λl=>l[i % sz]?) this;simp only[Yu hm,Y8,e,Z3,WQ hm] at h2;rw[Ze,h2];show r.get (i/sz*sz+i % sz)=_;rw[e]
def dJ(r:Row)(sz:Nat){n k:Nat}(h:k<=n):(EP r sz n).take k=EP r sz k:=by
 unfold EP;rw[<-List.map_take,List.take_range,Xy h]
def Zb4{G:Heap}{b sz n:Nat}{r:Row}{c:Option Nat}(hsz:1<=sz)(hb:b<G.nx)(hr:G.t.get b=some (.row r))(hs:n*sz<=r.size):Sl G sz (.slice b 0 n c) (EP r sz n):=
 ⟨wx r sz n,.inr ⟨b,0,c,by rw[Md],hb,λ_=>⟨r,hr,by rw[Md];omega,λi hi=>by rw[Md] at hi;rw[Zl,dI r sz hsz hi]⟩⟩⟩
def uT{G:Heap}{es:List Sh}{v:AV}(h:Told G (.sl es) v): ∃ls,Cut G es.length v ls∧ls.length<=maxLen∧ ∀i,i<ls.length->(ls.getD i []).length=es.length∧ ∀(j:Nat) e,es[j]? =some e->Told G e ((ls.getD i []).getD j .unk):=by
 cases h with
 |nils=>
  refine⟨[],⟨.inr (Sl.nil ..),λk hk=>?_⟩,ZN _,λi hi=>by simp at hi⟩;obtain rfl:k=0:=by simpa using hk
  exact⟨.nils,λ_ _=>rfl,.inr (Sl.nil ..)⟩
 |slice0=>
  refine⟨[],⟨.inl ⟨rfl,rfl⟩,λk hk=>?_⟩,ZN _,λi hi=>by simp at hi⟩;obtain rfl:k=0:=by simpa using hk
  exact⟨.slice0,λ_ _=>rfl,.inl ⟨rfl,rfl⟩⟩
 | @slice _ b len cap r h1 hl h0 hc hb hr hs ho hz hok=>
  have hm:len*es.length<=cap*es.length:=Ub _ hl;refine⟨EP r es.length len,⟨.inr (Zb4 h1 hb hr (by omega)),λk hkl=>?_⟩,by rw[Md];omega,λi hi=>?_⟩
  ·rw[Md] at hkl
   have hmk:k*es.length<=len*es.length:=Ub _ hkl;refine⟨.slice b 0 k (some cap),λG' hk=>?_,by rw[dJ _ _ hkl];exact .inr (Zb4 h1 hb hr (by omega))⟩;have g:=hk b hb;show Yx G' b _=_;unfold Yx;rw[g,hr];show ZJ (Nat.ble k cap) (ZJ (Nat.ble 0 k) (ZJ (Nat.ble 0 cap) (cond (Nat.beq 0 cap) _ (OR.val (.slice b (0+0*es.length) (k - 0) (some (cap - 0))) G'))))=_;rw[Zj (by omega),Zj (ZN _),Zj (ZN _),show Nat.beq 0 cap=false by rw[Yl];exact Zc (by omega),Vl];rfl
  ·rw[Md] at hi
   rw[ir r _ hi];refine⟨by simp,λj e he=>?_⟩;have hj:j<es.length:=(VY.1 he).1;have hij:i*es.length+j<cap*es.length:=by
    have:(i+1)*es.length<=cap*es.length:=Ub _ (by omega);rw[WR] at this;omega
   rw[Ze,Z3,WQ hj];show Told G e (r.get (i*es.length+j));refine hok _ e hij ?_;rw[VE,Nat.mul_add_mod,Yd hj];exact he
def E9{α:Type}{ls:List (List AV)}{f:α->List AV}{p:α->Prop}(h: ∀i,i<ls.length-> ∃x,ls.getD i []=f x∧p x): ∃l:List α,ls=l.map f∧ ∀x∈l,p x:=by
 induction ls with
 |nil=>exact⟨[],rfl,λ_ h=>by cases h⟩
 |cons a ls ih=>
  obtain⟨x,h1,h2⟩:=h 0 (by simp);obtain⟨l,h3,h4⟩:=ih λi hi=>by
   have:=h (i+1) (by simp;omega)
   simpa using this
  refine⟨x::l,by rw[ZD,<-h3,<-h1];rfl,λy hy=>?_⟩;rcases ZY.1 hy with rfl|hy
  ·exact h2
  ·exact h4 y hy
def ZlB{l:List AV}(h:l.length=2):l=[l.getD 0 .unk,l.getD 1 .unk]:=by
 match l,h with
 |[a,b],_=>rfl
def FZ{G:Heap}{v:AV}(h:Told G .str v): ∃s,v=.str s:=by cases h;exact⟨_,rfl⟩
def zB{G:Heap}{k:IntKind}{v:AV}(h:Told G (.int k) v): ∃z,v=.int k z∧k.min<=z∧z<=k.max:=by
 cases h with|int h=>exact⟨_,rfl,h⟩
def iO{G:Heap}{v:AV}(h:Told G (.int .u8) v): ∃c:UInt8,v=Vk c:=by
 obtain⟨z,rfl,h1,h2⟩:=zB h;have h1:0<=z:=h1;have h2:z<=255:=h2;refine⟨UInt8.ofNat z.toNat,?_⟩;show AV.int .u8 z=.int .u8 (.ofNat (UInt8.ofNat z.toNat).toNat);rw[SD,Yd (by omega)]
 congr 1
 show z=(z.toNat:Int);omega
def zC{G:Heap}{v:AV}(h:Told G (.int .u32) v): ∃n:Nat,v=nI .u32 n∧n<4294967296:=by
 obtain⟨z,rfl,h1,h2⟩:=zB h;have h1:0<=z:=h1;have h2:z<=4294967295:=h2;refine⟨z.toNat,?_,by omega⟩;show AV.int .u32 z=.int .u32 (.ofNat z.toNat)
 congr 1
 show z=(z.toNat:Int);omega
def ow{G:Heap}{v:AV}(h:Told G (.int .i64) v): ∃z:Int,v=.int .i64 z∧ -9223372036854775808<=z∧z<=9223372036854775807:=zB h
section
variable {Zq:Lib} {fs:T CF} {Zk k n i h b:Nat} {H H0:Heap} {s:Zd} {cs:List AV}
def Sz.len{sz:Nat}{v:AV}{ls:List (List AV)}(h:Sz H sz v ls)(G:Heap):Kq v G=.val (nI .i64 ls.length) G:=by
 rcases h with⟨rfl,rfl⟩|h
 ·rfl
 ·exact h.len G
def Sz.low{sz:Nat}{v:AV}{ls:List (List AV)}(h:Sz H sz v ls)(hn:H.nx<=n):WZ n v=true:=by
 rcases h with⟨rfl,rfl⟩|h
 ·rfl
 ·exact h.low hn
def Sz.same{sz:Nat}{v:AV}{ls:List (List AV)}(h:Sz H sz v ls)(n:Nat)(t:T Obj):Vo (.val v ⟨n,t,n⟩) v n=true:=by
 rcases h with⟨rfl,rfl⟩|h
 ·exact VM _ _ _ (by unfold AI.same;rfl)
 ·exact h.same n t
def Sz.cells{sz:Nat}{v:AV}{ls:List (List AV)}(h:Sz H sz v ls):v.cells=[v]:=by
 rcases h with⟨rfl,rfl⟩|h
 ·rfl
 ·exact h.cells
def Sz.at_{sz:Nat}{v:AV}{ls:List (List AV)}(h:Sz H sz v ls)(hi:i<ls.length):
  ∃b o r,(∀(k:IntKind) (G:Heap),Dv sz v (nI k i) G=.val (.ptr b o) G)∧b<H.nx∧H.t.get b=some (.row r)∧(∀G:Heap,zI sz (some (.row r)) o G=.val (.agg (ls.getD i [])) G)∧ ∀(j:Nat) (G:Heap),j<sz->ld1 (some (.row r)) (o+j) G=.val ((ls.getD i []).getD j .unk) G:=by
 rcases h with⟨rfl,_⟩|h
 ·cases hi
 ·exact h.at_ hi
def geS(a b:Zd)(H:Heap):T2 UQ Wd (.str a) (.str b) H=.val (.bool (Wd a b)) H:=by
 show S9 (Wd a b) H=_;cases Wd a b<;>rfl
abbrev NP:=Zd×Zd
def TN(l:List NP):List (List AV):=l.map λp=>[.str p.1,.str p.2]
def Vm(l:List NP):(TN l).length=l.length:=Zx ..
def Np{l:List NP}(h:i<l.length):(TN l).getD i []=[.str (l.getD i ([],[])).1,.str (l.getD i ([],[])).2]:=by
 unfold TN;rw[Ze,Z3,Ze,Zm h];rfl
def mE(l:List NP)(i:Nat):Bool:=!decide ((l.getD i ([],[])).1=[])&&decide ((l.getD i ([],[])).1.length<=242)&&!MV [0,61,10] (l.getD i ([],[])).1&&(decide (i=0)||!Wd (l.getD (i - 1) ([],[])).1 (l.getD i ([],[])).1)
def Ow(l:List NP):Bool:=(List.range l.length).all (mE l)&&decide (l.length<=16)
def N2(s:Zd)(is:Bool):Bool:=if is then !decide (s=[])&&decide (s.length<=4096)&&decide (W2 0 s=0) else decide (s=[])
def jG:QZ [0,61,10]:=⟨by decide,by decide,by decide⟩
def mp(E:Env Zq fs Zk){is:Bool}:
  ∃H',ZA (LK Zq fs Zk 2) fs Zk (n+2) 24 [.str s,.bool is] H=.ret (.bool (N2 s is)) H'∧Zu H H' []:=by
 rw[Z5 E.f24 (.inl (by decide))];have e1:=λ{j}=>ZdW E (k:=2) (n:=j) (by decide) (s:=s) (x:=0) (H:=H) (by decide);cases is with
 |false=>
  rw[show N2 s false=decide (s=[]) from rfl];simp only[Wi,c24,ZG,Yj,Zz,Yc,Yg];refine⟨_,rfl,?_⟩;exact Zu.refl _ _
 |true=>
  by_cases h1:s=[]
  ·have d1:decide (s=[])=true:=Zi h1
   rw[show N2 s true=false by unfold N2;simp[h1]];simp only[d1,VL,c24,ZG,Yj,Zz,Yc,Yg];refine⟨_,rfl,?_⟩;exact Zu.refl _ _
  ·have d1:decide (s=[])=false:=Zc h1
   by_cases h2:s.length<=4096
   ·have d2:decide (s.length<=4096)=true:=Zi h2
    rw[show N2 s true=decide (W2 0 s=0) by unfold N2;simp[h1,h2]];simp only[d1,d2,e1,Y4,VL,ZZ,ZaL,c24,ZG,Yj,Zz,Yc,Yg];refine⟨_,rfl,?_⟩;exact Zu.refl _ _
   ·have d2:decide (s.length<=4096)=false:=Zc h2
    rw[show N2 s true=false by unfold N2;rw[d2];simp];simp only[d1,d2,Y4,VL,ZZ,c24,ZG,Yj,Zz,Yc,Yg];refine⟨_,rfl,?_⟩;exact Zu.refl _ _
def ZiF(E:Env Zq fs Zk)(hk:3<=k){is:Bool}:
  ZA (LK Zq fs Zk k) fs Zk (n+1) 24 [.str s,.bool is] H=.ret (.bool (N2 s is)) H:=by
 obtain⟨H',e,g⟩:=mp E (n:=898) (H:=H);exact Yh (r:=2) rfl rfl e g (rfl) hk
structure MAI(H0:Heap)(v:AV)(l:List NP)(m:Nat)(tm:TM)(H:Heap):Prop where
 t0:Z6 tm=v
 t5:Xi tm=v
 t6:XL tm=nI .i64 l.length
 i: ∃i,XE tm=nI .i64 i∧i+m=l.length∧ ∀j,j<i->mE l j=true
 k:Zu H0 H []
def MAQ(H0:Heap)(v:AV)(l:List NP)(o:Out)(tm:TM)(H:Heap):Prop:=Zu H0 H []∧((o=.ret∧Va tm=.bool false∧Ow l=false)∨(o=.exit 0∧Z6 tm=v∧Ow l=decide (l.length<=16)))
def jO{l:List NP}(h:i<l.length)(e:mE l i=false):Ow l=false:=by
 have:(List.range l.length).all (mE l)=false:=by
  rw[Bool.eq_false_iff];intro q;rw[Ya] at q;have:=q i (XM.2 h);rw[e] at this;cases this
 unfold Ow;rw[this];rfl
def ZiD{l:List NP}(h: ∀j,j<l.length->mE l j=true):Ow l=decide (l.length<=16):=by
 have:(List.range l.length).all (mE l)=true:=Ya.2 λx hx=>h x (XM.1 hx);unfold Ow;rw[this,S0]
def Zek(E:Env Zq fs Zk)(hk:5<=k){v:AV}{l:List NP}(hl:l.length<=90000)(hs: ∀i,i<l.length->(l.getD i ([],[])).1.length<=90000)(hro:H0.ro<=H0.nx)(hN:Sz H0 2 v (TN l))(y f dd q)(X0:X)(m:Nat)(tm:TM)(H:Heap)(hI:MAI H0 v l m tm H):
  ∃o tm' H',MK ⟨ZA (LK Zq fs Zk k) fs Zk (n+1),y,f,dd,q⟩ tm H X0=.ok o tm' H' X0∧((o=.normal∧ ∃k,k<m∧MAI H0 v l k tm' H')∨(o≠.normal∧MAQ H0 v l o tm' H')):=by
 obtain⟨t0,t5,t6,⟨i,t7,him,hn⟩,k0⟩:=hI;have t0':=t0;have D8:=t5;have Cl:=t6;simp only[Pa,G7,re,G8] at t0 t5 t6 t7;cases m with
 |zero=>
  have d1:decide (i<l.length)=false:=Zc (by omega);simp only[t6,t7,d1,ZE,MK,ZG,Yj,Yg];refine⟨_,_,_,rfl,?_⟩;exact .inr ⟨by simp,k0,.inr ⟨rfl,t0',ZiD λj hj=>hn j (by omega)⟩⟩
 |succ m=>
  have d1:decide (i<l.length)=true:=Zi (by omega);have hi:i<l.length:=by omega
  have hN:=hN.keep0 k0;have Zk6:=hN.low (n:=H.nx+1) (Ve _);obtain⟨b,o,r,eI,hb,gb,eL,eE⟩:=hN.at_ (i:=i) (by rw[Vm];omega);have ra:=Np hi;rw[ra] at eL;generalize hp:l.getD i ([],[])=p at*;have hpl:p.1.length<=90000:=by have:=hs i hi;rw[hp] at this;exact this
  obtain⟨H1,hH1⟩:=TO (H.new (rH 44 [.str p.1,.str p.2]));have k1:Zu H0 H1 []:=by rw[<-hH1];exact k0.then_new _
  have kH:Zu H H1 []:=by rw[<-hH1];exact Zu.new _ _ _
  have g1:H1.t.get H.nx=some (rH 44 [.str p.1,.str p.2]):=by rw[<-hH1];exact ZR rfl _
  have NB:H1.nx=H.nx+1:=by rw[<-hH1];rfl
  have sf:=TL (n:=2) (b:=H.nx) (l:=[.str [],.str []]) (vs:=[.str p.1,.str p.2]) (H:=H.new (rH 44 [.str [],.str []])) rfl rfl (by decide) (by show H.ro<=_;rw[k0.ro];have:=k0.nx;omega) 44 1 false true;rw[TJ rfl,hH1] at sf;have e1:=λ{j}=>bF E (k:=k) (n:=j) hk (H:=H1) jG hpl (by rw[k1.ro];exact Yb hro k1.nx);have okI:mE l i=(!decide (p.1=[])&&decide (p.1.length<=242)&&!MV [0,61,10] p.1&&(decide (i=0)||!Wd (l.getD (i - 1) ([],[])).1 p.1)):=by unfold mE;rw[hp]
  by_cases h1:p.1=[]
  ·have d2:decide (p.1=[])=true:=Zi h1
   simp(disch:=first|assumption|omega|(simp -implicitDefEqProofs only[VV,VW]<;>first|assumption|omega)|decide) only[t5,t6,t7,d1,eI,gb,eL,sf,g1,NB,XQ,d2,Qm,ZE,Wi,decide_true,Zo,Zo,YW,YV,MK,ZG,Yj,Zz,Yc,Xc,XZ,Nat.reducePow,Nat.reduceDiv,Nat.reduceMod,Yg,UH]
   refine⟨_,_,_,rfl,?_⟩;exact .inr ⟨by simp,k1,.inl ⟨rfl,rfl,jO hi (by rw[okI];simp[h1])⟩⟩
  have d2:decide (p.1=[])=false:=Zc h1
  by_cases h2:242<p.1.length
  ·have d3:decide (242<p.1.length)=true:=Zi h2
   simp(disch:=first|assumption|omega|(simp -implicitDefEqProofs only[VV,VW]<;>first|assumption|omega)|decide) only[t5,t6,t7,d1,eI,gb,eL,sf,g1,NB,XQ,d2,d3,Qm,ZE,Yn,Wi,ZZ,decide_true,Zo,Zo,YW,YV,MK,ZG,Yj,Zz,Yc,Xc,XZ,Nat.reducePow,Nat.reduceDiv,Nat.reduceMod,Yg,UH]
   refine⟨_,_,_,rfl,?_⟩;exact .inr ⟨by simp,k1,.inl ⟨rfl,rfl,jO hi (by rw[okI];rw[Zc (show ¬p.1.length<=242 by omega)];simp)⟩⟩
  have d3:decide (242<p.1.length)=false:=Zc h2;have d3':decide (p.1.length<=242)=true:=Zi (by omega);cases hc:MV [0,61,10] p.1 with
  |true=>
   rw[hc] at e1;simp(disch:=first|assumption|omega|(simp -implicitDefEqProofs only[VV,VW]<;>first|assumption|omega)|decide) only[t5,t6,t7,d1,eI,gb,eL,sf,g1,NB,XQ,d2,d3,e1,Qm,ZE,Yn,Wi,ZZ,decide_true,Zo,Zo,YW,YV,MK,ZG,Yj,Zz,Yc,Xc,XZ,Nat.reducePow,Nat.reduceDiv,Nat.reduceMod,Yg,UH]
   refine⟨_,_,_,rfl,?_⟩;exact .inr ⟨by simp,k1,.inl ⟨rfl,rfl,jO hi (by rw[okI];rw[hc];simp)⟩⟩
  |false=>
   rw[hc] at e1
   by_cases h0:i=0
   ·have d4:decide (0<i)=false:=Zc (by omega)
    simp(disch:=first|assumption|omega|(simp -implicitDefEqProofs only[VV,VW]<;>first|assumption|omega)|decide) only[t5,t6,t7,d1,eI,gb,eL,sf,g1,NB,XQ,d2,d3,e1,d4,ZE,Yn,Wi,Y0,ZZ,decide_true,Zo,Zo,YW,YV,MK,ZG,Yj,Zz,Yc,Xc,XZ,Nat.reducePow,Nat.reduceDiv,Nat.reduceMod,Yg,UH]
    refine⟨_,_,_,rfl,.inl ⟨rfl,m,by omega,t0',D8,Cl,⟨i+1,rfl,by omega,λq hq=>?_⟩,k1⟩⟩;obtain rfl:q=i:=by omega
    rw[okI,d2,d3',hc,Zi h0];rfl
   ·have d4:decide (0<i)=true:=Zi (by omega)
    obtain⟨b2,o2,r2,eI2,hb2,tc,_,eE2⟩:=hN.at_ (i:=i - 1) (by rw[Vm];omega);have Dk:H1.t.get b2=some (.row r2):=by rw[kH.get _ hb2 (by simp)];exact tc
    have eF:=λG=>eE2 0 G (by decide);rw[Np (by omega),Zo] at eF;simp only[YV] at eF;cases hg:Wd (l.getD (i - 1) ([],[])).1 p.1 with
    |true=>
     simp(disch:=first|assumption|omega|(simp -implicitDefEqProofs only[VV,VW]<;>first|assumption|omega)|decide) only[t0,t5,t6,t7,d1,eI,gb,eL,sf,g1,NB,Zk6,XQ,d2,d3,e1,d4,eI2,Dk,eF,hg,ZE,Yn,Wi,Wz,ZZ,decide_true,Zo,Zo,geS,YW,YV,MK,ZG,Yj,Zz,Yc,Xc,XZ,Nat.reducePow,Nat.reduceDiv,Nat.reduceMod,Yg,UH]
     refine⟨_,_,_,rfl,?_⟩;exact .inr ⟨by simp,k1,.inl ⟨rfl,rfl,jO hi (by rw[okI];rw[hg,Zc h0];simp)⟩⟩
    |false=>
     simp(disch:=first|assumption|omega|(simp -implicitDefEqProofs only[VV,VW]<;>first|assumption|omega)|decide) only[t0,t5,t6,t7,d1,eI,gb,eL,sf,g1,NB,Zk6,XQ,d2,d3,e1,d4,eI2,Dk,eF,hg,ZE,Yn,Wi,Wz,Y0,ZZ,decide_true,Zo,Zo,geS,YW,YV,MK,ZG,Yj,Zz,Yc,Xc,XZ,Nat.reducePow,Nat.reduceDiv,Nat.reduceMod,Yg,UH]
     refine⟨_,_,_,rfl,.inl ⟨rfl,m,by omega,t0',D8,Cl,⟨i+1,rfl,by omega,λq hq=>?_⟩,k1⟩⟩
     by_cases hqi:q=i
     ·rw[hqi,okI,d2,d3',hc,hg];simp
     ·exact hn q (by omega)
def mj(E:Env Zq fs Zk){v:AV}{l:List NP}(hl:l.length<=90000)(hs: ∀i,i<l.length->(l.getD i ([],[])).1.length<=90000)(hro:H.ro<=H.nx)(hN:Sz H 2 v (TN l)):
  ∃H',ZA (LK Zq fs Zk 5) fs Zk (n+2) 23 [v] H=.ret (.bool (Ow l)) H'∧Zu H H' []:=by
 rw[Z5 E.f23 (.inl (by decide))];have ln:=hN.len;rw[Vm] at ln;simp only[ln,c23,ZG,Yj,Yg];generalize hL:Vq (MK _) Zk _ _ _=L;obtain⟨o,OS,H2,rfl,_,k2,z⟩:=YP (P:=λT=>MAI H v l l.length T H) (Q:=MAQ H v l)
  (λT hi=>Y5 (MAI H v l) (MAQ H v l) (λm tm H2 h=>Zek E (by decide) hl hs hro hN _ _ _ _ _ m tm H2 h) Zk l.length T H (by have:=E.big;omega) hi) hL
  (by exact⟨rfl,rfl,rfl,⟨0,rfl,by omega,λj hj=>by omega⟩,Zu.refl _ _⟩)
 rcases z with⟨rfl,t2,e⟩|⟨rfl,t0,e⟩
 ·simp only[zU] at t2
  rw[e];simp only[t2,ZG,Zz,Yg];refine⟨_,rfl,?_⟩;exact k2
 ·simp only[Pa] at t0
  rw[e];simp only[t0,ln,Y4,ZG,Yj,Zz,Yg,UH];refine⟨_,rfl,?_⟩;exact k2
def ZiE(E:Env Zq fs Zk)(hk:6<=k){v:AV}{l:List NP}(hl:l.length<=90000)(hs: ∀i,i<l.length->(l.getD i ([],[])).1.length<=90000)(hro:H.ro<=H.nx)(hN:Sz H 2 v (TN l)):
  ZA (LK Zq fs Zk k) fs Zk (n+1) 23 [v] H=.ret (.bool (Ow l)) H:=by
 obtain⟨H',e,g⟩:=mj E (n:=898) (H:=H) hl hs hro hN;exact Yh (r:=5) rfl rfl e g (rfl) hk
def ZcU(a b:Int):(a==b)=decide (a=b):=by rw[VX];simp
def LA(k:IntKind)(a:Int)(b:Nat)(H:Heap):NL WX false (.int k a) (nI k b) H=.val (.bool (decide (a=(b:Int)))) H:=by
 show Tu (cond (PV k k) (some (Dw a (Int.ofNat b))) none) _=_;rw[XG,Pc];show S9 (a==(b:Int)) H=_;rw[ZcU];cases decide (a=(b:Int))<;>rfl
def Nm{eq:AV->AV->Option Bool}{k:AV}{no:OR}{yes:AV->OR}{x:Ss}{l:List Ss}{t:Bool}(h:eq k x.key=some t):V4 eq k no yes (x::l)=cond t (yes x.val) (V4 eq k no yes l):=by
 rw[V4,h]
structure Mem where
 path:Zd
 kind:Int
 mode:Nat
 uid:Nat
 gid:Nat
 time:Int
 attrs:List NP
 data:Zd
 link:Zd
def ML(l:Zd):List (List AV):=l.map λx=>[Vk x]
def U2(l:Zd):(ML l).length=l.length:=Zx ..
def NF(H:Heap)(cs:List AV)(m:Mem):Prop:= ∃av dv,cs=[.str m.path,.int .i64 m.kind,nI .u32 m.mode,nI .u32 m.uid,nI .u32 m.gid,.int .i64 m.time,av,dv,.str m.link]∧Sz H 2 av (TN m.attrs)∧Sz H 1 dv (ML m.data)
def NF.keep{H H':Heap}{m:Mem}(h:NF H cs m)(k:Zu H H' []):NF H' cs m:=by
 obtain⟨av,dv,e,h1,h2⟩:=h;exact⟨av,dv,e,h1.keep0 k,h2.keep0 k⟩
def NF.len{m:Mem}(h:NF H cs m):cs.length=9:=by
 obtain⟨av,dv,rfl,_⟩:=h;rfl
structure CS(m:Mem):Prop where
 path:m.path.length<=80000
 attrs:m.attrs.length<=90000
 keys: ∀i,i<m.attrs.length->(m.attrs.getD i ([],[])).1.length<=90000
def E1(z:Int):Nat:=if z=1 then 53 else if z=2 then 48 else if z=3 then 50 else if z=4 then 54 else 0
def lkT(z:Int)(G:Heap):lkO WX (nI .u8 0) false (some (.cmap tEs)) (.int .i64 z) G=.val (nI .u8 (E1 z)) G:=by
 have e: ∀b:Nat,WX (.int .i64 z) (nI .i64 b)=some (decide (z=(b:Int))):=λb=>by
  show cond (PV .i64 .i64) (some (Dw z (Int.ofNat b))) none=_;rw[XG,Pc];rfl
 show V4 WX (.int .i64 z) (OR.val (nI .u8 0) G) (λv=>OR.val v G) tEs=_;unfold tEs E1;rw[Nm (e 1),Nm (e 2),Nm (e 3),Nm (e 4)]
 by_cases h1:z=1
 ·subst h1;rfl
 by_cases h2:z=2
 ·subst h2;rfl
 by_cases h3:z=3
 ·subst h3;rfl
 by_cases h4:z=4
 ·subst h4;rfl
 rw[Zc (show ¬z=((1:Nat):Int) from h1),if_neg h1,Zc (show ¬z=((2:Nat):Int) from h2),if_neg h2,Zc (show ¬z=((3:Nat):Int) from h3),if_neg h3,Zc (show ¬z=((4:Nat):Int) from h4),if_neg h4];rfl
def Xh(m:Mem):Bool:=!decide ((Wm m.path).1=0)&&!decide (E1 m.kind=0)&&decide (m.mode<=4095)&&Ow m.attrs&&N2 m.link (decide (m.kind=3))&&decide (m.data.length<=16777216)&&(decide (m.kind=2)||decide (m.data.length=0))
def lJ(E:Env Zq fs Zk){m:Mem}(hs:CS m)(g:Nc H)(hm:NF H cs m):
  ∃H',ZA (LK Zq fs Zk 11) fs Zk (n+2) 7 [.agg cs] H=.ret (.bool (Xh m)) H'∧Zu H H' []:=by
 rw[Z5 E.f7 (.inl (by decide))];obtain⟨av,dv,rfl,hA,hD⟩:=hm;obtain⟨H1,hH1⟩:=TO (H.new (rH 34 [.str m.path,.int .i64 m.kind,nI .u32 m.mode,nI .u32 m.uid,nI .u32 m.gid,.int .i64 m.time,av,dv,.str m.link]));obtain⟨H2,hH2⟩:=TO (H1.new (rH 32 [.int .i64 m.kind,nI .u32 m.mode,nI .u32 m.uid,nI .u32 m.gid,.int .i64 m.time,av,dv,.str m.link]));have k1:Zu H H1 []:=by rw[<-hH1];exact Zu.new _ _ _
 have k2:Zu H H2 []:=by rw[<-hH2];exact k1.then_new _
 have g1:H1.t.get H.nx=some (rH 34 [.str m.path,.int .i64 m.kind,nI .u32 m.mode,nI .u32 m.uid,nI .u32 m.gid,.int .i64 m.time,av,dv,.str m.link]):=by rw[<-hH1];exact ZR rfl _
 have g2:H2.t.get H1.nx=some (rH 32 [.int .i64 m.kind,nI .u32 m.mode,nI .u32 m.uid,nI .u32 m.gid,.int .i64 m.time,av,dv,.str m.link]):=by rw[<-hH2];exact ZR rfl _
 have gP2:=g.keep0 k2;obtain⟨rT,gT,lT0,lT1⟩:=gP2.t;have lT: ∀G,ld1 (some (.row rT)) 0 G=.val (.map 12) G:=λG=>by rw[Qt lT0,lT1]
 have eT:=gP2.tm;have FI:H1.ro<=H1.nx:=by rw[k1.ro];exact Yb g.ro k1.nx
 have sf:=TL (n:=8) (b:=H1.nx) (l:=[nI .i64 0,nI .u32 0,nI .u32 0,nI .u32 0,nI .i64 0,.nils,.nils,.str []]) (vs:=[.int .i64 m.kind,nI .u32 m.mode,nI .u32 m.uid,nI .u32 m.gid,.int .i64 m.time,av,dv,.str m.link]) (H:=H1.new (rH 32 [nI .i64 0,nI .u32 0,nI .u32 0,nI .u32 0,nI .i64 0,.nils,.nils,.str []])) rfl rfl (by decide) (by show H1.ro<=_;exact FI) 32 1 false true;rw[TJ rfl,hH2] at sf;have ec:=λ{j}=>nf E (k:=11) (n:=j) (by decide) (s:=m.path) (H:=H1) hs.path (g.keep0 k1);have m9:H2.ro<=H2.nx:=by rw[k2.ro];exact Yb g.ro k2.nx
 have e4:=λ{j}=>ZiE E (k:=11) (n:=j) (by decide) (v:=av) (l:=m.attrs) (H:=H2) hs.attrs hs.keys m9 (hA.keep0 k2);have e5: ∀{j},ZA (LK Zq fs Zk 11) fs Zk (j+1) 24 [.str m.link,.bool (decide (m.kind=((3:Nat):Int)))] H2=.ret (.bool (N2 m.link (decide (m.kind=3)))) H2:=λ{j}=>ZiF E (k:=11) (n:=j) (by decide) (s:=m.link) (is:=decide (m.kind=3)) (H:=H2);have ln:=hD.len;rw[U2] at ln
 by_cases h1:(Wm m.path).1=0
 ·have d1:decide ((Wm m.path).1=0)=true:=Zi h1
  rw[show Xh m=false by unfold Xh;simp[h1]];simp(disch:=first|assumption|omega|(simp -implicitDefEqProofs only[VV,VW]<;>first|assumption|omega)|decide) only[ec,g1,sf,hH1,XQ,Tg,W4,d1,YQ,Zo,Zl,Zl,Zo,Wq,YL,Wt,Xd,YV,c7,ZG,Yj,Zz,Yg,UH]
  refine⟨_,rfl,?_⟩;exact k2
 have d1:decide ((Wm m.path).1=0)=false:=Zc h1
 by_cases h2:E1 m.kind=0
 ·have d2:decide (E1 m.kind=0)=true:=Zi h2
  rw[show Xh m=false by unfold Xh;simp[h2]];simp(disch:=first|assumption|omega|(simp -implicitDefEqProofs only[VV,VW]<;>first|assumption|omega)|decide) only[ec,eT,gT,lT,g1,g2,sf,hH1,lkT,XQ,Tg,W4,d1,d2,YQ,Zo,Zl,Zl,Zo,YM,Xz,Wq,YL,Wt,Xd,YV,c7,ZG,Yj,Zz,Yg,UH]
  refine⟨_,rfl,?_⟩;exact k2
 have d2:decide (E1 m.kind=0)=false:=Zc h2
 by_cases h3:4095<m.mode
 ·have d3:decide (4095<m.mode)=true:=Zi h3
  have h3': ¬m.mode<=4095:=by omega
  rw[show Xh m=false by unfold Xh;simp[h3']];simp(disch:=first|assumption|omega|(simp -implicitDefEqProofs only[VV,VW]<;>first|assumption|omega)|decide) only[ec,eT,gT,lT,g1,g2,sf,hH1,lkT,XQ,Tg,W4,d1,d2,d3,Yn,YQ,Zo,Zl,Zl,Zo,YM,Xz,Wq,YL,Wt,Xd,YV,V9,c7,ZG,Yj,Zz,Yg,UH]
  refine⟨_,rfl,?_⟩;exact k2
 have d3:decide (4095<m.mode)=false:=Zc h3;have h3':m.mode<=4095:=by omega
 cases h4:Ow m.attrs with
 |false=>
  rw[h4] at e4;rw[show Xh m=false by unfold Xh;simp[h4]];simp(disch:=first|assumption|omega|(simp -implicitDefEqProofs only[VV,VW]<;>first|assumption|omega)|decide) only[ec,eT,gT,lT,g1,g2,sf,hH1,lkT,e4,XQ,Tg,W4,d1,d2,d3,Yn,YQ,Zo,Zl,Zl,Zo,YM,Xz,Wq,YL,Wt,Xd,YV,V9,c7,ZG,Yj,Zz,Yc,Yg,UH]
  refine⟨_,rfl,?_⟩;exact k2
 |true=>
  rw[h4] at e4;cases h5:N2 m.link (decide (m.kind=3)) with
  |false=>
   rw[h5] at e5;rw[show Xh m=false by unfold Xh;simp[h5]];simp(disch:=first|assumption|omega|(simp -implicitDefEqProofs only[VV,VW]<;>first|assumption|omega)|decide) only[ec,eT,gT,lT,g1,g2,sf,hH1,lkT,e4,e5,XQ,Tg,W4,d1,d2,d3,Yn,YQ,Zo,Zl,Zl,Zo,YM,Xz,Wq,YL,Wt,Xd,YV,V9,LA,c7,ZG,Yj,Zz,Yc,Yg,UH]
   refine⟨_,rfl,?_⟩;exact k2
  |true=>
   rw[h5] at e5
   by_cases h6: ¬m.data.length<=16777216
   ·have d6:decide (m.data.length<=16777216)=false:=Zc h6
    rw[show Xh m=false by unfold Xh;simp[h6]];simp(disch:=first|assumption|omega|(simp -implicitDefEqProofs only[VV,VW]<;>first|assumption|omega)|decide) only[ec,eT,gT,lT,g1,g2,sf,hH1,lkT,e4,e5,ln,XQ,Tg,W4,d1,d2,d3,d6,Qm,Y4,Yn,YQ,Zo,Zl,Zl,Zo,YM,Xz,Wq,YL,Wt,Xd,YV,V9,LA,c7,ZG,Yj,Zz,Yc,Yg,UH]
    refine⟨_,rfl,?_⟩;exact k2
   have h6:=Decidable.not_not.1 h6;have d6:decide (m.data.length<=16777216)=true:=Zi h6
   by_cases h7:m.kind=2
   ·have d7:decide (m.kind=((2:Nat):Int))=true:=Zi h7
    rw[show Xh m=true by unfold Xh;rw[h5];simp[h1,h3',h4,h6,h7];rw[<-h7];exact h2];simp(disch:=first|assumption|omega|(simp -implicitDefEqProofs only[VV,VW]<;>first|assumption|omega)|decide) only[ec,eT,gT,lT,g1,g2,sf,hH1,lkT,e4,e5,ln,XQ,Tg,W4,d1,d2,d3,d6,d7,Y4,Yn,YQ,Zo,Zl,Zl,Zo,YM,Xz,Wq,YL,Wt,Xd,YV,V9,LA,c7,ZG,Yj,Zz,Yc,Yg,UH]
    refine⟨_,rfl,?_⟩;exact k2
   have d7:decide (m.kind=((2:Nat):Int))=false:=Zc h7
   by_cases h8:m.data.length=0
   ·have d8:decide (m.data.length=0)=true:=Zi h8
    rw[show Xh m=true by unfold Xh;rw[h5];simp[h1,h2,h3',h4,h7,h8]];simp(disch:=first|assumption|omega|(simp -implicitDefEqProofs only[VV,VW]<;>first|assumption|omega)|decide) only[ec,eT,gT,lT,g1,g2,sf,hH1,lkT,e4,e5,ln,XQ,Tg,W4,d1,d2,d3,d6,d7,d8,Y4,Yn,YQ,Zo,Zl,Zl,Zo,YM,Xz,Wq,YL,Wt,Xd,YV,V9,LA,c7,ZG,Yj,Zz,Yc,Yg,UH]
    refine⟨_,rfl,?_⟩;exact k2
   have d8:decide (m.data.length=0)=false:=Zc h8;rw[show Xh m=false by unfold Xh;rw[d8,Zc h7];simp];simp(disch:=first|assumption|omega|(simp -implicitDefEqProofs only[VV,VW]<;>first|assumption|omega)|decide) only[ec,eT,gT,lT,g1,g2,sf,hH1,lkT,e4,e5,ln,XQ,Tg,W4,d1,d2,d3,d6,d7,d8,Y4,Yn,YQ,Zo,Zl,Zl,Zo,YM,Xz,Wq,YL,Wt,Xd,YV,V9,LA,c7,ZG,Yj,Zz,Yc,Yg,UH]
   refine⟨_,rfl,?_⟩;exact k2
def uR(E:Env Zq fs Zk)(hk:12<=k){m:Mem}(hs:CS m)(g:Nc H)(hm:NF H cs m):
  ZA (LK Zq fs Zk k) fs Zk (n+1) 7 [.agg cs] H=.ret (.bool (Xh m)) H:=by
 obtain⟨H',e,g⟩:=lJ E (n:=898) (H:=H) hs g hm;exact Yh (r:=11) rfl rfl e g (rfl) hk
end
end
end Go.AI
