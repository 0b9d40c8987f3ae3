/- What may be a path, and what it stands for: walked: proved without conditions but those that each names. -/
import Derived.Test.YtdogcjobgcckbaaGreatDoorP9
import Derived.Test.YtdogcjobgcckbaaGreatDoorP8
import Derived.Test.YtdogcjobgcckbaaGreatDoorP7
import Derived.Test.YtdogcjobgcckbaaGreatDoorP6
set_option maxRecDepth 1000000
set_option maxHeartbeats 0
set_option linter.unusedVariables false
set_option linter.unusedSimpArgs false
namespace Go.AI
open Go
noncomputable section
section
variable {Zn:Lib} {fs:T CF} {fuel k n i h b:Nat} {H H0:Heap} {s:List UInt8} {cs:List AV}
theorem Gl(G:Heap):Tf Sc W5 (.int .i64 (.negSucc 0)) (nI .i64 0) G=.val (.bool false) G:=rfl
theorem bo:QT [47,0]:=⟨by decide,by decide,by decide⟩
theorem eY(E:Env Zn fs fuel)(hs:s.length<=90000)(hro:H.ro<=H.nx):
  ∃H',ZE (LK Zn fs fuel 5) fs fuel (n+2) 62 [.str s] H=.ret (.bool (YG s)) H'∧Zs H H' []:=by
 rw[ZI (ZA E.n62 (.inl (by decide)) _ _) E.f62]
 have e1:=λ{j}=>iw E (k:=5) (n:=j) (by decide) (s:=s) (H:=H) bo hs hro
 have e2:=λ{j}=>ZhO E (k:=5) (n:=j) (by decide) (s:=s) (p:=[46,119,104,46]) (H:=H) hs
 by_cases h1:s=[]
 ·have dh1:decide (s=[])=true:=Ze h1
  rw[show YG s=false by unfold YG Ai JM B5;simp[h1]]
  simp only[dh1,Wu,c62,Zu,Ye,Zw,Z8,Z6]
  refine⟨_,rfl,?_⟩
  exact Zs.refl _ _
 have dh1:decide (s=[])=false:=Zb h1
 by_cases h2: ¬s.length<=251
 ·have dh2:decide (s.length<=251)=false:=Zb h2
  rw[show YG s=false by unfold YG Ai JM B5;simp[h2]]
  simp only[dh2,dh1,Yt,Wu,ZG,c62,Zu,Ye,Zw,Z8,Z6]
  refine⟨_,rfl,?_⟩
  exact Zs.refl _ _
 have h2:=Decidable.not_not.1 h2
 have dh2:decide (s.length<=251)=true:=Ze h2
 by_cases h3:s=[46]
 ·have dh3:decide (s=[46])=true:=Ze h3
  rw[show YG s=false by unfold YG Ai JM B5;simp[h3]]
  simp only[dh3,dh1,dh2,Yt,Wu,ZG,c62,Zu,Ye,Zw,Z8,Z6]
  refine⟨_,rfl,?_⟩
  exact Zs.refl _ _
 have dh3:decide (s=[46])=false:=Zb h3
 by_cases h4:s=[46,46]
 ·have dh4:decide (s=[46,46])=true:=Ze h4
  rw[show YG s=false by unfold YG Ai JM B5;simp[h4]]
  simp only[dh4,dh1,dh2,dh3,Yt,Wu,ZG,c62,Zu,Ye,Zw,Z8,Z6]
  refine⟨_,rfl,?_⟩
  exact Zs.refl _ _
 have dh4:decide (s=[46,46])=false:=Zb h4
 cases ha:Ts [47,0] s with
 |true=>
  rw[ha] at e1
  rw[show YG s=false by unfold YG;simp[ha]]
  simp only[dh1,dh2,dh3,dh4,e1,Yt,Wu,ZG,c62,Zu,Ye,Zw,Z8,Z6]
  refine⟨_,rfl,?_⟩
  exact Zs.refl _ _
 |false=>
  rw[ha] at e1
  cases hb:Pm [46,119,104,46] s with
  |true=>
   rw[hb] at e2
   rw[show YG s=false by unfold YG B5;simp[hb]]
   simp only[dh1,dh2,dh3,dh4,e1,e2,Yt,Wu,ZG,c62,Zu,Ye,Zw,Z8,Z6]
   refine⟨_,rfl,?_⟩
   exact Zs.refl _ _
  |false=>
   rw[hb] at e2
   rw[show YG s=true by unfold YG Ai JM B5;simp[h1,h2,h3,h4,ha,hb]]
   simp only[dh1,dh2,dh3,dh4,e1,e2,Yt,Wu,ZG,c62,Zu,Ye,Zw,Z8,Z6]
   refine⟨_,rfl,?_⟩
   exact Zs.refl _ _
theorem Ziy(E:Env Zn fs fuel)(hk:6<=k)(hs:s.length<=90000)(hro:H.ro<=H.nx):
  ZE (LK Zn fs fuel k) fs fuel (n+1) 62 [.str s] H=.ret (.bool (YG s)) H:=by
 obtain⟨H',e,g⟩:=eY E (n:=898) (H:=H) hs hro
 exact Yl (r:=5) rfl rfl e g (rfl) hk
theorem eX(E:Env Zn fs fuel)(hs:s.length<=90000)(hro:H.ro<=H.nx):
  ∃H',ZE (LK Zn fs fuel 6) fs fuel (n+2) 86 [.str s] H=.ret (.bool (!YG s)) H'∧Zs H H' []:=by
 rw[ZI (ZA E.n86 (.inl (by decide)) _ _) E.f86]
 have e1:=λ{j}=>Ziy E (k:=6) (n:=j) (by decide) (s:=s) (H:=H) hs hro
 simp only[e1,c86,Zu,Ye,Zw,Z6]
 refine⟨_,rfl,?_⟩
 exact Zs.refl _ _
theorem Zni(E:Env Zn fs fuel)(hk:7<=k)(hs:s.length<=90000)(hro:H.ro<=H.nx):
  ZE (LK Zn fs fuel k) fs fuel (n+1) 86 [.str s] H=.ret (.bool (!YG s)) H:=by
 obtain⟨H',e,g⟩:=eX E (n:=898) (H:=H) hs hro
 exact Yl (r:=6) rfl rfl e g (rfl) hk
structure IFI(v:AV)(l:List (List UInt8))(H0:Heap)(m:Nat)(tm:TM)(H:Heap):Prop where
 heap:H=H0
 t0:Yb tm=v
 t1:Wc tm=.func 86 [] []
 t7:XQ tm=nI .i64 l.length
 i: ∃i,Wi tm=nI .i64 i∧i+m=l.length∧ ∀j,j<i->YG (l.getD j [])=true
def IFQ(l:List (List UInt8))(H0:Heap)(o:Out)(tm:TM)(H:Heap):Prop:=H=H0∧((o=.ret∧ ∃p,Y4 tm=nI .i64 p∧l.all YG=false)∨(o=.exit 0∧l.all YG=true))
theorem tM{l:List (List UInt8)}:(∀j,j<l.length->YG (l.getD j [])=true)->l.all YG=true:=λh=>by
 rw[Yo]
 intro x hx
 obtain⟨i,hi,rfl⟩:=Qn hx
 have:=h i hi
 rwa [Zf,Zl hi] at this
theorem xy{l:List (List UInt8)}(hi:i<l.length)(h:YG (l.getD i [])=false):l.all YG=false:=by
 rw[TZ]
 intro e
 rw[Yo] at e
 have:=e _ (Xd hi)
 rw[Zf,Zl hi] at h
 have h:YG l[i]=false:=h
 rw[h] at this;cases this
theorem ZaT(E:Env Zn fs fuel)(hk:7<=k){v:AV}{l:List (List UInt8)}(hl:l.length<=90000)(hs: ∀i,i<l.length->(l.getD i []).length<=90000)(hro:H0.ro<=H0.nx)(hN:yw H0 v l)(y f dd q)(X0:X)(m:Nat)(tm:TM)(H:Heap)(hI:IFI v l H0 m tm H):
  ∃o tm' H',K3 ⟨ZE (LK Zn fs fuel k) fs fuel (n+1),y,f,dd,q⟩ tm H X0=.ok o tm' H' X0∧((o=.normal∧ ∃k,k<m∧IFI v l H0 k tm' H')∨(o≠.normal∧IFQ l H0 o tm' H')):=by
 obtain⟨rfl,t0,t1,t7,i,t8,him,hn⟩:=hI
 have t0':=t0;have t1':=t1;have KX:=t7
 simp only[Sb,Kn,LX,sW] at t0 t1 t7 t8
 cases m with
 |zero=>
  have d1:decide (i<l.length)=false:=Zb (by omega)
  simp only[t7,t8,d1,Zy,K3,Zu,Ye,Z6]
  refine⟨_,_,_,rfl,?_⟩
  exact .inr ⟨by simp,rfl,.inr ⟨rfl,tM λj hj=>hn j (by omega)⟩⟩
 |succ m=>
  have d1:decide (i<l.length)=true:=Ze (by omega)
  have hi:i<l.length:=by omega
  rcases hN with⟨_,rfl⟩|⟨b,rfl,_,r,g,hz,hsz,how,hb,hg⟩
  ·simp at hi
  ·have hir:i<r.size:=by omega
   have gi:=hg i hi
   have e1:=λ{j}=>Zni E (k:=k) (n:=j) hk (H:=H) (hs i hi) hro
   cases hm:YG (l.getD i []) with
   |true=>
    rw[hm] at e1
    simp(disch:=omega) only[t0,t1,t7,t8,d1,g,gi,e1,Zy,YI,Zd,XB,ZY,Yd,O1,Xb,Zd,K3,Zu,Ye,Zw,Z8,Z6]
    refine⟨_,_,_,rfl,.inl ⟨rfl,m,by omega,rfl,t0',t1',KX,i+1,rfl,by omega,λj hj=>?_⟩⟩
    by_cases h:j=i
    ·rw[h];exact hm
    ·exact hn j (by omega)
   |false=>
    rw[hm] at e1
    simp(disch:=omega) only[t0,t1,t7,t8,d1,g,gi,e1,Zy,Zd,XB,ZY,Yd,O1,Xb,Zd,K3,Zu,Ye,Zw,Z8,Z6]
    refine⟨_,_,_,rfl,?_⟩
    exact .inr ⟨by simp,rfl,.inl ⟨rfl,i,rfl,xy hi hm⟩⟩
theorem ZmW(E:Env Zn fs fuel)(hk:7<=k){v:AV}{l:List (List UInt8)}(hl:l.length<=90000)(hs: ∀i,i<l.length->(l.getD i []).length<=90000)(hro:H.ro<=H.nx)(hN:yw H v l):
  ∃w,ZE (LK Zn fs fuel k) fs fuel (n+2) 104 [v,.func 86 [] []] H=.ret w H∧((l.all YG=false∧ ∃p,w=nI .i64 p)∨(l.all YG=true∧w=.int .i64 (.negSucc 0))):=by
 rw[ZI (ZA E.n104 (.inr rfl) _ _) E.f104]
 have ln:=hN.len
 simp only[ln,Zeq,Zu,Ye,Z6]
 generalize hL:Wv (K3 _) fuel _ _ _=L
 obtain⟨o,Pu,H2,rfl,_,rfl,z⟩:=YA (P:=λT=>IFI v l H l.length T H) (Q:=IFQ l H)
  (λT hi=>YP (IFI v l H) (IFQ l H) (λm tm H2 h=>ZaT E hk hl hs hro hN _ _ _ _ _ m tm H2 h) fuel l.length T H (by have:=E.big;omega) hi) hL
  (by exact⟨rfl,rfl,rfl,rfl,0,rfl,by omega,λj hj=>by omega⟩)
 rcases z with⟨rfl,p,t4,e⟩|⟨rfl,e⟩
 ·simp only[Tp] at t4
  simp only[t4,Zu,Zw,Z6]
  refine⟨_,rfl,?_⟩
  exact .inl ⟨e,p,rfl⟩
 ·
  simp only[Zu,Ye,Zw,Z6]
  refine⟨_,rfl,?_⟩
  exact .inr ⟨e,rfl⟩
theorem Zl1(E:Env Zn fs fuel)(hk:7<=k){v:AV}{l:List (List UInt8)}(hl:l.length<=90000)(hs: ∀i,i<l.length->(l.getD i []).length<=90000)(hro:H.ro<=H.nx)(hN:yw H v l):
  ZE (LK Zn fs fuel k) fs fuel (n+3) 85 [v,.func 86 [] []] H=.ret (.bool (!l.all YG)) H:=by
 rw[ZI (ZA E.n85 (.inr rfl) _ _) E.f85]
 obtain⟨w,e1,h⟩:=ZmW E (n:=n) hk hl hs hro hN
 rcases h with⟨h,p,rfl⟩|⟨h,rfl⟩
 ·have d1:decide (0<=p)=true:=Ze (ZZ _)
  rw[h]
  simp only[e1,Xu,ZZ,decide_true,c85,Zu,Ye,Zw,Z8,Z6]
 ·rw[h]
  simp only[e1,Gl,c85,Zu,Ye,Zw,Z8,Z6]
theorem Mi: ∀(s:List UInt8) (x:List UInt8),x∈YU s->x.length<=s.length
 |[],x,h=>by
  have:x=[]:=by simpa [YU] using h
  rw[this];exact Zp _
 |c::s,x,h=>by
  rw[YU] at h
  rw[ZS]
  split at h
  ·rcases ZO.1 h with rfl|h
   ·exact ZZ _
   ·have:=Mi s x h;omega
  ·split at h
   ·rename_i e;exact absurd e (SH s)
   ·rename_i a b e
    rcases ZO.1 h with rfl|h
    ·have:=Mi s a (by rw[e];exact Zt ..)
     rw[ZS];omega
    ·have:=Mi s x (by rw[e];exact Zz _ h);omega
theorem Ku{x:List UInt8}(h:x∈Z4 s):x.length<=s.length:=by
 unfold Z4 at h
 split at h
 ·cases h
 ·exact Mi s x h
theorem FK(s:List UInt8):(Z4 s).length<=s.length+1:=by
 unfold Z4
 split
 ·exact ZZ _
 ·rw[PY];have:=yL 47 s;omega
theorem cq(E:Env Zn fs fuel)(hs:s.length<=89000)(hro:H.ro<=H.nx):
  ∃H',ZE (LK Zn fs fuel 9) fs fuel (n+6) 61 [.str s] H=.ret (.bool (Tg s)) H'∧Zs H H' []:=by
 rw[ZI (ZA E.n61 (.inl (by decide)) _ _) E.f61]
 obtain⟨v,H1,e1,hN,k1⟩:=qg E (k:=9) (n:=n+1) (by decide) (s:=s) (by omega) hro
 have ln:=hN.len
 have nl:=FK s
 have e2:=λ{j}=>Zl1 E (k:=9) (n:=j) (by decide) (v:=v) (l:=Z4 s) (by omega) (λi hi=>by
  have:(Z4 s).getD i []∈Z4 s:=by rw[Zf,Zl hi];exact Xd hi
  have:=Ku this;omega) (by rw[k1.ro];exact Z5 hro k1.nx) hN
 by_cases h1:s.length<=4080
 ·have d1:decide (s.length<=4080)=true:=Ze h1
  by_cases h2:(Z4 s).length<255
  ·have d2:decide ((Z4 s).length<255)=true:=Ze h2
   cases hm:(Z4 s).all YG with
   |true=>
    rw[hm] at e2
    rw[show Tg s=true by unfold Tg;simp only[hm,h1,h2];rfl]
    simp only[e1,ln,d1,d2,e2,Yt,Zy,ZG,c61,Zu,Ye,Zw,Z8,Z6]
    refine⟨_,rfl,?_⟩
    exact k1
   |false=>
    rw[hm] at e2
    rw[show Tg s=false by unfold Tg;simp only[hm,YS]]
    simp only[e1,ln,d1,d2,e2,Yt,Zy,ZG,c61,Zu,Ye,Zw,Z8,Z6]
    refine⟨_,rfl,?_⟩
    exact k1
  ·have d2:decide ((Z4 s).length<255)=false:=Zb h2
   rw[show Tg s=false by unfold Tg;rw[d2,YS];rfl]
   simp only[e1,ln,d1,d2,Yt,Zy,ZG,c61,Zu,Ye,Zw,Z6]
   refine⟨_,rfl,?_⟩
   exact k1
 ·have d1:decide (s.length<=4080)=false:=Zb h1
  rw[show Tg s=false by unfold Tg;rw[d1];rfl]
  simp only[e1,d1,Yt,ZG,c61,Zu,Ye,Zw,Z6]
  refine⟨_,rfl,?_⟩
  exact k1
theorem Znr(E:Env Zn fs fuel)(hk:10<=k)(hs:s.length<=89000)(hro:H.ro<=H.nx):
  ZE (LK Zn fs fuel k) fs fuel (n+1) 61 [.str s] H=.ret (.bool (Tg s)) H:=by
 obtain⟨H',e,g⟩:=cq E (n:=894) (H:=H) hs hro
 exact Yl (r:=9) rfl rfl e g (rfl) hk
def cEs:List SR:=[⟨nI .i64 1,.func 156 [] [],0⟩,⟨nI .i64 2,.func 157 [] [],0⟩,⟨nI .i64 3,.func 158 [] [],0⟩]
def tEs:List SR:=[⟨nI .i64 1,nI .u8 53,0⟩,⟨nI .i64 2,nI .u8 48,0⟩,⟨nI .i64 3,nI .u8 50,0⟩,⟨nI .i64 4,nI .u8 54,0⟩]
structure Nd(H:Heap):Prop where
 nx:100<=H.nx
 ro:H.ro<=H.nx
 c: ∃r,H.t.get 1=some (.row r)∧0<r.size∧r.get 0=.map 10
 cm:H.t.get 10=some (.cmap cEs)
 t: ∃r,H.t.get 0=some (.row r)∧0<r.size∧r.get 0=.map 9
 tm:H.t.get 9=some (.cmap tEs)
theorem Nd.keep{H H':Heap}{S:List Nat}(g:Nd H)(k:Zs H H' S)(hS: ∀x∈S,100<=x):Nd H':=by
 obtain⟨a,b,⟨r,c1,c2,c3⟩,d,⟨q,e1,e2,e3⟩,f⟩:=g
 have kk:=λx (hx:x<100)=>k.get x (by omega) (λh=>by have:=hS x h;omega)
 exact⟨Z5 a k.nx,by rw[k.ro];exact Z5 b k.nx,⟨r,by rw[kk _ (by decide)];exact c1,c2,c3⟩,by rw[kk _ (by decide)];exact d,⟨q,by rw[kk _ (by decide)];exact e1,e2,e3⟩,by rw[kk _ (by decide)];exact f⟩
theorem Nd.keep0{H H':Heap}(g:Nd H)(k:Zs H H' []):Nd H':=g.keep k (by simp)
theorem Zbh(G:Heap):lkO Vp .nilf false (some (.cmap cEs)) (nI .i64 1) G=.val (.func 156 [] []) G:=rfl
theorem eK(G:Heap):lkO Vp .nilf false (some (.cmap cEs)) (nI .i64 2) G=.val (.func 157 [] []) G:=rfl
theorem ZfI(G:Heap):lkO Vp .nilf false (some (.cmap cEs)) (nI .i64 3) G=.val (.func 158 [] []) G:=rfl
theorem ZbB(d:List UInt8):(Gm d).length<=d.length:=by
 unfold Gm
 split
 ·rw[ZC];omega
 ·exact Zp _
theorem Hq(p:List UInt8):(VP p).length+(Xk p).length=p.length:=by
 unfold VP Xk
 rw[ZC,Ym];omega
theorem oF{b:List UInt8}(h:TE b=2):4<=b.length:=by
 unfold TE at h
 split at h
 ·cases h
 ·split at h
  ·rename_i e
   unfold Pm B5 at e
   rw[Yw] at e
   exact Zm e.1
  ·cases h
theorem jk(p:List UInt8):(UK p).length<=p.length:=by
 have h:=Hq p
 unfold UK
 split
 ·rw[Zj];omega
 ·split
  ·rw[Zj,Ym];omega
  ·have:=ZbB (VP p);omega
theorem sC(E:Env Zn fs fuel)(hs:s.length<=80000)(g:Nd H):
  ∃H',ZE (LK Zn fs fuel 10) fs fuel (n+2) 32 [.str s] H=.ret (.tup [nI .i64 (We s).1,.str (We s).2]) H'∧Zs H H' []:=by
 rw[ZI (ZA E.n32 (.inl (by decide)) _ _) E.f32]
 have e1:=λ{j}=>base E (k:=10) (n:=j) (by decide) (s:=s) (H:=H) (by omega)
 have e2:=λ{j}=>Zim E (k:=10) (n:=j) (by decide) (s:=Xk s) (H:=H) (by have:=Hq s;omega)
 have e3:=λ{j}=>Zea E (k:=10) (n:=j) (by decide) (s:=s) (p:=Xk s) (H:=H) (by omega)
 rw[jt] at e3
 have e4:=λ{j}=>Znr E (k:=10) (n:=j) (by decide) (s:=UK s) (H:=H) (by have:=jk s;omega) g.ro
 have e6:=λ{j}=>Ziy E (k:=10) (n:=j) (by decide) (s:=(Xk s).drop 4) (H:=H) (by rw[Ym];have:=Hq s;omega) g.ro
 have nq1:decide (1≠3)=true:=rfl
 have nq2:decide (2≠3)=true:=rfl
 have nq3:decide (3≠3)=false:=rfl
 obtain⟨r,g1,g2,g3⟩:=g.c
 have ld: ∀G,ld1 (some (.row r)) 0 G=.val (.map 10) G:=λG=>by rw[O1 g2,g3]
 have gm:=g.cm
 have bd:=Hq s
 obtain⟨l1,l3⟩:=p9 (Xk s)
 by_cases h0:s=[46,119,104,46,46,119,104,46,116,111,99]
 ·have d0:decide (s=[46,119,104,46,46,119,104,46,116,111,99])=true:=Ze h0
  rw[show We s=(4,[]) by unfold We wg;simp[h0]]
  simp only[d0,YT,c32,Zu,Ye,Zw,Z6]
  refine⟨_,rfl,?_⟩
  exact Zs.refl _ _
 have d0:decide (s=[46,119,104,46,46,119,104,46,116,111,99])=false:=Zb h0
 have h0': ¬s=wg:=h0
 have hcl:TE (Xk s)=1∨TE (Xk s)=2∨TE (Xk s)=3:=by omega
 rcases hcl with hc|hc|hc
 ·rw[hc] at e2
  have ht:UK s=VP s++Xk s:=by unfold UK;simp[hc]
  rw[ht] at e4
  have e5:=λ{j}=>ZeF E (k:=10) (n:=j) (by decide) (a:=VP s) (s:=Xk s) (H:=H) (by omega)
  cases hm:Tg (VP s++Xk s) with
  |false=>
   rw[hm] at e4
   rw[show We s=(0,[]) by unfold We Ob;simp[h0',ht,hm,hc]]
   simp only[d0,e1,e2,e3,e4,e5,g1,ld,gm,Zbh,Uk,YT,XB,ZY,Yd,Xx,Wq,c32,Zu,Ye,Zw,Z8,Z6,Vk]
   refine⟨_,rfl,?_⟩
   exact Zs.refl _ _
  |true=>
   rw[hm] at e4
   by_cases hz:VP s++Xk s=[]
   ·have dz:decide (VP s++Xk s=[])=true:=Ze hz
    have hz2:Tg []=true:=by rw[<-hz];exact hm
    rw[show We s=(0,[]) by unfold We Ob;rw[ht,dz];simp[h0',hc]]
    simp only[nq1,d0,e1,e2,e3,e4,e5,g1,ld,gm,Zbh,dz,Uk,Vi,YT,XB,ZY,Yd,Xx,Wq,c32,Zu,Ye,Zw,Z8,Z6,Vk]
    refine⟨_,rfl,?_⟩
    exact Zs.refl _ _
   ·have dz:decide (VP s++Xk s=[])=false:=Zb hz
    by_cases hd:VP s=[47]
    ·have dd:decide (VP s=[47])=true:=Ze hd
     rw[show We s=(0,[]) by unfold We Ob;simp[h0',ht,hc, -List.append_eq_nil_iff,hd]]
     simp only[nq1,d0,e1,e2,e3,e4,e5,g1,ld,gm,Zbh,dz,dd,YL,Vi,YT,Nat.reduceEqDiff,decide_false,XB,ZY,Yd,Xx,Wq,c32,Zu,Ye,Zw,Z8,Nat.reduceEqDiff,Z6,Vk]
     refine⟨_,rfl,?_⟩
     exact Zs.refl _ _
    ·have dd:decide (VP s=[47])=false:=Zb hd
     rw[show We s=(1,VP s++Xk s) by unfold We Ob;simp[h0',ht,hm,hc, -List.append_eq_nil_iff,hz,hd]]
     simp only[nq1,d0,e1,e2,e3,e4,e5,g1,ld,gm,Zbh,dz,dd,YL,Vi,YT,Nat.reduceEqDiff,decide_false,XB,ZY,Yd,Xx,Wq,c32,Zu,Ye,Zw,Z8,Nat.reduceEqDiff,Z6,Vk]
     refine⟨_,rfl,?_⟩
     exact Zs.refl _ _
 ·rw[hc] at e2
  have ht:UK s=VP s++(Xk s).drop 4:=by unfold UK;simp[hc]
  rw[ht] at e4
  have e5:=λ{j}=>ZeG E (k:=10) (n:=j) (by decide) (a:=VP s) (s:=Xk s) (H:=H) (by omega) (oF hc)
  have hp4:=oF hc
  cases hm:Tg (VP s++(Xk s).drop 4) with
  |false=>
   rw[hm] at e4
   rw[show We s=(0,[]) by unfold We Ob;simp[h0',ht,hm,hc]]
   simp only[d0,e1,e2,e3,e4,e5,g1,ld,gm,eK,Uk,YT,XB,ZY,Yd,Xx,Wq,c32,Zu,Ye,Zw,Z8,Z6,Vk]
   refine⟨_,rfl,?_⟩
   exact Zs.refl _ _
  |true=>
   rw[hm] at e4
   by_cases hz:VP s++(Xk s).drop 4=[]
   ·have dz:decide (VP s++(Xk s).drop 4=[])=true:=Ze hz
    rw[show We s=(0,[]) by unfold We Ob;rw[ht,dz];simp[h0',hc]]
    simp only[nq2,d0,e1,e2,e3,e4,e5,g1,ld,gm,eK,dz,Uk,Vi,YT,XB,ZY,Yd,Xx,Wq,c32,Zu,Ye,Zw,Z8,Z6,Vk]
    refine⟨_,rfl,?_⟩
    exact Zs.refl _ _
   ·have dz:decide (VP s++(Xk s).drop 4=[])=false:=Zb hz
    cases hn:YG ((Xk s).drop 4) with
    |false=>
     rw[hn] at e6
     rw[show We s=(0,[]) by unfold We Ob;simp[h0',ht,hm,hc,hn]]
     simp(disch:=omega) only[nq2,d0,e1,e2,e3,e4,e5,g1,ld,gm,eK,dz,e6,YL,Vi,YT,Ur,decide_true,XB,ZY,Yd,Xx,Wq,c32,Zu,Ye,Zw,Z8,Z6,Vk]
     refine⟨_,rfl,?_⟩
     exact Zs.refl _ _
    |true=>
     rw[hn] at e6
     by_cases hd:VP s=[47]
     ·have dd:decide (VP s=[47])=true:=Ze hd
      rw[show We s=(0,[]) by unfold We Ob;simp[h0',ht,hc,hn, -List.append_eq_nil_iff,hd]]
      simp(disch:=omega) only[nq2,d0,e1,e2,e3,e4,e5,g1,ld,gm,eK,dz,e6,dd,YL,Vi,YT,Ur,decide_true,XB,ZY,Yd,Xx,Wq,c32,Zu,Ye,Zw,Z8,Z6,Vk]
      refine⟨_,rfl,?_⟩
      exact Zs.refl _ _
     ·have dd:decide (VP s=[47])=false:=Zb hd
      rw[show We s=(2,VP s++(Xk s).drop 4) by unfold We Ob;simp[h0',ht,hm,hc,hn, -List.append_eq_nil_iff,hz,hd]]
      simp(disch:=omega) only[nq2,d0,e1,e2,e3,e4,e5,g1,ld,gm,eK,dz,e6,dd,YL,Vi,YT,Ur,decide_true,XB,ZY,Yd,Xx,Wq,c32,Zu,Ye,Zw,Z8,Z6,Vk]
      refine⟨_,rfl,?_⟩
      exact Zs.refl _ _
 ·rw[hc] at e2
  have ht:UK s=Gm (VP s):=by unfold UK;simp[hc]
  rw[ht] at e4
  have e5:=λ{j}=>ZeH E (k:=10) (n:=j) (by decide) (a:=VP s) (s:=Xk s) (H:=H) (by omega)
  cases hm:Tg (Gm (VP s)) with
  |false=>
   rw[hm] at e4
   rw[show We s=(0,[]) by unfold We Ob;simp[h0',ht,hm,hc]]
   simp only[d0,e1,e2,e3,e4,e5,g1,ld,gm,ZfI,Uk,YT,XB,ZY,Yd,Xx,Wq,c32,Zu,Ye,Zw,Z8,Z6,Vk]
   refine⟨_,rfl,?_⟩
   exact Zs.refl _ _
  |true=>
   rw[hm] at e4
   by_cases hd:VP s=[47]
   ·have dd:decide (VP s=[47])=true:=Ze hd
    rw[show We s=(0,[]) by unfold We Ob;simp[h0',ht,hc,hd]]
    simp only[nq3,d0,e1,e2,e3,e4,e5,g1,ld,gm,ZfI,dd,YL,Vi,YT,Nat.reduceEqDiff,decide_false,XB,ZY,Yd,Xx,Wq,c32,Zu,Ye,Zw,Z8,Nat.reduceEqDiff,Z6,Vk]
    refine⟨_,rfl,?_⟩
    exact Zs.refl _ _
   ·have dd:decide (VP s=[47])=false:=Zb hd
    rw[show We s=(3,Gm (VP s)) by unfold We Ob;simp[h0',ht,hm,hc,hd]]
    simp only[nq3,d0,e1,e2,e3,e4,e5,g1,ld,gm,ZfI,dd,YL,Vi,YT,Nat.reduceEqDiff,decide_false,XB,ZY,Yd,Xx,Wq,c32,Zu,Ye,Zw,Z8,Nat.reduceEqDiff,Z6,Vk]
    refine⟨_,rfl,?_⟩
    exact Zs.refl _ _
theorem ZeI(E:Env Zn fs fuel)(hk:11<=k)(hs:s.length<=80000)(g:Nd H):
  ZE (LK Zn fs fuel k) fs fuel (n+1) 32 [.str s] H=.ret (.tup [nI .i64 (We s).1,.str (We s).2]) H:=by
 obtain⟨H',e,g⟩:=sC E (n:=898) (H:=H) hs g
 exact Yl (r:=10) rfl rfl e g (rfl) hk
end
theorem WO{b:Bool}{k:OR}{v:AV}{H:Heap}(h:ZP b k=.val v H):k=.val v H:=by
 cases b with
 |true=>exact h
 |false=>cases h
theorem ku{H:Heap}{b:Nat}{k:Row->OR}{v:AV}{H':Heap}(h:Xg H b k=.val v H'): ∃r,k r=.val v H':=by
 unfold Xg at h
 split at h
 ·exact⟨_,h⟩
 ·cases h
theorem PU{H:Heap}{e sz:Nat}{l:List AV}{ex:Bool}{c:Nat}(hc:c<H.nx):(H.newRow e sz l ex).t.get c=H.t.get c:=by
 rw[QF,Nl (by omega)]
theorem nr{v:AV}{e sz bytes:Nat}{H:Heap}{n:Nat}{new:List AV}{v':AV}{H':Heap}(h:Oz v e sz bytes H n new=.val v' H'){c:Nat}(hc:c<H.nx)(hv: ∀b o l q,v=.slice b o l q->c≠b):H'.t.get c=H.t.get c:=by
 cases v with
 |nils=>
  replace h:cond (Nat.beq n 0) (.val .nils H) (ZP (Nat.ble (Nat.mul n bytes) 140737488355328) (.val (.slice H.nx 0 n none) (H.newRow e sz new false)))=OR.val v' H':=h
  cases h0:Nat.beq n 0 with
  |true=>rw[h0] at h;cases h;rfl
  |false=>
   rw[h0] at h
   have h:=WO (show ZP (Nat.ble (Nat.mul n bytes) 140737488355328) (.val (.slice H.nx 0 n none) (H.newRow e sz new false))=OR.val v' H' from h)
   cases h;exact PU hc
 |slice0=>
  replace h:cond (Nat.beq n 0) (.val .slice0 H) (ZP (Nat.ble (Nat.mul n bytes) 140737488355328) (.val (.slice H.nx 0 n none) (H.newRow e sz new false)))=OR.val v' H':=h
  cases h0:Nat.beq n 0 with
  |true=>rw[h0] at h;cases h;rfl
  |false=>
   rw[h0] at h
   have h:=WO (show ZP (Nat.ble (Nat.mul n bytes) 140737488355328) (.val (.slice H.nx 0 n none) (H.newRow e sz new false))=OR.val v' H' from h)
   cases h;exact PU hc
 |slice b o len cap=>
  have hb:=hv b o len cap rfl
  replace h:Xg H b (λr=>ZP (GX r sz cap) (cond (Nat.ble (Nat.add len n) (Te r o cap)) (L4 H (.slice b o len cap) b o len n sz cap r new) (Oy H e b o len n sz bytes cap r new)))=OR.val v' H':=h
  obtain⟨r,h⟩:=ku h
  have h:=WO h
  cases h0:Nat.ble (Nat.add len n) (Te r o cap) with
  |true=>
   rw[h0] at h
   replace h:L4 H (.slice b o len cap) b o len n sz cap r new=OR.val v' H':=h
   unfold L4 at h
   cases h1:Nat.beq n 0 with
   |true=>rw[h1] at h;cases h;rfl
   |false=>
    rw[h1] at h
    have h:=WO (WO (WO h))
    cases h
    exact Nm (λe=>hb e.symm) ..
  |false=>
   rw[h0] at h
   replace h:Oy H e b o len n sz bytes cap r new=OR.val v' H':=h
   unfold Oy at h
   have h:=WO (WO h)
   cases cap with
   |some q=>cases h;exact PU hc
   |none=>
    cases h1:r.exact with
    |true=>
     have h:=WO (show ZP (Nat.beq (Nat.mod o sz) 0) (.val (.slice H.nx 0 (Nat.add len n) none) (H.newRow e sz (Vf r o (Nat.mul len sz)++new) false))=OR.val v' H' by rw[h1] at h;exact h)
     cases h;exact PU hc
    |false=>
     have h:G9 H e b o len n sz r new=OR.val v' H':=by rw[h1] at h;exact h
     unfold G9 at h
     have h:=WO (WO (WO (WO (WO h))))
     cases h
     show((H.t.del b).set H.nx _).get c=_
     rw[T.get_set,if_neg (by omega),T.get_del,if_neg λe=>hb e.symm]
 |_=>cases h
theorem jL{v:AV}{e sz bytes:Nat}{H:Heap}{n:Nat}{new:List AV}{v':AV}{H':Heap}(h:Oz v e sz bytes H n new=.val v' H')(hcap: ∀b o l q,v=.slice b o l q-> ∀r,H.t.get b=some (.row r)->Nat.ble (Nat.add l n) (Te r o q)=false): ∀b o l q,v'=.slice b o l q->b=H.nx:=by
 intro b0 o0 l0 q0 e0
 cases v with
 |nils=>
  replace h:cond (Nat.beq n 0) (.val .nils H) (ZP (Nat.ble (Nat.mul n bytes) 140737488355328) (.val (.slice H.nx 0 n none) (H.newRow e sz new false)))=OR.val v' H':=h
  cases h0:Nat.beq n 0 with
  |true=>rw[h0] at h;cases h;cases e0
  |false=>
   rw[h0] at h
   have h:=WO (show ZP (Nat.ble (Nat.mul n bytes) 140737488355328) (.val (.slice H.nx 0 n none) (H.newRow e sz new false))=OR.val v' H' from h)
   cases h;cases e0;rfl
 |slice0=>
  replace h:cond (Nat.beq n 0) (.val .slice0 H) (ZP (Nat.ble (Nat.mul n bytes) 140737488355328) (.val (.slice H.nx 0 n none) (H.newRow e sz new false)))=OR.val v' H':=h
  cases h0:Nat.beq n 0 with
  |true=>rw[h0] at h;cases h;cases e0
  |false=>
   rw[h0] at h
   have h:=WO (show ZP (Nat.ble (Nat.mul n bytes) 140737488355328) (.val (.slice H.nx 0 n none) (H.newRow e sz new false))=OR.val v' H' from h)
   cases h;cases e0;rfl
 |slice b o len cap=>
  have hb:=hcap b o len cap rfl
  replace h:Xg H b (λr=>ZP (GX r sz cap) (cond (Nat.ble (Nat.add len n) (Te r o cap)) (L4 H (.slice b o len cap) b o len n sz cap r new) (Oy H e b o len n sz bytes cap r new)))=OR.val v' H':=h
  unfold Xg at h
  split at h
  ·rename_i r hr
   have h:=WO h
   rw[hb r hr] at h
   replace h:Oy H e b o len n sz bytes cap r new=OR.val v' H':=h
   unfold Oy at h
   have h:=WO (WO h)
   cases cap with
   |some q=>cases h;cases e0;rfl
   |none=>
    cases h1:r.exact with
    |true=>
     have h:=WO (show ZP (Nat.beq (Nat.mod o sz) 0) (.val (.slice H.nx 0 (Nat.add len n) none) (H.newRow e sz (Vf r o (Nat.mul len sz)++new) false))=OR.val v' H' by rw[h1] at h;exact h)
     cases h;cases e0;rfl
    |false=>
     have h:G9 H e b o len n sz r new=OR.val v' H':=by rw[h1] at h;exact h
     unfold G9 at h
     have h:=WO (WO (WO (WO (WO h))))
     cases h;cases e0;rfl
  ·cases h
 |_=>cases h
theorem qm{H:Heap}{v:AV}{e sz bytes:Nat}{ls:List (List AV)}{lo:Nat}(h:RM H v e sz ls lo)(hsz:1<=sz)(hby:1<=bytes)(hl:(ls.length+1)*bytes<=140737488355328)(hro:H.ro<=H.nx)(hlo:lo<=H.nx){x:List AV}(hx:x.length=sz):
  ∃v' H',UT e sz bytes v (.slice H.nx 0 1 none) (H.newRow e sz x true)=.val v' H'∧RM H' v' e sz (ls++[x]) lo∧Below lo H H'∧
   (∀c,c<H.nx->(∀b o l q,v=.slice b o l q->c≠b)->H'.t.get c=H.t.get c)∧ ∀b o l q,v'=.slice b o l q->H.nx<=b:=by
 obtain⟨v',H',ea,rb,w⟩:=kO h hsz hby hl hro hlo hx
 generalize hH1:H.newRow e sz x true=H1 at ea
 have IY:H1.nx=H.nx+1:=by rw[<-hH1];rfl
 have gx:H1.t.get H.nx=some (.row ⟨e,sz,YK x,T.ofList x,.unk,0,false,true,true⟩):=by rw[<-hH1,FN,Md,if_pos rfl]
 have cx:=Cells.new e sz x 0 false true true
 have ap:UT e sz bytes v (.slice H.nx 0 1 none) H1=Oz v e sz bytes H1 1 x:=by
  show ZP (Nat.ble 1 sz) (ZP (Nat.ble 1 bytes) (Vm H1 sz (.slice H.nx 0 1 none) 1 λnew=>Oz v e sz bytes H1 1 new))=_
  rw[Zk hsz,Zk hby]
  show(Vm H1 sz (.slice H.nx 0 1 none) 1 λnew=>Oz v e sz bytes H1 1 new)=_
  generalize(⟨e,sz,YK x,T.ofList x,.unk,0,false,true,true⟩:Row)=r0 at gx cx
  unfold Vm Xg
  simp only[gx]
  show ZP (Nat.ble (0+1*sz) r0.size) (Oz v e sz bytes H1 1 (Vf r0 0 (1*sz)))=_
  rw[Qz,cx.size,hx,Zk (show 0+sz<=sz by omega)]
  have:=cx.load (o:=0) (n:=sz) (by omega)
  rw[this,Yk,Z9 (by omega)]
  rfl
 rw[ap] at ea
 refine⟨v',H',by rw[ap];exact ea,rb,w,λc hc hv=>?_,λb o l q e'=>?_⟩
 ·rw[nr ea (by omega) hv,<-hH1,PU hc]
 ·have:=jL ea (λb o l q ev r hr=>by
   rcases h with⟨_,rfl⟩|⟨_,b2,r2,rfl,g,_⟩
   ·cases ev
   ·cases ev
    have hg:H1.t.get b=some (.row r2):=by rw[<-hH1,PU g.low];exact g.at_
    rw[hg] at hr
    cases hr
    have hcap:Te r 0 none=ls.length:=by
     show cond (Nat.beq r.sz 1) (r.size - 0) ((r.size - 0)/r.sz)=_
     rw[g.szr,g.size,Nat.sub_zero]
     by_cases h1:sz=1
     ·subst h1;show ls.length*1=_;omega
     ·rw[Yy,Zb h1]
      exact Nat.mul_div_cancel _ (by omega)
    rw[hcap]
    cases h:Nat.ble (Nat.add ls.length 1) ls.length with
    |false=>rfl
    |true=>have:=ZR h;have:ls.length+1<=ls.length:=this;omega) b o l q e'
  omega
def XP:AV->List Nat
 |.slice b _ _ _=>[b]
 |_=>[]
theorem uq{H:Heap}{v:AV}{e sz bytes:Nat}{ls:List (List AV)}{lo:Nat}(h:RM H v e sz ls lo)(hsz:1<=sz)(hby:1<=bytes)(hl:(ls.length+1)*bytes<=140737488355328)(hro:H.ro<=H.nx)(hlo:lo<=H.nx){x:List AV}(hx:x.length=sz):
  ∃v' H',UT e sz bytes v (.slice H.nx 0 1 none) (H.new (rG e sz x 0 false true true))=.val v' H'∧RM H' v' e sz (ls++[x]) lo∧Zs H H' (XP v)∧(∀b∈XP v',H.nx<=b)∧H.nx<H'.nx:=by
 obtain⟨v',H',a,b,w,c,d⟩:=qm h hsz hby hl hro hlo hx
 have hn:H.nx<H'.nx:=by
  rcases b with⟨e,_⟩|⟨_,b,r,e,g,_⟩
  ·simp at e
  ·have:=d _ _ _ _ e;have:=g.low;omega
 refine⟨v',H',a,b,⟨w.nx,w.ro,λx hx hn=>c x hx λb o l q e he=>hn ?_⟩,λx hx=>?_,hn⟩
 ·subst e;rw[he];exact Zq.2 rfl
 ·rcases b with⟨e,_⟩|⟨_,b,r,e,g,_⟩
  ·simp at e
  ·subst e
   rw[Zq.1 hx]
   exact d _ _ _ _ rfl
def Sz(H:Heap)(sz:Nat)(v:AV)(ls:List (List AV)):Prop:=(ls=[]∧v=.slice0)∨Sl H sz v ls
theorem Sz.keep{H H':Heap}{sz:Nat}{v:AV}{ls:List (List AV)}{S:List Nat}(h:Sz H sz v ls)(k:Zs H H' S)(hS: ∀b o n c,v=.slice b o n c->b∉S):Sz H' sz v ls:=by
 rcases h with h|h
 ·exact .inl h
 ·exact .inr (h.keep k hS)
theorem Sz.keep0{H H':Heap}{sz:Nat}{v:AV}{ls:List (List AV)}(h:Sz H sz v ls)(k:Zs H H' []):Sz H' sz v ls:=h.keep k (by simp)
def Cut(H:Heap)(sz:Nat)(v:AV)(ls:List (List AV)):Prop:=Sz H sz v ls∧ ∀(k:Nat),k<=ls.length-> ∃v',(∀G:Heap,(∀c,c<H.nx->G.t.get c=H.t.get c)->Pq sz v none (some (nI .i64 k)) G=.val v' G)∧Sz H sz v' (ls.take k)
theorem Cut.keep{H H':Heap}{sz:Nat}{v:AV}{ls:List (List AV)}(h:Cut H sz v ls)(k:Zs H H' []):Cut H' sz v ls:=
 ⟨h.1.keep0 k,λn hn=>by
  obtain⟨v',h1,h2⟩:=h.2 n hn
  exact⟨v',λG hG=>h1 G λc hc=>(hG c (ZT hc k.nx)).trans (k.get c hc (by simp)),h2.keep0 k⟩⟩
def F0(r:Row)(sz n:Nat):List (List AV):=(List.range n).map λi=>(List.range sz).map λj=>r.get (i*sz+j)
theorem NE(r:Row)(sz n:Nat):(F0 r sz n).length=n:=by unfold F0;simp
theorem zS(r:Row)(sz n:Nat): ∀l∈F0 r sz n,l.length=sz:=by
 intro l hl
 unfold F0 at hl
 obtain⟨i,_,rfl⟩:=YQ.1 hl
 simp
theorem oH(r:Row)(sz:Nat){n i:Nat}(h:i<n):(F0 r sz n).getD i []=(List.range sz).map λj=>r.get (i*sz+j):=by
 unfold F0
 rw[Zf,YE,VA h];rfl
theorem kS(r:Row)(sz:Nat)(hsz:1<=sz){n i:Nat}(h:i<n*sz):(F0 r sz n).flatten.getD i .unk=r.get i:=by
 have hq:i/sz<n:=QX (by rw[VW];exact h)
 have hm:i % sz<sz:=WF _ (by omega)
 have:=AI.flat_at (ls:=F0 r sz n) (i:=i/sz) (zS r sz n) (by rw[NE];exact hq)
 rw[oH r sz hq] at this
 have e:i/sz*sz+i % sz=i:=by rw[VW];exact SX i sz
 have h2:=congrArg (λl=>l[i % sz]?) this
 simp only[Xe hm,Xa,e,YE,VA hm] at h2
 rw[Zf,h2]
 show r.get (i/sz*sz+i % sz)=_
 rw[e]
theorem kT(r:Row)(sz:Nat){n k:Nat}(h:k<=n):(F0 r sz n).take k=F0 r sz k:=by
 unfold F0
 rw[<-List.map_take,List.take_range,Wl h]
theorem bn{G:Heap}{b sz n:Nat}{r:Row}{c:Option Nat}(hsz:1<=sz)(hb:b<G.nx)(hr:G.t.get b=some (.row r))(hs:n*sz<=r.size):Sl G sz (.slice b 0 n c) (F0 r sz n):=
 ⟨zS r sz n,.inr ⟨b,0,c,by rw[NE],hb,λ_=>⟨r,hr,by rw[NE];omega,λi hi=>by rw[NE] at hi;rw[Zd,kS r sz hsz hi]⟩⟩⟩
theorem wh{G:Heap}{es:List Sh}{v:AV}(h:Told G (.sl es) v): ∃ls,Cut G es.length v ls∧ls.length<=maxLen∧ ∀i,i<ls.length->(ls.getD i []).length=es.length∧ ∀(j:Nat) e,es[j]? =some e->Told G e ((ls.getD i []).getD j .unk):=by
 cases h with
 |nils=>
  refine⟨[],⟨.inr (Sl.nil ..),λk hk=>?_⟩,ZZ _,λi hi=>by simp at hi⟩
  obtain rfl:k=0:=by simpa using hk
  exact⟨.nils,λ_ _=>rfl,.inr (Sl.nil ..)⟩
 |slice0=>
  refine⟨[],⟨.inl ⟨rfl,rfl⟩,λk hk=>?_⟩,ZZ _,λi hi=>by simp at hi⟩
  obtain rfl:k=0:=by simpa using hk
  exact⟨.slice0,λ_ _=>rfl,.inl ⟨rfl,rfl⟩⟩
 | @slice _ b len cap r h1 hl h0 hc hb hr hs ho hz hok=>
  have hm:len*es.length<=cap*es.length:=VD _ hl
  refine⟨F0 r es.length len,⟨.inr (bn h1 hb hr (by omega)),λk hkl=>?_⟩,by rw[NE];omega,λi hi=>?_⟩
  ·rw[NE] at hkl
   have hmk:k*es.length<=len*es.length:=VD _ hkl
   refine⟨.slice b 0 k (some cap),λG' hk=>?_,by rw[kT _ _ hkl];exact .inr (bn h1 hb hr (by omega))⟩
   have g:=hk b hb
   show Xg G' b _=_
   unfold Xg
   rw[g,hr]
   show ZP (Nat.ble k cap) (ZP (Nat.ble 0 k) (ZP (Nat.ble 0 cap) (cond (Nat.beq 0 cap) _ (OR.val (.slice b (0+0*es.length) (k - 0) (some (cap - 0))) G'))))=_
   rw[Zk (by omega),Zk (ZZ _),Zk (ZZ _),show Nat.beq 0 cap=false by rw[Yy];exact Zb (by omega),Vh]
   rfl
  ·rw[NE] at hi
   rw[oH r _ hi]
   refine⟨by simp,λj e he=>?_⟩
   have hj:j<es.length:=(VV.1 he).1
   have hij:i*es.length+j<cap*es.length:=by
    have:(i+1)*es.length<=cap*es.length:=VD _ (by omega)
    rw[WC] at this;omega
   rw[Zf,YE,VA hj]
   show Told G e (r.get (i*es.length+j))
   refine hok _ e hij ?_
   rw[VW,Nat.mul_add_mod,YB hj];exact he
theorem Ei{α:Type}{ls:List (List AV)}{f:α->List AV}{p:α->Prop}(h: ∀i,i<ls.length-> ∃x,ls.getD i []=f x∧p x): ∃l:List α,ls=l.map f∧ ∀x∈l,p x:=by
 induction ls with
 |nil=>exact⟨[],rfl,λ_ h=>by cases h⟩
 |cons a ls ih=>
  obtain⟨x,h1,h2⟩:=h 0 (by simp)
  obtain⟨l,h3,h4⟩:=ih λi hi=>by
   have:=h (i+1) (by simp;omega)
   simpa using this
  refine⟨x::l,by rw[ZD,<-h3,<-h1];rfl,λy hy=>?_⟩
  rcases ZO.1 hy with rfl|hy
  ·exact h2
  ·exact h4 y hy
theorem Zis{l:List AV}(h:l.length=2):l=[l.getD 0 .unk,l.getD 1 .unk]:=by
 match l,h with
 |[a,b],_=>rfl
theorem G1{G:Heap}{v:AV}(h:Told G .str v): ∃s,v=.str s:=by cases h;exact⟨_,rfl⟩
theorem BZ{G:Heap}{k:IntKind}{v:AV}(h:Told G (.int k) v): ∃z,v=.int k z∧k.min<=z∧z<=k.max:=by
 cases h with|int h=>exact⟨_,rfl,h⟩
theorem ZcF{G:Heap}{v:AV}(h:Told G (.int .u8) v): ∃c:UInt8,v=Vd c:=by
 obtain⟨z,rfl,h1,h2⟩:=BZ h
 have h1:0<=z:=h1
 have h2:z<=255:=h2
 refine⟨UInt8.ofNat z.toNat,?_⟩
 show AV.int .u8 z=.int .u8 (.ofNat (UInt8.ofNat z.toNat).toNat)
 rw[UInt8.toNat_ofNat',YB (by omega)]
 congr 1
 show z=(z.toNat:Int)
 omega
theorem B0{G:Heap}{v:AV}(h:Told G (.int .u32) v): ∃n:Nat,v=nI .u32 n∧n<4294967296:=by
 obtain⟨z,rfl,h1,h2⟩:=BZ h
 have h1:0<=z:=h1
 have h2:z<=4294967295:=h2
 refine⟨z.toNat,?_,by omega⟩
 show AV.int .u32 z=.int .u32 (.ofNat z.toNat)
 congr 1
 show z=(z.toNat:Int)
 omega
theorem tE{G:Heap}{v:AV}(h:Told G (.int .i64) v): ∃z:Int,v=.int .i64 z∧ -9223372036854775808<=z∧z<=9223372036854775807:=BZ h
section
variable {Zn:Lib} {fs:T CF} {fuel k n i h b:Nat} {H H0:Heap} {s:List UInt8} {cs:List AV}
theorem Sz.len{sz:Nat}{v:AV}{ls:List (List AV)}(h:Sz H sz v ls)(G:Heap):NV v G=.val (nI .i64 ls.length) G:=by
 rcases h with⟨rfl,rfl⟩|h
 ·rfl
 ·exact h.len G
theorem Sz.low{sz:Nat}{v:AV}{ls:List (List AV)}(h:Sz H sz v ls)(hn:H.nx<=n):Wx n v=true:=by
 rcases h with⟨rfl,rfl⟩|h
 ·rfl
 ·exact h.low hn
theorem Sz.same{sz:Nat}{v:AV}{ls:List (List AV)}(h:Sz H sz v ls)(n:Nat)(t:T Obj):Ud (.val v ⟨n,t,n⟩) v n=true:=by
 rcases h with⟨rfl,rfl⟩|h
 ·exact TN _ _ _ (by unfold AI.same;rfl)
 ·exact h.same n t
theorem Sz.cells{sz:Nat}{v:AV}{ls:List (List AV)}(h:Sz H sz v ls):v.cells=[v]:=by
 rcases h with⟨rfl,rfl⟩|h
 ·rfl
 ·exact h.cells
theorem Sz.at_{sz:Nat}{v:AV}{ls:List (List AV)}(h:Sz H sz v ls)(hi:i<ls.length):
  ∃b o r,(∀(k:IntKind) (G:Heap),Gd sz v (nI k i) G=.val (.ptr b o) G)∧b<H.nx∧H.t.get b=some (.row r)∧(∀G:Heap,EW sz (some (.row r)) o G=.val (.agg (ls.getD i [])) G)∧ ∀(j:Nat) (G:Heap),j<sz->ld1 (some (.row r)) (o+j) G=.val ((ls.getD i []).getD j .unk) G:=by
 rcases h with⟨rfl,_⟩|h
 ·cases hi
 ·exact h.at_ hi
theorem geS(a b:List UInt8)(H:Heap):Tf Sc W5 (.str a) (.str b) H=.val (.bool (W5 a b)) H:=by
 show SU (W5 a b) H=_
 cases W5 a b<;>rfl
abbrev NP:=List UInt8×List UInt8
def V8(l:List NP):List (List AV):=l.map λp=>[.str p.1,.str p.2]
theorem XK(l:List NP):(V8 l).length=l.length:=Zx ..
theorem Sy{l:List NP}(h:i<l.length):(V8 l).getD i []=[.str (l.getD i ([],[])).1,.str (l.getD i ([],[])).2]:=by
 unfold V8
 rw[Zf,YE,Zf,Zl h];rfl
def dL(l:List NP)(i:Nat):Bool:=!decide ((l.getD i ([],[])).1=[])&&decide ((l.getD i ([],[])).1.length<=242)&&!Ts [0,61,10] (l.getD i ([],[])).1&&(decide (i=0)||!W5 (l.getD (i - 1) ([],[])).1 (l.getD i ([],[])).1)
def Pb(l:List NP):Bool:=(List.range l.length).all (dL l)&&decide (l.length<=16)
def Se(s:List UInt8)(is:Bool):Bool:=if is then !decide (s=[])&&decide (s.length<=4096)&&decide (V6 0 s=0) else decide (s=[])
theorem p8:QT [0,61,10]:=⟨by decide,by decide,by decide⟩
theorem rJ(E:Env Zn fs fuel){is:Bool}:
  ∃H',ZE (LK Zn fs fuel 2) fs fuel (n+2) 34 [.str s,.bool is] H=.ret (.bool (Se s is)) H'∧Zs H H' []:=by
 rw[ZI (ZA E.n34 (.inl (by decide)) _ _) E.f34]
 have e1:=λ{j}=>Zfu E (k:=2) (n:=j) (by decide) (s:=s) (x:=0) (H:=H) (by decide)
 cases is with
 |false=>
  rw[show Se s false=decide (s=[]) from rfl]
  simp only[YT,c34,Zu,Ye,Zw,Z8,Z6]
  refine⟨_,rfl,?_⟩
  exact Zs.refl _ _
 |true=>
  by_cases h1:s=[]
  ·have d1:decide (s=[])=true:=Ze h1
   rw[show Se s true=false by unfold Se;simp[h1]]
   simp only[d1,Wu,c34,Zu,Ye,Zw,Z8,Z6]
   refine⟨_,rfl,?_⟩
   exact Zs.refl _ _
  ·have d1:decide (s=[])=false:=Zb h1
   by_cases h2:s.length<=4096
   ·have d2:decide (s.length<=4096)=true:=Ze h2
    rw[show Se s true=decide (V6 0 s=0) by unfold Se;simp[h1,h2]]
    simp only[d1,d2,e1,Yt,Wu,ZG,eV,c34,Zu,Ye,Zw,Z8,Z6]
    refine⟨_,rfl,?_⟩
    exact Zs.refl _ _
   ·have d2:decide (s.length<=4096)=false:=Zb h2
    rw[show Se s true=false by unfold Se;rw[d2];simp]
    simp only[d1,d2,Yt,Wu,ZG,c34,Zu,Ye,Zw,Z8,Z6]
    refine⟨_,rfl,?_⟩
    exact Zs.refl _ _
theorem ZfP(E:Env Zn fs fuel)(hk:3<=k){is:Bool}:
  ZE (LK Zn fs fuel k) fs fuel (n+1) 34 [.str s,.bool is] H=.ret (.bool (Se s is)) H:=by
 obtain⟨H',e,g⟩:=rJ E (n:=898) (H:=H)
 exact Yl (r:=2) rfl rfl e g (rfl) hk
structure MAI(H0:Heap)(v:AV)(l:List NP)(m:Nat)(tm:TM)(H:Heap):Prop where
 t0:Yb tm=v
 t5:YW tm=v
 t6:XI tm=nI .i64 l.length
 i: ∃i,XQ tm=nI .i64 i∧i+m=l.length∧ ∀j,j<i->dL l j=true
 k:Zs H0 H []
def MAQ(H0:Heap)(v:AV)(l:List NP)(o:Out)(tm:TM)(H:Heap):Prop:=Zs H0 H []∧((o=.ret∧VX tm=.bool false∧Pb l=false)∨(o=.exit 0∧Yb tm=v∧Pb l=decide (l.length<=16)))
theorem J1{l:List NP}(h:i<l.length)(e:dL l i=false):Pb l=false:=by
 have:(List.range l.length).all (dL l)=false:=by
  rw[TZ]
  intro q
  rw[Yo] at q
  have:=q i (T1.2 h)
  rw[e] at this;cases this
 unfold Pb;rw[this];rfl
theorem eW{l:List NP}(h: ∀j,j<l.length->dL l j=true):Pb l=decide (l.length<=16):=by
 have:(List.range l.length).all (dL l)=true:=Yo.2 λx hx=>h x (T1.1 hx)
 unfold Pb;rw[this,X9]
theorem Zbs(E:Env Zn fs fuel)(hk:5<=k){v:AV}{l:List NP}(hl:l.length<=90000)(hs: ∀i,i<l.length->(l.getD i ([],[])).1.length<=90000)(hro:H0.ro<=H0.nx)(hN:Sz H0 2 v (V8 l))(y f dd q)(X0:X)(m:Nat)(tm:TM)(H:Heap)(hI:MAI H0 v l m tm H):
  ∃o tm' H',Ml ⟨ZE (LK Zn fs fuel k) fs fuel (n+1),y,f,dd,q⟩ tm H X0=.ok o tm' H' X0∧((o=.normal∧ ∃k,k<m∧MAI H0 v l k tm' H')∨(o≠.normal∧MAQ H0 v l o tm' H')):=by
 obtain⟨t0,t5,t6,⟨i,t7,him,hn⟩,k0⟩:=hI
 have t0':=t0;have PE:=t5;have Dr:=t6
 simp only[Sb,QP,EU,LX] at t0 t5 t6 t7
 cases m with
 |zero=>
  have d1:decide (i<l.length)=false:=Zb (by omega)
  simp only[t6,t7,d1,Zy,Ml,Zu,Ye,Z6]
  refine⟨_,_,_,rfl,?_⟩
  exact .inr ⟨by simp,k0,.inr ⟨rfl,t0',eW λj hj=>hn j (by omega)⟩⟩
 |succ m=>
  have d1:decide (i<l.length)=true:=Ze (by omega)
  have hi:i<l.length:=by omega
  have hN:=hN.keep0 k0
  have ZhM:=hN.low (n:=H.nx+1) (VL _)
  obtain⟨b,o,r,eI,hb,gb,eL,eE⟩:=hN.at_ (i:=i) (by rw[XK];omega)
  have ra:=Sy hi
  rw[ra] at eL
  generalize hp:l.getD i ([],[])=p at*
  have hpl:p.1.length<=90000:=by have:=hs i hi;rw[hp] at this;exact this
  obtain⟨H1,hH1⟩:=Sa (H.new (rH 45 [.str p.1,.str p.2]))
  have k1:Zs H0 H1 []:=by rw[<-hH1];exact k0.then_new _
  have kH:Zs H H1 []:=by rw[<-hH1];exact Zs.new _ _ _
  have g1:H1.t.get H.nx=some (rH 45 [.str p.1,.str p.2]):=by rw[<-hH1];exact ZW rfl _
  have IY:H1.nx=H.nx+1:=by rw[<-hH1];rfl
  have sf:=Tn (n:=2) (b:=H.nx) (l:=[.str [],.str []]) (vs:=[.str p.1,.str p.2]) (H:=H.new (rH 45 [.str [],.str []])) rfl rfl (by decide) (by show H.ro<=_;rw[k0.ro];have:=k0.nx;omega) 45 1 false true
  rw[Tm rfl,hH1] at sf
  have e1:=λ{j}=>iw E (k:=k) (n:=j) hk (H:=H1) p8 hpl (by rw[k1.ro];exact Z5 hro k1.nx)
  have tH:dL l i=(!decide (p.1=[])&&decide (p.1.length<=242)&&!Ts [0,61,10] p.1&&(decide (i=0)||!W5 (l.getD (i - 1) ([],[])).1 p.1)):=by unfold dL;rw[hp]
  by_cases h1:p.1=[]
  ·have d2:decide (p.1=[])=true:=Ze h1
   simp(disch:=first|assumption|omega|(simp -implicitDefEqProofs only[X3,X4]<;>first|assumption|omega)|decide) only[t5,t6,t7,d1,eI,gb,eL,sf,g1,IY,WH,d2,Uk,Zy,YT,decide_true,Zg,Zg,YD,ZV,Ml,Zu,Ye,Zw,Z8,Yp,Yv,Nat.reducePow,Nat.reduceDiv,Nat.reduceMod,Z6,Vk]
   refine⟨_,_,_,rfl,?_⟩
   exact .inr ⟨by simp,k1,.inl ⟨rfl,rfl,J1 hi (by rw[tH];simp[h1])⟩⟩
  have d2:decide (p.1=[])=false:=Zb h1
  by_cases h2:242<p.1.length
  ·have d3:decide (242<p.1.length)=true:=Ze h2
   simp(disch:=first|assumption|omega|(simp -implicitDefEqProofs only[X3,X4]<;>first|assumption|omega)|decide) only[t5,t6,t7,d1,eI,gb,eL,sf,g1,IY,WH,d2,d3,Uk,Zy,Z3,YT,ZG,decide_true,Zg,Zg,YD,ZV,Ml,Zu,Ye,Zw,Z8,Yp,Yv,Nat.reducePow,Nat.reduceDiv,Nat.reduceMod,Z6,Vk]
   refine⟨_,_,_,rfl,?_⟩
   exact .inr ⟨by simp,k1,.inl ⟨rfl,rfl,J1 hi (by rw[tH];rw[Zb (show ¬p.1.length<=242 by omega)];simp)⟩⟩
  have d3:decide (242<p.1.length)=false:=Zb h2
  have d3':decide (p.1.length<=242)=true:=Ze (by omega)
  cases hc:Ts [0,61,10] p.1 with
  |true=>
   rw[hc] at e1
   simp(disch:=first|assumption|omega|(simp -implicitDefEqProofs only[X3,X4]<;>first|assumption|omega)|decide) only[t5,t6,t7,d1,eI,gb,eL,sf,g1,IY,WH,d2,d3,e1,Uk,Zy,Z3,YT,ZG,decide_true,Zg,Zg,YD,ZV,Ml,Zu,Ye,Zw,Z8,Yp,Yv,Nat.reducePow,Nat.reduceDiv,Nat.reduceMod,Z6,Vk]
   refine⟨_,_,_,rfl,?_⟩
   exact .inr ⟨by simp,k1,.inl ⟨rfl,rfl,J1 hi (by rw[tH];rw[hc];simp)⟩⟩
  |false=>
   rw[hc] at e1
   by_cases h0:i=0
   ·have d4:decide (0<i)=false:=Zb (by omega)
    simp(disch:=first|assumption|omega|(simp -implicitDefEqProofs only[X3,X4]<;>first|assumption|omega)|decide) only[t5,t6,t7,d1,eI,gb,eL,sf,g1,IY,WH,d2,d3,e1,d4,Zy,Z3,YT,YI,ZG,decide_true,Zg,Zg,YD,ZV,Ml,Zu,Ye,Zw,Z8,Yp,Yv,Nat.reducePow,Nat.reduceDiv,Nat.reduceMod,Z6,Vk]
    refine⟨_,_,_,rfl,.inl ⟨rfl,m,by omega,t0',PE,Dr,⟨i+1,rfl,by omega,λq hq=>?_⟩,k1⟩⟩
    obtain rfl:q=i:=by omega
    rw[tH,d2,d3',hc,Ze h0];rfl
   ·have d4:decide (0<i)=true:=Ze (by omega)
    obtain⟨b2,o2,r2,iM,hb2,ID,_,eE2⟩:=hN.at_ (i:=i - 1) (by rw[XK];omega)
    have K7:H1.t.get b2=some (.row r2):=by rw[kH.get _ hb2 (by simp)];exact ID
    have eF:=λG=>eE2 0 G (by decide)
    rw[Sy (by omega),Zg] at eF
    simp only[ZV] at eF
    cases hg:W5 (l.getD (i - 1) ([],[])).1 p.1 with
    |true=>
     simp(disch:=first|assumption|omega|(simp -implicitDefEqProofs only[X3,X4]<;>first|assumption|omega)|decide) only[t0,t5,t6,t7,d1,eI,gb,eL,sf,g1,IY,ZhM,WH,d2,d3,e1,d4,iM,K7,eF,hg,Zy,Z3,YT,XL,ZG,decide_true,Zg,Zg,geS,YD,ZV,Ml,Zu,Ye,Zw,Z8,Yp,Yv,Nat.reducePow,Nat.reduceDiv,Nat.reduceMod,Z6,Vk]
     refine⟨_,_,_,rfl,?_⟩
     exact .inr ⟨by simp,k1,.inl ⟨rfl,rfl,J1 hi (by rw[tH];rw[hg,Zb h0];simp)⟩⟩
    |false=>
     simp(disch:=first|assumption|omega|(simp -implicitDefEqProofs only[X3,X4]<;>first|assumption|omega)|decide) only[t0,t5,t6,t7,d1,eI,gb,eL,sf,g1,IY,ZhM,WH,d2,d3,e1,d4,iM,K7,eF,hg,Zy,Z3,YT,XL,YI,ZG,decide_true,Zg,Zg,geS,YD,ZV,Ml,Zu,Ye,Zw,Z8,Yp,Yv,Nat.reducePow,Nat.reduceDiv,Nat.reduceMod,Z6,Vk]
     refine⟨_,_,_,rfl,.inl ⟨rfl,m,by omega,t0',PE,Dr,⟨i+1,rfl,by omega,λq hq=>?_⟩,k1⟩⟩
     by_cases hqi:q=i
     ·rw[hqi,tH,d2,d3',hc,hg];simp
     ·exact hn q (by omega)
theorem rI(E:Env Zn fs fuel){v:AV}{l:List NP}(hl:l.length<=90000)(hs: ∀i,i<l.length->(l.getD i ([],[])).1.length<=90000)(hro:H.ro<=H.nx)(hN:Sz H 2 v (V8 l)):
  ∃H',ZE (LK Zn fs fuel 5) fs fuel (n+2) 33 [v] H=.ret (.bool (Pb l)) H'∧Zs H H' []:=by
 rw[ZI (ZA E.n33 (.inl (by decide)) _ _) E.f33]
 have ln:=hN.len
 rw[XK] at ln
 simp only[ln,c33,Zu,Ye,Z6]
 generalize hL:Wv (Ml _) fuel _ _ _=L
 obtain⟨o,Pu,H2,rfl,_,k2,z⟩:=YA (P:=λT=>MAI H v l l.length T H) (Q:=MAQ H v l)
  (λT hi=>YP (MAI H v l) (MAQ H v l) (λm tm H2 h=>Zbs E (by decide) hl hs hro hN _ _ _ _ _ m tm H2 h) fuel l.length T H (by have:=E.big;omega) hi) hL
  (by exact⟨rfl,rfl,rfl,⟨0,rfl,by omega,λj hj=>by omega⟩,Zs.refl _ _⟩)
 rcases z with⟨rfl,t2,e⟩|⟨rfl,t0,e⟩
 ·simp only[IN] at t2
  rw[e]
  simp only[t2,Zu,Zw,Z6]
  refine⟨_,rfl,?_⟩
  exact k2
 ·simp only[Sb] at t0
  rw[e]
  simp only[t0,ln,Yt,Zu,Ye,Zw,Z6,Vk]
  refine⟨_,rfl,?_⟩
  exact k2
theorem ZfO(E:Env Zn fs fuel)(hk:6<=k){v:AV}{l:List NP}(hl:l.length<=90000)(hs: ∀i,i<l.length->(l.getD i ([],[])).1.length<=90000)(hro:H.ro<=H.nx)(hN:Sz H 2 v (V8 l)):
  ZE (LK Zn fs fuel k) fs fuel (n+1) 33 [v] H=.ret (.bool (Pb l)) H:=by
 obtain⟨H',e,g⟩:=rI E (n:=898) (H:=H) hl hs hro hN
 exact Yl (r:=5) rfl rfl e g (rfl) hk
theorem pa(a b:Int):(a==b)=decide (a=b):=by rw[Vb];simp
theorem S1(k:IntKind)(a:Int)(b:Nat)(H:Heap):N6 Vp false (.int k a) (nI k b) H=.val (.bool (decide (a=(b:Int)))) H:=by
 show U3 (cond (P3 k k) (some (Ge a (Int.ofNat b))) none) _=_
 rw[XG,Qr]
 show SU (a==(b:Int)) H=_
 rw[pa]
 cases decide (a=(b:Int))<;>rfl
theorem IX(k:IntKind)(a:Int)(b:Nat)(H:Heap):N6 Vp true (.int k a) (nI k b) H=.val (.bool (!decide (a=(b:Int)))) H:=by
 show U3 (cond (P3 k k) (some (Ge a (Int.ofNat b))) none) _=_
 rw[XG,Qr]
 show SU (cond (a==(b:Int)) false true) H=_
 rw[pa]
 cases decide (a=(b:Int))<;>rfl
theorem O2{eq:AV->AV->Option Bool}{k:AV}{no:OR}{yes:AV->OR}{x:SR}{l:List SR}{t:Bool}(h:eq k x.key=some t):Ug eq k no yes (x::l)=cond t (yes x.val) (Ug eq k no yes l):=by
 rw[Ug,h]
structure Mem where
 path:List UInt8
 kind:Int
 mode:Nat
 uid:Nat
 gid:Nat
 time:Int
 attrs:List NP
 data:List UInt8
 link:List UInt8
def OX(l:List UInt8):List (List AV):=l.map λx=>[Vd x]
theorem TB(l:List UInt8):(OX l).length=l.length:=Zx ..
def QN(H:Heap)(cs:List AV)(m:Mem):Prop:= ∃av dv,cs=[.str m.path,.int .i64 m.kind,nI .u32 m.mode,nI .u32 m.uid,nI .u32 m.gid,.int .i64 m.time,av,dv,.str m.link]∧Sz H 2 av (V8 m.attrs)∧Sz H 1 dv (OX m.data)
theorem QN.keep{H H':Heap}{m:Mem}(h:QN H cs m)(k:Zs H H' []):QN H' cs m:=by
 obtain⟨av,dv,e,h1,h2⟩:=h
 exact⟨av,dv,e,h1.keep0 k,h2.keep0 k⟩
theorem QN.len{m:Mem}(h:QN H cs m):cs.length=9:=by
 obtain⟨av,dv,rfl,_⟩:=h;rfl
structure JJ(m:Mem):Prop where
 path:m.path.length<=80000
 attrs:m.attrs.length<=90000
 keys: ∀i,i<m.attrs.length->(m.attrs.getD i ([],[])).1.length<=90000
def Dt(z:Int):Nat:=if z=1 then 53 else if z=2 then 48 else if z=3 then 50 else if z=4 then 54 else 0
theorem lkT(z:Int)(G:Heap):lkO Vp (nI .u8 0) false (some (.cmap tEs)) (.int .i64 z) G=.val (nI .u8 (Dt z)) G:=by
 have e: ∀b:Nat,Vp (.int .i64 z) (nI .i64 b)=some (decide (z=(b:Int))):=λb=>by
  show cond (P3 .i64 .i64) (some (Ge z (Int.ofNat b))) none=_
  rw[XG,Qr];rfl
 show Ug Vp (.int .i64 z) (OR.val (nI .u8 0) G) (λv=>OR.val v G) tEs=_
 unfold tEs Dt
 rw[O2 (e 1),O2 (e 2),O2 (e 3),O2 (e 4)]
 by_cases h1:z=1
 ·subst h1;rfl
 by_cases h2:z=2
 ·subst h2;rfl
 by_cases h3:z=3
 ·subst h3;rfl
 by_cases h4:z=4
 ·subst h4;rfl
 rw[Zb (show ¬z=((1:Nat):Int) from h1),if_neg h1,Zb (show ¬z=((2:Nat):Int) from h2),if_neg h2,Zb (show ¬z=((3:Nat):Int) from h3),if_neg h3,Zb (show ¬z=((4:Nat):Int) from h4),if_neg h4]
 rfl
def YZ(m:Mem):Bool:=!decide ((We m.path).1=0)&&!decide (Dt m.kind=0)&&decide (m.mode<=4095)&&Pb m.attrs&&Se m.link (decide (m.kind=3))&&decide (m.data.length<=16777216)&&(decide (m.kind=2)||decide (m.data.length=0))
theorem qL(E:Env Zn fs fuel){m:Mem}(hs:JJ m)(g:Nd H)(hm:QN H cs m):
  ∃H',ZE (LK Zn fs fuel 11) fs fuel (n+2) 9 [.agg cs] H=.ret (.bool (YZ m)) H'∧Zs H H' []:=by
 rw[ZI (ZA E.n9 (.inl (by decide)) _ _) E.f9]
 obtain⟨av,dv,rfl,hA,hD⟩:=hm
 obtain⟨H1,hH1⟩:=Sa (H.new (rH 36 [.str m.path,.int .i64 m.kind,nI .u32 m.mode,nI .u32 m.uid,nI .u32 m.gid,.int .i64 m.time,av,dv,.str m.link]))
 obtain⟨H2,hH2⟩:=Sa (H1.new (rH 34 [.int .i64 m.kind,nI .u32 m.mode,nI .u32 m.uid,nI .u32 m.gid,.int .i64 m.time,av,dv,.str m.link]))
 have k1:Zs H H1 []:=by rw[<-hH1];exact Zs.new _ _ _
 have k2:Zs H H2 []:=by rw[<-hH2];exact k1.then_new _
 have g1:H1.t.get H.nx=some (rH 36 [.str m.path,.int .i64 m.kind,nI .u32 m.mode,nI .u32 m.uid,nI .u32 m.gid,.int .i64 m.time,av,dv,.str m.link]):=by rw[<-hH1];exact ZW rfl _
 have g2:H2.t.get H1.nx=some (rH 34 [.int .i64 m.kind,nI .u32 m.mode,nI .u32 m.uid,nI .u32 m.gid,.int .i64 m.time,av,dv,.str m.link]):=by rw[<-hH2];exact ZW rfl _
 have gP2:=g.keep0 k2
 obtain⟨rT,gT,lT0,lT1⟩:=gP2.t
 have lT: ∀G,ld1 (some (.row rT)) 0 G=.val (.map 9) G:=λG=>by rw[O1 lT0,lT1]
 have eT:=gP2.tm
 have MX:H1.ro<=H1.nx:=by rw[k1.ro];exact Z5 g.ro k1.nx
 have sf:=Tn (n:=8) (b:=H1.nx) (l:=[nI .i64 0,nI .u32 0,nI .u32 0,nI .u32 0,nI .i64 0,.nils,.nils,.str []]) (vs:=[.int .i64 m.kind,nI .u32 m.mode,nI .u32 m.uid,nI .u32 m.gid,.int .i64 m.time,av,dv,.str m.link]) (H:=H1.new (rH 34 [nI .i64 0,nI .u32 0,nI .u32 0,nI .u32 0,nI .i64 0,.nils,.nils,.str []])) rfl rfl (by decide) (by show H1.ro<=_;exact MX) 34 1 false true
 rw[Tm rfl,hH2] at sf
 have ec:=λ{j}=>ZeI E (k:=11) (n:=j) (by decide) (s:=m.path) (H:=H1) hs.path (g.keep0 k1)
 have au:H2.ro<=H2.nx:=by rw[k2.ro];exact Z5 g.ro k2.nx
 have e4:=λ{j}=>ZfO E (k:=11) (n:=j) (by decide) (v:=av) (l:=m.attrs) (H:=H2) hs.attrs hs.keys au (hA.keep0 k2)
 have e5: ∀{j},ZE (LK Zn fs fuel 11) fs fuel (j+1) 34 [.str m.link,.bool (decide (m.kind=((3:Nat):Int)))] H2=.ret (.bool (Se m.link (decide (m.kind=3)))) H2:=λ{j}=>ZfP E (k:=11) (n:=j) (by decide) (s:=m.link) (is:=decide (m.kind=3)) (H:=H2)
 have ln:=hD.len
 rw[TB] at ln
 by_cases h1:(We m.path).1=0
 ·have d1:decide ((We m.path).1=0)=true:=Ze h1
  rw[show YZ m=false by unfold YZ;simp[h1]]
  simp(disch:=first|assumption|omega|(simp -implicitDefEqProofs only[X3,X4]<;>first|assumption|omega)|decide) only[ec,g1,sf,hH1,WH,Vr,XS,d1,YL,Zg,Zd,Zd,Zg,Y8,Yk,Y3,YN,ZV,c9,Zu,Ye,Zw,Z6,Vk]
  refine⟨_,rfl,?_⟩
  exact k2
 have d1:decide ((We m.path).1=0)=false:=Zb h1
 by_cases h2:Dt m.kind=0
 ·have d2:decide (Dt m.kind=0)=true:=Ze h2
  rw[show YZ m=false by unfold YZ;simp[h2]]
  simp(disch:=first|assumption|omega|(simp -implicitDefEqProofs only[X3,X4]<;>first|assumption|omega)|decide) only[ec,eT,gT,lT,g1,g2,sf,hH1,lkT,WH,Vr,XS,d1,d2,YL,Zg,Zd,Zd,Zg,Xx,Wq,Y8,Yk,Y3,YN,ZV,c9,Zu,Ye,Zw,Z6,Vk]
  refine⟨_,rfl,?_⟩
  exact k2
 have d2:decide (Dt m.kind=0)=false:=Zb h2
 by_cases h3:4095<m.mode
 ·have d3:decide (4095<m.mode)=true:=Ze h3
  have h3': ¬m.mode<=4095:=by omega
  rw[show YZ m=false by unfold YZ;simp[h3']]
  simp(disch:=first|assumption|omega|(simp -implicitDefEqProofs only[X3,X4]<;>first|assumption|omega)|decide) only[ec,eT,gT,lT,g1,g2,sf,hH1,lkT,WH,Vr,XS,d1,d2,d3,Z3,YL,Zg,Zd,Zd,Zg,Xx,Wq,Y8,Yk,Y3,YN,ZV,YJ,c9,Zu,Ye,Zw,Z6,Vk]
  refine⟨_,rfl,?_⟩
  exact k2
 have d3:decide (4095<m.mode)=false:=Zb h3
 have h3':m.mode<=4095:=by omega
 cases h4:Pb m.attrs with
 |false=>
  rw[h4] at e4
  rw[show YZ m=false by unfold YZ;simp[h4]]
  simp(disch:=first|assumption|omega|(simp -implicitDefEqProofs only[X3,X4]<;>first|assumption|omega)|decide) only[ec,eT,gT,lT,g1,g2,sf,hH1,lkT,e4,WH,Vr,XS,d1,d2,d3,Z3,YL,Zg,Zd,Zd,Zg,Xx,Wq,Y8,Yk,Y3,YN,ZV,YJ,c9,Zu,Ye,Zw,Z8,Z6,Vk]
  refine⟨_,rfl,?_⟩
  exact k2
 |true=>
  rw[h4] at e4
  cases h5:Se m.link (decide (m.kind=3)) with
  |false=>
   rw[h5] at e5
   rw[show YZ m=false by unfold YZ;simp[h5]]
   simp(disch:=first|assumption|omega|(simp -implicitDefEqProofs only[X3,X4]<;>first|assumption|omega)|decide) only[ec,eT,gT,lT,g1,g2,sf,hH1,lkT,e4,e5,WH,Vr,XS,d1,d2,d3,Z3,YL,Zg,Zd,Zd,Zg,Xx,Wq,Y8,Yk,Y3,YN,ZV,YJ,S1,c9,Zu,Ye,Zw,Z8,Z6,Vk]
   refine⟨_,rfl,?_⟩
   exact k2
  |true=>
   rw[h5] at e5
   by_cases h6: ¬m.data.length<=16777216
   ·have d6:decide (m.data.length<=16777216)=false:=Zb h6
    rw[show YZ m=false by unfold YZ;simp[h6]]
    simp(disch:=first|assumption|omega|(simp -implicitDefEqProofs only[X3,X4]<;>first|assumption|omega)|decide) only[ec,eT,gT,lT,g1,g2,sf,hH1,lkT,e4,e5,ln,WH,Vr,XS,d1,d2,d3,d6,Uk,Yt,Z3,YL,Zg,Zd,Zd,Zg,Xx,Wq,Y8,Yk,Y3,YN,ZV,YJ,S1,c9,Zu,Ye,Zw,Z8,Z6,Vk]
    refine⟨_,rfl,?_⟩
    exact k2
   have h6:=Decidable.not_not.1 h6
   have d6:decide (m.data.length<=16777216)=true:=Ze h6
   by_cases h7:m.kind=2
   ·have d7:decide (m.kind=((2:Nat):Int))=true:=Ze h7
    rw[show YZ m=true by unfold YZ;rw[h5];simp[h1,h3',h4,h6,h7];rw[<-h7];exact h2]
    simp(disch:=first|assumption|omega|(simp -implicitDefEqProofs only[X3,X4]<;>first|assumption|omega)|decide) only[ec,eT,gT,lT,g1,g2,sf,hH1,lkT,e4,e5,ln,WH,Vr,XS,d1,d2,d3,d6,d7,Yt,Z3,YL,Zg,Zd,Zd,Zg,Xx,Wq,Y8,Yk,Y3,YN,ZV,YJ,S1,c9,Zu,Ye,Zw,Z8,Z6,Vk]
    refine⟨_,rfl,?_⟩
    exact k2
   have d7:decide (m.kind=((2:Nat):Int))=false:=Zb h7
   by_cases h8:m.data.length=0
   ·have d8:decide (m.data.length=0)=true:=Ze h8
    rw[show YZ m=true by unfold YZ;rw[h5];simp[h1,h2,h3',h4,h7,h8]]
    simp(disch:=first|assumption|omega|(simp -implicitDefEqProofs only[X3,X4]<;>first|assumption|omega)|decide) only[ec,eT,gT,lT,g1,g2,sf,hH1,lkT,e4,e5,ln,WH,Vr,XS,d1,d2,d3,d6,d7,d8,Yt,Z3,YL,Zg,Zd,Zd,Zg,Xx,Wq,Y8,Yk,Y3,YN,ZV,YJ,S1,c9,Zu,Ye,Zw,Z8,Z6,Vk]
    refine⟨_,rfl,?_⟩
    exact k2
   have d8:decide (m.data.length=0)=false:=Zb h8
   rw[show YZ m=false by unfold YZ;rw[d8,Zb h7];simp]
   simp(disch:=first|assumption|omega|(simp -implicitDefEqProofs only[X3,X4]<;>first|assumption|omega)|decide) only[ec,eT,gT,lT,g1,g2,sf,hH1,lkT,e4,e5,ln,WH,Vr,XS,d1,d2,d3,d6,d7,d8,Yt,Z3,YL,Zg,Zd,Zd,Zg,Xx,Wq,Y8,Yk,Y3,YN,ZV,YJ,S1,c9,Zu,Ye,Zw,Z8,Z6,Vk]
   refine⟨_,rfl,?_⟩
   exact k2
theorem x9(E:Env Zn fs fuel)(hk:12<=k){m:Mem}(hs:JJ m)(g:Nd H)(hm:QN H cs m):
  ZE (LK Zn fs fuel k) fs fuel (n+1) 9 [.agg cs] H=.ret (.bool (YZ m)) H:=by
 obtain⟨H',e,g⟩:=qL E (n:=898) (H:=H) hs g hm
 exact Yl (r:=11) rfl rfl e g (rfl) hk
end
end
end Go.AI
