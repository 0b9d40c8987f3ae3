/- What may be a path, and what it stands for: walked: proved without conditions but those that each names. -/
import Derived.Test.YtlaambpobnkkbaaGreatDoorP9
import Derived.Test.YtlaambpobnkkbaaGreatDoorP8
import Derived.Test.YtlaambpobnkkbaaGreatDoorP7
import Derived.Test.YtlaambpobnkkbaaGreatDoorP6
set_option maxRecDepth 1000000
set_option maxHeartbeats 0
set_option linter.unusedVariables false
set_option linter.unusedSimpArgs false
namespace Go.AI
open Go
noncomputable section
theorem xz(G:Heap):OM SA Wx (.int .i64 (.negSucc 0)) (nI .i64 0) G=.val (.bool false) G:=rfl
theorem dK:PL [47,0]:=⟨by decide,by decide,by decide⟩
theorem fN{Zr:Lib}{fs:T CF}{fuel:Nat}(E:Env Zr fs fuel){n:Nat}{s:List UInt8}{H:Heap}(hs:s.length<=90000)(hro:H.ro<=H.nx):
  ∃H',ZU (LK Zr fs fuel 5) fs fuel (n+2) 51 [.str s] H=.ret (.bool (YF s)) H'∧Zw H H' []:=by
 rw[Z4 (Z3 E.n51 (.inl (by decide)) _ _) E.f51]
 have e1:=λ{j}=>Zcl E (k:=5) (n:=j) (by decide) (s:=s) (H:=H) dK hs hro
 have e2:=λ{j}=>Zir E (k:=5) (n:=j) (by decide) (s:=s) (p:=[46,119,104,46]) (H:=H) hs
 by_cases h1:s=[]
 ·have dh1:decide (s=[])=true:=Zd h1
  rw[show YF s=false by unfold YF Af J2 yy;simp[h1]]
  simp only[dh1,T2,c51,ZI,Yw,ZG,Yl,Yt]
  refine⟨_,rfl,?_⟩
  exact Zw.refl _ _
 have dh1:decide (s=[])=false:=Zb h1
 by_cases h2: ¬s.length<=251
 ·have dh2:decide (s.length<=251)=false:=Zb h2
  rw[show YF s=false by unfold YF Af J2 yy;simp[h2]]
  simp only[dh2,dh1,Xh,T2,Z0,c51,ZI,Yw,ZG,Yl,Yt]
  refine⟨_,rfl,?_⟩
  exact Zw.refl _ _
 have h2:=Decidable.not_not.1 h2
 have dh2:decide (s.length<=251)=true:=Zd h2
 by_cases h3:s=[46]
 ·have dh3:decide (s=[46])=true:=Zd h3
  rw[show YF s=false by unfold YF Af J2 yy;simp[h3]]
  simp only[dh3,dh1,dh2,Xh,T2,Z0,c51,ZI,Yw,ZG,Yl,Yt]
  refine⟨_,rfl,?_⟩
  exact Zw.refl _ _
 have dh3:decide (s=[46])=false:=Zb h3
 by_cases h4:s=[46,46]
 ·have dh4:decide (s=[46,46])=true:=Zd h4
  rw[show YF s=false by unfold YF Af J2 yy;simp[h4]]
  simp only[dh4,dh1,dh2,dh3,Xh,T2,Z0,c51,ZI,Yw,ZG,Yl,Yt]
  refine⟨_,rfl,?_⟩
  exact Zw.refl _ _
 have dh4:decide (s=[46,46])=false:=Zb h4
 cases ha:Pe [47,0] s with
 |true=>
  rw[ha] at e1
  rw[show YF s=false by unfold YF;simp[ha]]
  simp only[dh1,dh2,dh3,dh4,e1,Xh,T2,Z0,c51,ZI,Yw,ZG,Yl,Yt]
  refine⟨_,rfl,?_⟩
  exact Zw.refl _ _
 |false=>
  rw[ha] at e1
  cases hb:O6 [46,119,104,46] s with
  |true=>
   rw[hb] at e2
   rw[show YF s=false by unfold YF yy;simp[hb]]
   simp only[dh1,dh2,dh3,dh4,e1,e2,Xh,T2,Z0,c51,ZI,Yw,ZG,Yl,Yt]
   refine⟨_,rfl,?_⟩
   exact Zw.refl _ _
  |false=>
   rw[hb] at e2
   rw[show YF s=true by unfold YF Af J2 yy;simp[h1,h2,h3,h4,ha,hb]]
   simp only[dh1,dh2,dh3,dh4,e1,e2,Xh,T2,Z0,c51,ZI,Yw,ZG,Yl,Yt]
   refine⟨_,rfl,?_⟩
   exact Zw.refl _ _
theorem Zi8{Zr:Lib}{fs:T CF}{fuel:Nat}(E:Env Zr fs fuel){k n:Nat}(hk:6<=k){s:List UInt8}{H:Heap}(hs:s.length<=90000)(hro:H.ro<=H.nx):
  ZU (LK Zr fs fuel k) fs fuel (n+1) 51 [.str s] H=.ret (.bool (YF s)) H:=by
 obtain⟨H',e,g⟩:=fN E (n:=898) (H:=H) hs hro
 exact YI (r:=5) rfl rfl e g (rfl) hk
theorem fM{Zr:Lib}{fs:T CF}{fuel:Nat}(E:Env Zr fs fuel){n:Nat}{s:List UInt8}{H:Heap}(hs:s.length<=90000)(hro:H.ro<=H.nx):
  ∃H',ZU (LK Zr fs fuel 6) fs fuel (n+2) 70 [.str s] H=.ret (.bool (!YF s)) H'∧Zw H H' []:=by
 rw[Z4 (Z3 E.n70 (.inl (by decide)) _ _) E.f70]
 have e1:=λ{j}=>Zi8 E (k:=6) (n:=j) (by decide) (s:=s) (H:=H) hs hro
 simp only[e1,c70,ZI,Yw,ZG,Yt]
 refine⟨_,rfl,?_⟩
 exact Zw.refl _ _
theorem Zm1{Zr:Lib}{fs:T CF}{fuel:Nat}(E:Env Zr fs fuel){k n:Nat}(hk:7<=k){s:List UInt8}{H:Heap}(hs:s.length<=90000)(hro:H.ro<=H.nx):
  ZU (LK Zr fs fuel k) fs fuel (n+1) 70 [.str s] H=.ret (.bool (!YF s)) H:=by
 obtain⟨H',e,g⟩:=fM E (n:=898) (H:=H) hs hro
 exact YI (r:=6) rfl rfl e g (rfl) hk
structure IFI(v:AV)(l:List (List UInt8))(H0:Heap)(m:Nat)(tm:TM)(H:Heap):Prop where
 heap:H=H0
 t0:Yu tm=v
 t1:XR tm=.func 70 [] []
 t7:XY tm=nI .i64 l.length
 i: ∃i,Xt tm=nI .i64 i∧i+m=l.length∧ ∀j,j<i->YF (l.getD j [])=true
def IFQ(l:List (List UInt8))(H0:Heap)(o:Out)(tm:TM)(H:Heap):Prop:=H=H0∧((o=.ret∧ ∃p,Xu tm=nI .i64 p∧l.all YF=false)∨(o=.exit 0∧l.all YF=true))
theorem tL{l:List (List UInt8)}:(∀j,j<l.length->YF (l.getD j [])=true)->l.all YF=true:=λh=>by
 rw[YH]
 intro x hx
 obtain⟨i,hi,rfl⟩:=S5 hx
 have:=h i hi
 rwa [Ze,Zk hi] at this
theorem xE{l:List (List UInt8)}{i:Nat}(hi:i<l.length)(h:YF (l.getD i [])=false):l.all YF=false:=by
 rw[Ty]
 intro e
 rw[YH] at e
 have:=e _ (Xp hi)
 rw[Ze,Zk hi] at h
 have h:YF l[i]=false:=h
 rw[h] at this;cases this
theorem ZaE{Zr:Lib}{fs:T CF}{fuel:Nat}(E:Env Zr fs fuel){n k:Nat}(hk:7<=k){v:AV}{l:List (List UInt8)}(hl:l.length<=90000)(hs: ∀i,i<l.length->(l.getD i []).length<=90000){H0:Heap}(hro:H0.ro<=H0.nx)(hN:yE H0 v l)(y f dd q)(X0:X)(m:Nat)(tm:TM)(H:Heap)(hI:IFI v l H0 m tm H):
  ∃o tm' H',Fs ⟨ZU (LK Zr fs fuel k) fs fuel (n+1),y,f,dd,q⟩ tm H X0=.ok o tm' H' X0∧((o=.normal∧ ∃k,k<m∧IFI v l H0 k tm' H')∨(o≠.normal∧IFQ l H0 o tm' H')):=by
 obtain⟨rfl,t0,t1,t7,i,t8,him,hn⟩:=hI
 have t0':=t0;have t1':=t1;have kq:=t7
 simp only[VF] at t0
 simp only[Ov] at t1
 simp only[LN] at t7
 simp only[MI] at t8
 cases m with
 |zero=>
  have d1:decide (i<l.length)=false:=Zb (by omega)
  simp only[t7,t8,d1,Zv,Fs,ZI,Yw,Yt]
  refine⟨_,_,_,rfl,?_⟩
  exact .inr ⟨by simp,rfl,.inr ⟨rfl,tL λj hj=>hn j (by omega)⟩⟩
 |succ m=>
  have d1:decide (i<l.length)=true:=Zd (by omega)
  have hi:i<l.length:=by omega
  rcases hN with⟨_,rfl⟩|⟨b,rfl,_,r,g,hz,hsz,how,hb,hg⟩
  ·simp at hi
  ·have hir:i<r.size:=by omega
   have gi:=hg i hi
   have e1:=λ{j}=>Zm1 E (k:=k) (n:=j) hk (H:=H) (hs i hi) hro
   cases hm:YF (l.getD i []) with
   |true=>
    rw[hm] at e1
    simp(disch:=omega) only[t0,t1,t7,t8,d1,g,gi,e1,Zv,YU,Zf,XM,ZQ,Yn,Mq,RY,Zf,Fs,ZI,Yw,ZG,Yl,Yt]
    refine⟨_,_,_,rfl,.inl ⟨rfl,m,by omega,rfl,t0',t1',kq,i+1,rfl,by omega,λj hj=>?_⟩⟩
    by_cases h:j=i
    ·rw[h];exact hm
    ·exact hn j (by omega)
   |false=>
    rw[hm] at e1
    simp(disch:=omega) only[t0,t1,t7,t8,d1,g,gi,e1,Zv,Zf,XM,ZQ,Yn,Mq,RY,Zf,Fs,ZI,Yw,ZG,Yl,Yt]
    refine⟨_,_,_,rfl,?_⟩
    exact .inr ⟨by simp,rfl,.inl ⟨rfl,i,rfl,xE hi hm⟩⟩
theorem ZmT{Zr:Lib}{fs:T CF}{fuel:Nat}(E:Env Zr fs fuel){n k:Nat}(hk:7<=k){v:AV}{l:List (List UInt8)}(hl:l.length<=90000)(hs: ∀i,i<l.length->(l.getD i []).length<=90000){H:Heap}(hro:H.ro<=H.nx)(hN:yE H v l):
  ∃w,ZU (LK Zr fs fuel k) fs fuel (n+2) 94 [v,.func 70 [] []] H=.ret w H∧((l.all YF=false∧ ∃p,w=nI .i64 p)∨(l.all YF=true∧w=.int .i64 (.negSucc 0))):=by
 rw[Z4 (Z3 E.n94 (.inr rfl) _ _) E.f94]
 have ln:=hN.len
 simp only[ln,c94,ZI,Yw,Yt]
 generalize hL:XD (Fs _) fuel _ _ _=L
 obtain⟨o,Nb,H2,rfl,_,rfl,z⟩:=YG (P:=λT=>IFI v l H l.length T H) (Q:=IFQ l H)
  (λT hi=>YX (IFI v l H) (IFQ l H) (λm tm H2 h=>ZaE E hk hl hs hro hN _ _ _ _ _ m tm H2 h) fuel l.length T H (by have:=E.big;omega) hi) hL
  (by exact⟨rfl,rfl,rfl,rfl,0,rfl,by omega,λj hj=>by omega⟩)
 rcases z with⟨rfl,p,t4,e⟩|⟨rfl,e⟩
 ·simp only[Tb] at t4
  simp only[t4,ZI,ZG,Yt]
  refine⟨_,rfl,?_⟩
  exact .inl ⟨e,p,rfl⟩
 ·
  simp only[ZI,Yw,ZG,Yt]
  refine⟨_,rfl,?_⟩
  exact .inr ⟨e,rfl⟩
theorem Zlo{Zr:Lib}{fs:T CF}{fuel:Nat}(E:Env Zr fs fuel){n k:Nat}(hk:7<=k){v:AV}{l:List (List UInt8)}(hl:l.length<=90000)(hs: ∀i,i<l.length->(l.getD i []).length<=90000){H:Heap}(hro:H.ro<=H.nx)(hN:yE H v l):
  ZU (LK Zr fs fuel k) fs fuel (n+3) 69 [v,.func 70 [] []] H=.ret (.bool (!l.all YF)) H:=by
 rw[Z4 (Z3 E.n69 (.inr rfl) _ _) E.f69]
 obtain⟨w,e1,h⟩:=ZmT E (n:=n) hk hl hs hro hN
 rcases h with⟨h,p,rfl⟩|⟨h,rfl⟩
 ·have d1:decide (0<=p)=true:=Zd (Ym _)
  rw[h]
  simp only[e1,Wh,Ym,decide_true,c69,ZI,Yw,ZG,Yl,Yt]
 ·rw[h]
  simp only[e1,xz,c69,ZI,Yw,ZG,Yl,Yt]
theorem Mx: ∀(s:List UInt8) (x:List UInt8),x∈Y9 s->x.length<=s.length
 |[],x,h=>by
  have:x=[]:=by simpa [Y9] using h
  rw[this];exact Zo _
 |c::s,x,h=>by
  rw[Y9] at h
  rw[Ye]
  split at h
  ·rcases ZR.1 h with rfl|h
   ·exact Ym _
   ·have:=Mx s x h;omega
  ·split at h
   ·rename_i e;exact absurd e (Q0 s)
   ·rename_i a b e
    rcases ZR.1 h with rfl|h
    ·have:=Mx s a (by rw[e];exact Zs ..)
     rw[Ye];omega
    ·have:=Mx s x (by rw[e];exact ZC _ h);omega
theorem K6{s x:List UInt8}(h:x∈Z6 s):x.length<=s.length:=by
 unfold Z6 at h
 split at h
 ·cases h
 ·exact Mx s x h
theorem FO(s:List UInt8):(Z6 s).length<=s.length+1:=by
 unfold Z6
 split
 ·exact Ym _
 ·rw[OF];have:=yS 47 s;omega
theorem eN{Zr:Lib}{fs:T CF}{fuel:Nat}(E:Env Zr fs fuel){n:Nat}{s:List UInt8}{H:Heap}(hs:s.length<=89000)(hro:H.ro<=H.nx):
  ∃H',ZU (LK Zr fs fuel 9) fs fuel (n+6) 50 [.str s] H=.ret (.bool (T6 s)) H'∧Zw H H' []:=by
 rw[Z4 (Z3 E.n50 (.inl (by decide)) _ _) E.f50]
 obtain⟨v,H1,e1,hN,k1⟩:=rO E (k:=9) (n:=n+1) (by decide) (s:=s) (by omega) hro
 have ln:=hN.len
 have nl:=FO s
 have e2:=λ{j}=>Zlo E (k:=9) (n:=j) (by decide) (v:=v) (l:=Z6 s) (by omega) (λi hi=>by
  have:(Z6 s).getD i []∈Z6 s:=by rw[Ze,Zk hi];exact Xp hi
  have:=K6 this;omega) (by rw[k1.ro];exact ZX hro k1.nx) hN
 by_cases h1:s.length<=4080
 ·have d1:decide (s.length<=4080)=true:=Zd h1
  by_cases h2:(Z6 s).length<255
  ·have d2:decide ((Z6 s).length<255)=true:=Zd h2
   cases hm:(Z6 s).all YF with
   |true=>
    rw[hm] at e2
    rw[show T6 s=true by unfold T6;simp only[hm,h1,h2];rfl]
    simp only[e1,ln,d1,d2,e2,Xh,Zv,Z0,c50,ZI,Yw,ZG,Yl,Yt]
    refine⟨_,rfl,?_⟩
    exact k1
   |false=>
    rw[hm] at e2
    rw[show T6 s=false by unfold T6;simp only[hm,VH]]
    simp only[e1,ln,d1,d2,e2,Xh,Zv,Z0,c50,ZI,Yw,ZG,Yl,Yt]
    refine⟨_,rfl,?_⟩
    exact k1
  ·have d2:decide ((Z6 s).length<255)=false:=Zb h2
   rw[show T6 s=false by unfold T6;rw[d2,VH];rfl]
   simp only[e1,ln,d1,d2,Xh,Zv,Z0,c50,ZI,Yw,ZG,Yt]
   refine⟨_,rfl,?_⟩
   exact k1
 ·have d1:decide (s.length<=4080)=false:=Zb h1
  rw[show T6 s=false by unfold T6;rw[d1];rfl]
  simp only[e1,d1,Xh,Z0,c50,ZI,Yw,ZG,Yt]
  refine⟨_,rfl,?_⟩
  exact k1
theorem Znb{Zr:Lib}{fs:T CF}{fuel:Nat}(E:Env Zr fs fuel){k n:Nat}(hk:10<=k){s:List UInt8}{H:Heap}(hs:s.length<=89000)(hro:H.ro<=H.nx):
  ZU (LK Zr fs fuel k) fs fuel (n+1) 50 [.str s] H=.ret (.bool (T6 s)) H:=by
 obtain⟨H',e,g⟩:=eN E (n:=894) (H:=H) hs hro
 exact YI (r:=9) rfl rfl e g (rfl) hk
def cEs:List RF:=[⟨nI .i64 1,.func 172 [] [],0⟩,⟨nI .i64 2,.func 173 [] [],0⟩,⟨nI .i64 3,.func 174 [] [],0⟩]
def tEs:List RF:=[⟨nI .i64 1,nI .u8 53,0⟩,⟨nI .i64 2,nI .u8 48,0⟩,⟨nI .i64 3,nI .u8 50,0⟩,⟨nI .i64 4,nI .u8 54,0⟩]
structure PM(H:Heap):Prop where
 nx:100<=H.nx
 ro:H.ro<=H.nx
 c: ∃r,H.t.get 0=some (.row r)∧0<r.size∧r.get 0=.map 11
 cm:H.t.get 11=some (.cmap cEs)
 t: ∃r,H.t.get 1=some (.row r)∧0<r.size∧r.get 0=.map 12
 tm:H.t.get 12=some (.cmap tEs)
theorem PM.keep{H H':Heap}{S:List Nat}(g:PM H)(k:Zw H H' S)(hS: ∀x∈S,100<=x):PM H':=by
 obtain⟨a,b,⟨r,c1,c2,c3⟩,d,⟨q,e1,e2,e3⟩,f⟩:=g
 have kk:=λx (hx:x<100)=>k.get x (by omega) (λh=>by have:=hS x h;omega)
 exact⟨ZX a k.nx,by rw[k.ro];exact ZX b k.nx,⟨r,by rw[kk _ (by decide)];exact c1,c2,c3⟩,by rw[kk _ (by decide)];exact d,⟨q,by rw[kk _ (by decide)];exact e1,e2,e3⟩,by rw[kk _ (by decide)];exact f⟩
theorem PM.keep0{H H':Heap}(g:PM H)(k:Zw H H' []):PM H':=g.keep k (by simp)
theorem Zbb(G:Heap):lkO Uk .nilf false (some (.cmap cEs)) (nI .i64 1) G=.val (.func 172 [] []) G:=rfl
theorem fB(G:Heap):lkO Uk .nilf false (some (.cmap cEs)) (nI .i64 2) G=.val (.func 173 [] []) G:=rfl
theorem Zfu(G:Heap):lkO Uk .nilf false (some (.cmap cEs)) (nI .i64 3) G=.val (.func 174 [] []) G:=rfl
theorem Zbn(d:List UInt8):(FP d).length<=d.length:=by
 unfold FP
 split
 ·rw[ZW];omega
 ·exact Zo _
theorem Hh(p:List UInt8):(Uw p).length+(XC p).length=p.length:=by
 unfold Uw XC
 rw[ZW,Ya];omega
theorem oi{b:List UInt8}(h:RE b=2):4<=b.length:=by
 unfold RE at h
 split at h
 ·cases h
 ·split at h
  ·rename_i e
   unfold O6 yy at e
   rw[Yv] at e
   exact Zm e.1
  ·cases h
theorem kw(p:List UInt8):(Tt p).length<=p.length:=by
 have h:=Hh p
 unfold Tt
 split
 ·rw[ZE];omega
 ·split
  ·rw[ZE,Ya];omega
  ·have:=Zbn (Uw p);omega
theorem sj{Zr:Lib}{fs:T CF}{fuel:Nat}(E:Env Zr fs fuel){n:Nat}{s:List UInt8}{H:Heap}(hs:s.length<=80000)(g:PM H):
  ∃H',ZU (LK Zr fs fuel 10) fs fuel (n+2) 31 [.str s] H=.ret (.tup [nI .i64 (Y8 s).1,.str (Y8 s).2]) H'∧Zw H H' []:=by
 rw[Z4 (Z3 E.n31 (.inl (by decide)) _ _) E.f31]
 have e1:=λ{j}=>base E (k:=10) (n:=j) (by decide) (s:=s) (H:=H) (by omega)
 have e2:=λ{j}=>Zi4 E (k:=10) (n:=j) (by decide) (s:=XC s) (H:=H) (by have:=Hh s;omega)
 have e3:=λ{j}=>Zd5 E (k:=10) (n:=j) (by decide) (s:=s) (p:=XC s) (H:=H) (by omega)
 rw[kF] at e3
 have e4:=λ{j}=>Znb E (k:=10) (n:=j) (by decide) (s:=Tt s) (H:=H) (by have:=kw s;omega) g.ro
 have e6:=λ{j}=>Zi8 E (k:=10) (n:=j) (by decide) (s:=(XC s).drop 4) (H:=H) (by rw[Ya];have:=Hh s;omega) g.ro
 have nq1:decide (1≠3)=true:=rfl
 have nq2:decide (2≠3)=true:=rfl
 have nq3:decide (3≠3)=false:=rfl
 obtain⟨r,g1,g2,g3⟩:=g.c
 have ld: ∀G,ld1 (some (.row r)) 0 G=.val (.map 11) G:=λG=>by rw[Mq g2,g3]
 have gm:=g.cm
 have bd:=Hh s
 obtain⟨l1,l3⟩:=Za4 (XC s)
 by_cases h0:s=[46,119,104,46,46,119,104,46,116,111,99]
 ·have d0:decide (s=[46,119,104,46,46,119,104,46,116,111,99])=true:=Zd h0
  rw[show Y8 s=(4,[]) by unfold Y8 qw;simp[h0]]
  simp only[d0,Xc,c31,ZI,Yw,ZG,Yt]
  refine⟨_,rfl,?_⟩
  exact Zw.refl _ _
 have d0:decide (s=[46,119,104,46,46,119,104,46,116,111,99])=false:=Zb h0
 have h0': ¬s=qw:=h0
 have hcl:RE (XC s)=1∨RE (XC s)=2∨RE (XC s)=3:=by omega
 rcases hcl with hc|hc|hc
 ·rw[hc] at e2
  have ht:Tt s=Uw s++XC s:=by unfold Tt;simp[hc]
  rw[ht] at e4
  have e5:=λ{j}=>Zei E (k:=10) (n:=j) (by decide) (a:=Uw s) (s:=XC s) (H:=H) (by omega)
  cases hm:T6 (Uw s++XC s) with
  |false=>
   rw[hm] at e4
   rw[show Y8 s=(0,[]) by unfold Y8 NR;simp[h0',ht,hm,hc]]
   simp only[d0,e1,e2,e3,e4,e5,g1,ld,gm,Zbb,Wi,Xc,XM,ZQ,Yn,Wv,VY,c31,ZI,Yw,ZG,Yl,Yt,Vf]
   refine⟨_,rfl,?_⟩
   exact Zw.refl _ _
  |true=>
   rw[hm] at e4
   by_cases hz:Uw s++XC s=[]
   ·have dz:decide (Uw s++XC s=[])=true:=Zd hz
    have hz2:T6 []=true:=by rw[<-hz];exact hm
    rw[show Y8 s=(0,[]) by unfold Y8 NR;rw[ht,dz];simp[h0',hc]]
    simp only[nq1,d0,e1,e2,e3,e4,e5,g1,ld,gm,Zbb,dz,Wi,VQ,Xc,XM,ZQ,Yn,Wv,VY,c31,ZI,Yw,ZG,Yl,Yt,Vf]
    refine⟨_,rfl,?_⟩
    exact Zw.refl _ _
   ·have dz:decide (Uw s++XC s=[])=false:=Zb hz
    by_cases hd:Uw s=[47]
    ·have dd:decide (Uw s=[47])=true:=Zd hd
     rw[show Y8 s=(0,[]) by unfold Y8 NR;simp[h0',ht,hc, -List.append_eq_nil_iff,hd]]
     simp only[nq1,d0,e1,e2,e3,e4,e5,g1,ld,gm,Zbb,dz,dd,YW,VQ,Xc,Nat.reduceEqDiff,decide_false,XM,ZQ,Yn,Wv,VY,c31,ZI,Yw,ZG,Yl,Nat.reduceEqDiff,Yt,Vf]
     refine⟨_,rfl,?_⟩
     exact Zw.refl _ _
    ·have dd:decide (Uw s=[47])=false:=Zb hd
     rw[show Y8 s=(1,Uw s++XC s) by unfold Y8 NR;simp[h0',ht,hm,hc, -List.append_eq_nil_iff,hz,hd]]
     simp only[nq1,d0,e1,e2,e3,e4,e5,g1,ld,gm,Zbb,dz,dd,YW,VQ,Xc,Nat.reduceEqDiff,decide_false,XM,ZQ,Yn,Wv,VY,c31,ZI,Yw,ZG,Yl,Nat.reduceEqDiff,Yt,Vf]
     refine⟨_,rfl,?_⟩
     exact Zw.refl _ _
 ·rw[hc] at e2
  have ht:Tt s=Uw s++(XC s).drop 4:=by unfold Tt;simp[hc]
  rw[ht] at e4
  have e5:=λ{j}=>Zej E (k:=10) (n:=j) (by decide) (a:=Uw s) (s:=XC s) (H:=H) (by omega) (oi hc)
  have hp4:=oi hc
  cases hm:T6 (Uw s++(XC s).drop 4) with
  |false=>
   rw[hm] at e4
   rw[show Y8 s=(0,[]) by unfold Y8 NR;simp[h0',ht,hm,hc]]
   simp only[d0,e1,e2,e3,e4,e5,g1,ld,gm,fB,Wi,Xc,XM,ZQ,Yn,Wv,VY,c31,ZI,Yw,ZG,Yl,Yt,Vf]
   refine⟨_,rfl,?_⟩
   exact Zw.refl _ _
  |true=>
   rw[hm] at e4
   by_cases hz:Uw s++(XC s).drop 4=[]
   ·have dz:decide (Uw s++(XC s).drop 4=[])=true:=Zd hz
    rw[show Y8 s=(0,[]) by unfold Y8 NR;rw[ht,dz];simp[h0',hc]]
    simp only[nq2,d0,e1,e2,e3,e4,e5,g1,ld,gm,fB,dz,Wi,VQ,Xc,XM,ZQ,Yn,Wv,VY,c31,ZI,Yw,ZG,Yl,Yt,Vf]
    refine⟨_,rfl,?_⟩
    exact Zw.refl _ _
   ·have dz:decide (Uw s++(XC s).drop 4=[])=false:=Zb hz
    cases hn:YF ((XC s).drop 4) with
    |false=>
     rw[hn] at e6
     rw[show Y8 s=(0,[]) by unfold Y8 NR;simp[h0',ht,hm,hc,hn]]
     simp(disch:=omega) only[nq2,d0,e1,e2,e3,e4,e5,g1,ld,gm,fB,dz,e6,YW,VQ,Xc,Rg,decide_true,XM,ZQ,Yn,Wv,VY,c31,ZI,Yw,ZG,Yl,Yt,Vf]
     refine⟨_,rfl,?_⟩
     exact Zw.refl _ _
    |true=>
     rw[hn] at e6
     by_cases hd:Uw s=[47]
     ·have dd:decide (Uw s=[47])=true:=Zd hd
      rw[show Y8 s=(0,[]) by unfold Y8 NR;simp[h0',ht,hc,hn, -List.append_eq_nil_iff,hd]]
      simp(disch:=omega) only[nq2,d0,e1,e2,e3,e4,e5,g1,ld,gm,fB,dz,e6,dd,YW,VQ,Xc,Rg,decide_true,XM,ZQ,Yn,Wv,VY,c31,ZI,Yw,ZG,Yl,Yt,Vf]
      refine⟨_,rfl,?_⟩
      exact Zw.refl _ _
     ·have dd:decide (Uw s=[47])=false:=Zb hd
      rw[show Y8 s=(2,Uw s++(XC s).drop 4) by unfold Y8 NR;simp[h0',ht,hm,hc,hn, -List.append_eq_nil_iff,hz,hd]]
      simp(disch:=omega) only[nq2,d0,e1,e2,e3,e4,e5,g1,ld,gm,fB,dz,e6,dd,YW,VQ,Xc,Rg,decide_true,XM,ZQ,Yn,Wv,VY,c31,ZI,Yw,ZG,Yl,Yt,Vf]
      refine⟨_,rfl,?_⟩
      exact Zw.refl _ _
 ·rw[hc] at e2
  have ht:Tt s=FP (Uw s):=by unfold Tt;simp[hc]
  rw[ht] at e4
  have e5:=λ{j}=>Zek E (k:=10) (n:=j) (by decide) (a:=Uw s) (s:=XC s) (H:=H) (by omega)
  cases hm:T6 (FP (Uw s)) with
  |false=>
   rw[hm] at e4
   rw[show Y8 s=(0,[]) by unfold Y8 NR;simp[h0',ht,hm,hc]]
   simp only[d0,e1,e2,e3,e4,e5,g1,ld,gm,Zfu,Wi,Xc,XM,ZQ,Yn,Wv,VY,c31,ZI,Yw,ZG,Yl,Yt,Vf]
   refine⟨_,rfl,?_⟩
   exact Zw.refl _ _
  |true=>
   rw[hm] at e4
   by_cases hd:Uw s=[47]
   ·have dd:decide (Uw s=[47])=true:=Zd hd
    rw[show Y8 s=(0,[]) by unfold Y8 NR;simp[h0',ht,hc,hd]]
    simp only[nq3,d0,e1,e2,e3,e4,e5,g1,ld,gm,Zfu,dd,YW,VQ,Xc,Nat.reduceEqDiff,decide_false,XM,ZQ,Yn,Wv,VY,c31,ZI,Yw,ZG,Yl,Nat.reduceEqDiff,Yt,Vf]
    refine⟨_,rfl,?_⟩
    exact Zw.refl _ _
   ·have dd:decide (Uw s=[47])=false:=Zb hd
    rw[show Y8 s=(3,FP (Uw s)) by unfold Y8 NR;simp[h0',ht,hm,hc,hd]]
    simp only[nq3,d0,e1,e2,e3,e4,e5,g1,ld,gm,Zfu,dd,YW,VQ,Xc,Nat.reduceEqDiff,decide_false,XM,ZQ,Yn,Wv,VY,c31,ZI,Yw,ZG,Yl,Nat.reduceEqDiff,Yt,Vf]
    refine⟨_,rfl,?_⟩
    exact Zw.refl _ _
theorem jE{Zr:Lib}{fs:T CF}{fuel:Nat}(E:Env Zr fs fuel){k n:Nat}(hk:11<=k){s:List UInt8}{H:Heap}(hs:s.length<=80000)(g:PM H):
  ZU (LK Zr fs fuel k) fs fuel (n+1) 31 [.str s] H=.ret (.tup [nI .i64 (Y8 s).1,.str (Y8 s).2]) H:=by
 obtain⟨H',e,g⟩:=sj E (n:=898) (H:=H) hs g
 exact YI (r:=10) rfl rfl e g (rfl) hk
theorem WQ{b:Bool}{k:OR}{v:AV}{H:Heap}(h:ZP b k=.val v H):k=.val v H:=by
 cases b with
 |true=>exact h
 |false=>cases h
theorem lz{H:Heap}{b:Nat}{k:Row->OR}{v:AV}{H':Heap}(h:XB H b k=.val v H'): ∃r,k r=.val v H':=by
 unfold XB at h
 split at h
 ·exact⟨_,h⟩
 ·cases h
theorem OA{H:Heap}{e sz:Nat}{l:List AV}{ex:Bool}{c:Nat}(hc:c<H.nx):(H.newRow e sz l ex).t.get c=H.t.get c:=by
 rw[Qr,NU (by omega)]
theorem oV{v:AV}{e sz bytes:Nat}{H:Heap}{n:Nat}{new:List AV}{v':AV}{H':Heap}(h:MW v e sz bytes H n new=.val v' H'){c:Nat}(hc:c<H.nx)(hv: ∀b o l q,v=.slice b o l q->c≠b):H'.t.get c=H.t.get c:=by
 cases v with
 |nils=>
  replace h:cond (Nat.beq n 0) (.val .nils H) (ZP (Nat.ble (Nat.mul n bytes) 140737488355328) (.val (.slice H.nx 0 n none) (H.newRow e sz new false)))=OR.val v' H':=h
  cases h0:Nat.beq n 0 with
  |true=>rw[h0] at h;cases h;rfl
  |false=>
   rw[h0] at h
   have h:=WQ (show ZP (Nat.ble (Nat.mul n bytes) 140737488355328) (.val (.slice H.nx 0 n none) (H.newRow e sz new false))=OR.val v' H' from h)
   cases h;exact OA hc
 |slice0=>
  replace h:cond (Nat.beq n 0) (.val .slice0 H) (ZP (Nat.ble (Nat.mul n bytes) 140737488355328) (.val (.slice H.nx 0 n none) (H.newRow e sz new false)))=OR.val v' H':=h
  cases h0:Nat.beq n 0 with
  |true=>rw[h0] at h;cases h;rfl
  |false=>
   rw[h0] at h
   have h:=WQ (show ZP (Nat.ble (Nat.mul n bytes) 140737488355328) (.val (.slice H.nx 0 n none) (H.newRow e sz new false))=OR.val v' H' from h)
   cases h;exact OA hc
 |slice b o len cap=>
  have hb:=hv b o len cap rfl
  replace h:XB H b (λr=>ZP (Js r sz cap) (cond (Nat.ble (Nat.add len n) (VI r o cap)) (DX H (.slice b o len cap) b o len n sz cap r new) (Lz H e b o len n sz bytes cap r new)))=OR.val v' H':=h
  obtain⟨r,h⟩:=lz h
  have h:=WQ h
  cases h0:Nat.ble (Nat.add len n) (VI r o cap) with
  |true=>
   rw[h0] at h
   replace h:DX H (.slice b o len cap) b o len n sz cap r new=OR.val v' H':=h
   unfold DX at h
   cases h1:Nat.beq n 0 with
   |true=>rw[h1] at h;cases h;rfl
   |false=>
    rw[h1] at h
    have h:=WQ (WQ (WQ h))
    cases h
    exact RU (λe=>hb e.symm) ..
  |false=>
   rw[h0] at h
   replace h:Lz H e b o len n sz bytes cap r new=OR.val v' H':=h
   unfold Lz at h
   have h:=WQ (WQ h)
   cases cap with
   |some q=>cases h;exact OA hc
   |none=>
    cases h1:r.exact with
    |true=>
     have h:=WQ (show ZP (Nat.beq (Nat.mod o sz) 0) (.val (.slice H.nx 0 (Nat.add len n) none) (H.newRow e sz (VB r o (Nat.mul len sz)++new) false))=OR.val v' H' by rw[h1] at h;exact h)
     cases h;exact OA hc
    |false=>
     have h:Ij H e b o len n sz r new=OR.val v' H':=by rw[h1] at h;exact h
     unfold Ij at h
     have h:=WQ (WQ (WQ (WQ (WQ h))))
     cases h
     show((H.t.del b).set H.nx _).get c=_
     rw[T.get_set,if_neg (by omega),T.get_del,if_neg λe=>hb e.symm]
 |_=>cases h
theorem jh{v:AV}{e sz bytes:Nat}{H:Heap}{n:Nat}{new:List AV}{v':AV}{H':Heap}(h:MW v e sz bytes H n new=.val v' H')(hcap: ∀b o l q,v=.slice b o l q-> ∀r,H.t.get b=some (.row r)->Nat.ble (Nat.add l n) (VI r o q)=false): ∀b o l q,v'=.slice b o l q->b=H.nx:=by
 intro b0 o0 l0 q0 e0
 cases v with
 |nils=>
  replace h:cond (Nat.beq n 0) (.val .nils H) (ZP (Nat.ble (Nat.mul n bytes) 140737488355328) (.val (.slice H.nx 0 n none) (H.newRow e sz new false)))=OR.val v' H':=h
  cases h0:Nat.beq n 0 with
  |true=>rw[h0] at h;cases h;cases e0
  |false=>
   rw[h0] at h
   have h:=WQ (show ZP (Nat.ble (Nat.mul n bytes) 140737488355328) (.val (.slice H.nx 0 n none) (H.newRow e sz new false))=OR.val v' H' from h)
   cases h;cases e0;rfl
 |slice0=>
  replace h:cond (Nat.beq n 0) (.val .slice0 H) (ZP (Nat.ble (Nat.mul n bytes) 140737488355328) (.val (.slice H.nx 0 n none) (H.newRow e sz new false)))=OR.val v' H':=h
  cases h0:Nat.beq n 0 with
  |true=>rw[h0] at h;cases h;cases e0
  |false=>
   rw[h0] at h
   have h:=WQ (show ZP (Nat.ble (Nat.mul n bytes) 140737488355328) (.val (.slice H.nx 0 n none) (H.newRow e sz new false))=OR.val v' H' from h)
   cases h;cases e0;rfl
 |slice b o len cap=>
  have hb:=hcap b o len cap rfl
  replace h:XB H b (λr=>ZP (Js r sz cap) (cond (Nat.ble (Nat.add len n) (VI r o cap)) (DX H (.slice b o len cap) b o len n sz cap r new) (Lz H e b o len n sz bytes cap r new)))=OR.val v' H':=h
  unfold XB at h
  split at h
  ·rename_i r hr
   have h:=WQ h
   rw[hb r hr] at h
   replace h:Lz H e b o len n sz bytes cap r new=OR.val v' H':=h
   unfold Lz at h
   have h:=WQ (WQ h)
   cases cap with
   |some q=>cases h;cases e0;rfl
   |none=>
    cases h1:r.exact with
    |true=>
     have h:=WQ (show ZP (Nat.beq (Nat.mod o sz) 0) (.val (.slice H.nx 0 (Nat.add len n) none) (H.newRow e sz (VB r o (Nat.mul len sz)++new) false))=OR.val v' H' by rw[h1] at h;exact h)
     cases h;cases e0;rfl
    |false=>
     have h:Ij H e b o len n sz r new=OR.val v' H':=by rw[h1] at h;exact h
     unfold Ij at h
     have h:=WQ (WQ (WQ (WQ (WQ h))))
     cases h;cases e0;rfl
  ·cases h
 |_=>cases h
theorem rU{H:Heap}{v:AV}{e sz bytes:Nat}{ls:List (List AV)}{lo:Nat}(h:RG H v e sz ls lo)(hsz:1<=sz)(hby:1<=bytes)(hl:(ls.length+1)*bytes<=140737488355328)(hro:H.ro<=H.nx)(hlo:lo<=H.nx){x:List AV}(hx:x.length=sz):
  ∃v' H',U0 e sz bytes v (.slice H.nx 0 1 none) (H.newRow e sz x true)=.val v' H'∧RG H' v' e sz (ls++[x]) lo∧Below lo H H'∧
   (∀c,c<H.nx->(∀b o l q,v=.slice b o l q->c≠b)->H'.t.get c=H.t.get c)∧ ∀b o l q,v'=.slice b o l q->H.nx<=b:=by
 obtain⟨v',H',ea,rb,w⟩:=lN h hsz hby hl hro hlo hx
 generalize hH1:H.newRow e sz x true=H1 at ea
 have Lb:H1.nx=H.nx+1:=by rw[<-hH1];rfl
 have gx:H1.t.get H.nx=some (.row ⟨e,sz,YL x,T.ofList x,.unk,0,false,true,true⟩):=by rw[<-hH1,TC,VL,if_pos rfl]
 have cx:=Cells.new e sz x 0 false true true
 have ap:U0 e sz bytes v (.slice H.nx 0 1 none) H1=MW v e sz bytes H1 1 x:=by
  show ZP (Nat.ble 1 sz) (ZP (Nat.ble 1 bytes) (VV H1 sz (.slice H.nx 0 1 none) 1 λnew=>MW v e sz bytes H1 1 new))=_
  rw[Zl hsz,Zl hby]
  show(VV H1 sz (.slice H.nx 0 1 none) 1 λnew=>MW v e sz bytes H1 1 new)=_
  generalize(⟨e,sz,YL x,T.ofList x,.unk,0,false,true,true⟩:Row)=r0 at gx cx
  unfold VV XB
  simp only[gx]
  show ZP (Nat.ble (0+1*sz) r0.size) (MW v e sz bytes H1 1 (VB r0 0 (1*sz)))=_
  rw[S2,cx.size,hx,Zl (show 0+sz<=sz by omega)]
  have:=cx.load (o:=0) (n:=sz) (by omega)
  rw[this,Zz,Xq (by omega)]
  rfl
 rw[ap] at ea
 refine⟨v',H',by rw[ap];exact ea,rb,w,λc hc hv=>?_,λb o l q e'=>?_⟩
 ·rw[oV ea (by omega) hv,<-hH1,OA hc]
 ·have:=jh ea (λb o l q ev r hr=>by
   rcases h with⟨_,rfl⟩|⟨_,b2,r2,rfl,g,_⟩
   ·cases ev
   ·cases ev
    have hg:H1.t.get b=some (.row r2):=by rw[<-hH1,OA g.low];exact g.at_
    rw[hg] at hr
    cases hr
    have hcap:VI r 0 none=ls.length:=by
     show cond (Nat.beq r.sz 1) (r.size - 0) ((r.size - 0)/r.sz)=_
     rw[g.szr,g.size,Nat.sub_zero]
     by_cases h1:sz=1
     ·subst h1;show ls.length*1=_;omega
     ·rw[Yp,Zb h1]
      exact Nat.mul_div_cancel _ (by omega)
    rw[hcap]
    cases h:Nat.ble (Nat.add ls.length 1) ls.length with
    |false=>rfl
    |true=>have:=ZT h;have:ls.length+1<=ls.length:=this;omega) b o l q e'
  omega
def MC:AV->List Nat
 |.slice b _ _ _=>[b]
 |_=>[]
theorem Br{H:Heap}{v:AV}{e sz bytes:Nat}{ls:List (List AV)}{lo:Nat}(h:RG H v e sz ls lo)(hsz:1<=sz)(hby:1<=bytes)(hl:(ls.length+1)*bytes<=140737488355328)(hro:H.ro<=H.nx)(hlo:lo<=H.nx){x:List AV}(hx:x.length=sz):
  ∃v' H',U0 e sz bytes v (.slice H.nx 0 1 none) (H.new (rG e sz x 0 false true true))=.val v' H'∧RG H' v' e sz (ls++[x]) lo∧Zw H H' (MC v)∧(∀b∈MC v',H.nx<=b)∧H.nx<H'.nx:=by
 obtain⟨v',H',a,b,w,c,d⟩:=rU h hsz hby hl hro hlo hx
 have hn:H.nx<H'.nx:=by
  rcases b with⟨e,_⟩|⟨_,b,r,e,g,_⟩
  ·simp at e
  ·have:=d _ _ _ _ e;have:=g.low;omega
 refine⟨v',H',a,b,⟨w.nx,w.ro,λx hx hn=>c x hx λb o l q e he=>hn ?_⟩,λx hx=>?_,hn⟩
 ·subst e;rw[he];exact ZD.2 rfl
 ·rcases b with⟨e,_⟩|⟨_,b,r,e,g,_⟩
  ·simp at e
  ·subst e
   rw[ZD.1 hx]
   exact d _ _ _ _ rfl
def Sz(H:Heap)(sz:Nat)(v:AV)(ls:List (List AV)):Prop:=(ls=[]∧v=.slice0)∨Sl H sz v ls
theorem Sz.keep{H H':Heap}{sz:Nat}{v:AV}{ls:List (List AV)}{S:List Nat}(h:Sz H sz v ls)(k:Zw H H' S)(hS: ∀b o n c,v=.slice b o n c->b∉S):Sz H' sz v ls:=by
 rcases h with h|h
 ·exact .inl h
 ·exact .inr (h.keep k hS)
theorem Sz.keep0{H H':Heap}{sz:Nat}{v:AV}{ls:List (List AV)}(h:Sz H sz v ls)(k:Zw H H' []):Sz H' sz v ls:=h.keep k (by simp)
def Cut(H:Heap)(sz:Nat)(v:AV)(ls:List (List AV)):Prop:=Sz H sz v ls∧ ∀(k:Nat),k<=ls.length-> ∃v',(∀G:Heap,(∀c,c<H.nx->G.t.get c=H.t.get c)->Pp sz v none (some (nI .i64 k)) G=.val v' G)∧Sz H sz v' (ls.take k)
theorem Cut.keep{H H':Heap}{sz:Nat}{v:AV}{ls:List (List AV)}(h:Cut H sz v ls)(k:Zw H H' []):Cut H' sz v ls:=
 ⟨h.1.keep0 k,λn hn=>by
  obtain⟨v',h1,h2⟩:=h.2 n hn
  exact⟨v',λG hG=>h1 G λc hc=>(hG c (ZF hc k.nx)).trans (k.get c hc (by simp)),h2.keep0 k⟩⟩
def FY(r:Row)(sz n:Nat):List (List AV):=(List.range n).map λi=>(List.range sz).map λj=>r.get (i*sz+j)
theorem N2(r:Row)(sz n:Nat):(FY r sz n).length=n:=by unfold FY;simp
theorem zR(r:Row)(sz n:Nat): ∀l∈FY r sz n,l.length=sz:=by
 intro l hl
 unfold FY at hl
 obtain⟨i,_,rfl⟩:=YV.1 hl
 simp
theorem oq(r:Row)(sz:Nat){n i:Nat}(h:i<n):(FY r sz n).getD i []=(List.range sz).map λj=>r.get (i*sz+j):=by
 unfold FY
 rw[Ze,ZZ,XL h];rfl
theorem lS(r:Row)(sz:Nat)(hsz:1<=sz){n i:Nat}(h:i<n*sz):(FY r sz n).flatten.getD i .unk=r.get i:=by
 have hq:i/sz<n:=PP (by rw[UK];exact h)
 have hm:i % sz<sz:=Vy _ (by omega)
 have:=AI.flat_at (ls:=FY r sz n) (i:=i/sz) (zR r sz n) (by rw[N2];exact hq)
 rw[oq r sz hq] at this
 have e:i/sz*sz+i % sz=i:=by rw[UK];exact RM i sz
 have h2:=congrArg (λl=>l[i % sz]?) this
 simp only[XK hm,Xl,e,ZZ,XL hm] at h2
 rw[Ze,h2]
 show r.get (i/sz*sz+i % sz)=_
 rw[e]
theorem lU(r:Row)(sz:Nat){n k:Nat}(h:k<=n):(FY r sz n).take k=FY r sz k:=by
 unfold FY
 rw[<-List.map_take,List.take_range,Wb h]
theorem dJ{G:Heap}{b sz n:Nat}{r:Row}{c:Option Nat}(hsz:1<=sz)(hb:b<G.nx)(hr:G.t.get b=some (.row r))(hs:n*sz<=r.size):Sl G sz (.slice b 0 n c) (FY r sz n):=
 ⟨zR r sz n,.inr ⟨b,0,c,by rw[N2],hb,λ_=>⟨r,hr,by rw[N2];omega,λi hi=>by rw[N2] at hi;rw[Zf,lS r sz hsz hi]⟩⟩⟩
theorem x9{G:Heap}{es:List Sh}{v:AV}(h:Told G (.sl es) v): ∃ls,Cut G es.length v ls∧ls.length<=maxLen∧ ∀i,i<ls.length->(ls.getD i []).length=es.length∧ ∀(j:Nat) e,es[j]? =some e->Told G e ((ls.getD i []).getD j .unk):=by
 cases h with
 |nils=>
  refine⟨[],⟨.inr (Sl.nil ..),λk hk=>?_⟩,Ym _,λi hi=>by simp at hi⟩
  obtain rfl:k=0:=by simpa using hk
  exact⟨.nils,λ_ _=>rfl,.inr (Sl.nil ..)⟩
 |slice0=>
  refine⟨[],⟨.inl ⟨rfl,rfl⟩,λk hk=>?_⟩,Ym _,λi hi=>by simp at hi⟩
  obtain rfl:k=0:=by simpa using hk
  exact⟨.slice0,λ_ _=>rfl,.inl ⟨rfl,rfl⟩⟩
 | @slice _ b len cap r h1 hl h0 hc hb hr hs ho hz hok=>
  have hm:len*es.length<=cap*es.length:=UC _ hl
  refine⟨FY r es.length len,⟨.inr (dJ h1 hb hr (by omega)),λk hkl=>?_⟩,by rw[N2];omega,λi hi=>?_⟩
  ·rw[N2] at hkl
   have hmk:k*es.length<=len*es.length:=UC _ hkl
   refine⟨.slice b 0 k (some cap),λG' hk=>?_,by rw[lU _ _ hkl];exact .inr (dJ h1 hb hr (by omega))⟩
   have g:=hk b hb
   show XB G' b _=_
   unfold XB
   rw[g,hr]
   show ZP (Nat.ble k cap) (ZP (Nat.ble 0 k) (ZP (Nat.ble 0 cap) (cond (Nat.beq 0 cap) _ (OR.val (.slice b (0+0*es.length) (k - 0) (some (cap - 0))) G'))))=_
   rw[Zl (by omega),Zl (Ym _),Zl (Ym _),show Nat.beq 0 cap=false by rw[Yp];exact Zb (by omega),W4]
   rfl
  ·rw[N2] at hi
   rw[oq r _ hi]
   refine⟨by simp,λj e he=>?_⟩
   have hj:j<es.length:=(WN.1 he).1
   have hij:i*es.length+j<cap*es.length:=by
    have:(i+1)*es.length<=cap*es.length:=UC _ (by omega)
    rw[WI] at this;omega
   rw[Ze,ZZ,XL hj]
   show Told G e (r.get (i*es.length+j))
   refine hok _ e hij ?_
   rw[UK,Nat.mul_add_mod,Yx hj];exact he
theorem KO{α:Type}{ls:List (List AV)}{f:α->List AV}{p:α->Prop}(h: ∀i,i<ls.length-> ∃x,ls.getD i []=f x∧p x): ∃l:List α,ls=l.map f∧ ∀x∈l,p x:=by
 induction ls with
 |nil=>exact⟨[],rfl,λ_ h=>by cases h⟩
 |cons a ls ih=>
  obtain⟨x,h1,h2⟩:=h 0 (by simp)
  obtain⟨l,h3,h4⟩:=ih λi hi=>by
   have:=h (i+1) (by simp;omega)
   simpa using this
  refine⟨x::l,by rw[Zy,<-h3,<-h1];rfl,λy hy=>?_⟩
  rcases ZR.1 hy with rfl|hy
  ·exact h2
  ·exact h4 y hy
theorem Zi6{l:List AV}(h:l.length=2):l=[l.getD 0 .unk,l.getD 1 .unk]:=by
 match l,h with
 |[a,b],_=>rfl
theorem G6{G:Heap}{v:AV}(h:Told G .str v): ∃s,v=.str s:=by cases h;exact⟨_,rfl⟩
theorem B4{G:Heap}{k:IntKind}{v:AV}(h:Told G (.int k) v): ∃z,v=.int k z∧k.min<=z∧z<=k.max:=by
 cases h with|int h=>exact⟨_,rfl,h⟩
theorem oN{G:Heap}{v:AV}(h:Told G (.int .u8) v): ∃c:UInt8,v=XP c:=by
 obtain⟨z,rfl,h1,h2⟩:=B4 h
 have h1:0<=z:=h1
 have h2:z<=255:=h2
 refine⟨UInt8.ofNat z.toNat,?_⟩
 show AV.int .u8 z=.int .u8 (.ofNat (UInt8.ofNat z.toNat).toNat)
 rw[S8,Yx (by omega)]
 congr 1
 show z=(z.toNat:Int)
 omega
theorem B5{G:Heap}{v:AV}(h:Told G (.int .u32) v): ∃n:Nat,v=nI .u32 n∧n<4294967296:=by
 obtain⟨z,rfl,h1,h2⟩:=B4 h
 have h1:0<=z:=h1
 have h2:z<=4294967295:=h2
 refine⟨z.toNat,?_,by omega⟩
 show AV.int .u32 z=.int .u32 (.ofNat z.toNat)
 congr 1
 show z=(z.toNat:Int)
 omega
theorem N6{G:Heap}{v:AV}(h:Told G (.int .i64) v): ∃z:Int,v=.int .i64 z∧ -9223372036854775808<=z∧z<=9223372036854775807:=B4 h
theorem Sz.len{H:Heap}{sz:Nat}{v:AV}{ls:List (List AV)}(h:Sz H sz v ls)(G:Heap):Oy v G=.val (nI .i64 ls.length) G:=by
 rcases h with⟨rfl,rfl⟩|h
 ·rfl
 ·exact h.len G
theorem Sz.low{H:Heap}{sz:Nat}{v:AV}{ls:List (List AV)}(h:Sz H sz v ls){n:Nat}(hn:H.nx<=n):Wl n v=true:=by
 rcases h with⟨rfl,rfl⟩|h
 ·rfl
 ·exact h.low hn
theorem Sz.same{H:Heap}{sz:Nat}{v:AV}{ls:List (List AV)}(h:Sz H sz v ls)(n:Nat)(t:T Obj):VS (.val v ⟨n,t,n⟩) v n=true:=by
 rcases h with⟨rfl,rfl⟩|h
 ·exact TK _ _ _ (by unfold AI.same;rfl)
 ·exact h.same n t
theorem Sz.cells{H:Heap}{sz:Nat}{v:AV}{ls:List (List AV)}(h:Sz H sz v ls):v.cells=[v]:=by
 rcases h with⟨rfl,rfl⟩|h
 ·rfl
 ·exact h.cells
theorem Sz.at_{H:Heap}{sz:Nat}{v:AV}{ls:List (List AV)}(h:Sz H sz v ls){i:Nat}(hi:i<ls.length):
  ∃b o r,(∀(k:IntKind) (G:Heap),HY sz v (nI k i) G=.val (.ptr b o) G)∧b<H.nx∧H.t.get b=some (.row r)∧(∀G:Heap,wh sz (some (.row r)) o G=.val (.agg (ls.getD i [])) G)∧ ∀(j:Nat) (G:Heap),j<sz->ld1 (some (.row r)) (o+j) G=.val ((ls.getD i []).getD j .unk) G:=by
 rcases h with⟨rfl,_⟩|h
 ·cases hi
 ·exact h.at_ hi
theorem geS(a b:List UInt8)(H:Heap):OM SA Wx (.str a) (.str b) H=.val (.bool (Wx a b)) H:=by
 show So (Wx a b) H=_
 cases Wx a b<;>rfl
abbrev NP:=List UInt8×List UInt8
def N0(l:List NP):List (List AV):=l.map λp=>[.str p.1,.str p.2]
theorem QZ(l:List NP):(N0 l).length=l.length:=Zp ..
theorem Gz{l:List NP}{i:Nat}(h:i<l.length):(N0 l).getD i []=[.str (l.getD i ([],[])).1,.str (l.getD i ([],[])).2]:=by
 unfold N0
 rw[Ze,ZZ,Ze,Zk h];rfl
def b7(l:List NP)(i:Nat):Bool:=!decide ((l.getD i ([],[])).1=[])&&decide ((l.getD i ([],[])).1.length<=242)&&!Pe [0,61,10] (l.getD i ([],[])).1&&(decide (i=0)||!Wx (l.getD (i - 1) ([],[])).1 (l.getD i ([],[])).1)
def Mr(l:List NP):Bool:=(List.range l.length).all (b7 l)&&decide (l.length<=16)
def R3(s:List UInt8)(is:Bool):Bool:=if is then !decide (s=[])&&decide (s.length<=4096)&&decide (TJ 0 s=0) else decide (s=[])
theorem ZaN:PL [0,61,10]:=⟨by decide,by decide,by decide⟩
theorem rl{Zr:Lib}{fs:T CF}{fuel:Nat}(E:Env Zr fs fuel){n:Nat}{s:List UInt8}{is:Bool}{H:Heap}:
  ∃H',ZU (LK Zr fs fuel 2) fs fuel (n+2) 53 [.str s,.bool is] H=.ret (.bool (R3 s is)) H'∧Zw H H' []:=by
 rw[Z4 (Z3 E.n53 (.inl (by decide)) _ _) E.f53]
 have e1:=λ{j}=>Zfh E (k:=2) (n:=j) (by decide) (s:=s) (x:=0) (H:=H) (by decide)
 cases is with
 |false=>
  rw[show R3 s false=decide (s=[]) from rfl]
  simp only[Xc,c53,ZI,Yw,ZG,Yl,Yt]
  refine⟨_,rfl,?_⟩
  exact Zw.refl _ _
 |true=>
  by_cases h1:s=[]
  ·have d1:decide (s=[])=true:=Zd h1
   rw[show R3 s true=false by unfold R3;simp[h1]]
   simp only[d1,T2,c53,ZI,Yw,ZG,Yl,Yt]
   refine⟨_,rfl,?_⟩
   exact Zw.refl _ _
  ·have d1:decide (s=[])=false:=Zb h1
   by_cases h2:s.length<=4096
   ·have d2:decide (s.length<=4096)=true:=Zd h2
    rw[show R3 s true=decide (TJ 0 s=0) by unfold R3;simp[h1,h2]]
    simp only[d1,d2,e1,Xh,T2,Z0,Zdk,c53,ZI,Yw,ZG,Yl,Yt]
    refine⟨_,rfl,?_⟩
    exact Zw.refl _ _
   ·have d2:decide (s.length<=4096)=false:=Zb h2
    rw[show R3 s true=false by unfold R3;rw[d2];simp]
    simp only[d1,d2,Xh,T2,Z0,c53,ZI,Yw,ZG,Yl,Yt]
    refine⟨_,rfl,?_⟩
    exact Zw.refl _ _
theorem ZfA{Zr:Lib}{fs:T CF}{fuel:Nat}(E:Env Zr fs fuel){k n:Nat}(hk:3<=k){s:List UInt8}{is:Bool}{H:Heap}:
  ZU (LK Zr fs fuel k) fs fuel (n+1) 53 [.str s,.bool is] H=.ret (.bool (R3 s is)) H:=by
 obtain⟨H',e,g⟩:=rl E (n:=898) (H:=H)
 exact YI (r:=2) rfl rfl e g (rfl) hk
structure MAI(H0:Heap)(v:AV)(l:List NP)(m:Nat)(tm:TM)(H:Heap):Prop where
 t0:Yu tm=v
 t5:YT tm=v
 t6:Wm tm=nI .i64 l.length
 i: ∃i,XY tm=nI .i64 i∧i+m=l.length∧ ∀j,j<i->b7 l j=true
 k:Zw H0 H []
def MAQ(H0:Heap)(v:AV)(l:List NP)(o:Out)(tm:TM)(H:Heap):Prop:=Zw H0 H []∧((o=.ret∧Vt tm=.bool false∧Mr l=false)∨(o=.exit 0∧Yu tm=v∧Mr l=decide (l.length<=16)))
theorem J9{l:List NP}{i:Nat}(h:i<l.length)(e:b7 l i=false):Mr l=false:=by
 have:(List.range l.length).all (b7 l)=false:=by
  rw[Ty]
  intro q
  rw[YH] at q
  have:=q i (RL.2 h)
  rw[e] at this;cases this
 unfold Mr;rw[this];rfl
theorem fL{l:List NP}(h: ∀j,j<l.length->b7 l j=true):Mr l=decide (l.length<=16):=by
 have:(List.range l.length).all (b7 l)=true:=YH.2 λx hx=>h x (RL.1 hx)
 unfold Mr;rw[this,Xf]
theorem Zbf{Zr:Lib}{fs:T CF}{fuel:Nat}(E:Env Zr fs fuel){n k:Nat}(hk:5<=k){v:AV}{l:List NP}(hl:l.length<=90000)(hs: ∀i,i<l.length->(l.getD i ([],[])).1.length<=90000){H0:Heap}(hro:H0.ro<=H0.nx)(hN:Sz H0 2 v (N0 l))(y f dd q)(X0:X)(m:Nat)(tm:TM)(H:Heap)(hI:MAI H0 v l m tm H):
  ∃o tm' H',MD ⟨ZU (LK Zr fs fuel k) fs fuel (n+1),y,f,dd,q⟩ tm H X0=.ok o tm' H' X0∧((o=.normal∧ ∃k,k<m∧MAI H0 v l k tm' H')∨(o≠.normal∧MAQ H0 v l o tm' H')):=by
 obtain⟨t0,t5,t6,⟨i,t7,him,hn⟩,k0⟩:=hI
 have t0':=t0;have Dj:=t5;have oK:=t6
 simp only[VF] at t0
 simp only[Ss] at t5
 simp only[NA] at t6
 simp only[LN] at t7
 cases m with
 |zero=>
  have d1:decide (i<l.length)=false:=Zb (by omega)
  simp only[t6,t7,d1,Zv,MD,ZI,Yw,Yt]
  refine⟨_,_,_,rfl,?_⟩
  exact .inr ⟨by simp,k0,.inr ⟨rfl,t0',fL λj hj=>hn j (by omega)⟩⟩
 |succ m=>
  have d1:decide (i<l.length)=true:=Zd (by omega)
  have hi:i<l.length:=by omega
  have hN:=hN.keep0 k0
  have Ziq:=hN.low (n:=H.nx+1) (Vj _)
  obtain⟨b,o,r,eI,hb,gb,eL,eE⟩:=hN.at_ (i:=i) (by rw[QZ];omega)
  have ra:=Gz hi
  rw[ra] at eL
  generalize hp:l.getD i ([],[])=p at*
  have hpl:p.1.length<=90000:=by have:=hs i hi;rw[hp] at this;exact this
  obtain⟨H1,hH1⟩: ∃G,H.new (rG 52 1 [.str p.1,.str p.2] 0 false true true)=G:=⟨_,rfl⟩
  have k1:Zw H0 H1 []:=by rw[<-hH1];exact k0.then_new _
  have kH:Zw H H1 []:=by rw[<-hH1];exact Zw.new _ _ _
  have g1:H1.t.get H.nx=some (rG 52 1 [.str p.1,.str p.2] 0 false true true):=by rw[<-hH1];exact Yi rfl _
  have Lb:H1.nx=H.nx+1:=by rw[<-hH1];rfl
  have sf:=U4 (n:=2) (b:=H.nx) (l:=[.str [],.str []]) (vs:=[.str p.1,.str p.2]) (H:=H.new (rG 52 1 [.str [],.str []] 0 false true true)) rfl rfl (by decide) (by show H.ro<=_;rw[k0.ro];have:=k0.nx;omega) 52 1 false true
  rw[Us rfl,hH1] at sf
  have e1:=λ{j}=>Zcl E (k:=k) (n:=j) hk (H:=H1) ZaN hpl (by rw[k1.ro];exact ZX hro k1.nx)
  have zH:b7 l i=(!decide (p.1=[])&&decide (p.1.length<=242)&&!Pe [0,61,10] p.1&&(decide (i=0)||!Wx (l.getD (i - 1) ([],[])).1 p.1)):=by unfold b7;rw[hp]
  by_cases h1:p.1=[]
  ·have d2:decide (p.1=[])=true:=Zd h1
   simp(disch:=first|assumption|omega|(simp -implicitDefEqProofs only[Y3,Y4]<;>first|assumption|omega)|decide) only[t5,t6,t7,d1,eI,gb,eL,sf,g1,Lb,Yf,d2,Wi,Zv,Xc,decide_true,Zj,Zj,Wj,Zn,MD,ZI,Yw,ZG,Yl,Xm,XX,Nat.reducePow,Nat.reduceDiv,Nat.reduceMod,Yt,Vf]
   refine⟨_,_,_,rfl,?_⟩
   exact .inr ⟨by simp,k1,.inl ⟨rfl,rfl,J9 hi (by rw[zH];simp[h1])⟩⟩
  have d2:decide (p.1=[])=false:=Zb h1
  by_cases h2:242<p.1.length
  ·have d3:decide (242<p.1.length)=true:=Zd h2
   simp(disch:=first|assumption|omega|(simp -implicitDefEqProofs only[Y3,Y4]<;>first|assumption|omega)|decide) only[t5,t6,t7,d1,eI,gb,eL,sf,g1,Lb,Yf,d2,d3,Wi,Zv,Yy,Xc,Z0,decide_true,Zj,Zj,Wj,Zn,MD,ZI,Yw,ZG,Yl,Xm,XX,Nat.reducePow,Nat.reduceDiv,Nat.reduceMod,Yt,Vf]
   refine⟨_,_,_,rfl,?_⟩
   exact .inr ⟨by simp,k1,.inl ⟨rfl,rfl,J9 hi (by rw[zH];rw[Zb (show ¬p.1.length<=242 by omega)];simp)⟩⟩
  have d3:decide (242<p.1.length)=false:=Zb h2
  have d3':decide (p.1.length<=242)=true:=Zd (by omega)
  cases hc:Pe [0,61,10] p.1 with
  |true=>
   rw[hc] at e1
   simp(disch:=first|assumption|omega|(simp -implicitDefEqProofs only[Y3,Y4]<;>first|assumption|omega)|decide) only[t5,t6,t7,d1,eI,gb,eL,sf,g1,Lb,Yf,d2,d3,e1,Wi,Zv,Yy,Xc,Z0,decide_true,Zj,Zj,Wj,Zn,MD,ZI,Yw,ZG,Yl,Xm,XX,Nat.reducePow,Nat.reduceDiv,Nat.reduceMod,Yt,Vf]
   refine⟨_,_,_,rfl,?_⟩
   exact .inr ⟨by simp,k1,.inl ⟨rfl,rfl,J9 hi (by rw[zH];rw[hc];simp)⟩⟩
  |false=>
   rw[hc] at e1
   by_cases h0:i=0
   ·have d4:decide (0<i)=false:=Zb (by omega)
    simp(disch:=first|assumption|omega|(simp -implicitDefEqProofs only[Y3,Y4]<;>first|assumption|omega)|decide) only[t5,t6,t7,d1,eI,gb,eL,sf,g1,Lb,Yf,d2,d3,e1,d4,Zv,Yy,Xc,YU,Z0,decide_true,Zj,Zj,Wj,Zn,MD,ZI,Yw,ZG,Yl,Xm,XX,Nat.reducePow,Nat.reduceDiv,Nat.reduceMod,Yt,Vf]
    refine⟨_,_,_,rfl,.inl ⟨rfl,m,by omega,t0',Dj,oK,⟨i+1,rfl,by omega,λq hq=>?_⟩,k1⟩⟩
    obtain rfl:q=i:=by omega
    rw[zH,d2,d3',hc,Zd h0];rfl
   ·have d4:decide (0<i)=true:=Zd (by omega)
    obtain⟨b2,o2,r2,qY,hb2,nM,_,eE2⟩:=hN.at_ (i:=i - 1) (by rw[QZ];omega)
    have bW:H1.t.get b2=some (.row r2):=by rw[kH.get _ hb2 (by simp)];exact nM
    have eF:=λG=>eE2 0 G (by decide)
    rw[Gz (by omega),Zj] at eF
    simp only[Zn] at eF
    cases hg:Wx (l.getD (i - 1) ([],[])).1 p.1 with
    |true=>
     simp(disch:=first|assumption|omega|(simp -implicitDefEqProofs only[Y3,Y4]<;>first|assumption|omega)|decide) only[t0,t5,t6,t7,d1,eI,gb,eL,sf,g1,Lb,Ziq,Yf,d2,d3,e1,d4,qY,bW,eF,hg,Zv,Yy,Xc,Vp,Z0,decide_true,Zj,Zj,geS,Wj,Zn,MD,ZI,Yw,ZG,Yl,Xm,XX,Nat.reducePow,Nat.reduceDiv,Nat.reduceMod,Yt,Vf]
     refine⟨_,_,_,rfl,?_⟩
     exact .inr ⟨by simp,k1,.inl ⟨rfl,rfl,J9 hi (by rw[zH];rw[hg,Zb h0];simp)⟩⟩
    |false=>
     simp(disch:=first|assumption|omega|(simp -implicitDefEqProofs only[Y3,Y4]<;>first|assumption|omega)|decide) only[t0,t5,t6,t7,d1,eI,gb,eL,sf,g1,Lb,Ziq,Yf,d2,d3,e1,d4,qY,bW,eF,hg,Zv,Yy,Xc,Vp,YU,Z0,decide_true,Zj,Zj,geS,Wj,Zn,MD,ZI,Yw,ZG,Yl,Xm,XX,Nat.reducePow,Nat.reduceDiv,Nat.reduceMod,Yt,Vf]
     refine⟨_,_,_,rfl,.inl ⟨rfl,m,by omega,t0',Dj,oK,⟨i+1,rfl,by omega,λq hq=>?_⟩,k1⟩⟩
     by_cases hqi:q=i
     ·rw[hqi,zH,d2,d3',hc,hg];simp
     ·exact hn q (by omega)
theorem rj{Zr:Lib}{fs:T CF}{fuel:Nat}(E:Env Zr fs fuel){n:Nat}{v:AV}{l:List NP}{H:Heap}(hl:l.length<=90000)(hs: ∀i,i<l.length->(l.getD i ([],[])).1.length<=90000)(hro:H.ro<=H.nx)(hN:Sz H 2 v (N0 l)):
  ∃H',ZU (LK Zr fs fuel 5) fs fuel (n+2) 52 [v] H=.ret (.bool (Mr l)) H'∧Zw H H' []:=by
 rw[Z4 (Z3 E.n52 (.inl (by decide)) _ _) E.f52]
 have ln:=hN.len
 rw[QZ] at ln
 simp only[ln,c52,ZI,Yw,Yt]
 generalize hL:XD (MD _) fuel _ _ _=L
 obtain⟨o,Nb,H2,rfl,_,k2,z⟩:=YG (P:=λT=>MAI H v l l.length T H) (Q:=MAQ H v l)
  (λT hi=>YX (MAI H v l) (MAQ H v l) (λm tm H2 h=>Zbf E (by decide) hl hs hro hN _ _ _ _ _ m tm H2 h) fuel l.length T H (by have:=E.big;omega) hi) hL
  (by exact⟨rfl,rfl,rfl,⟨0,rfl,by omega,λj hj=>by omega⟩,Zw.refl _ _⟩)
 rcases z with⟨rfl,t2,e⟩|⟨rfl,t0,e⟩
 ·simp only[Sk] at t2
  rw[e]
  simp only[t2,ZI,ZG,Yt]
  refine⟨_,rfl,?_⟩
  exact k2
 ·simp only[VF] at t0
  rw[e]
  simp only[t0,ln,Xh,ZI,Yw,ZG,Yt,Vf]
  refine⟨_,rfl,?_⟩
  exact k2
theorem Zfz{Zr:Lib}{fs:T CF}{fuel:Nat}(E:Env Zr fs fuel){k n:Nat}(hk:6<=k){v:AV}{l:List NP}{H:Heap}(hl:l.length<=90000)(hs: ∀i,i<l.length->(l.getD i ([],[])).1.length<=90000)(hro:H.ro<=H.nx)(hN:Sz H 2 v (N0 l)):
  ZU (LK Zr fs fuel k) fs fuel (n+1) 52 [v] H=.ret (.bool (Mr l)) H:=by
 obtain⟨H',e,g⟩:=rj E (n:=898) (H:=H) hl hs hro hN
 exact YI (r:=5) rfl rfl e g (rfl) hk
theorem Dq(a b:Int):(a==b)=decide (a=b):=by rw[Vi];simp
theorem Pg(k:IntKind)(a:Int)(b:Nat)(H:Heap):Iz Uk false (.int k a) (nI k b) H=.val (.bool (decide (a=(b:Int)))) H:=by
 show UU (cond (Nl k k) (some (Fc a (Int.ofNat b))) none) _=_
 rw[X3,Pj]
 show So (a==(b:Int)) H=_
 rw[Dq]
 cases decide (a=(b:Int))<;>rfl
theorem SP(k:IntKind)(a:Int)(b:Nat)(H:Heap):Iz Uk true (.int k a) (nI k b) H=.val (.bool (!decide (a=(b:Int)))) H:=by
 show UU (cond (Nl k k) (some (Fc a (Int.ofNat b))) none) _=_
 rw[X3,Pj]
 show So (cond (a==(b:Int)) false true) H=_
 rw[Dq]
 cases decide (a=(b:Int))<;>rfl
theorem NB{eq:AV->AV->Option Bool}{k:AV}{no:OR}{yes:AV->OR}{x:RF}{l:List RF}{t:Bool}(h:eq k x.key=some t):Ur eq k no yes (x::l)=cond t (yes x.val) (Ur eq k no yes l):=by
 rw[Ur,h]
structure Mem where
 path:List UInt8
 kind:Int
 mode:Nat
 uid:Nat
 gid:Nat
 time:Int
 attrs:List NP
 data:List UInt8
 link:List UInt8
def P8(l:List UInt8):List (List AV):=l.map λx=>[XP x]
theorem TI(l:List UInt8):(P8 l).length=l.length:=Zp ..
def yD(H:Heap)(cs:List AV)(m:Mem):Prop:= ∃av dv,cs=[.str m.path,.int .i64 m.kind,nI .u32 m.mode,nI .u32 m.uid,nI .u32 m.gid,.int .i64 m.time,av,dv,.str m.link]∧Sz H 2 av (N0 m.attrs)∧Sz H 1 dv (P8 m.data)
theorem yD.keep{H H':Heap}{cs:List AV}{m:Mem}(h:yD H cs m)(k:Zw H H' []):yD H' cs m:=by
 obtain⟨av,dv,e,h1,h2⟩:=h
 exact⟨av,dv,e,h1.keep0 k,h2.keep0 k⟩
theorem yD.len{H:Heap}{cs:List AV}{m:Mem}(h:yD H cs m):cs.length=9:=by
 obtain⟨av,dv,rfl,_⟩:=h;rfl
structure wj(m:Mem):Prop where
 path:m.path.length<=80000
 attrs:m.attrs.length<=90000
 keys: ∀i,i<m.attrs.length->(m.attrs.getD i ([],[])).1.length<=90000
def bQ(z:Int):Nat:=if z=1 then 53 else if z=2 then 48 else if z=3 then 50 else if z=4 then 54 else 0
theorem lkT(z:Int)(G:Heap):lkO Uk (nI .u8 0) false (some (.cmap tEs)) (.int .i64 z) G=.val (nI .u8 (bQ z)) G:=by
 have e: ∀b:Nat,Uk (.int .i64 z) (nI .i64 b)=some (decide (z=(b:Int))):=λb=>by
  show cond (Nl .i64 .i64) (some (Fc z (Int.ofNat b))) none=_
  rw[X3,Pj];rfl
 show Ur Uk (.int .i64 z) (OR.val (nI .u8 0) G) (λv=>OR.val v G) tEs=_
 unfold tEs bQ
 rw[NB (e 1),NB (e 2),NB (e 3),NB (e 4)]
 by_cases h1:z=1
 ·subst h1;rfl
 by_cases h2:z=2
 ·subst h2;rfl
 by_cases h3:z=3
 ·subst h3;rfl
 by_cases h4:z=4
 ·subst h4;rfl
 rw[Zb (show ¬z=((1:Nat):Int) from h1),if_neg h1,Zb (show ¬z=((2:Nat):Int) from h2),if_neg h2,Zb (show ¬z=((3:Nat):Int) from h3),if_neg h3,Zb (show ¬z=((4:Nat):Int) from h4),if_neg h4]
 rfl
def Wu(m:Mem):Bool:=!decide ((Y8 m.path).1=0)&&!decide (bQ m.kind=0)&&decide (m.mode<=4095)&&Mr m.attrs&&R3 m.link (decide (m.kind=3))&&decide (m.data.length<=16777216)&&(decide (m.kind=2)||decide (m.data.length=0))
theorem qt{Zr:Lib}{fs:T CF}{fuel:Nat}(E:Env Zr fs fuel){n:Nat}{cs:List AV}{m:Mem}{H:Heap}(hs:wj m)(g:PM H)(hm:yD H cs m):
  ∃H',ZU (LK Zr fs fuel 11) fs fuel (n+2) 32 [.agg cs] H=.ret (.bool (Wu m)) H'∧Zw H H' []:=by
 rw[Z4 (Z3 E.n32 (.inl (by decide)) _ _) E.f32]
 obtain⟨av,dv,rfl,hA,hD⟩:=hm
 obtain⟨H1,hH1⟩: ∃G,H.new (rG 28 1 [.str m.path,.int .i64 m.kind,nI .u32 m.mode,nI .u32 m.uid,nI .u32 m.gid,.int .i64 m.time,av,dv,.str m.link] 0 false true true)=G:=⟨_,rfl⟩
 obtain⟨H2,hH2⟩: ∃G,H1.new (rG 26 1 [.int .i64 m.kind,nI .u32 m.mode,nI .u32 m.uid,nI .u32 m.gid,.int .i64 m.time,av,dv,.str m.link] 0 false true true)=G:=⟨_,rfl⟩
 have k1:Zw H H1 []:=by rw[<-hH1];exact Zw.new _ _ _
 have k2:Zw H H2 []:=by rw[<-hH2];exact k1.then_new _
 have g1:H1.t.get H.nx=some (rG 28 1 [.str m.path,.int .i64 m.kind,nI .u32 m.mode,nI .u32 m.uid,nI .u32 m.gid,.int .i64 m.time,av,dv,.str m.link] 0 false true true):=by rw[<-hH1];exact Yi rfl _
 have g2:H2.t.get H1.nx=some (rG 26 1 [.int .i64 m.kind,nI .u32 m.mode,nI .u32 m.uid,nI .u32 m.gid,.int .i64 m.time,av,dv,.str m.link] 0 false true true):=by rw[<-hH2];exact Yi rfl _
 have gP2:=g.keep0 k2
 obtain⟨rT,gT,lT0,lT1⟩:=gP2.t
 have lT: ∀G,ld1 (some (.row rT)) 0 G=.val (.map 12) G:=λG=>by rw[Mq lT0,lT1]
 have eT:=gP2.tm
 have qa:H1.ro<=H1.nx:=by rw[k1.ro];exact ZX g.ro k1.nx
 have sf:=U4 (n:=8) (b:=H1.nx) (l:=[nI .i64 0,nI .u32 0,nI .u32 0,nI .u32 0,nI .i64 0,.nils,.nils,.str []]) (vs:=[.int .i64 m.kind,nI .u32 m.mode,nI .u32 m.uid,nI .u32 m.gid,.int .i64 m.time,av,dv,.str m.link]) (H:=H1.new (rG 26 1 [nI .i64 0,nI .u32 0,nI .u32 0,nI .u32 0,nI .i64 0,.nils,.nils,.str []] 0 false true true)) rfl rfl (by decide) (by show H1.ro<=_;exact qa) 26 1 false true
 rw[Us rfl,hH2] at sf
 have ec:=λ{j}=>jE E (k:=11) (n:=j) (by decide) (s:=m.path) (H:=H1) hs.path (g.keep0 k1)
 have ro2:H2.ro<=H2.nx:=by rw[k2.ro];exact ZX g.ro k2.nx
 have e4:=λ{j}=>Zfz E (k:=11) (n:=j) (by decide) (v:=av) (l:=m.attrs) (H:=H2) hs.attrs hs.keys ro2 (hA.keep0 k2)
 have e5: ∀{j},ZU (LK Zr fs fuel 11) fs fuel (j+1) 53 [.str m.link,.bool (decide (m.kind=((3:Nat):Int)))] H2=.ret (.bool (R3 m.link (decide (m.kind=3)))) H2:=λ{j}=>ZfA E (k:=11) (n:=j) (by decide) (s:=m.link) (is:=decide (m.kind=3)) (H:=H2)
 have ln:=hD.len
 rw[TI] at ln
 by_cases h1:(Y8 m.path).1=0
 ·have d1:decide ((Y8 m.path).1=0)=true:=Zd h1
  rw[show Wu m=false by unfold Wu;simp[h1]]
  simp(disch:=first|assumption|omega|(simp -implicitDefEqProofs only[Y3,Y4]<;>first|assumption|omega)|decide) only[ec,g1,sf,hH1,Yf,Xo,XU,d1,YW,Zj,Zf,Zf,Zj,Y2,Zz,ZA,ZJ,Zn,c32,ZI,Yw,ZG,Yt,Vf]
  refine⟨_,rfl,?_⟩
  exact k2
 have d1:decide ((Y8 m.path).1=0)=false:=Zb h1
 by_cases h2:bQ m.kind=0
 ·have d2:decide (bQ m.kind=0)=true:=Zd h2
  rw[show Wu m=false by unfold Wu;simp[h2]]
  simp(disch:=first|assumption|omega|(simp -implicitDefEqProofs only[Y3,Y4]<;>first|assumption|omega)|decide) only[ec,eT,gT,lT,g1,g2,sf,hH1,lkT,Yf,Xo,XU,d1,d2,YW,Zj,Zf,Zf,Zj,Wv,VY,Y2,Zz,ZA,ZJ,Zn,c32,ZI,Yw,ZG,Yt,Vf]
  refine⟨_,rfl,?_⟩
  exact k2
 have d2:decide (bQ m.kind=0)=false:=Zb h2
 by_cases h3:4095<m.mode
 ·have d3:decide (4095<m.mode)=true:=Zd h3
  have h3': ¬m.mode<=4095:=by omega
  rw[show Wu m=false by unfold Wu;simp[h3']]
  simp(disch:=first|assumption|omega|(simp -implicitDefEqProofs only[Y3,Y4]<;>first|assumption|omega)|decide) only[ec,eT,gT,lT,g1,g2,sf,hH1,lkT,Yf,Xo,XU,d1,d2,d3,Yy,YW,Zj,Zf,Zf,Zj,Wv,VY,Y2,Zz,ZA,ZJ,Zn,Zq,c32,ZI,Yw,ZG,Yt,Vf]
  refine⟨_,rfl,?_⟩
  exact k2
 have d3:decide (4095<m.mode)=false:=Zb h3
 have h3':m.mode<=4095:=by omega
 cases h4:Mr m.attrs with
 |false=>
  rw[h4] at e4
  rw[show Wu m=false by unfold Wu;simp[h4]]
  simp(disch:=first|assumption|omega|(simp -implicitDefEqProofs only[Y3,Y4]<;>first|assumption|omega)|decide) only[ec,eT,gT,lT,g1,g2,sf,hH1,lkT,e4,Yf,Xo,XU,d1,d2,d3,Yy,YW,Zj,Zf,Zf,Zj,Wv,VY,Y2,Zz,ZA,ZJ,Zn,Zq,c32,ZI,Yw,ZG,Yl,Yt,Vf]
  refine⟨_,rfl,?_⟩
  exact k2
 |true=>
  rw[h4] at e4
  cases h5:R3 m.link (decide (m.kind=3)) with
  |false=>
   rw[h5] at e5
   rw[show Wu m=false by unfold Wu;simp[h5]]
   simp(disch:=first|assumption|omega|(simp -implicitDefEqProofs only[Y3,Y4]<;>first|assumption|omega)|decide) only[ec,eT,gT,lT,g1,g2,sf,hH1,lkT,e4,e5,Yf,Xo,XU,d1,d2,d3,Yy,YW,Zj,Zf,Zf,Zj,Wv,VY,Y2,Zz,ZA,ZJ,Zn,Zq,Pg,c32,ZI,Yw,ZG,Yl,Yt,Vf]
   refine⟨_,rfl,?_⟩
   exact k2
  |true=>
   rw[h5] at e5
   by_cases h6: ¬m.data.length<=16777216
   ·have d6:decide (m.data.length<=16777216)=false:=Zb h6
    rw[show Wu m=false by unfold Wu;simp[h6]]
    simp(disch:=first|assumption|omega|(simp -implicitDefEqProofs only[Y3,Y4]<;>first|assumption|omega)|decide) only[ec,eT,gT,lT,g1,g2,sf,hH1,lkT,e4,e5,ln,Yf,Xo,XU,d1,d2,d3,d6,Wi,Xh,Yy,YW,Zj,Zf,Zf,Zj,Wv,VY,Y2,Zz,ZA,ZJ,Zn,Zq,Pg,c32,ZI,Yw,ZG,Yl,Yt,Vf]
    refine⟨_,rfl,?_⟩
    exact k2
   have h6:=Decidable.not_not.1 h6
   have d6:decide (m.data.length<=16777216)=true:=Zd h6
   by_cases h7:m.kind=2
   ·have d7:decide (m.kind=((2:Nat):Int))=true:=Zd h7
    rw[show Wu m=true by unfold Wu;rw[h5];simp[h1,h3',h4,h6,h7];rw[<-h7];exact h2]
    simp(disch:=first|assumption|omega|(simp -implicitDefEqProofs only[Y3,Y4]<;>first|assumption|omega)|decide) only[ec,eT,gT,lT,g1,g2,sf,hH1,lkT,e4,e5,ln,Yf,Xo,XU,d1,d2,d3,d6,d7,Xh,Yy,YW,Zj,Zf,Zf,Zj,Wv,VY,Y2,Zz,ZA,ZJ,Zn,Zq,Pg,c32,ZI,Yw,ZG,Yl,Yt,Vf]
    refine⟨_,rfl,?_⟩
    exact k2
   have d7:decide (m.kind=((2:Nat):Int))=false:=Zb h7
   by_cases h8:m.data.length=0
   ·have d8:decide (m.data.length=0)=true:=Zd h8
    rw[show Wu m=true by unfold Wu;rw[h5];simp[h1,h2,h3',h4,h7,h8]]
    simp(disch:=first|assumption|omega|(simp -implicitDefEqProofs only[Y3,Y4]<;>first|assumption|omega)|decide) only[ec,eT,gT,lT,g1,g2,sf,hH1,lkT,e4,e5,ln,Yf,Xo,XU,d1,d2,d3,d6,d7,d8,Xh,Yy,YW,Zj,Zf,Zf,Zj,Wv,VY,Y2,Zz,ZA,ZJ,Zn,Zq,Pg,c32,ZI,Yw,ZG,Yl,Yt,Vf]
    refine⟨_,rfl,?_⟩
    exact k2
   have d8:decide (m.data.length=0)=false:=Zb h8
   rw[show Wu m=false by unfold Wu;rw[d8,Zb h7];simp]
   simp(disch:=first|assumption|omega|(simp -implicitDefEqProofs only[Y3,Y4]<;>first|assumption|omega)|decide) only[ec,eT,gT,lT,g1,g2,sf,hH1,lkT,e4,e5,ln,Yf,Xo,XU,d1,d2,d3,d6,d7,d8,Xh,Yy,YW,Zj,Zf,Zf,Zj,Wv,VY,Y2,Zz,ZA,ZJ,Zn,Zq,Pg,c32,ZI,Yw,ZG,Yl,Yt,Vf]
   refine⟨_,rfl,?_⟩
   exact k2
theorem Zgp{Zr:Lib}{fs:T CF}{fuel:Nat}(E:Env Zr fs fuel){k n:Nat}(hk:12<=k){cs:List AV}{m:Mem}{H:Heap}(hs:wj m)(g:PM H)(hm:yD H cs m):
  ZU (LK Zr fs fuel k) fs fuel (n+1) 32 [.agg cs] H=.ret (.bool (Wu m)) H:=by
 obtain⟨H',e,g⟩:=qt E (n:=898) (H:=H) hs g hm
 exact YI (r:=11) rfl rfl e g (rfl) hk
end
end Go.AI
