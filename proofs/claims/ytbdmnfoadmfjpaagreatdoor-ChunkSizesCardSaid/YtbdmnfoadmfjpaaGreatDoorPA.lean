/- What may be a path, and what it stands for: walked: proved without conditions but those that each names. -/
import Derived.Test.YtbdmnfoadmfjpaaGreatDoorP9
import Derived.Test.YtbdmnfoadmfjpaaGreatDoorP8
import Derived.Test.YtbdmnfoadmfjpaaGreatDoorP7
import Derived.Test.YtbdmnfoadmfjpaaGreatDoorP6
set_option maxRecDepth 1000000
set_option maxHeartbeats 0
set_option linter.unusedVariables false
set_option linter.unusedSimpArgs false
namespace Go.AI
open Go
noncomputable section
theorem Xg(G:Heap):Te Re Vi (.int .i64 (.negSucc 0)) (nI .i64 0) G=.val (.bool false) G:=rfl
theorem ZaM:Px [47,0]:=⟨by decide,by decide,by decide⟩
theorem aB{Zo:Lib}{fs:T CF}{fuel:Nat}(E:Env Zo fs fuel){n:Nat}{s:List UInt8}{H:Heap}(hs:s.length<=90000)(hro:H.ro<=H.nx):
  ∃H',Z8 (LK Zo fs fuel 5) fs fuel (n+2) 33 [.str s] H=.ret (.bool (Wy s)) H'∧ZE H H' []:=by
 rw[Z7 (Z2 E.n33 (.inl (by decide)) _ _) E.f33]
 have e1:=λ{j}=>eO E (k:=5) (n:=j) (by decide) (s:=s) (H:=H) ZaM hs hro
 have e2:=λ{j}=>ZjU E (k:=5) (n:=j) (by decide) (s:=s) (p:=[46,119,104,46]) (H:=H) hs
 by_cases h1:s=[]
 ·have dh1:decide (s=[])=true:=Zj h1
  rw[show Wy s=false by unfold Wy jm ya whS;simp[h1]]
  simp only[dh1,Xa,c33,Yf,Xr,ZV,Yv,Xq]
  refine⟨_,rfl,?_⟩
  exact ZE.refl _ _
 have dh1:decide (s=[])=false:=Ze h1
 by_cases h2: ¬s.length<=251
 ·have dh2:decide (s.length<=251)=false:=Ze h2
  rw[show Wy s=false by unfold Wy jm ya whS;simp[h2]]
  simp only[dh2,dh1,ZK,Xa,ZP,c33,Yf,Xr,ZV,Yv,Xq]
  refine⟨_,rfl,?_⟩
  exact ZE.refl _ _
 have h2:=Decidable.not_not.1 h2
 have dh2:decide (s.length<=251)=true:=Zj h2
 by_cases h3:s=[46]
 ·have dh3:decide (s=[46])=true:=Zj h3
  rw[show Wy s=false by unfold Wy jm ya whS;simp[h3]]
  simp only[dh3,dh1,dh2,ZK,Xa,ZP,c33,Yf,Xr,ZV,Yv,Xq]
  refine⟨_,rfl,?_⟩
  exact ZE.refl _ _
 have dh3:decide (s=[46])=false:=Ze h3
 by_cases h4:s=[46,46]
 ·have dh4:decide (s=[46,46])=true:=Zj h4
  rw[show Wy s=false by unfold Wy jm ya whS;simp[h4]]
  simp only[dh4,dh1,dh2,dh3,ZK,Xa,ZP,c33,Yf,Xr,ZV,Yv,Xq]
  refine⟨_,rfl,?_⟩
  exact ZE.refl _ _
 have dh4:decide (s=[46,46])=false:=Ze h4
 cases ha:Jj [47,0] s with
 |true=>
  rw[ha] at e1
  rw[show Wy s=false by unfold Wy;simp[ha]]
  simp only[dh1,dh2,dh3,dh4,e1,ZK,Xa,ZP,c33,Yf,Xr,ZV,Yv,Xq]
  refine⟨_,rfl,?_⟩
  exact ZE.refl _ _
 |false=>
  rw[ha] at e1
  cases hb:zB [46,119,104,46] s with
  |true=>
   rw[hb] at e2
   rw[show Wy s=false by unfold Wy whS;simp[hb]]
   simp only[dh1,dh2,dh3,dh4,e1,e2,ZK,Xa,ZP,c33,Yf,Xr,ZV,Yv,Xq]
   refine⟨_,rfl,?_⟩
   exact ZE.refl _ _
  |false=>
   rw[hb] at e2
   rw[show Wy s=true by unfold Wy jm ya whS;simp[h1,h2,h3,h4,ha,hb]]
   simp only[dh1,dh2,dh3,dh4,e1,e2,ZK,Xa,ZP,c33,Yf,Xr,ZV,Yv,Xq]
   refine⟨_,rfl,?_⟩
   exact ZE.refl _ _
theorem ZkG{Zo:Lib}{fs:T CF}{fuel:Nat}(E:Env Zo fs fuel){k n:Nat}(hk:6<=k){s:List UInt8}{H:Heap}(hs:s.length<=90000)(hro:H.ro<=H.nx):
  Z8 (LK Zo fs fuel k) fs fuel (n+1) 33 [.str s] H=.ret (.bool (Wy s)) H:=by
 obtain⟨H',e,g⟩:=aB E (n:=898) (H:=H) hs hro
 exact Xp (r:=5) rfl rfl e g (rfl) hk
theorem aA{Zo:Lib}{fs:T CF}{fuel:Nat}(E:Env Zo fs fuel){n:Nat}{s:List UInt8}{H:Heap}(hs:s.length<=90000)(hro:H.ro<=H.nx):
  ∃H',Z8 (LK Zo fs fuel 6) fs fuel (n+2) 57 [.str s] H=.ret (.bool (!Wy s)) H'∧ZE H H' []:=by
 rw[Z7 (Z2 E.n57 (.inl (by decide)) _ _) E.f57]
 have e1:=λ{j}=>ZkG E (k:=6) (n:=j) (by decide) (s:=s) (H:=H) hs hro
 simp only[e1,c57,Yf,Xr,ZV,Xq]
 refine⟨_,rfl,?_⟩
 exact ZE.refl _ _
theorem ZoY{Zo:Lib}{fs:T CF}{fuel:Nat}(E:Env Zo fs fuel){k n:Nat}(hk:7<=k){s:List UInt8}{H:Heap}(hs:s.length<=90000)(hro:H.ro<=H.nx):
  Z8 (LK Zo fs fuel k) fs fuel (n+1) 57 [.str s] H=.ret (.bool (!Wy s)) H:=by
 obtain⟨H',e,g⟩:=aA E (n:=898) (H:=H) hs hro
 exact Xp (r:=6) rfl rfl e g (rfl) hk
structure IFI(v:AV)(l:List (List UInt8))(H0:Heap)(m:Nat)(tm:TM)(H:Heap):Prop where
 heap:H=H0
 t0:Y3 tm=v
 t1:Wv tm=.func 57 [] []
 t7:WH tm=nI .i64 l.length
 i: ∃i,WD tm=nI .i64 i∧i+m=l.length∧ ∀j,j<i->Wy (l.getD j [])=true
def IFQ(l:List (List UInt8))(H0:Heap)(o:Out)(tm:TM)(H:Heap):Prop:=H=H0∧((o=.ret∧ ∃p,XQ tm=nI .i64 p∧l.all Wy=false)∨(o=.exit 0∧l.all Wy=true))
theorem Zf2{l:List (List UInt8)}:(∀j,j<l.length->Wy (l.getD j [])=true)->l.all Wy=true:=λh=>by
 rw[Y6]
 intro x hx
 obtain⟨i,hi,rfl⟩:=Hl hx
 have:=h i hi
 rwa [Zf,Zn hi] at this
theorem Zd0{l:List (List UInt8)}{i:Nat}(hi:i<l.length)(h:Wy (l.getD i [])=false):l.all Wy=false:=by
 rw[Bool.eq_false_iff]
 intro e
 rw[Y6] at e
 have:=e _ (WN hi)
 rw[Zf,Zn hi] at h
 have h:Wy l[i]=false:=h
 rw[h] at this;cases this
theorem Zdc{Zo:Lib}{fs:T CF}{fuel:Nat}(E:Env Zo fs fuel){n k:Nat}(hk:7<=k){v:AV}{l:List (List UInt8)}(hl:l.length<=90000)(hs: ∀i,i<l.length->(l.getD i []).length<=90000){H0:Heap}(hro:H0.ro<=H0.nx)(hN:wg H0 v l)(y f dd q)(X0:X)(m:Nat)(tm:TM)(H:Heap)(hI:IFI v l H0 m tm H):
  ∃o tm' H',Ed ⟨Z8 (LK Zo fs fuel k) fs fuel (n+1),y,f,dd,q⟩ tm H X0=.ok o tm' H' X0∧((o=.normal∧ ∃k,k<m∧IFI v l H0 k tm' H')∨(o≠.normal∧IFQ l H0 o tm' H')):=by
 obtain⟨rfl,t0,t1,t7,i,t8,him,hn⟩:=hI
 have t0':=t0;have t1':=t1;have Cs:=t7
 simp only[Um] at t0
 simp only[Mi] at t1
 simp only[LG] at t7
 simp only[HH] at t8
 cases m with
 |zero=>
  have d1:decide (i<l.length)=false:=Ze (by omega)
  simp only[t7,t8,d1,Zy,Ed,Yf,Xr,Xq]
  refine⟨_,_,_,rfl,?_⟩
  exact .inr ⟨by simp,rfl,.inr ⟨rfl,Zf2 λj hj=>hn j (by omega)⟩⟩
 |succ m=>
  have d1:decide (i<l.length)=true:=Zj (by omega)
  have hi:i<l.length:=by omega
  rcases hN with⟨_,rfl⟩|⟨b,rfl,_,r,g,hz,hsz,how,hb,hg⟩
  ·simp at hi
  ·have hir:i<r.size:=by omega
   have gi:=hg i hi
   have e1:=λ{j}=>ZoY E (k:=k) (n:=j) hk (H:=H) (hs i hi) hro
   cases hm:Wy (l.getD i []) with
   |true=>
    rw[hm] at e1
    simp(disch:=omega) only[t0,t1,t7,t8,d1,g,gi,e1,Zy,Yy,Zb,Z6,Zx,Zr,Y8,ZY,Zb,Ed,Yf,Xr,ZV,Yv,Xq]
    refine⟨_,_,_,rfl,.inl ⟨rfl,m,by omega,rfl,t0',t1',Cs,i+1,rfl,by omega,λj hj=>?_⟩⟩
    by_cases h:j=i
    ·rw[h];exact hm
    ·exact hn j (by omega)
   |false=>
    rw[hm] at e1
    simp(disch:=omega) only[t0,t1,t7,t8,d1,g,gi,e1,Zy,Zb,Z6,Zx,Zr,Y8,ZY,Zb,Ed,Yf,Xr,ZV,Yv,Xq]
    refine⟨_,_,_,rfl,?_⟩
    exact .inr ⟨by simp,rfl,.inl ⟨rfl,i,rfl,Zd0 hi hm⟩⟩
theorem ZoE{Zo:Lib}{fs:T CF}{fuel:Nat}(E:Env Zo fs fuel){n k:Nat}(hk:7<=k){v:AV}{l:List (List UInt8)}(hl:l.length<=90000)(hs: ∀i,i<l.length->(l.getD i []).length<=90000){H:Heap}(hro:H.ro<=H.nx)(hN:wg H v l):
  ∃w,Z8 (LK Zo fs fuel k) fs fuel (n+2) 76 [v,.func 57 [] []] H=.ret w H∧((l.all Wy=false∧ ∃p,w=nI .i64 p)∨(l.all Wy=true∧w=.int .i64 (.negSucc 0))):=by
 rw[Z7 (Z2 E.n76 (.inr rfl) _ _) E.f76]
 have ln:=hN.len
 simp only[ln,c76,Yf,Xr,Xq]
 generalize hL:WP (Ed _) fuel _ _ _=L
 obtain⟨o,KO,H2,rfl,_,rfl,z⟩:=Wd (P:=λT=>IFI v l H l.length T H) (Q:=IFQ l H)
  (λT hi=>Wo (IFI v l H) (IFQ l H) (λm tm H2 h=>Zdc E hk hl hs hro hN _ _ _ _ _ m tm H2 h) fuel l.length T H (by have:=E.big;omega) hi) hL
  (by exact⟨rfl,rfl,rfl,rfl,0,rfl,by omega,λj hj=>by omega⟩)
 rcases z with⟨rfl,p,t4,e⟩|⟨rfl,e⟩
 ·simp only[TG] at t4
  simp only[t4,Yf,ZV,Xq]
  refine⟨_,rfl,?_⟩
  exact .inl ⟨e,p,rfl⟩
 ·
  simp only[Yf,Xr,ZV,Xq]
  refine⟨_,rfl,?_⟩
  exact .inr ⟨e,rfl⟩
theorem Znj{Zo:Lib}{fs:T CF}{fuel:Nat}(E:Env Zo fs fuel){n k:Nat}(hk:7<=k){v:AV}{l:List (List UInt8)}(hl:l.length<=90000)(hs: ∀i,i<l.length->(l.getD i []).length<=90000){H:Heap}(hro:H.ro<=H.nx)(hN:wg H v l):
  Z8 (LK Zo fs fuel k) fs fuel (n+3) 56 [v,.func 57 [] []] H=.ret (.bool (!l.all Wy)) H:=by
 rw[Z7 (Z2 E.n56 (.inr rfl) _ _) E.f56]
 obtain⟨w,e1,h⟩:=ZoE E (n:=n) hk hl hs hro hN
 rcases h with⟨h,p,rfl⟩|⟨h,rfl⟩
 ·have d1:decide (0<=p)=true:=Zj (ZB _)
  rw[h]
  simp only[e1,ZM,ZB,decide_true,c56,Yf,Xr,ZV,Yv,Xq]
 ·rw[h]
  simp only[e1,Xg,c56,Yf,Xr,ZV,Yv,Xq]
theorem M7: ∀(s:List UInt8) (x:List UInt8),x∈UI s->x.length<=s.length
 |[],x,h=>by
  have:x=[]:=by simpa [UI] using h
  rw[this];exact Zq _
 |c::s,x,h=>by
  rw[UI] at h
  rw[Zl]
  split at h
  ·rcases Yi.1 h with rfl|h
   ·exact ZB _
   ·have:=M7 s x h;omega
  ·split at h
   ·rename_i e;exact absurd e (FF s)
   ·rename_i a b e
    rcases Yi.1 h with rfl|h
    ·have:=M7 s a (by rw[e];exact ZF ..)
     rw[Zl];omega
    ·have:=M7 s x (by rw[e];exact ZQ _ h);omega
theorem tO{s x:List UInt8}(h:x∈Pa s):x.length<=s.length:=by
 unfold Pa at h
 split at h
 ·cases h
 ·exact M7 s x h
theorem ik(s:List UInt8):(Pa s).length<=s.length+1:=by
 unfold Pa
 split
 ·exact ZB _
 ·rw[OJ];have:=wB 47 s;omega
theorem Zae{Zo:Lib}{fs:T CF}{fuel:Nat}(E:Env Zo fs fuel){n:Nat}{s:List UInt8}{H:Heap}(hs:s.length<=89000)(hro:H.ro<=H.nx):
  ∃H',Z8 (LK Zo fs fuel 9) fs fuel (n+6) 32 [.str s] H=.ret (.bool (HN s)) H'∧ZE H H' []:=by
 rw[Z7 (Z2 E.n32 (.inl (by decide)) _ _) E.f32]
 obtain⟨v,H1,e1,hN,k1⟩:=pU E (k:=9) (n:=n+1) (by decide) (s:=s) (by omega) hro
 have ln:=hN.len
 have nl:=ik s
 have e2:=λ{j}=>Znj E (k:=9) (n:=j) (by decide) (v:=v) (l:=Pa s) (by omega) (λi hi=>by
  have:(Pa s).getD i []∈Pa s:=by rw[Zf,Zn hi];exact WN hi
  have:=tO this;omega) (by rw[k1.ro];exact Yl hro k1.nx) hN
 by_cases h1:s.length<=4080
 ·have d1:decide (s.length<=4080)=true:=Zj h1
  by_cases h2:(Pa s).length<255
  ·have d2:decide ((Pa s).length<255)=true:=Zj h2
   cases hm:(Pa s).all Wy with
   |true=>
    rw[hm] at e2
    rw[show HN s=true by unfold HN;simp only[hm,h1,h2];rfl]
    simp only[e1,ln,d1,d2,e2,ZK,Zy,ZP,c32,Yf,Xr,ZV,Yv,Xq]
    refine⟨_,rfl,?_⟩
    exact k1
   |false=>
    rw[hm] at e2
    rw[show HN s=false by unfold HN;simp only[hm,Bool.and_false]]
    simp only[e1,ln,d1,d2,e2,ZK,Zy,ZP,c32,Yf,Xr,ZV,Yv,Xq]
    refine⟨_,rfl,?_⟩
    exact k1
  ·have d2:decide ((Pa s).length<255)=false:=Ze h2
   rw[show HN s=false by unfold HN;rw[d2,Bool.and_false];rfl]
   simp only[e1,ln,d1,d2,ZK,Zy,ZP,c32,Yf,Xr,ZV,Xq]
   refine⟨_,rfl,?_⟩
   exact k1
 ·have d1:decide (s.length<=4080)=false:=Ze h1
  rw[show HN s=false by unfold HN;rw[d1];rfl]
  simp only[e1,d1,ZK,ZP,c32,Yf,Xr,ZV,Xq]
  refine⟨_,rfl,?_⟩
  exact k1
theorem Zo8{Zo:Lib}{fs:T CF}{fuel:Nat}(E:Env Zo fs fuel){k n:Nat}(hk:10<=k){s:List UInt8}{H:Heap}(hs:s.length<=89000)(hro:H.ro<=H.nx):
  Z8 (LK Zo fs fuel k) fs fuel (n+1) 32 [.str s] H=.ret (.bool (HN s)) H:=by
 obtain⟨H',e,g⟩:=Zae E (n:=894) (H:=H) hs hro
 exact Xp (r:=9) rfl rfl e g (rfl) hk
def cEs:List RF:=[⟨nI .i64 1,.func 147 [] [],0⟩,⟨nI .i64 2,.func 148 [] [],0⟩,⟨nI .i64 3,.func 149 [] [],0⟩]
def tEs:List RF:=[⟨nI .i64 1,nI .u8 53,0⟩,⟨nI .i64 2,nI .u8 48,0⟩,⟨nI .i64 3,nI .u8 50,0⟩,⟨nI .i64 4,nI .u8 54,0⟩]
structure N3(H:Heap):Prop where
 nx:100<=H.nx
 ro:H.ro<=H.nx
 c: ∃r,H.t.get 0=some (.row r)∧0<r.size∧r.get 0=.map 11
 cm:H.t.get 11=some (.cmap cEs)
 t: ∃r,H.t.get 1=some (.row r)∧0<r.size∧r.get 0=.map 12
 tm:H.t.get 12=some (.cmap tEs)
theorem N3.keep{H H':Heap}{S:List Nat}(g:N3 H)(k:ZE H H' S)(hS: ∀x∈S,100<=x):N3 H':=by
 obtain⟨a,b,⟨r,c1,c2,c3⟩,d,⟨q,e1,e2,e3⟩,f⟩:=g
 have kk:=λx (hx:x<100)=>k.get x (by omega) (λh=>by have:=hS x h;omega)
 exact⟨Yl a k.nx,by rw[k.ro];exact Yl b k.nx,⟨r,by rw[kk _ (by decide)];exact c1,c2,c3⟩,by rw[kk _ (by decide)];exact d,⟨q,by rw[kk _ (by decide)];exact e1,e2,e3⟩,by rw[kk _ (by decide)];exact f⟩
theorem N3.keep0{H H':Heap}(g:N3 H)(k:ZE H H' []):N3 H':=g.keep k (by simp)
theorem ZdH(G:Heap):lkO UB .nilf false (some (.cmap cEs)) (nI .i64 1) G=.val (.func 147 [] []) G:=rfl
theorem aj(G:Heap):lkO UB .nilf false (some (.cmap cEs)) (nI .i64 2) G=.val (.func 148 [] []) G:=rfl
theorem Zhm(G:Heap):lkO UB .nilf false (some (.cmap cEs)) (nI .i64 3) G=.val (.func 149 [] []) G:=rfl
theorem ZdX(d:List UInt8):(vw d).length<=d.length:=by
 unfold vw
 split
 ·rw[Z4];omega
 ·exact Zq _
theorem Gs(p:List UInt8):(RJ p).length+(VR p).length=p.length:=by
 unfold RJ VR
 rw[Z4,YW];omega
theorem lF{b:List UInt8}(h:NB b=2):4<=b.length:=by
 unfold NB at h
 split at h
 ·cases h
 ·split at h
  ·rename_i e
   unfold zB whS at e
   rw[Xn] at e
   exact Zp e.1
  ·cases h
theorem gX(p:List UInt8):(Q2 p).length<=p.length:=by
 have h:=Gs p
 unfold Q2
 split
 ·rw[Zm];omega
 ·split
  ·rw[Zm,YW];omega
  ·have:=ZdX (RJ p);omega
theorem qL{Zo:Lib}{fs:T CF}{fuel:Nat}(E:Env Zo fs fuel){n:Nat}{s:List UInt8}{H:Heap}(hs:s.length<=80000)(g:N3 H):
  ∃H',Z8 (LK Zo fs fuel 10) fs fuel (n+2) 18 [.str s] H=.ret (.tup [nI .i64 (WB s).1,.str (WB s).2]) H'∧ZE H H' []:=by
 rw[Z7 (Z2 E.n18 (.inl (by decide)) _ _) E.f18]
 have e1:=λ{j}=>base E (k:=10) (n:=j) (by decide) (s:=s) (H:=H) (by omega)
 have e2:=λ{j}=>Zkz E (k:=10) (n:=j) (by decide) (s:=VR s) (H:=H) (by have:=Gs s;omega)
 have e3:=λ{j}=>ZfR E (k:=10) (n:=j) (by decide) (s:=s) (p:=VR s) (H:=H) (by omega)
 rw[fh] at e3
 have e4:=λ{j}=>Zo8 E (k:=10) (n:=j) (by decide) (s:=Q2 s) (H:=H) (by have:=gX s;omega) g.ro
 have e6:=λ{j}=>ZkG E (k:=10) (n:=j) (by decide) (s:=(VR s).drop 4) (H:=H) (by rw[YW];have:=Gs s;omega) g.ro
 have nq1:decide (1≠3)=true:=rfl
 have nq2:decide (2≠3)=true:=rfl
 have nq3:decide (3≠3)=false:=rfl
 obtain⟨r,g1,g2,g3⟩:=g.c
 have ld: ∀G,ld1 (some (.row r)) 0 G=.val (.map 11) G:=λG=>by rw[Y8 g2,g3]
 have gm:=g.cm
 have bd:=Gs s
 obtain⟨l1,l3⟩:=Zdz (VR s)
 by_cases h0:s=[46,119,104,46,46,119,104,46,116,111,99]
 ·have d0:decide (s=[46,119,104,46,46,119,104,46,116,111,99])=true:=Zj h0
  rw[show WB s=(4,[]) by unfold WB Zig;simp[h0]]
  simp only[d0,YE,c18,Yf,Xr,ZV,Xq]
  refine⟨_,rfl,?_⟩
  exact ZE.refl _ _
 have d0:decide (s=[46,119,104,46,46,119,104,46,116,111,99])=false:=Ze h0
 have h0': ¬s=Zig:=h0
 have hcl:NB (VR s)=1∨NB (VR s)=2∨NB (VR s)=3:=by omega
 rcases hcl with hc|hc|hc
 ·rw[hc] at e2
  have ht:Q2 s=RJ s++VR s:=by unfold Q2;simp[hc]
  rw[ht] at e4
  have e5:=λ{j}=>Zgh E (k:=10) (n:=j) (by decide) (a:=RJ s) (s:=VR s) (H:=H) (by omega)
  cases hm:HN (RJ s++VR s) with
  |false=>
   rw[hm] at e4
   rw[show WB s=(0,[]) by unfold WB F2;simp[h0',ht,hm,hc]]
   simp only[d0,e1,e2,e3,e4,e5,g1,ld,gm,ZdH,Yx,YE,Z6,Zx,Zr,ZD,ZR,c18,Yf,Xr,ZV,Yv,Xq,TB]
   refine⟨_,rfl,?_⟩
   exact ZE.refl _ _
  |true=>
   rw[hm] at e4
   by_cases hz:RJ s++VR s=[]
   ·have dz:decide (RJ s++VR s=[])=true:=Zj hz
    have hz2:HN []=true:=by rw[<-hz];exact hm
    rw[show WB s=(0,[]) by unfold WB F2;rw[ht,dz];simp[h0',hc]]
    simp only[nq1,d0,e1,e2,e3,e4,e5,g1,ld,gm,ZdH,dz,Yx,Y7,YE,Z6,Zx,Zr,ZD,ZR,c18,Yf,Xr,ZV,Yv,Xq,TB]
    refine⟨_,rfl,?_⟩
    exact ZE.refl _ _
   ·have dz:decide (RJ s++VR s=[])=false:=Ze hz
    by_cases hd:RJ s=[47]
    ·have dd:decide (RJ s=[47])=true:=Zj hd
     rw[show WB s=(0,[]) by unfold WB F2;simp[h0',ht,hc, -List.append_eq_nil_iff,hd]]
     simp only[nq1,d0,e1,e2,e3,e4,e5,g1,ld,gm,ZdH,dz,dd,YN,Y7,YE,Nat.reduceEqDiff,decide_false,Z6,Zx,Zr,ZD,ZR,c18,Yf,Xr,ZV,Yv,Nat.reduceEqDiff,Xq,TB]
     refine⟨_,rfl,?_⟩
     exact ZE.refl _ _
    ·have dd:decide (RJ s=[47])=false:=Ze hd
     rw[show WB s=(1,RJ s++VR s) by unfold WB F2;simp[h0',ht,hm,hc, -List.append_eq_nil_iff,hz,hd]]
     simp only[nq1,d0,e1,e2,e3,e4,e5,g1,ld,gm,ZdH,dz,dd,YN,Y7,YE,Nat.reduceEqDiff,decide_false,Z6,Zx,Zr,ZD,ZR,c18,Yf,Xr,ZV,Yv,Nat.reduceEqDiff,Xq,TB]
     refine⟨_,rfl,?_⟩
     exact ZE.refl _ _
 ·rw[hc] at e2
  have ht:Q2 s=RJ s++(VR s).drop 4:=by unfold Q2;simp[hc]
  rw[ht] at e4
  have e5:=λ{j}=>Zgi E (k:=10) (n:=j) (by decide) (a:=RJ s) (s:=VR s) (H:=H) (by omega) (lF hc)
  have hp4:=lF hc
  cases hm:HN (RJ s++(VR s).drop 4) with
  |false=>
   rw[hm] at e4
   rw[show WB s=(0,[]) by unfold WB F2;simp[h0',ht,hm,hc]]
   simp only[d0,e1,e2,e3,e4,e5,g1,ld,gm,aj,Yx,YE,Z6,Zx,Zr,ZD,ZR,c18,Yf,Xr,ZV,Yv,Xq,TB]
   refine⟨_,rfl,?_⟩
   exact ZE.refl _ _
  |true=>
   rw[hm] at e4
   by_cases hz:RJ s++(VR s).drop 4=[]
   ·have dz:decide (RJ s++(VR s).drop 4=[])=true:=Zj hz
    rw[show WB s=(0,[]) by unfold WB F2;rw[ht,dz];simp[h0',hc]]
    simp only[nq2,d0,e1,e2,e3,e4,e5,g1,ld,gm,aj,dz,Yx,Y7,YE,Z6,Zx,Zr,ZD,ZR,c18,Yf,Xr,ZV,Yv,Xq,TB]
    refine⟨_,rfl,?_⟩
    exact ZE.refl _ _
   ·have dz:decide (RJ s++(VR s).drop 4=[])=false:=Ze hz
    cases hn:Wy ((VR s).drop 4) with
    |false=>
     rw[hn] at e6
     rw[show WB s=(0,[]) by unfold WB F2;simp[h0',ht,hm,hc,hn]]
     simp(disch:=omega) only[nq2,d0,e1,e2,e3,e4,e5,g1,ld,gm,aj,dz,e6,YN,Y7,YE,Ya,decide_true,Z6,Zx,Zr,ZD,ZR,c18,Yf,Xr,ZV,Yv,Xq,TB]
     refine⟨_,rfl,?_⟩
     exact ZE.refl _ _
    |true=>
     rw[hn] at e6
     by_cases hd:RJ s=[47]
     ·have dd:decide (RJ s=[47])=true:=Zj hd
      rw[show WB s=(0,[]) by unfold WB F2;simp[h0',ht,hc,hn, -List.append_eq_nil_iff,hd]]
      simp(disch:=omega) only[nq2,d0,e1,e2,e3,e4,e5,g1,ld,gm,aj,dz,e6,dd,YN,Y7,YE,Ya,decide_true,Z6,Zx,Zr,ZD,ZR,c18,Yf,Xr,ZV,Yv,Xq,TB]
      refine⟨_,rfl,?_⟩
      exact ZE.refl _ _
     ·have dd:decide (RJ s=[47])=false:=Ze hd
      rw[show WB s=(2,RJ s++(VR s).drop 4) by unfold WB F2;simp[h0',ht,hm,hc,hn, -List.append_eq_nil_iff,hz,hd]]
      simp(disch:=omega) only[nq2,d0,e1,e2,e3,e4,e5,g1,ld,gm,aj,dz,e6,dd,YN,Y7,YE,Ya,decide_true,Z6,Zx,Zr,ZD,ZR,c18,Yf,Xr,ZV,Yv,Xq,TB]
      refine⟨_,rfl,?_⟩
      exact ZE.refl _ _
 ·rw[hc] at e2
  have ht:Q2 s=vw (RJ s):=by unfold Q2;simp[hc]
  rw[ht] at e4
  have e5:=λ{j}=>Zgj E (k:=10) (n:=j) (by decide) (a:=RJ s) (s:=VR s) (H:=H) (by omega)
  cases hm:HN (vw (RJ s)) with
  |false=>
   rw[hm] at e4
   rw[show WB s=(0,[]) by unfold WB F2;simp[h0',ht,hm,hc]]
   simp only[d0,e1,e2,e3,e4,e5,g1,ld,gm,Zhm,Yx,YE,Z6,Zx,Zr,ZD,ZR,c18,Yf,Xr,ZV,Yv,Xq,TB]
   refine⟨_,rfl,?_⟩
   exact ZE.refl _ _
  |true=>
   rw[hm] at e4
   by_cases hd:RJ s=[47]
   ·have dd:decide (RJ s=[47])=true:=Zj hd
    rw[show WB s=(0,[]) by unfold WB F2;simp[h0',ht,hc,hd]]
    simp only[nq3,d0,e1,e2,e3,e4,e5,g1,ld,gm,Zhm,dd,YN,Y7,YE,Nat.reduceEqDiff,decide_false,Z6,Zx,Zr,ZD,ZR,c18,Yf,Xr,ZV,Yv,Nat.reduceEqDiff,Xq,TB]
    refine⟨_,rfl,?_⟩
    exact ZE.refl _ _
   ·have dd:decide (RJ s=[47])=false:=Ze hd
    rw[show WB s=(3,vw (RJ s)) by unfold WB F2;simp[h0',ht,hm,hc,hd]]
    simp only[nq3,d0,e1,e2,e3,e4,e5,g1,ld,gm,Zhm,dd,YN,Y7,YE,Nat.reduceEqDiff,decide_false,Z6,Zx,Zr,ZD,ZR,c18,Yf,Xr,ZV,Yv,Nat.reduceEqDiff,Xq,TB]
    refine⟨_,rfl,?_⟩
    exact ZE.refl _ _
theorem eK{Zo:Lib}{fs:T CF}{fuel:Nat}(E:Env Zo fs fuel){k n:Nat}(hk:11<=k){s:List UInt8}{H:Heap}(hs:s.length<=80000)(g:N3 H):
  Z8 (LK Zo fs fuel k) fs fuel (n+1) 18 [.str s] H=.ret (.tup [nI .i64 (WB s).1,.str (WB s).2]) H:=by
 obtain⟨H',e,g⟩:=qL E (n:=898) (H:=H) hs g
 exact Xp (r:=10) rfl rfl e g (rfl) hk
theorem WY{b:Bool}{k:OR}{v:AV}{H:Heap}(h:Z3 b k=.val v H):k=.val v H:=by
 cases b with
 |true=>exact h
 |false=>cases h
theorem iO{H:Heap}{b:Nat}{k:Row->OR}{v:AV}{H':Heap}(h:Xv H b k=.val v H'): ∃r,k r=.val v H':=by
 unfold Xv at h
 split at h
 ·exact⟨_,h⟩
 ·cases h
theorem OE{H:Heap}{e sz:Nat}{l:List AV}{ex:Bool}{c:Nat}(hc:c<H.nx):(H.newRow e sz l ex).t.get c=H.t.get c:=by
 rw[YC,Ma (by omega)]
theorem kP{v:AV}{e sz bytes:Nat}{H:Heap}{n:Nat}{new:List AV}{v':AV}{H':Heap}(h:Ol v e sz bytes H n new=.val v' H'){c:Nat}(hc:c<H.nx)(hv: ∀b o l q,v=.slice b o l q->c≠b):H'.t.get c=H.t.get c:=by
 cases v with
 |nils=>
  replace h:cond (Nat.beq n 0) (.val .nils H) (Z3 (Nat.ble (Nat.mul n bytes) 140737488355328) (.val (.slice H.nx 0 n none) (H.newRow e sz new false)))=OR.val v' H':=h
  cases h0:Nat.beq n 0 with
  |true=>rw[h0] at h;cases h;rfl
  |false=>
   rw[h0] at h
   have h:=WY (show Z3 (Nat.ble (Nat.mul n bytes) 140737488355328) (.val (.slice H.nx 0 n none) (H.newRow e sz new false))=OR.val v' H' from h)
   cases h;exact OE hc
 |slice0=>
  replace h:cond (Nat.beq n 0) (.val .slice0 H) (Z3 (Nat.ble (Nat.mul n bytes) 140737488355328) (.val (.slice H.nx 0 n none) (H.newRow e sz new false)))=OR.val v' H':=h
  cases h0:Nat.beq n 0 with
  |true=>rw[h0] at h;cases h;rfl
  |false=>
   rw[h0] at h
   have h:=WY (show Z3 (Nat.ble (Nat.mul n bytes) 140737488355328) (.val (.slice H.nx 0 n none) (H.newRow e sz new false))=OR.val v' H' from h)
   cases h;exact OE hc
 |slice b o len cap=>
  have hb:=hv b o len cap rfl
  replace h:Xv H b (λr=>Z3 (L9 r sz cap) (cond (Nat.ble (Nat.add len n) (W4 r o cap)) (Jl H (.slice b o len cap) b o len n sz cap r new) (Ni H e b o len n sz bytes cap r new)))=OR.val v' H':=h
  obtain⟨r,h⟩:=iO h
  have h:=WY h
  cases h0:Nat.ble (Nat.add len n) (W4 r o cap) with
  |true=>
   rw[h0] at h
   replace h:Jl H (.slice b o len cap) b o len n sz cap r new=OR.val v' H':=h
   unfold Jl at h
   cases h1:Nat.beq n 0 with
   |true=>rw[h1] at h;cases h;rfl
   |false=>
    rw[h1] at h
    have h:=WY (WY (WY h))
    cases h
    exact Q7 (λe=>hb e.symm) ..
  |false=>
   rw[h0] at h
   replace h:Ni H e b o len n sz bytes cap r new=OR.val v' H':=h
   unfold Ni at h
   have h:=WY (WY h)
   cases cap with
   |some q=>cases h;exact OE hc
   |none=>
    cases h1:r.exact with
    |true=>
     have h:=WY (show Z3 (Nat.beq (Nat.mod o sz) 0) (.val (.slice H.nx 0 (Nat.add len n) none) (H.newRow e sz (Vr r o (Nat.mul len sz)++new) false))=OR.val v' H' by rw[h1] at h;exact h)
     cases h;exact OE hc
    |false=>
     have h:Hm H e b o len n sz r new=OR.val v' H':=by rw[h1] at h;exact h
     unfold Hm at h
     have h:=WY (WY (WY (WY (WY h))))
     cases h
     show((H.t.del b).set H.nx _).get c=_
     rw[T.get_set,if_neg (by omega),T.get_del,if_neg λe=>hb e.symm]
 |_=>cases h
theorem fK{v:AV}{e sz bytes:Nat}{H:Heap}{n:Nat}{new:List AV}{v':AV}{H':Heap}(h:Ol v e sz bytes H n new=.val v' H')(hcap: ∀b o l q,v=.slice b o l q-> ∀r,H.t.get b=some (.row r)->Nat.ble (Nat.add l n) (W4 r o q)=false): ∀b o l q,v'=.slice b o l q->b=H.nx:=by
 intro b0 o0 l0 q0 e0
 cases v with
 |nils=>
  replace h:cond (Nat.beq n 0) (.val .nils H) (Z3 (Nat.ble (Nat.mul n bytes) 140737488355328) (.val (.slice H.nx 0 n none) (H.newRow e sz new false)))=OR.val v' H':=h
  cases h0:Nat.beq n 0 with
  |true=>rw[h0] at h;cases h;cases e0
  |false=>
   rw[h0] at h
   have h:=WY (show Z3 (Nat.ble (Nat.mul n bytes) 140737488355328) (.val (.slice H.nx 0 n none) (H.newRow e sz new false))=OR.val v' H' from h)
   cases h;cases e0;rfl
 |slice0=>
  replace h:cond (Nat.beq n 0) (.val .slice0 H) (Z3 (Nat.ble (Nat.mul n bytes) 140737488355328) (.val (.slice H.nx 0 n none) (H.newRow e sz new false)))=OR.val v' H':=h
  cases h0:Nat.beq n 0 with
  |true=>rw[h0] at h;cases h;cases e0
  |false=>
   rw[h0] at h
   have h:=WY (show Z3 (Nat.ble (Nat.mul n bytes) 140737488355328) (.val (.slice H.nx 0 n none) (H.newRow e sz new false))=OR.val v' H' from h)
   cases h;cases e0;rfl
 |slice b o len cap=>
  have hb:=hcap b o len cap rfl
  replace h:Xv H b (λr=>Z3 (L9 r sz cap) (cond (Nat.ble (Nat.add len n) (W4 r o cap)) (Jl H (.slice b o len cap) b o len n sz cap r new) (Ni H e b o len n sz bytes cap r new)))=OR.val v' H':=h
  unfold Xv at h
  split at h
  ·rename_i r hr
   have h:=WY h
   rw[hb r hr] at h
   replace h:Ni H e b o len n sz bytes cap r new=OR.val v' H':=h
   unfold Ni at h
   have h:=WY (WY h)
   cases cap with
   |some q=>cases h;cases e0;rfl
   |none=>
    cases h1:r.exact with
    |true=>
     have h:=WY (show Z3 (Nat.beq (Nat.mod o sz) 0) (.val (.slice H.nx 0 (Nat.add len n) none) (H.newRow e sz (Vr r o (Nat.mul len sz)++new) false))=OR.val v' H' by rw[h1] at h;exact h)
     cases h;cases e0;rfl
    |false=>
     have h:Hm H e b o len n sz r new=OR.val v' H':=by rw[h1] at h;exact h
     unfold Hm at h
     have h:=WY (WY (WY (WY (WY h))))
     cases h;cases e0;rfl
  ·cases h
 |_=>cases h
theorem p6{H:Heap}{v:AV}{e sz bytes:Nat}{ls:List (List AV)}{lo:Nat}(h:Py H v e sz ls lo)(hsz:1<=sz)(hby:1<=bytes)(hl:(ls.length+1)*bytes<=140737488355328)(hro:H.ro<=H.nx)(hlo:lo<=H.nx){x:List AV}(hx:x.length=sz):
  ∃v' H',U2 e sz bytes v (.slice H.nx 0 1 none) (H.newRow e sz x true)=.val v' H'∧Py H' v' e sz (ls++[x]) lo∧Below lo H H'∧
   (∀c,c<H.nx->(∀b o l q,v=.slice b o l q->c≠b)->H'.t.get c=H.t.get c)∧ ∀b o l q,v'=.slice b o l q->H.nx<=b:=by
 obtain⟨v',H',ea,rb,w⟩:=gf h hsz hby hl hro hlo hx
 generalize hH1:H.newRow e sz x true=H1 at ea
 have Jh:H1.nx=H.nx+1:=by rw[<-hH1];rfl
 have gx:H1.t.get H.nx=some (.row ⟨e,sz,Xc x,T.ofList x,.unk,0,false,true,true⟩):=by rw[<-hH1,T1,VX,if_pos rfl]
 have cx:=Cells.new e sz x 0 false true true
 have ap:U2 e sz bytes v (.slice H.nx 0 1 none) H1=Ol v e sz bytes H1 1 x:=by
  show Z3 (Nat.ble 1 sz) (Z3 (Nat.ble 1 bytes) (Vb H1 sz (.slice H.nx 0 1 none) 1 λnew=>Ol v e sz bytes H1 1 new))=_
  rw[Zg hsz,Zg hby]
  show(Vb H1 sz (.slice H.nx 0 1 none) 1 λnew=>Ol v e sz bytes H1 1 new)=_
  generalize(⟨e,sz,Xc x,T.ofList x,.unk,0,false,true,true⟩:Row)=r0 at gx cx
  unfold Vb Xv
  simp only[gx]
  show Z3 (Nat.ble (0+1*sz) r0.size) (Ol v e sz bytes H1 1 (Vr r0 0 (1*sz)))=_
  rw[Ph,cx.size,hx,Zg (show 0+sz<=sz by omega)]
  have:=cx.load (o:=0) (n:=sz) (by omega)
  rw[this,ZC,YS (by omega)]
  rfl
 rw[ap] at ea
 refine⟨v',H',by rw[ap];exact ea,rb,w,λc hc hv=>?_,λb o l q e'=>?_⟩
 ·rw[kP ea (by omega) hv,<-hH1,OE hc]
 ·have:=fK ea (λb o l q ev r hr=>by
   rcases h with⟨_,rfl⟩|⟨_,b2,r2,rfl,g,_⟩
   ·cases ev
   ·cases ev
    have hg:H1.t.get b=some (.row r2):=by rw[<-hH1,OE g.low];exact g.at_
    rw[hg] at hr
    cases hr
    have hcap:W4 r 0 none=ls.length:=by
     show cond (Nat.beq r.sz 1) (r.size - 0) ((r.size - 0)/r.sz)=_
     rw[g.szr,g.size,PE]
     by_cases h1:sz=1
     ·subst h1;show ls.length*1=_;omega
     ·rw[Y1,Ze h1]
      exact RG _ (by omega)
    rw[hcap]
    cases h:Nat.ble (Nat.add ls.length 1) ls.length with
    |false=>rfl
    |true=>have:=Yh h;have:ls.length+1<=ls.length:=this;omega) b o l q e'
  omega
def WK:AV->List Nat
 |.slice b _ _ _=>[b]
 |_=>[]
theorem lG{H:Heap}{v:AV}{e sz bytes:Nat}{ls:List (List AV)}{lo:Nat}(h:Py H v e sz ls lo)(hsz:1<=sz)(hby:1<=bytes)(hl:(ls.length+1)*bytes<=140737488355328)(hro:H.ro<=H.nx)(hlo:lo<=H.nx){x:List AV}(hx:x.length=sz):
  ∃v' H',U2 e sz bytes v (.slice H.nx 0 1 none) (H.new (rG e sz x 0 false true true))=.val v' H'∧Py H' v' e sz (ls++[x]) lo∧ZE H H' (WK v)∧(∀b∈WK v',H.nx<=b)∧H.nx<H'.nx:=by
 obtain⟨v',H',a,b,w,c,d⟩:=p6 h hsz hby hl hro hlo hx
 have hn:H.nx<H'.nx:=by
  rcases b with⟨e,_⟩|⟨_,b,r,e,g,_⟩
  ·simp at e
  ·have:=d _ _ _ _ e;have:=g.low;omega
 refine⟨v',H',a,b,⟨w.nx,w.ro,λx hx hn=>c x hx λb o l q e he=>hn ?_⟩,λx hx=>?_,hn⟩
 ·subst e;rw[he];exact ZG.2 rfl
 ·rcases b with⟨e,_⟩|⟨_,b,r,e,g,_⟩
  ·simp at e
  ·subst e
   rw[ZG.1 hx]
   exact d _ _ _ _ rfl
def Sz(H:Heap)(sz:Nat)(v:AV)(ls:List (List AV)):Prop:=(ls=[]∧v=.slice0)∨Sl H sz v ls
theorem Sz.keep{H H':Heap}{sz:Nat}{v:AV}{ls:List (List AV)}{S:List Nat}(h:Sz H sz v ls)(k:ZE H H' S)(hS: ∀b o n c,v=.slice b o n c->b∉S):Sz H' sz v ls:=by
 rcases h with h|h
 ·exact .inl h
 ·exact .inr (h.keep k hS)
theorem Sz.keep0{H H':Heap}{sz:Nat}{v:AV}{ls:List (List AV)}(h:Sz H sz v ls)(k:ZE H H' []):Sz H' sz v ls:=h.keep k (by simp)
def Cut(H:Heap)(sz:Nat)(v:AV)(ls:List (List AV)):Prop:=Sz H sz v ls∧ ∀(k:Nat),k<=ls.length-> ∃v',(∀G:Heap,(∀c,c<H.nx->G.t.get c=H.t.get c)->Ss sz v none (some (nI .i64 k)) G=.val v' G)∧Sz H sz v' (ls.take k)
theorem Cut.keep{H H':Heap}{sz:Nat}{v:AV}{ls:List (List AV)}(h:Cut H sz v ls)(k:ZE H H' []):Cut H' sz v ls:=
 ⟨h.1.keep0 k,λn hn=>by
  obtain⟨v',h1,h2⟩:=h.2 n hn
  exact⟨v',λG hG=>h1 G λc hc=>(hG c (ZZ hc k.nx)).trans (k.get c hc (by simp)),h2.keep0 k⟩⟩
def EL(r:Row)(sz n:Nat):List (List AV):=(List.range n).map λi=>(List.range sz).map λj=>r.get (i*sz+j)
theorem Ms(r:Row)(sz n:Nat):(EL r sz n).length=n:=by unfold EL;simp
theorem xo(r:Row)(sz n:Nat): ∀l∈EL r sz n,l.length=sz:=by
 intro l hl
 unfold EL at hl
 obtain⟨i,_,rfl⟩:=Xu.1 hl
 simp
theorem lK(r:Row)(sz:Nat){n i:Nat}(h:i<n):(EL r sz n).getD i []=(List.range sz).map λj=>r.get (i*sz+j):=by
 unfold EL
 rw[Zf,YO,Wx h];rfl
theorem gt(r:Row)(sz:Nat)(hsz:1<=sz){n i:Nat}(h:i<n*sz):(EL r sz n).flatten.getD i .unk=r.get i:=by
 have hq:i/sz<n:=PD (by rw[V6];exact h)
 have hm:i % sz<sz:=Vu _ (by omega)
 have:=AI.flat_at (ls:=EL r sz n) (i:=i/sz) (xo r sz n) (by rw[Ms];exact hq)
 rw[lK r sz hq] at this
 have e:i/sz*sz+i % sz=i:=by rw[V6];exact RO i sz
 have h2:=congrArg (λl=>l[i % sz]?) this
 simp only[XT hm,XV,e,YO,Wx hm] at h2
 rw[Zf,h2]
 show r.get (i/sz*sz+i % sz)=_
 rw[e]
theorem gu(r:Row)(sz:Nat){n k:Nat}(h:k<=n):(EL r sz n).take k=EL r sz k:=by
 unfold EL
 rw[<-List.map_take,List.take_range,Wh h]
theorem ZaL{G:Heap}{b sz n:Nat}{r:Row}{c:Option Nat}(hsz:1<=sz)(hb:b<G.nx)(hr:G.t.get b=some (.row r))(hs:n*sz<=r.size):Sl G sz (.slice b 0 n c) (EL r sz n):=
 ⟨xo r sz n,.inr ⟨b,0,c,by rw[Ms],hb,λ_=>⟨r,hr,by rw[Ms];omega,λi hi=>by rw[Ms] at hi;rw[Zb,gt r sz hsz hi]⟩⟩⟩
theorem vZ{G:Heap}{es:List Sh}{v:AV}(h:Told G (.sl es) v): ∃ls,Cut G es.length v ls∧ls.length<=maxLen∧ ∀i,i<ls.length->(ls.getD i []).length=es.length∧ ∀(j:Nat) e,es[j]? =some e->Told G e ((ls.getD i []).getD j .unk):=by
 cases h with
 |nils=>
  refine⟨[],⟨.inr (Sl.nil ..),λk hk=>?_⟩,ZB _,λi hi=>by simp at hi⟩
  obtain rfl:k=0:=by simpa using hk
  exact⟨.nils,λ_ _=>rfl,.inr (Sl.nil ..)⟩
 |slice0=>
  refine⟨[],⟨.inl ⟨rfl,rfl⟩,λk hk=>?_⟩,ZB _,λi hi=>by simp at hi⟩
  obtain rfl:k=0:=by simpa using hk
  exact⟨.slice0,λ_ _=>rfl,.inl ⟨rfl,rfl⟩⟩
 | @slice _ b len cap r h1 hl h0 hc hb hr hs ho hz hok=>
  have hm:len*es.length<=cap*es.length:=XX _ hl
  refine⟨EL r es.length len,⟨.inr (ZaL h1 hb hr (by omega)),λk hkl=>?_⟩,by rw[Ms];omega,λi hi=>?_⟩
  ·rw[Ms] at hkl
   have hmk:k*es.length<=len*es.length:=XX _ hkl
   refine⟨.slice b 0 k (some cap),λG' hk=>?_,by rw[gu _ _ hkl];exact .inr (ZaL h1 hb hr (by omega))⟩
   have g:=hk b hb
   show Xv G' b _=_
   unfold Xv
   rw[g,hr]
   show Z3 (Nat.ble k cap) (Z3 (Nat.ble 0 k) (Z3 (Nat.ble 0 cap) (cond (Nat.beq 0 cap) _ (OR.val (.slice b (0+0*es.length) (k - 0) (some (cap - 0))) G'))))=_
   rw[Zg (by omega),Zg (ZB _),Zg (ZB _),show Nat.beq 0 cap=false by rw[Y1];exact Ze (by omega),Va]
   rfl
  ·rw[Ms] at hi
   rw[lK r _ hi]
   refine⟨by simp,λj e he=>?_⟩
   have hj:j<es.length:=(V5.1 he).1
   have hij:i*es.length+j<cap*es.length:=by
    have:(i+1)*es.length<=cap*es.length:=XX _ (by omega)
    rw[WF] at this;omega
   rw[Zf,YO,Wx hj]
   show Told G e (r.get (i*es.length+j))
   refine hok _ e hij ?_
   rw[V6,Nat.mul_add_mod,YD hj];exact he
theorem E8{α:Type}{ls:List (List AV)}{f:α->List AV}{p:α->Prop}(h: ∀i,i<ls.length-> ∃x,ls.getD i []=f x∧p x): ∃l:List α,ls=l.map f∧ ∀x∈l,p x:=by
 induction ls with
 |nil=>exact⟨[],rfl,λ_ h=>by cases h⟩
 |cons a ls ih=>
  obtain⟨x,h1,h2⟩:=h 0 (by simp)
  obtain⟨l,h3,h4⟩:=ih λi hi=>by
   have:=h (i+1) (by simp;omega)
   simpa using this
  refine⟨x::l,by rw[Zz,<-h3,<-h1];rfl,λy hy=>?_⟩
  rcases Yi.1 hy with rfl|hy
  ·exact h2
  ·exact h4 y hy
theorem ZkC{l:List AV}(h:l.length=2):l=[l.getD 0 .unk,l.getD 1 .unk]:=by
 match l,h with
 |[a,b],_=>rfl
theorem FR{G:Heap}{v:AV}(h:Told G .str v): ∃s,v=.str s:=by cases h;exact⟨_,rfl⟩
theorem A7{G:Heap}{k:IntKind}{v:AV}(h:Told G (.int k) v): ∃z,v=.int k z∧k.min<=z∧z<=k.max:=by
 cases h with|int h=>exact⟨_,rfl,h⟩
theorem ZeN{G:Heap}{v:AV}(h:Told G (.int .u8) v): ∃c:UInt8,v=X8 c:=by
 obtain⟨z,rfl,h1,h2⟩:=A7 h
 have h1:0<=z:=h1
 have h2:z<=255:=h2
 refine⟨UInt8.ofNat z.toNat,?_⟩
 show AV.int .u8 z=.int .u8 (.ofNat (UInt8.ofNat z.toNat).toNat)
 rw[S7,YD (by omega)]
 congr 1
 show z=(z.toNat:Int)
 omega
theorem A8{G:Heap}{v:AV}(h:Told G (.int .u32) v): ∃n:Nat,v=nI .u32 n∧n<4294967296:=by
 obtain⟨z,rfl,h1,h2⟩:=A7 h
 have h1:0<=z:=h1
 have h2:z<=4294967295:=h2
 refine⟨z.toNat,?_,by omega⟩
 show AV.int .u32 z=.int .u32 (.ofNat z.toNat)
 congr 1
 show z=(z.toNat:Int)
 omega
theorem qc{G:Heap}{v:AV}(h:Told G (.int .i64) v): ∃z:Int,v=.int .i64 z∧ -9223372036854775808<=z∧z<=9223372036854775807:=A7 h
theorem Sz.len{H:Heap}{sz:Nat}{v:AV}{ls:List (List AV)}(h:Sz H sz v ls)(G:Heap):lenV v G=.val (nI .i64 ls.length) G:=by
 rcases h with⟨rfl,rfl⟩|h
 ·rfl
 ·exact h.len G
theorem Sz.low{H:Heap}{sz:Nat}{v:AV}{ls:List (List AV)}(h:Sz H sz v ls){n:Nat}(hn:H.nx<=n):Wu n v=true:=by
 rcases h with⟨rfl,rfl⟩|h
 ·rfl
 ·exact h.low hn
theorem Sz.same{H:Heap}{sz:Nat}{v:AV}{ls:List (List AV)}(h:Sz H sz v ls)(n:Nat)(t:T Obj):UR (.val v ⟨n,t,n⟩) v n=true:=by
 rcases h with⟨rfl,rfl⟩|h
 ·exact Sp _ _ _ (by unfold AI.same;rfl)
 ·exact h.same n t
theorem Sz.cells{H:Heap}{sz:Nat}{v:AV}{ls:List (List AV)}(h:Sz H sz v ls):v.cells=[v]:=by
 rcases h with⟨rfl,rfl⟩|h
 ·rfl
 ·exact h.cells
theorem Sz.at_{H:Heap}{sz:Nat}{v:AV}{ls:List (List AV)}(h:Sz H sz v ls){i:Nat}(hi:i<ls.length):
  ∃b o r,(∀(k:IntKind) (G:Heap),IZ sz v (nI k i) G=.val (.ptr b o) G)∧b<H.nx∧H.t.get b=some (.row r)∧(∀G:Heap,wZ sz (some (.row r)) o G=.val (.agg (ls.getD i [])) G)∧ ∀(j:Nat) (G:Heap),j<sz->ld1 (some (.row r)) (o+j) G=.val ((ls.getD i []).getD j .unk) G:=by
 rcases h with⟨rfl,_⟩|h
 ·cases hi
 ·exact h.at_ hi
theorem Qp(a b:List UInt8)(H:Heap):Te Re Vi (.str a) (.str b) H=.val (.bool (Vi a b)) H:=by
 show Rr (Vi a b) H=_
 cases Vi a b<;>rfl
abbrev NP:=List UInt8×List UInt8
def QG(l:List NP):List (List AV):=l.map λp=>[.str p.1,.str p.2]
theorem Sg(l:List NP):(QG l).length=l.length:=Zt ..
theorem Ix{l:List NP}{i:Nat}(h:i<l.length):(QG l).getD i []=[.str (l.getD i ([],[])).1,.str (l.getD i ([],[])).2]:=by
 unfold QG
 rw[Zf,YO,Zf,Zn h];rfl
def okA(l:List NP)(i:Nat):Bool:=!decide ((l.getD i ([],[])).1=[])&&decide ((l.getD i ([],[])).1.length<=242)&&!Jj [0,61,10] (l.getD i ([],[])).1&&(decide (i=0)||!Vi (l.getD (i - 1) ([],[])).1 (l.getD i ([],[])).1)
def O5(l:List NP):Bool:=(List.range l.length).all (okA l)&&decide (l.length<=16)
def KX(s:List UInt8)(is:Bool):Bool:=if is then !decide (s=[])&&decide (s.length<=4096)&&decide (Tg 0 s=0) else decide (s=[])
theorem mN:Px [0,61,10]:=⟨by decide,by decide,by decide⟩
theorem pA{Zo:Lib}{fs:T CF}{fuel:Nat}(E:Env Zo fs fuel){n:Nat}{s:List UInt8}{is:Bool}{H:Heap}:
  ∃H',Z8 (LK Zo fs fuel 2) fs fuel (n+2) 35 [.str s,.bool is] H=.ret (.bool (KX s is)) H'∧ZE H H' []:=by
 rw[Z7 (Z2 E.n35 (.inl (by decide)) _ _) E.f35]
 have e1:=λ{j}=>Zg6 E (k:=2) (n:=j) (by decide) (s:=s) (x:=0) (H:=H) (by decide)
 cases is with
 |false=>
  rw[show KX s false=decide (s=[]) from rfl]
  simp only[YE,c35,Yf,Xr,ZV,Yv,Xq]
  refine⟨_,rfl,?_⟩
  exact ZE.refl _ _
 |true=>
  by_cases h1:s=[]
  ·have d1:decide (s=[])=true:=Zj h1
   rw[show KX s true=false by unfold KX;simp[h1]]
   simp only[d1,Xa,c35,Yf,Xr,ZV,Yv,Xq]
   refine⟨_,rfl,?_⟩
   exact ZE.refl _ _
  ·have d1:decide (s=[])=false:=Ze h1
   by_cases h2:s.length<=4096
   ·have d2:decide (s.length<=4096)=true:=Zj h2
    rw[show KX s true=decide (Tg 0 s=0) by unfold KX;simp[h1,h2]]
    simp only[d1,d2,e1,ZK,Xa,ZP,Wc,c35,Yf,Xr,ZV,Yv,Xq]
    refine⟨_,rfl,?_⟩
    exact ZE.refl _ _
   ·have d2:decide (s.length<=4096)=false:=Ze h2
    rw[show KX s true=false by unfold KX;rw[d2];simp]
    simp only[d1,d2,ZK,Xa,ZP,c35,Yf,Xr,ZV,Yv,Xq]
    refine⟨_,rfl,?_⟩
    exact ZE.refl _ _
theorem Zhv{Zo:Lib}{fs:T CF}{fuel:Nat}(E:Env Zo fs fuel){k n:Nat}(hk:3<=k){s:List UInt8}{is:Bool}{H:Heap}:
  Z8 (LK Zo fs fuel k) fs fuel (n+1) 35 [.str s,.bool is] H=.ret (.bool (KX s is)) H:=by
 obtain⟨H',e,g⟩:=pA E (n:=898) (H:=H)
 exact Xp (r:=2) rfl rfl e g (rfl) hk
structure MAI(H0:Heap)(v:AV)(l:List NP)(m:Nat)(tm:TM)(H:Heap):Prop where
 t0:Y3 tm=v
 t5:Wa tm=v
 t6:Ve tm=nI .i64 l.length
 i: ∃i,WH tm=nI .i64 i∧i+m=l.length∧ ∀j,j<i->okA l j=true
 k:ZE H0 H []
def MAQ(H0:Heap)(v:AV)(l:List NP)(o:Out)(tm:TM)(H:Heap):Prop:=ZE H0 H []∧((o=.ret∧Uv tm=.bool false∧O5 l=false)∨(o=.exit 0∧Y3 tm=v∧O5 l=decide (l.length<=16)))
theorem mV{l:List NP}{i:Nat}(h:i<l.length)(e:okA l i=false):O5 l=false:=by
 have:(List.range l.length).all (okA l)=false:=by
  rw[Bool.eq_false_iff]
  intro q
  rw[Y6] at q
  have:=q i (VD.2 h)
  rw[e] at this;cases this
 unfold O5;rw[this];rfl
theorem Zht{l:List NP}(h: ∀j,j<l.length->okA l j=true):O5 l=decide (l.length<=16):=by
 have:(List.range l.length).all (okA l)=true:=Y6.2 λx hx=>h x (VD.1 hx)
 unfold O5;rw[this,Sm]
theorem ZdO{Zo:Lib}{fs:T CF}{fuel:Nat}(E:Env Zo fs fuel){n k:Nat}(hk:5<=k){v:AV}{l:List NP}(hl:l.length<=90000)(hs: ∀i,i<l.length->(l.getD i ([],[])).1.length<=90000){H0:Heap}(hro:H0.ro<=H0.nx)(hN:Sz H0 2 v (QG l))(y f dd q)(X0:X)(m:Nat)(tm:TM)(H:Heap)(hI:MAI H0 v l m tm H):
  ∃o tm' H',Lb ⟨Z8 (LK Zo fs fuel k) fs fuel (n+1),y,f,dd,q⟩ tm H X0=.ok o tm' H' X0∧((o=.normal∧ ∃k,k<m∧MAI H0 v l k tm' H')∨(o≠.normal∧MAQ H0 v l o tm' H')):=by
 obtain⟨t0,t5,t6,⟨i,t7,him,hn⟩,k0⟩:=hI
 have t0':=t0;have A1:=t5;have x8:=t6
 simp only[Um] at t0
 simp only[QD] at t5
 simp only[JC] at t6
 simp only[LG] at t7
 cases m with
 |zero=>
  have d1:decide (i<l.length)=false:=Ze (by omega)
  simp only[t6,t7,d1,Zy,Lb,Yf,Xr,Xq]
  refine⟨_,_,_,rfl,?_⟩
  exact .inr ⟨by simp,k0,.inr ⟨rfl,t0',Zht λj hj=>hn j (by omega)⟩⟩
 |succ m=>
  have d1:decide (i<l.length)=true:=Zj (by omega)
  have hi:i<l.length:=by omega
  have hN:=hN.keep0 k0
  have ZjQ:=hN.low (n:=H.nx+1) (Ws _)
  obtain⟨b,o,r,eI,hb,gb,eL,eE⟩:=hN.at_ (i:=i) (by rw[Sg];omega)
  have ra:=Ix hi
  rw[ra] at eL
  generalize hp:l.getD i ([],[])=p at*
  have hpl:p.1.length<=90000:=by have:=hs i hi;rw[hp] at this;exact this
  obtain⟨H1,hH1⟩: ∃G,H.new (rG 46 1 [.str p.1,.str p.2] 0 false true true)=G:=⟨_,rfl⟩
  have k1:ZE H0 H1 []:=by rw[<-hH1];exact k0.then_new _
  have kH:ZE H H1 []:=by rw[<-hH1];exact ZE.new _ _ _
  have g1:H1.t.get H.nx=some (rG 46 1 [.str p.1,.str p.2] 0 false true true):=by rw[<-hH1];exact YB rfl _
  have Jh:H1.nx=H.nx+1:=by rw[<-hH1];rfl
  have sf:=SB (n:=2) (b:=H.nx) (l:=[.str [],.str []]) (vs:=[.str p.1,.str p.2]) (H:=H.new (rG 46 1 [.str [],.str []] 0 false true true)) rfl rfl (by decide) (by show H.ro<=_;rw[k0.ro];have:=k0.nx;omega) 46 1 false true
  rw[Sy rfl,hH1] at sf
  have e1:=λ{j}=>eO E (k:=k) (n:=j) hk (H:=H1) mN hpl (by rw[k1.ro];exact Yl hro k1.nx)
  have okI:okA l i=(!decide (p.1=[])&&decide (p.1.length<=242)&&!Jj [0,61,10] p.1&&(decide (i=0)||!Vi (l.getD (i - 1) ([],[])).1 p.1)):=by unfold okA;rw[hp]
  by_cases h1:p.1=[]
  ·have d2:decide (p.1=[])=true:=Zj h1
   simp(disch:=first|assumption|omega|(simp -implicitDefEqProofs only[Xl,Xm]<;>first|assumption|omega)|decide) only[t5,t6,t7,d1,eI,gb,eL,sf,g1,Jh,Vo,d2,Yx,Zy,YE,decide_true,Zd,Zd,ZN,Zs,Lb,Yf,Xr,ZV,Yv,Z0,Z1,Nat.reducePow,Nat.reduceDiv,Nat.reduceMod,Xq,TB]
   refine⟨_,_,_,rfl,?_⟩
   exact .inr ⟨by simp,k1,.inl ⟨rfl,rfl,mV hi (by rw[okI];simp[h1])⟩⟩
  have d2:decide (p.1=[])=false:=Ze h1
  by_cases h2:242<p.1.length
  ·have d3:decide (242<p.1.length)=true:=Zj h2
   simp(disch:=first|assumption|omega|(simp -implicitDefEqProofs only[Xl,Xm]<;>first|assumption|omega)|decide) only[t5,t6,t7,d1,eI,gb,eL,sf,g1,Jh,Vo,d2,d3,Yx,Zy,ZJ,YE,ZP,decide_true,Zd,Zd,ZN,Zs,Lb,Yf,Xr,ZV,Yv,Z0,Z1,Nat.reducePow,Nat.reduceDiv,Nat.reduceMod,Xq,TB]
   refine⟨_,_,_,rfl,?_⟩
   exact .inr ⟨by simp,k1,.inl ⟨rfl,rfl,mV hi (by rw[okI];rw[Ze (show ¬p.1.length<=242 by omega)];simp)⟩⟩
  have d3:decide (242<p.1.length)=false:=Ze h2
  have d3':decide (p.1.length<=242)=true:=Zj (by omega)
  cases hc:Jj [0,61,10] p.1 with
  |true=>
   rw[hc] at e1
   simp(disch:=first|assumption|omega|(simp -implicitDefEqProofs only[Xl,Xm]<;>first|assumption|omega)|decide) only[t5,t6,t7,d1,eI,gb,eL,sf,g1,Jh,Vo,d2,d3,e1,Yx,Zy,ZJ,YE,ZP,decide_true,Zd,Zd,ZN,Zs,Lb,Yf,Xr,ZV,Yv,Z0,Z1,Nat.reducePow,Nat.reduceDiv,Nat.reduceMod,Xq,TB]
   refine⟨_,_,_,rfl,?_⟩
   exact .inr ⟨by simp,k1,.inl ⟨rfl,rfl,mV hi (by rw[okI];rw[hc];simp)⟩⟩
  |false=>
   rw[hc] at e1
   by_cases h0:i=0
   ·have d4:decide (0<i)=false:=Ze (by omega)
    simp(disch:=first|assumption|omega|(simp -implicitDefEqProofs only[Xl,Xm]<;>first|assumption|omega)|decide) only[t5,t6,t7,d1,eI,gb,eL,sf,g1,Jh,Vo,d2,d3,e1,d4,Zy,ZJ,YE,Yy,ZP,decide_true,Zd,Zd,ZN,Zs,Lb,Yf,Xr,ZV,Yv,Z0,Z1,Nat.reducePow,Nat.reduceDiv,Nat.reduceMod,Xq,TB]
    refine⟨_,_,_,rfl,.inl ⟨rfl,m,by omega,t0',A1,x8,⟨i+1,rfl,by omega,λq hq=>?_⟩,k1⟩⟩
    obtain rfl:q=i:=by omega
    rw[okI,d2,d3',hc,Zj h0];rfl
   ·have d4:decide (0<i)=true:=Zj (by omega)
    obtain⟨b2,o2,r2,eY,hb2,Gj,_,eE2⟩:=hN.at_ (i:=i - 1) (by rw[Sg];omega)
    have jv:H1.t.get b2=some (.row r2):=by rw[kH.get _ hb2 (by simp)];exact Gj
    have eF:=λG=>eE2 0 G (by decide)
    rw[Ix (by omega),Zd] at eF
    simp only[Zs] at eF
    cases hg:Vi (l.getD (i - 1) ([],[])).1 p.1 with
    |true=>
     simp(disch:=first|assumption|omega|(simp -implicitDefEqProofs only[Xl,Xm]<;>first|assumption|omega)|decide) only[t0,t5,t6,t7,d1,eI,gb,eL,sf,g1,Jh,ZjQ,Vo,d2,d3,e1,d4,eY,jv,eF,hg,Zy,ZJ,YE,YR,ZP,decide_true,Zd,Zd,Qp,ZN,Zs,Lb,Yf,Xr,ZV,Yv,Z0,Z1,Nat.reducePow,Nat.reduceDiv,Nat.reduceMod,Xq,TB]
     refine⟨_,_,_,rfl,?_⟩
     exact .inr ⟨by simp,k1,.inl ⟨rfl,rfl,mV hi (by rw[okI];rw[hg,Ze h0];simp)⟩⟩
    |false=>
     simp(disch:=first|assumption|omega|(simp -implicitDefEqProofs only[Xl,Xm]<;>first|assumption|omega)|decide) only[t0,t5,t6,t7,d1,eI,gb,eL,sf,g1,Jh,ZjQ,Vo,d2,d3,e1,d4,eY,jv,eF,hg,Zy,ZJ,YE,YR,Yy,ZP,decide_true,Zd,Zd,Qp,ZN,Zs,Lb,Yf,Xr,ZV,Yv,Z0,Z1,Nat.reducePow,Nat.reduceDiv,Nat.reduceMod,Xq,TB]
     refine⟨_,_,_,rfl,.inl ⟨rfl,m,by omega,t0',A1,x8,⟨i+1,rfl,by omega,λq hq=>?_⟩,k1⟩⟩
     by_cases hqi:q=i
     ·rw[hqi,okI,d2,d3',hc,hg];simp
     ·exact hn q (by omega)
theorem pz{Zo:Lib}{fs:T CF}{fuel:Nat}(E:Env Zo fs fuel){n:Nat}{v:AV}{l:List NP}{H:Heap}(hl:l.length<=90000)(hs: ∀i,i<l.length->(l.getD i ([],[])).1.length<=90000)(hro:H.ro<=H.nx)(hN:Sz H 2 v (QG l)):
  ∃H',Z8 (LK Zo fs fuel 5) fs fuel (n+2) 34 [v] H=.ret (.bool (O5 l)) H'∧ZE H H' []:=by
 rw[Z7 (Z2 E.n34 (.inl (by decide)) _ _) E.f34]
 have ln:=hN.len
 rw[Sg] at ln
 simp only[ln,c34,Yf,Xr,Xq]
 generalize hL:WP (Lb _) fuel _ _ _=L
 obtain⟨o,KO,H2,rfl,_,k2,z⟩:=Wd (P:=λT=>MAI H v l l.length T H) (Q:=MAQ H v l)
  (λT hi=>Wo (MAI H v l) (MAQ H v l) (λm tm H2 h=>ZdO E (by decide) hl hs hro hN _ _ _ _ _ m tm H2 h) fuel l.length T H (by have:=E.big;omega) hi) hL
  (by exact⟨rfl,rfl,rfl,⟨0,rfl,by omega,λj hj=>by omega⟩,ZE.refl _ _⟩)
 rcases z with⟨rfl,t2,e⟩|⟨rfl,t0,e⟩
 ·simp only[Oa] at t2
  rw[e]
  simp only[t2,Yf,ZV,Xq]
  refine⟨_,rfl,?_⟩
  exact k2
 ·simp only[Um] at t0
  rw[e]
  simp only[t0,ln,ZK,Yf,Xr,ZV,Xq,TB]
  refine⟨_,rfl,?_⟩
  exact k2
theorem Zhu{Zo:Lib}{fs:T CF}{fuel:Nat}(E:Env Zo fs fuel){k n:Nat}(hk:6<=k){v:AV}{l:List NP}{H:Heap}(hl:l.length<=90000)(hs: ∀i,i<l.length->(l.getD i ([],[])).1.length<=90000)(hro:H.ro<=H.nx)(hN:Sz H 2 v (QG l)):
  Z8 (LK Zo fs fuel k) fs fuel (n+1) 34 [v] H=.ret (.bool (O5 l)) H:=by
 obtain⟨H',e,g⟩:=pz E (n:=898) (H:=H) hl hs hro hN
 exact Xp (r:=5) rfl rfl e g (rfl) hk
theorem na(a b:Int):(a==b)=decide (a=b):=by rw[VC];simp
theorem XC(k:IntKind)(a:Int)(b:Nat)(H:Heap):MU UB false (.int k a) (nI k b) H=.val (.bool (decide (a=(b:Int)))) H:=by
 show Sr (cond (Oz k k) (some (FW a (Int.ofNat b))) none) _=_
 rw[X4,Oy]
 show Rr (a==(b:Int)) H=_
 rw[na]
 cases decide (a=(b:Int))<;>rfl
theorem XJ(k:IntKind)(a:Int)(b:Nat)(H:Heap):MU UB true (.int k a) (nI k b) H=.val (.bool (!decide (a=(b:Int)))) H:=by
 show Sr (cond (Oz k k) (some (FW a (Int.ofNat b))) none) _=_
 rw[X4,Oy]
 show Rr (cond (a==(b:Int)) false true) H=_
 rw[na]
 cases decide (a=(b:Int))<;>rfl
theorem NH{eq:AV->AV->Option Bool}{k:AV}{no:OR}{yes:AV->OR}{x:RF}{l:List RF}{t:Bool}(h:eq k x.key=some t):Un eq k no yes (x::l)=cond t (yes x.val) (Un eq k no yes l):=by
 rw[Un,h]
structure Mem where
 path:List UInt8
 kind:Int
 mode:Nat
 uid:Nat
 gid:Nat
 time:Int
 attrs:List NP
 data:List UInt8
 link:List UInt8
def ND(l:List UInt8):List (List AV):=l.map λx=>[X8 x]
theorem SK(l:List UInt8):(ND l).length=l.length:=Zt ..
def Gm(H:Heap)(cs:List AV)(m:Mem):Prop:= ∃av dv,cs=[.str m.path,.int .i64 m.kind,nI .u32 m.mode,nI .u32 m.uid,nI .u32 m.gid,.int .i64 m.time,av,dv,.str m.link]∧Sz H 2 av (QG m.attrs)∧Sz H 1 dv (ND m.data)
theorem Gm.keep{H H':Heap}{cs:List AV}{m:Mem}(h:Gm H cs m)(k:ZE H H' []):Gm H' cs m:=by
 obtain⟨av,dv,e,h1,h2⟩:=h
 exact⟨av,dv,e,h1.keep0 k,h2.keep0 k⟩
theorem Gm.len{H:Heap}{cs:List AV}{m:Mem}(h:Gm H cs m):cs.length=9:=by
 obtain⟨av,dv,rfl,_⟩:=h;rfl
structure CX(m:Mem):Prop where
 path:m.path.length<=80000
 attrs:m.attrs.length<=90000
 keys: ∀i,i<m.attrs.length->(m.attrs.getD i ([],[])).1.length<=90000
def tyN(z:Int):Nat:=if z=1 then 53 else if z=2 then 48 else if z=3 then 50 else if z=4 then 54 else 0
theorem lkT(z:Int)(G:Heap):lkO UB (nI .u8 0) false (some (.cmap tEs)) (.int .i64 z) G=.val (nI .u8 (tyN z)) G:=by
 have e: ∀b:Nat,UB (.int .i64 z) (nI .i64 b)=some (decide (z=(b:Int))):=λb=>by
  show cond (Oz .i64 .i64) (some (FW z (Int.ofNat b))) none=_
  rw[X4,Oy];rfl
 show Un UB (.int .i64 z) (OR.val (nI .u8 0) G) (λv=>OR.val v G) tEs=_
 unfold tEs tyN
 rw[NH (e 1),NH (e 2),NH (e 3),NH (e 4)]
 by_cases h1:z=1
 ·subst h1;rfl
 by_cases h2:z=2
 ·subst h2;rfl
 by_cases h3:z=3
 ·subst h3;rfl
 by_cases h4:z=4
 ·subst h4;rfl
 rw[Ze (show ¬z=((1:Nat):Int) from h1),if_neg h1,Ze (show ¬z=((2:Nat):Int) from h2),if_neg h2,Ze (show ¬z=((3:Nat):Int) from h3),if_neg h3,Ze (show ¬z=((4:Nat):Int) from h4),if_neg h4]
 rfl
def UF(m:Mem):Bool:=!decide ((WB m.path).1=0)&&!decide (tyN m.kind=0)&&decide (m.mode<=4095)&&O5 m.attrs&&KX m.link (decide (m.kind=3))&&decide (m.data.length<=16777216)&&(decide (m.kind=2)||decide (m.data.length=0))
theorem oK{Zo:Lib}{fs:T CF}{fuel:Nat}(E:Env Zo fs fuel){n:Nat}{cs:List AV}{m:Mem}{H:Heap}(hs:CX m)(g:N3 H)(hm:Gm H cs m):
  ∃H',Z8 (LK Zo fs fuel 11) fs fuel (n+2) 19 [.agg cs] H=.ret (.bool (UF m)) H'∧ZE H H' []:=by
 rw[Z7 (Z2 E.n19 (.inl (by decide)) _ _) E.f19]
 obtain⟨av,dv,rfl,hA,hD⟩:=hm
 obtain⟨H1,hH1⟩: ∃G,H.new (rG 36 1 [.str m.path,.int .i64 m.kind,nI .u32 m.mode,nI .u32 m.uid,nI .u32 m.gid,.int .i64 m.time,av,dv,.str m.link] 0 false true true)=G:=⟨_,rfl⟩
 obtain⟨H2,hH2⟩: ∃G,H1.new (rG 34 1 [.int .i64 m.kind,nI .u32 m.mode,nI .u32 m.uid,nI .u32 m.gid,.int .i64 m.time,av,dv,.str m.link] 0 false true true)=G:=⟨_,rfl⟩
 have k1:ZE H H1 []:=by rw[<-hH1];exact ZE.new _ _ _
 have k2:ZE H H2 []:=by rw[<-hH2];exact k1.then_new _
 have g1:H1.t.get H.nx=some (rG 36 1 [.str m.path,.int .i64 m.kind,nI .u32 m.mode,nI .u32 m.uid,nI .u32 m.gid,.int .i64 m.time,av,dv,.str m.link] 0 false true true):=by rw[<-hH1];exact YB rfl _
 have g2:H2.t.get H1.nx=some (rG 34 1 [.int .i64 m.kind,nI .u32 m.mode,nI .u32 m.uid,nI .u32 m.gid,.int .i64 m.time,av,dv,.str m.link] 0 false true true):=by rw[<-hH2];exact YB rfl _
 have gP2:=g.keep0 k2
 obtain⟨rT,gT,lT0,lT1⟩:=gP2.t
 have lT: ∀G,ld1 (some (.row rT)) 0 G=.val (.map 12) G:=λG=>by rw[Y8 lT0,lT1]
 have eT:=gP2.tm
 have FX:H1.ro<=H1.nx:=by rw[k1.ro];exact Yl g.ro k1.nx
 have sf:=SB (n:=8) (b:=H1.nx) (l:=[nI .i64 0,nI .u32 0,nI .u32 0,nI .u32 0,nI .i64 0,.nils,.nils,.str []]) (vs:=[.int .i64 m.kind,nI .u32 m.mode,nI .u32 m.uid,nI .u32 m.gid,.int .i64 m.time,av,dv,.str m.link]) (H:=H1.new (rG 34 1 [nI .i64 0,nI .u32 0,nI .u32 0,nI .u32 0,nI .i64 0,.nils,.nils,.str []] 0 false true true)) rfl rfl (by decide) (by show H1.ro<=_;exact FX) 34 1 false true
 rw[Sy rfl,hH2] at sf
 have ec:=λ{j}=>eK E (k:=11) (n:=j) (by decide) (s:=m.path) (H:=H1) hs.path (g.keep0 k1)
 have gj:H2.ro<=H2.nx:=by rw[k2.ro];exact Yl g.ro k2.nx
 have e4:=λ{j}=>Zhu E (k:=11) (n:=j) (by decide) (v:=av) (l:=m.attrs) (H:=H2) hs.attrs hs.keys gj (hA.keep0 k2)
 have e5: ∀{j},Z8 (LK Zo fs fuel 11) fs fuel (j+1) 35 [.str m.link,.bool (decide (m.kind=((3:Nat):Int)))] H2=.ret (.bool (KX m.link (decide (m.kind=3)))) H2:=λ{j}=>Zhv E (k:=11) (n:=j) (by decide) (s:=m.link) (is:=decide (m.kind=3)) (H:=H2)
 have ln:=hD.len
 rw[SK] at ln
 by_cases h1:(WB m.path).1=0
 ·have d1:decide ((WB m.path).1=0)=true:=Zj h1
  rw[show UF m=false by unfold UF;simp[h1]]
  simp(disch:=first|assumption|omega|(simp -implicitDefEqProofs only[Xl,Xm]<;>first|assumption|omega)|decide) only[ec,g1,sf,hH1,Vo,To,V7,d1,YN,Zd,Zb,Zb,Zd,Zu,ZC,Zw,ZI,Zs,c19,Yf,Xr,ZV,Xq,TB]
  refine⟨_,rfl,?_⟩
  exact k2
 have d1:decide ((WB m.path).1=0)=false:=Ze h1
 by_cases h2:tyN m.kind=0
 ·have d2:decide (tyN m.kind=0)=true:=Zj h2
  rw[show UF m=false by unfold UF;simp[h2]]
  simp(disch:=first|assumption|omega|(simp -implicitDefEqProofs only[Xl,Xm]<;>first|assumption|omega)|decide) only[ec,eT,gT,lT,g1,g2,sf,hH1,lkT,Vo,To,V7,d1,d2,YN,Zd,Zb,Zb,Zd,ZD,ZR,Zu,ZC,Zw,ZI,Zs,c19,Yf,Xr,ZV,Xq,TB]
  refine⟨_,rfl,?_⟩
  exact k2
 have d2:decide (tyN m.kind=0)=false:=Ze h2
 by_cases h3:4095<m.mode
 ·have d3:decide (4095<m.mode)=true:=Zj h3
  have h3': ¬m.mode<=4095:=by omega
  rw[show UF m=false by unfold UF;simp[h3']]
  simp(disch:=first|assumption|omega|(simp -implicitDefEqProofs only[Xl,Xm]<;>first|assumption|omega)|decide) only[ec,eT,gT,lT,g1,g2,sf,hH1,lkT,Vo,To,V7,d1,d2,d3,ZJ,YN,Zd,Zb,Zb,Zd,ZD,ZR,Zu,ZC,Zw,ZI,Zs,Zv,c19,Yf,Xr,ZV,Xq,TB]
  refine⟨_,rfl,?_⟩
  exact k2
 have d3:decide (4095<m.mode)=false:=Ze h3
 have h3':m.mode<=4095:=by omega
 cases h4:O5 m.attrs with
 |false=>
  rw[h4] at e4
  rw[show UF m=false by unfold UF;simp[h4]]
  simp(disch:=first|assumption|omega|(simp -implicitDefEqProofs only[Xl,Xm]<;>first|assumption|omega)|decide) only[ec,eT,gT,lT,g1,g2,sf,hH1,lkT,e4,Vo,To,V7,d1,d2,d3,ZJ,YN,Zd,Zb,Zb,Zd,ZD,ZR,Zu,ZC,Zw,ZI,Zs,Zv,c19,Yf,Xr,ZV,Yv,Xq,TB]
  refine⟨_,rfl,?_⟩
  exact k2
 |true=>
  rw[h4] at e4
  cases h5:KX m.link (decide (m.kind=3)) with
  |false=>
   rw[h5] at e5
   rw[show UF m=false by unfold UF;simp[h5]]
   simp(disch:=first|assumption|omega|(simp -implicitDefEqProofs only[Xl,Xm]<;>first|assumption|omega)|decide) only[ec,eT,gT,lT,g1,g2,sf,hH1,lkT,e4,e5,Vo,To,V7,d1,d2,d3,ZJ,YN,Zd,Zb,Zb,Zd,ZD,ZR,Zu,ZC,Zw,ZI,Zs,Zv,XC,c19,Yf,Xr,ZV,Yv,Xq,TB]
   refine⟨_,rfl,?_⟩
   exact k2
  |true=>
   rw[h5] at e5
   by_cases h6: ¬m.data.length<=16777216
   ·have d6:decide (m.data.length<=16777216)=false:=Ze h6
    rw[show UF m=false by unfold UF;simp[h6]]
    simp(disch:=first|assumption|omega|(simp -implicitDefEqProofs only[Xl,Xm]<;>first|assumption|omega)|decide) only[ec,eT,gT,lT,g1,g2,sf,hH1,lkT,e4,e5,ln,Vo,To,V7,d1,d2,d3,d6,Yx,ZK,ZJ,YN,Zd,Zb,Zb,Zd,ZD,ZR,Zu,ZC,Zw,ZI,Zs,Zv,XC,c19,Yf,Xr,ZV,Yv,Xq,TB]
    refine⟨_,rfl,?_⟩
    exact k2
   have h6:=Decidable.not_not.1 h6
   have d6:decide (m.data.length<=16777216)=true:=Zj h6
   by_cases h7:m.kind=2
   ·have d7:decide (m.kind=((2:Nat):Int))=true:=Zj h7
    rw[show UF m=true by unfold UF;rw[h5];simp[h1,h3',h4,h6,h7];rw[<-h7];exact h2]
    simp(disch:=first|assumption|omega|(simp -implicitDefEqProofs only[Xl,Xm]<;>first|assumption|omega)|decide) only[ec,eT,gT,lT,g1,g2,sf,hH1,lkT,e4,e5,ln,Vo,To,V7,d1,d2,d3,d6,d7,ZK,ZJ,YN,Zd,Zb,Zb,Zd,ZD,ZR,Zu,ZC,Zw,ZI,Zs,Zv,XC,c19,Yf,Xr,ZV,Yv,Xq,TB]
    refine⟨_,rfl,?_⟩
    exact k2
   have d7:decide (m.kind=((2:Nat):Int))=false:=Ze h7
   by_cases h8:m.data.length=0
   ·have d8:decide (m.data.length=0)=true:=Zj h8
    rw[show UF m=true by unfold UF;rw[h5];simp[h1,h2,h3',h4,h7,h8]]
    simp(disch:=first|assumption|omega|(simp -implicitDefEqProofs only[Xl,Xm]<;>first|assumption|omega)|decide) only[ec,eT,gT,lT,g1,g2,sf,hH1,lkT,e4,e5,ln,Vo,To,V7,d1,d2,d3,d6,d7,d8,ZK,ZJ,YN,Zd,Zb,Zb,Zd,ZD,ZR,Zu,ZC,Zw,ZI,Zs,Zv,XC,c19,Yf,Xr,ZV,Yv,Xq,TB]
    refine⟨_,rfl,?_⟩
    exact k2
   have d8:decide (m.data.length=0)=false:=Ze h8
   rw[show UF m=false by unfold UF;rw[d8,Ze h7];simp]
   simp(disch:=first|assumption|omega|(simp -implicitDefEqProofs only[Xl,Xm]<;>first|assumption|omega)|decide) only[ec,eT,gT,lT,g1,g2,sf,hH1,lkT,e4,e5,ln,Vo,To,V7,d1,d2,d3,d6,d7,d8,ZK,ZJ,YN,Zd,Zb,Zb,Zd,ZD,ZR,Zu,ZC,Zw,ZI,Zs,Zv,XC,c19,Yf,Xr,ZV,Yv,Xq,TB]
   refine⟨_,rfl,?_⟩
   exact k2
theorem ZbR{Zo:Lib}{fs:T CF}{fuel:Nat}(E:Env Zo fs fuel){k n:Nat}(hk:12<=k){cs:List AV}{m:Mem}{H:Heap}(hs:CX m)(g:N3 H)(hm:Gm H cs m):
  Z8 (LK Zo fs fuel k) fs fuel (n+1) 19 [.agg cs] H=.ret (.bool (UF m)) H:=by
 obtain⟨H',e,g⟩:=oK E (n:=898) (H:=H) hs g hm
 exact Xp (r:=11) rfl rfl e g (rfl) hk
end
end Go.AI
