/- What may be a path, and what it stands for: walked: proved without conditions but those that each names. -/
import Derived.Test.YtbmdhpdcgbgcnaaGreatDoorP9
import Derived.Test.YtbmdhpdcgbgcnaaGreatDoorP8
import Derived.Test.YtbmdhpdcgbgcnaaGreatDoorP7
import Derived.Test.YtbmdhpdcgbgcnaaGreatDoorP6
set_option maxRecDepth 1000000
set_option maxHeartbeats 0
set_option linter.unusedVariables false
set_option linter.unusedSimpArgs false
namespace Go.AI
open Go
noncomputable section
section
variable {Zx:Lib} {fs:T CF} {fuel k n i h b:Nat} {H H0:Heap} {s:List UInt8} {cs:List AV}
theorem YV(G:Heap):Tl Tp WT (.int .i64 (.negSucc 0)) (nI .i64 0) G=.val (.bool false) G:=rfl
theorem iQ:Qn [47,0]:=⟨by decide,by decide,by decide⟩
theorem jd(E:Env Zx fs fuel)(hs:s.length<=90000)(hro:H.ro<=H.nx):
  ∃H',Z7 (LK Zx fs fuel 5) fs fuel (n+2) 53 [.str s] H=.ret (.bool (Wu s)) H'∧ZK H H' []:=by
 rw[Z1 (ZU E.n53 (.inl (by decide)) _ _) E.f53]
 have e1:=λ{j}=>mJ E (k:=5) (n:=j) (by decide) (s:=s) (H:=H) iQ hs hro
 have e2:=λ{j}=>Zd7 E (k:=5) (n:=j) (by decide) (s:=s) (p:=[46,119,104,46]) (H:=H) hs
 by_cases h1:s=[]
 ·have bZ:decide (s=[])=true:=Zi h1
  rw[show Wu s=false by unfold Wu qD C7 gM;simp[h1]]
  simp only[bZ,Y7,c53,Z9,Xg,ZY,Yu,Xe]
  refine⟨_,rfl,?_⟩
  exact ZK.refl _ _
 have bZ:decide (s=[])=false:=Ze h1
 by_cases h2: ¬s.length<=251
 ·have dh2:decide (s.length<=251)=false:=Ze h2
  rw[show Wu s=false by unfold Wu qD C7 gM;simp[h2]]
  simp only[dh2,bZ,ZO,Y7,ZP,c53,Z9,Xg,ZY,Yu,Xe]
  refine⟨_,rfl,?_⟩
  exact ZK.refl _ _
 have h2:=Decidable.not_not.1 h2
 have dh2:decide (s.length<=251)=true:=Zi h2
 by_cases h3:s=[46]
 ·have dh3:decide (s=[46])=true:=Zi h3
  rw[show Wu s=false by unfold Wu qD C7 gM;simp[h3]]
  simp only[dh3,bZ,dh2,ZO,Y7,ZP,c53,Z9,Xg,ZY,Yu,Xe]
  refine⟨_,rfl,?_⟩
  exact ZK.refl _ _
 have dh3:decide (s=[46])=false:=Ze h3
 by_cases h4:s=[46,46]
 ·have dh4:decide (s=[46,46])=true:=Zi h4
  rw[show Wu s=false by unfold Wu qD C7 gM;simp[h4]]
  simp only[dh4,bZ,dh2,dh3,ZO,Y7,ZP,c53,Z9,Xg,ZY,Yu,Xe]
  refine⟨_,rfl,?_⟩
  exact ZK.refl _ _
 have dh4:decide (s=[46,46])=false:=Ze h4
 cases ha:MH [47,0] s with
 |true=>
  rw[ha] at e1
  rw[show Wu s=false by unfold Wu;simp[ha]]
  simp only[bZ,dh2,dh3,dh4,e1,ZO,Y7,ZP,c53,Z9,Xg,ZY,Yu,Xe]
  refine⟨_,rfl,?_⟩
  exact ZK.refl _ _
 |false=>
  rw[ha] at e1
  cases hb:Ct [46,119,104,46] s with
  |true=>
   rw[hb] at e2
   rw[show Wu s=false by unfold Wu gM;simp[hb]]
   simp only[bZ,dh2,dh3,dh4,e1,e2,ZO,Y7,ZP,c53,Z9,Xg,ZY,Yu,Xe]
   refine⟨_,rfl,?_⟩
   exact ZK.refl _ _
  |false=>
   rw[hb] at e2
   rw[show Wu s=true by unfold Wu qD C7 gM;simp[h1,h2,h3,h4,ha,hb]]
   simp only[bZ,dh2,dh3,dh4,e1,e2,ZO,Y7,ZP,c53,Z9,Xg,ZY,Yu,Xe]
   refine⟨_,rfl,?_⟩
   exact ZK.refl _ _
theorem ZeQ(E:Env Zx fs fuel)(hk:6<=k)(hs:s.length<=90000)(hro:H.ro<=H.nx):
  Z7 (LK Zx fs fuel k) fs fuel (n+1) 53 [.str s] H=.ret (.bool (Wu s)) H:=by
 obtain⟨H',e,g⟩:=jd E (n:=898) (H:=H) hs hro
 exact Xc (r:=5) rfl rfl e g (rfl) hk
theorem jc(E:Env Zx fs fuel)(hs:s.length<=90000)(hro:H.ro<=H.nx):
  ∃H',Z7 (LK Zx fs fuel 6) fs fuel (n+2) 84 [.str s] H=.ret (.bool (!Wu s)) H'∧ZK H H' []:=by
 rw[Z1 (ZU E.n84 (.inl (by decide)) _ _) E.f84]
 have e1:=λ{j}=>ZeQ E (k:=6) (n:=j) (by decide) (s:=s) (H:=H) hs hro
 simp only[e1,c84,Z9,Xg,ZY,Xe]
 refine⟨_,rfl,?_⟩
 exact ZK.refl _ _
theorem ZiQ(E:Env Zx fs fuel)(hk:7<=k)(hs:s.length<=90000)(hro:H.ro<=H.nx):
  Z7 (LK Zx fs fuel k) fs fuel (n+1) 84 [.str s] H=.ret (.bool (!Wu s)) H:=by
 obtain⟨H',e,g⟩:=jc E (n:=898) (H:=H) hs hro
 exact Xc (r:=6) rfl rfl e g (rfl) hk
structure IFI(v:AV)(l:List (List UInt8))(H0:Heap)(m:Nat)(tm:TM)(H:Heap):Prop where
 heap:H=H0
 t0:YX tm=v
 t1:Wj tm=.func 84 [] []
 t7:Wt tm=nI .i64 l.length
 i: ∃i,Wi tm=nI .i64 i∧i+m=l.length∧ ∀j,j<i->Wu (l.getD j [])=true
def IFQ(l:List (List UInt8))(H0:Heap)(o:Out)(tm:TM)(H:Heap):Prop:=H=H0∧((o=.ret∧ ∃p,XY tm=nI .i64 p∧l.all Wu=false)∨(o=.exit 0∧l.all Wu=true))
theorem ZaM{l:List (List UInt8)}:(∀j,j<l.length->Wu (l.getD j [])=true)->l.all Wu=true:=λh=>by
 rw[Y2]
 intro x hx
 obtain⟨i,hi,rfl⟩:=KJ hx
 have:=h i hi
 rwa [Zh,Zp hi] at this
theorem ce{l:List (List UInt8)}(hi:i<l.length)(h:Wu (l.getD i [])=false):l.all Wu=false:=by
 rw[Bool.eq_false_iff]
 intro e
 rw[Y2] at e
 have:=e _ (Wz hi)
 rw[Zh,Zp hi] at h
 have h:Wu l[i]=false:=h
 rw[h] at this;cases this
theorem di(E:Env Zx fs fuel)(hk:7<=k){v:AV}{l:List (List UInt8)}(hl:l.length<=90000)(hs: ∀i,i<l.length->(l.getD i []).length<=90000)(hro:H0.ro<=H0.nx)(hN:AH H0 v l)(y f dd q)(X0:X)(m:Nat)(tm:TM)(H:Heap)(hI:IFI v l H0 m tm H):
  ∃o tm' H',LY ⟨Z7 (LK Zx fs fuel k) fs fuel (n+1),y,f,dd,q⟩ tm H X0=.ok o tm' H' X0∧((o=.normal∧ ∃k,k<m∧IFI v l H0 k tm' H')∨(o≠.normal∧IFQ l H0 o tm' H')):=by
 obtain⟨rfl,t0,t1,t7,i,t8,him,hn⟩:=hI
 have t0':=t0;have t1':=t1;have CH:=t7
 simp only[Mc,E2,A9,qY] at t0 t1 t7 t8
 cases m with
 |zero=>
  have d1:decide (i<l.length)=false:=Ze (by omega)
  simp only[t7,t8,d1,Zu,LY,Z9,Xg,Xe]
  refine⟨_,_,_,rfl,?_⟩
  exact .inr ⟨by simp,rfl,.inr ⟨rfl,ZaM λj hj=>hn j (by omega)⟩⟩
 |succ m=>
  have d1:decide (i<l.length)=true:=Zi (by omega)
  have hi:i<l.length:=by omega
  rcases hN with⟨_,rfl⟩|⟨b,rfl,_,r,g,hz,hsz,how,hb,hg⟩
  ·simp at hi
  ·have hir:i<r.size:=by omega
   have gi:=hg i hi
   have e1:=λ{j}=>ZiQ E (k:=k) (n:=j) hk (H:=H) (hs i hi) hro
   cases hm:Wu (l.getD i []) with
   |true=>
    rw[hm] at e1
    simp(disch:=omega) only[t0,t1,t7,t8,d1,g,gi,e1,Zu,YB,Zb,ZX,Zn,Zo,Y0,Z0,Zb,LY,Z9,Xg,ZY,Yu,Xe]
    refine⟨_,_,_,rfl,.inl ⟨rfl,m,by omega,rfl,t0',t1',CH,i+1,rfl,by omega,λj hj=>?_⟩⟩
    by_cases h:j=i
    ·rw[h];exact hm
    ·exact hn j (by omega)
   |false=>
    rw[hm] at e1
    simp(disch:=omega) only[t0,t1,t7,t8,d1,g,gi,e1,Zu,Zb,ZX,Zn,Zo,Y0,Z0,Zb,LY,Z9,Xg,ZY,Yu,Xe]
    refine⟨_,_,_,rfl,?_⟩
    exact .inr ⟨by simp,rfl,.inl ⟨rfl,i,rfl,ce hi hm⟩⟩
theorem Zis(E:Env Zx fs fuel)(hk:7<=k){v:AV}{l:List (List UInt8)}(hl:l.length<=90000)(hs: ∀i,i<l.length->(l.getD i []).length<=90000)(hro:H.ro<=H.nx)(hN:AH H v l):
  ∃w,Z7 (LK Zx fs fuel k) fs fuel (n+2) 112 [v,.func 84 [] []] H=.ret w H∧((l.all Wu=false∧ ∃p,w=nI .i64 p)∨(l.all Wu=true∧w=.int .i64 (.negSucc 0))):=by
 rw[Z1 (ZU E.n112 (.inr rfl) _ _) E.f112]
 have ln:=hN.len
 simp only[ln,ZaT,Z9,Xg,Xe]
 generalize hL:Ue (LY _) fuel _ _ _=L
 obtain⟨o,Ny,H2,rfl,_,rfl,z⟩:=XZ (P:=λT=>IFI v l H l.length T H) (Q:=IFQ l H)
  (λT hi=>We (IFI v l H) (IFQ l H) (λm tm H2 h=>di E hk hl hs hro hN _ _ _ _ _ m tm H2 h) fuel l.length T H (by have:=E.big;omega) hi) hL
  (by exact⟨rfl,rfl,rfl,rfl,0,rfl,by omega,λj hj=>by omega⟩)
 rcases z with⟨rfl,p,t4,e⟩|⟨rfl,e⟩
 ·simp only[PD] at t4
  simp only[t4,Z9,ZY,Xe]
  refine⟨_,rfl,?_⟩
  exact .inl ⟨e,p,rfl⟩
 ·
  simp only[Z9,Xg,ZY,Xe]
  refine⟨_,rfl,?_⟩
  exact .inr ⟨e,rfl⟩
theorem Zhx(E:Env Zx fs fuel)(hk:7<=k){v:AV}{l:List (List UInt8)}(hl:l.length<=90000)(hs: ∀i,i<l.length->(l.getD i []).length<=90000)(hro:H.ro<=H.nx)(hN:AH H v l):
  Z7 (LK Zx fs fuel k) fs fuel (n+3) 83 [v,.func 84 [] []] H=.ret (.bool (!l.all Wu)) H:=by
 rw[Z1 (ZU E.n83 (.inr rfl) _ _) E.f83]
 obtain⟨w,e1,h⟩:=Zis E (n:=n) hk hl hs hro hN
 rcases h with⟨h,p,rfl⟩|⟨h,rfl⟩
 ·have d1:decide (0<=p)=true:=Zi (ZA _)
  rw[h]
  simp only[e1,ZR,ZA,decide_true,c83,Z9,Xg,ZY,Yu,Xe]
 ·rw[h]
  simp only[e1,YV,c83,Z9,Xg,ZY,Yu,Xe]
theorem Nl: ∀(s:List UInt8) (x:List UInt8),x∈Up s->x.length<=s.length
 |[],x,h=>by
  have:x=[]:=by simpa [Up] using h
  rw[this];exact Zz _
 |c::s,x,h=>by
  rw[Up] at h
  rw[Zl]
  split at h
  ·rcases Ys.1 h with rfl|h
   ·exact ZA _
   ·have:=Nl s x h;omega
  ·split at h
   ·rename_i e;exact absurd e (IE s)
   ·rename_i a b e
    rcases Ys.1 h with rfl|h
    ·have:=Nl s a (by rw[e];exact ZE ..)
     rw[Zl];omega
    ·have:=Nl s x (by rw[e];exact ZQ _ h);omega
theorem xI{x:List UInt8}(h:x∈RY s):x.length<=s.length:=by
 unfold RY at h
 split at h
 ·cases h
 ·exact Nl s x h
theorem pQ(s:List UInt8):(RY s).length<=s.length+1:=by
 unfold RY
 split
 ·exact ZA _
 ·rw[Pr];have:=AU 47 s;omega
theorem jT(E:Env Zx fs fuel)(hs:s.length<=89000)(hro:H.ro<=H.nx):
  ∃H',Z7 (LK Zx fs fuel 9) fs fuel (n+6) 52 [.str s] H=.ret (.bool (K8 s)) H'∧ZK H H' []:=by
 rw[Z1 (ZU E.n52 (.inl (by decide)) _ _) E.f52]
 obtain⟨v,H1,e1,hN,k1⟩:=uU E (k:=9) (n:=n+1) (by decide) (s:=s) (by omega) hro
 have ln:=hN.len
 have nl:=pQ s
 have e2:=λ{j}=>Zhx E (k:=9) (n:=j) (by decide) (v:=v) (l:=RY s) (by omega) (λi hi=>by
  have:(RY s).getD i []∈RY s:=by rw[Zh,Zp hi];exact Wz hi
  have:=xI this;omega) (by rw[k1.ro];exact YR hro k1.nx) hN
 by_cases h1:s.length<=4080
 ·have d1:decide (s.length<=4080)=true:=Zi h1
  by_cases h2:(RY s).length<255
  ·have d2:decide ((RY s).length<255)=true:=Zi h2
   cases hm:(RY s).all Wu with
   |true=>
    rw[hm] at e2
    rw[show K8 s=true by unfold K8;simp only[hm,h1,h2];rfl]
    simp only[e1,ln,d1,d2,e2,ZO,Zu,ZP,c52,Z9,Xg,ZY,Yu,Xe]
    refine⟨_,rfl,?_⟩
    exact k1
   |false=>
    rw[hm] at e2
    rw[show K8 s=false by unfold K8;simp only[hm,Bool.and_false]]
    simp only[e1,ln,d1,d2,e2,ZO,Zu,ZP,c52,Z9,Xg,ZY,Yu,Xe]
    refine⟨_,rfl,?_⟩
    exact k1
  ·have d2:decide ((RY s).length<255)=false:=Ze h2
   rw[show K8 s=false by unfold K8;rw[d2,Bool.and_false];rfl]
   simp only[e1,ln,d1,d2,ZO,Zu,ZP,c52,Z9,Xg,ZY,Xe]
   refine⟨_,rfl,?_⟩
   exact k1
 ·have d1:decide (s.length<=4080)=false:=Ze h1
  rw[show K8 s=false by unfold K8;rw[d1];rfl]
  simp only[e1,d1,ZO,ZP,c52,Z9,Xg,ZY,Xe]
  refine⟨_,rfl,?_⟩
  exact k1
theorem ZiY(E:Env Zx fs fuel)(hk:10<=k)(hs:s.length<=89000)(hro:H.ro<=H.nx):
  Z7 (LK Zx fs fuel k) fs fuel (n+1) 52 [.str s] H=.ret (.bool (K8 s)) H:=by
 obtain⟨H',e,g⟩:=jT E (n:=894) (H:=H) hs hro
 exact Xc (r:=9) rfl rfl e g (rfl) hk
def cEs:List Sy:=[⟨nI .i64 1,.func 225 [] [],0⟩,⟨nI .i64 2,.func 226 [] [],0⟩,⟨nI .i64 3,.func 227 [] [],0⟩]
def tEs:List Sy:=[⟨nI .i64 1,nI .u8 53,0⟩,⟨nI .i64 2,nI .u8 48,0⟩,⟨nI .i64 3,nI .u8 50,0⟩,⟨nI .i64 4,nI .u8 54,0⟩]
structure Ot(H:Heap):Prop where
 nx:100<=H.nx
 ro:H.ro<=H.nx
 c: ∃r,H.t.get 2=some (.row r)∧0<r.size∧r.get 0=.map 14
 cm:H.t.get 14=some (.cmap cEs)
 t: ∃r,H.t.get 0=some (.row r)∧0<r.size∧r.get 0=.map 12
 tm:H.t.get 12=some (.cmap tEs)
theorem Ot.keep{H H':Heap}{S:List Nat}(g:Ot H)(k:ZK H H' S)(hS: ∀x∈S,100<=x):Ot H':=by
 obtain⟨a,b,⟨r,c1,c2,c3⟩,d,⟨q,e1,e2,e3⟩,f⟩:=g
 have kk:=λx (hx:x<100)=>k.get x (by omega) (λh=>by have:=hS x h;omega)
 exact⟨YR a k.nx,by rw[k.ro];exact YR b k.nx,⟨r,by rw[kk _ (by decide)];exact c1,c2,c3⟩,by rw[kk _ (by decide)];exact d,⟨q,by rw[kk _ (by decide)];exact e1,e2,e3⟩,by rw[kk _ (by decide)];exact f⟩
theorem Ot.keep0{H H':Heap}(g:Ot H)(k:ZK H H' []):Ot H':=g.keep k (by simp)
theorem dM(G:Heap):lkO VU .nilf false (some (.cmap cEs)) (nI .i64 1) G=.val (.func 225 [] []) G:=rfl
theorem kT(G:Heap):lkO VU .nilf false (some (.cmap cEs)) (nI .i64 2) G=.val (.func 226 [] []) G:=rfl
theorem Zb7(G:Heap):lkO VU .nilf false (some (.cmap cEs)) (nI .i64 3) G=.val (.func 227 [] []) G:=rfl
theorem d9(d:List UInt8):(zI d).length<=d.length:=by
 unfold zI
 split
 ·rw[Z2];omega
 ·exact Zz _
theorem Jx(p:List UInt8):(SH p).length+(VN p).length=p.length:=by
 unfold SH VN
 rw[Z2,Xt];omega
theorem rR{b:List UInt8}(h:P8 b=2):4<=b.length:=by
 unfold P8 at h
 split at h
 ·cases h
 ·split at h
  ·rename_i e
   unfold Ct gM at e
   rw[Xf] at e
   exact Zm e.1
  ·cases h
theorem nu(p:List UInt8):(RO p).length<=p.length:=by
 have h:=Jx p
 unfold RO
 split
 ·rw[Zk];omega
 ·split
  ·rw[Zk,Xt];omega
  ·have:=d9 (SH p);omega
theorem vL(E:Env Zx fs fuel)(hs:s.length<=80000)(g:Ot H):
  ∃H',Z7 (LK Zx fs fuel 10) fs fuel (n+2) 25 [.str s] H=.ret (.tup [nI .i64 (W8 s).1,.str (W8 s).2]) H'∧ZK H H' []:=by
 rw[Z1 (ZU E.n25 (.inl (by decide)) _ _) E.f25]
 have e1:=λ{j}=>base E (k:=10) (n:=j) (by decide) (s:=s) (H:=H) (by omega)
 have e2:=λ{j}=>ZeI E (k:=10) (n:=j) (by decide) (s:=VN s) (H:=H) (by have:=Jx s;omega)
 have e3:=λ{j}=>ZaC E (k:=10) (n:=j) (by decide) (s:=s) (p:=VN s) (H:=H) (by omega)
 rw[nD] at e3
 have e4:=λ{j}=>ZiY E (k:=10) (n:=j) (by decide) (s:=RO s) (H:=H) (by have:=nu s;omega) g.ro
 have e6:=λ{j}=>ZeQ E (k:=10) (n:=j) (by decide) (s:=(VN s).drop 4) (H:=H) (by rw[Xt];have:=Jx s;omega) g.ro
 have nq1:decide (1≠3)=true:=rfl
 have nq2:decide (2≠3)=true:=rfl
 have nq3:decide (3≠3)=false:=rfl
 obtain⟨r,g1,g2,g3⟩:=g.c
 have ld: ∀G,ld1 (some (.row r)) 0 G=.val (.map 14) G:=λG=>by rw[Y0 g2,g3]
 have gm:=g.cm
 have bd:=Jx s
 obtain⟨l1,l3⟩:=dD (VN s)
 by_cases h0:s=[46,119,104,46,46,119,104,46,116,111,99]
 ·have d0:decide (s=[46,119,104,46,46,119,104,46,116,111,99])=true:=Zi h0
  rw[show W8 s=(4,[]) by unfold W8 ZcU;simp[h0]]
  simp only[d0,YM,vD,Z9,Xg,ZY,Xe]
  refine⟨_,rfl,?_⟩
  exact ZK.refl _ _
 have d0:decide (s=[46,119,104,46,46,119,104,46,116,111,99])=false:=Ze h0
 have h0': ¬s=ZcU:=h0
 have hcl:P8 (VN s)=1∨P8 (VN s)=2∨P8 (VN s)=3:=by omega
 rcases hcl with hc|hc|hc
 ·rw[hc] at e2
  have ht:RO s=SH s++VN s:=by unfold RO;simp[hc]
  rw[ht] at e4
  have e5:=λ{j}=>Zbb E (k:=10) (n:=j) (by decide) (a:=SH s) (s:=VN s) (H:=H) (by omega)
  cases hm:K8 (SH s++VN s) with
  |false=>
   rw[hm] at e4
   rw[show W8 s=(0,[]) by unfold W8 I0;simp[h0',ht,hm,hc]]
   simp only[d0,e1,e2,e3,e4,e5,g1,ld,gm,dM,YA,YM,ZX,Zn,Zo,Zr,ZL,vD,Z9,Xg,ZY,Yu,Xe,U4]
   refine⟨_,rfl,?_⟩
   exact ZK.refl _ _
  |true=>
   rw[hm] at e4
   by_cases hz:SH s++VN s=[]
   ·have dz:decide (SH s++VN s=[])=true:=Zi hz
    have hz2:K8 []=true:=by rw[<-hz];exact hm
    rw[show W8 s=(0,[]) by unfold W8 I0;rw[ht,dz];simp[h0',hc]]
    simp only[nq1,d0,e1,e2,e3,e4,e5,g1,ld,gm,dM,dz,YA,Y9,YM,ZX,Zn,Zo,Zr,ZL,vD,Z9,Xg,ZY,Yu,Xe,U4]
    refine⟨_,rfl,?_⟩
    exact ZK.refl _ _
   ·have dz:decide (SH s++VN s=[])=false:=Ze hz
    by_cases hd:SH s=[47]
    ·have dd:decide (SH s=[47])=true:=Zi hd
     rw[show W8 s=(0,[]) by unfold W8 I0;simp[h0',ht,hc, -List.append_eq_nil_iff,hd]]
     simp only[nq1,d0,e1,e2,e3,e4,e5,g1,ld,gm,dM,dz,dd,YL,Y9,YM,Nat.reduceEqDiff,decide_false,ZX,Zn,Zo,Zr,ZL,vD,Z9,Xg,ZY,Yu,Nat.reduceEqDiff,Xe,U4]
     refine⟨_,rfl,?_⟩
     exact ZK.refl _ _
    ·have dd:decide (SH s=[47])=false:=Ze hd
     rw[show W8 s=(1,SH s++VN s) by unfold W8 I0;simp[h0',ht,hm,hc, -List.append_eq_nil_iff,hz,hd]]
     simp only[nq1,d0,e1,e2,e3,e4,e5,g1,ld,gm,dM,dz,dd,YL,Y9,YM,Nat.reduceEqDiff,decide_false,ZX,Zn,Zo,Zr,ZL,vD,Z9,Xg,ZY,Yu,Nat.reduceEqDiff,Xe,U4]
     refine⟨_,rfl,?_⟩
     exact ZK.refl _ _
 ·rw[hc] at e2
  have ht:RO s=SH s++(VN s).drop 4:=by unfold RO;simp[hc]
  rw[ht] at e4
  have e5:=λ{j}=>Zbc E (k:=10) (n:=j) (by decide) (a:=SH s) (s:=VN s) (H:=H) (by omega) (rR hc)
  have hp4:=rR hc
  cases hm:K8 (SH s++(VN s).drop 4) with
  |false=>
   rw[hm] at e4
   rw[show W8 s=(0,[]) by unfold W8 I0;simp[h0',ht,hm,hc]]
   simp only[d0,e1,e2,e3,e4,e5,g1,ld,gm,kT,YA,YM,ZX,Zn,Zo,Zr,ZL,vD,Z9,Xg,ZY,Yu,Xe,U4]
   refine⟨_,rfl,?_⟩
   exact ZK.refl _ _
  |true=>
   rw[hm] at e4
   by_cases hz:SH s++(VN s).drop 4=[]
   ·have dz:decide (SH s++(VN s).drop 4=[])=true:=Zi hz
    rw[show W8 s=(0,[]) by unfold W8 I0;rw[ht,dz];simp[h0',hc]]
    simp only[nq2,d0,e1,e2,e3,e4,e5,g1,ld,gm,kT,dz,YA,Y9,YM,ZX,Zn,Zo,Zr,ZL,vD,Z9,Xg,ZY,Yu,Xe,U4]
    refine⟨_,rfl,?_⟩
    exact ZK.refl _ _
   ·have dz:decide (SH s++(VN s).drop 4=[])=false:=Ze hz
    cases hn:Wu ((VN s).drop 4) with
    |false=>
     rw[hn] at e6
     rw[show W8 s=(0,[]) by unfold W8 I0;simp[h0',ht,hm,hc,hn]]
     simp(disch:=omega) only[nq2,d0,e1,e2,e3,e4,e5,g1,ld,gm,kT,dz,e6,YL,Y9,YM,Yc,decide_true,ZX,Zn,Zo,Zr,ZL,vD,Z9,Xg,ZY,Yu,Xe,U4]
     refine⟨_,rfl,?_⟩
     exact ZK.refl _ _
    |true=>
     rw[hn] at e6
     by_cases hd:SH s=[47]
     ·have dd:decide (SH s=[47])=true:=Zi hd
      rw[show W8 s=(0,[]) by unfold W8 I0;simp[h0',ht,hc,hn, -List.append_eq_nil_iff,hd]]
      simp(disch:=omega) only[nq2,d0,e1,e2,e3,e4,e5,g1,ld,gm,kT,dz,e6,dd,YL,Y9,YM,Yc,decide_true,ZX,Zn,Zo,Zr,ZL,vD,Z9,Xg,ZY,Yu,Xe,U4]
      refine⟨_,rfl,?_⟩
      exact ZK.refl _ _
     ·have dd:decide (SH s=[47])=false:=Ze hd
      rw[show W8 s=(2,SH s++(VN s).drop 4) by unfold W8 I0;simp[h0',ht,hm,hc,hn, -List.append_eq_nil_iff,hz,hd]]
      simp(disch:=omega) only[nq2,d0,e1,e2,e3,e4,e5,g1,ld,gm,kT,dz,e6,dd,YL,Y9,YM,Yc,decide_true,ZX,Zn,Zo,Zr,ZL,vD,Z9,Xg,ZY,Yu,Xe,U4]
      refine⟨_,rfl,?_⟩
      exact ZK.refl _ _
 ·rw[hc] at e2
  have ht:RO s=zI (SH s):=by unfold RO;simp[hc]
  rw[ht] at e4
  have e5:=λ{j}=>Zbd E (k:=10) (n:=j) (by decide) (a:=SH s) (s:=VN s) (H:=H) (by omega)
  cases hm:K8 (zI (SH s)) with
  |false=>
   rw[hm] at e4
   rw[show W8 s=(0,[]) by unfold W8 I0;simp[h0',ht,hm,hc]]
   simp only[d0,e1,e2,e3,e4,e5,g1,ld,gm,Zb7,YA,YM,ZX,Zn,Zo,Zr,ZL,vD,Z9,Xg,ZY,Yu,Xe,U4]
   refine⟨_,rfl,?_⟩
   exact ZK.refl _ _
  |true=>
   rw[hm] at e4
   by_cases hd:SH s=[47]
   ·have dd:decide (SH s=[47])=true:=Zi hd
    rw[show W8 s=(0,[]) by unfold W8 I0;simp[h0',ht,hc,hd]]
    simp only[nq3,d0,e1,e2,e3,e4,e5,g1,ld,gm,Zb7,dd,YL,Y9,YM,Nat.reduceEqDiff,decide_false,ZX,Zn,Zo,Zr,ZL,vD,Z9,Xg,ZY,Yu,Nat.reduceEqDiff,Xe,U4]
    refine⟨_,rfl,?_⟩
    exact ZK.refl _ _
   ·have dd:decide (SH s=[47])=false:=Ze hd
    rw[show W8 s=(3,zI (SH s)) by unfold W8 I0;simp[h0',ht,hm,hc,hd]]
    simp only[nq3,d0,e1,e2,e3,e4,e5,g1,ld,gm,Zb7,dd,YL,Y9,YM,Nat.reduceEqDiff,decide_false,ZX,Zn,Zo,Zr,ZL,vD,Z9,Xg,ZY,Yu,Nat.reduceEqDiff,Xe,U4]
    refine⟨_,rfl,?_⟩
    exact ZK.refl _ _
theorem Zbe(E:Env Zx fs fuel)(hk:11<=k)(hs:s.length<=80000)(g:Ot H):
  Z7 (LK Zx fs fuel k) fs fuel (n+1) 25 [.str s] H=.ret (.tup [nI .i64 (W8 s).1,.str (W8 s).2]) H:=by
 obtain⟨H',e,g⟩:=vL E (n:=898) (H:=H) hs g
 exact Xc (r:=10) rfl rfl e g (rfl) hk
end
theorem WS{b:Bool}{k:OR}{v:AV}{H:Heap}(h:Yb b k=.val v H):k=.val v H:=by
 cases b with
 |true=>exact h
 |false=>cases h
theorem oz{H:Heap}{b:Nat}{k:Row->OR}{v:AV}{H':Heap}(h:XA H b k=.val v H'): ∃r,k r=.val v H':=by
 unfold XA at h
 split at h
 ·exact⟨_,h⟩
 ·cases h
theorem Pm{H:Heap}{e sz:Nat}{l:List AV}{ex:Bool}{c:Nat}(hc:c<H.nx):(H.newRow e sz l ex).t.get c=H.t.get c:=by
 rw[Yw,Pb (by omega)]
theorem qj{v:AV}{e sz bytes:Nat}{H:Heap}{n:Nat}{new:List AV}{v':AV}{H':Heap}(h:PS v e sz bytes H n new=.val v' H'){c:Nat}(hc:c<H.nx)(hv: ∀b o l q,v=.slice b o l q->c≠b):H'.t.get c=H.t.get c:=by
 cases v with
 |nils=>
  replace h:cond (Nat.beq n 0) (.val .nils H) (Yb (Nat.ble (Nat.mul n bytes) 140737488355328) (.val (.slice H.nx 0 n none) (H.newRow e sz new false)))=OR.val v' H':=h
  cases h0:Nat.beq n 0 with
  |true=>rw[h0] at h;cases h;rfl
  |false=>
   rw[h0] at h
   have h:=WS (show Yb (Nat.ble (Nat.mul n bytes) 140737488355328) (.val (.slice H.nx 0 n none) (H.newRow e sz new false))=OR.val v' H' from h)
   cases h;exact Pm hc
 |slice0=>
  replace h:cond (Nat.beq n 0) (.val .slice0 H) (Yb (Nat.ble (Nat.mul n bytes) 140737488355328) (.val (.slice H.nx 0 n none) (H.newRow e sz new false)))=OR.val v' H':=h
  cases h0:Nat.beq n 0 with
  |true=>rw[h0] at h;cases h;rfl
  |false=>
   rw[h0] at h
   have h:=WS (show Yb (Nat.ble (Nat.mul n bytes) 140737488355328) (.val (.slice H.nx 0 n none) (H.newRow e sz new false))=OR.val v' H' from h)
   cases h;exact Pm hc
 |slice b o len cap=>
  have hb:=hv b o len cap rfl
  replace h:XA H b (λr=>Yb (MU r sz cap) (cond (Nat.ble (Nat.add len n) (VO r o cap)) (Kq H (.slice b o len cap) b o len n sz cap r new) (Ow H e b o len n sz bytes cap r new)))=OR.val v' H':=h
  obtain⟨r,h⟩:=oz h
  have h:=WS h
  cases h0:Nat.ble (Nat.add len n) (VO r o cap) with
  |true=>
   rw[h0] at h
   replace h:Kq H (.slice b o len cap) b o len n sz cap r new=OR.val v' H':=h
   unfold Kq at h
   cases h1:Nat.beq n 0 with
   |true=>rw[h1] at h;cases h;rfl
   |false=>
    rw[h1] at h
    have h:=WS (WS (WS h))
    cases h
    exact RW (λe=>hb e.symm) ..
  |false=>
   rw[h0] at h
   replace h:Ow H e b o len n sz bytes cap r new=OR.val v' H':=h
   unfold Ow at h
   have h:=WS (WS h)
   cases cap with
   |some q=>cases h;exact Pm hc
   |none=>
    cases h1:r.exact with
    |true=>
     have h:=WS (show Yb (Nat.beq (Nat.mod o sz) 0) (.val (.slice H.nx 0 (Nat.add len n) none) (H.newRow e sz (W9 r o (Nat.mul len sz)++new) false))=OR.val v' H' by rw[h1] at h;exact h)
     cases h;exact Pm hc
    |false=>
     have h:IZ H e b o len n sz r new=OR.val v' H':=by rw[h1] at h;exact h
     unfold IZ at h
     have h:=WS (WS (WS (WS (WS h))))
     cases h
     show((H.t.del b).set H.nx _).get c=_
     rw[T.get_set,if_neg (by omega),T.get_del,if_neg λe=>hb e.symm]
 |_=>cases h
theorem nY{v:AV}{e sz bytes:Nat}{H:Heap}{n:Nat}{new:List AV}{v':AV}{H':Heap}(h:PS v e sz bytes H n new=.val v' H')(hcap: ∀b o l q,v=.slice b o l q-> ∀r,H.t.get b=some (.row r)->Nat.ble (Nat.add l n) (VO r o q)=false): ∀b o l q,v'=.slice b o l q->b=H.nx:=by
 intro b0 o0 l0 q0 e0
 cases v with
 |nils=>
  replace h:cond (Nat.beq n 0) (.val .nils H) (Yb (Nat.ble (Nat.mul n bytes) 140737488355328) (.val (.slice H.nx 0 n none) (H.newRow e sz new false)))=OR.val v' H':=h
  cases h0:Nat.beq n 0 with
  |true=>rw[h0] at h;cases h;cases e0
  |false=>
   rw[h0] at h
   have h:=WS (show Yb (Nat.ble (Nat.mul n bytes) 140737488355328) (.val (.slice H.nx 0 n none) (H.newRow e sz new false))=OR.val v' H' from h)
   cases h;cases e0;rfl
 |slice0=>
  replace h:cond (Nat.beq n 0) (.val .slice0 H) (Yb (Nat.ble (Nat.mul n bytes) 140737488355328) (.val (.slice H.nx 0 n none) (H.newRow e sz new false)))=OR.val v' H':=h
  cases h0:Nat.beq n 0 with
  |true=>rw[h0] at h;cases h;cases e0
  |false=>
   rw[h0] at h
   have h:=WS (show Yb (Nat.ble (Nat.mul n bytes) 140737488355328) (.val (.slice H.nx 0 n none) (H.newRow e sz new false))=OR.val v' H' from h)
   cases h;cases e0;rfl
 |slice b o len cap=>
  have hb:=hcap b o len cap rfl
  replace h:XA H b (λr=>Yb (MU r sz cap) (cond (Nat.ble (Nat.add len n) (VO r o cap)) (Kq H (.slice b o len cap) b o len n sz cap r new) (Ow H e b o len n sz bytes cap r new)))=OR.val v' H':=h
  unfold XA at h
  split at h
  ·rename_i r hr
   have h:=WS h
   rw[hb r hr] at h
   replace h:Ow H e b o len n sz bytes cap r new=OR.val v' H':=h
   unfold Ow at h
   have h:=WS (WS h)
   cases cap with
   |some q=>cases h;cases e0;rfl
   |none=>
    cases h1:r.exact with
    |true=>
     have h:=WS (show Yb (Nat.beq (Nat.mod o sz) 0) (.val (.slice H.nx 0 (Nat.add len n) none) (H.newRow e sz (W9 r o (Nat.mul len sz)++new) false))=OR.val v' H' by rw[h1] at h;exact h)
     cases h;cases e0;rfl
    |false=>
     have h:IZ H e b o len n sz r new=OR.val v' H':=by rw[h1] at h;exact h
     unfold IZ at h
     have h:=WS (WS (WS (WS (WS h))))
     cases h;cases e0;rfl
  ·cases h
 |_=>cases h
theorem tc{H:Heap}{v:AV}{e sz bytes:Nat}{ls:List (List AV)}{lo:Nat}(h:RP H v e sz ls lo)(hsz:1<=sz)(hby:1<=bytes)(hl:(ls.length+1)*bytes<=140737488355328)(hro:H.ro<=H.nx)(hlo:lo<=H.nx){x:List AV}(hx:x.length=sz):
  ∃v' H',TP e sz bytes v (.slice H.nx 0 1 none) (H.newRow e sz x true)=.val v' H'∧RP H' v' e sz (ls++[x]) lo∧Below lo H H'∧
   (∀c,c<H.nx->(∀b o l q,v=.slice b o l q->c≠b)->H'.t.get c=H.t.get c)∧ ∀b o l q,v'=.slice b o l q->H.nx<=b:=by
 obtain⟨v',H',ea,rb,w⟩:=oP h hsz hby hl hro hlo hx
 generalize hH1:H.newRow e sz x true=H1 at ea
 have Kn:H1.nx=H.nx+1:=by rw[<-hH1];rfl
 have gx:H1.t.get H.nx=some (.row ⟨e,sz,Xa x,T.ofList x,.unk,0,false,true,true⟩):=by rw[<-hH1,HH,Nh,if_pos rfl]
 have cx:=Cells.new e sz x 0 false true true
 have ap:TP e sz bytes v (.slice H.nx 0 1 none) H1=PS v e sz bytes H1 1 x:=by
  show Yb (Nat.ble 1 sz) (Yb (Nat.ble 1 bytes) (WY H1 sz (.slice H.nx 0 1 none) 1 λnew=>PS v e sz bytes H1 1 new))=_
  rw[Zj hsz,Zj hby]
  show(WY H1 sz (.slice H.nx 0 1 none) 1 λnew=>PS v e sz bytes H1 1 new)=_
  generalize(⟨e,sz,Xa x,T.ofList x,.unk,0,false,true,true⟩:Row)=r0 at gx cx
  unfold WY XA
  simp only[gx]
  show Yb (Nat.ble (0+1*sz) r0.size) (PS v e sz bytes H1 1 (W9 r0 0 (1*sz)))=_
  rw[Qc,cx.size,hx,Zj (show 0+sz<=sz by omega)]
  have:=cx.load (o:=0) (n:=sz) (by omega)
  rw[this,ZC,Y1 (by omega)]
  rfl
 rw[ap] at ea
 refine⟨v',H',by rw[ap];exact ea,rb,w,λc hc hv=>?_,λb o l q e'=>?_⟩
 ·rw[qj ea (by omega) hv,<-hH1,Pm hc]
 ·have:=nY ea (λb o l q ev r hr=>by
   rcases h with⟨_,rfl⟩|⟨_,b2,r2,rfl,g,_⟩
   ·cases ev
   ·cases ev
    have hg:H1.t.get b=some (.row r2):=by rw[<-hH1,Pm g.low];exact g.at_
    rw[hg] at hr
    cases hr
    have hcap:VO r 0 none=ls.length:=by
     show cond (Nat.beq r.sz 1) (r.size - 0) ((r.size - 0)/r.sz)=_
     rw[g.szr,g.size,Qq]
     by_cases h1:sz=1
     ·subst h1;show ls.length*1=_;omega
     ·rw[YZ,Ze h1]
      exact Nat.mul_div_cancel _ (by omega)
    rw[hcap]
    cases h:Nat.ble (Nat.add ls.length 1) ls.length with
    |false=>rfl
    |true=>have:=Yn h;have:ls.length+1<=ls.length:=this;omega) b o l q e'
  omega
def Wo:AV->List Nat
 |.slice b _ _ _=>[b]
 |_=>[]
theorem rS{H:Heap}{v:AV}{e sz bytes:Nat}{ls:List (List AV)}{lo:Nat}(h:RP H v e sz ls lo)(hsz:1<=sz)(hby:1<=bytes)(hl:(ls.length+1)*bytes<=140737488355328)(hro:H.ro<=H.nx)(hlo:lo<=H.nx){x:List AV}(hx:x.length=sz):
  ∃v' H',TP e sz bytes v (.slice H.nx 0 1 none) (H.new (rG e sz x 0 false true true))=.val v' H'∧RP H' v' e sz (ls++[x]) lo∧ZK H H' (Wo v)∧(∀b∈Wo v',H.nx<=b)∧H.nx<H'.nx:=by
 obtain⟨v',H',a,b,w,c,d⟩:=tc h hsz hby hl hro hlo hx
 have hn:H.nx<H'.nx:=by
  rcases b with⟨e,_⟩|⟨_,b,r,e,g,_⟩
  ·simp at e
  ·have:=d _ _ _ _ e;have:=g.low;omega
 refine⟨v',H',a,b,⟨w.nx,w.ro,λx hx hn=>c x hx λb o l q e he=>hn ?_⟩,λx hx=>?_,hn⟩
 ·subst e;rw[he];exact Zv.2 rfl
 ·rcases b with⟨e,_⟩|⟨_,b,r,e,g,_⟩
  ·simp at e
  ·subst e
   rw[Zv.1 hx]
   exact d _ _ _ _ rfl
def Sz(H:Heap)(sz:Nat)(v:AV)(ls:List (List AV)):Prop:=(ls=[]∧v=.slice0)∨Sl H sz v ls
theorem Sz.keep{H H':Heap}{sz:Nat}{v:AV}{ls:List (List AV)}{S:List Nat}(h:Sz H sz v ls)(k:ZK H H' S)(hS: ∀b o n c,v=.slice b o n c->b∉S):Sz H' sz v ls:=by
 rcases h with h|h
 ·exact .inl h
 ·exact .inr (h.keep k hS)
theorem Sz.keep0{H H':Heap}{sz:Nat}{v:AV}{ls:List (List AV)}(h:Sz H sz v ls)(k:ZK H H' []):Sz H' sz v ls:=h.keep k (by simp)
def Cut(H:Heap)(sz:Nat)(v:AV)(ls:List (List AV)):Prop:=Sz H sz v ls∧ ∀(k:Nat),k<=ls.length-> ∃v',(∀G:Heap,(∀c,c<H.nx->G.t.get c=H.t.get c)->Th sz v none (some (nI .i64 k)) G=.val v' G)∧Sz H sz v' (ls.take k)
theorem Cut.keep{H H':Heap}{sz:Nat}{v:AV}{ls:List (List AV)}(h:Cut H sz v ls)(k:ZK H H' []):Cut H' sz v ls:=
 ⟨h.1.keep0 k,λn hn=>by
  obtain⟨v',h1,h2⟩:=h.2 n hn
  exact⟨v',λG hG=>h1 G λc hc=>(hG c (Yk hc k.nx)).trans (k.get c hc (by simp)),h2.keep0 k⟩⟩
def HY(r:Row)(sz n:Nat):List (List AV):=(List.range n).map λi=>(List.range sz).map λj=>r.get (i*sz+j)
theorem OJ(r:Row)(sz n:Nat):(HY r sz n).length=n:=by unfold HY;simp
theorem B7(r:Row)(sz n:Nat): ∀l∈HY r sz n,l.length=sz:=by
 intro l hl
 unfold HY at hl
 obtain⟨i,_,rfl⟩:=Xq.1 hl
 simp
theorem rW(r:Row)(sz:Nat){n i:Nat}(h:i<n):(HY r sz n).getD i []=(List.range sz).map λj=>r.get (i*sz+j):=by
 unfold HY
 rw[Zh,Xb,VF h];rfl
theorem oT(r:Row)(sz:Nat)(hsz:1<=sz){n i:Nat}(h:i<n*sz):(HY r sz n).flatten.getD i .unk=r.get i:=by
 have hq:i/sz<n:=Qp (by rw[VB];exact h)
 have hm:i % sz<sz:=X7 _ (by omega)
 have:=AI.flat_at (ls:=HY r sz n) (i:=i/sz) (B7 r sz n) (by rw[OJ];exact hq)
 rw[rW r sz hq] at this
 have e:i/sz*sz+i % sz=i:=by rw[VB];exact SN i sz
 have h2:=congrArg (λl=>l[i % sz]?) this
 simp only[XE hm,XN,e,Xb,VF hm] at h2
 rw[Zh,h2]
 show r.get (i/sz*sz+i % sz)=_
 rw[e]
theorem oU(r:Row)(sz:Nat){n k:Nat}(h:k<=n):(HY r sz n).take k=HY r sz k:=by
 unfold HY
 rw[<-List.map_take,List.take_range,WR h]
theorem iP{G:Heap}{b sz n:Nat}{r:Row}{c:Option Nat}(hsz:1<=sz)(hb:b<G.nx)(hr:G.t.get b=some (.row r))(hs:n*sz<=r.size):Sl G sz (.slice b 0 n c) (HY r sz n):=
 ⟨B7 r sz n,.inr ⟨b,0,c,by rw[OJ],hb,λ_=>⟨r,hr,by rw[OJ];omega,λi hi=>by rw[OJ] at hi;rw[Zb,oT r sz hsz hi]⟩⟩⟩
theorem qb{G:Heap}{es:List Sh}{v:AV}(h:Told G (.sl es) v): ∃ls,Cut G es.length v ls∧ls.length<=maxLen∧ ∀i,i<ls.length->(ls.getD i []).length=es.length∧ ∀(j:Nat) e,es[j]? =some e->Told G e ((ls.getD i []).getD j .unk):=by
 cases h with
 |nils=>
  refine⟨[],⟨.inr (Sl.nil ..),λk hk=>?_⟩,ZA _,λi hi=>by simp at hi⟩
  obtain rfl:k=0:=by simpa using hk
  exact⟨.nils,λ_ _=>rfl,.inr (Sl.nil ..)⟩
 |slice0=>
  refine⟨[],⟨.inl ⟨rfl,rfl⟩,λk hk=>?_⟩,ZA _,λi hi=>by simp at hi⟩
  obtain rfl:k=0:=by simpa using hk
  exact⟨.slice0,λ_ _=>rfl,.inl ⟨rfl,rfl⟩⟩
 | @slice _ b len cap r h1 hl h0 hc hb hr hs ho hz hok=>
  have hm:len*es.length<=cap*es.length:=W7 _ hl
  refine⟨HY r es.length len,⟨.inr (iP h1 hb hr (by omega)),λk hkl=>?_⟩,by rw[OJ];omega,λi hi=>?_⟩
  ·rw[OJ] at hkl
   have hmk:k*es.length<=len*es.length:=W7 _ hkl
   refine⟨.slice b 0 k (some cap),λG' hk=>?_,by rw[oU _ _ hkl];exact .inr (iP h1 hb hr (by omega))⟩
   have g:=hk b hb
   show XA G' b _=_
   unfold XA
   rw[g,hr]
   show Yb (Nat.ble k cap) (Yb (Nat.ble 0 k) (Yb (Nat.ble 0 cap) (cond (Nat.beq 0 cap) _ (OR.val (.slice b (0+0*es.length) (k - 0) (some (cap - 0))) G'))))=_
   rw[Zj (by omega),Zj (ZA _),Zj (ZA _),show Nat.beq 0 cap=false by rw[YZ];exact Ze (by omega),Vi]
   rfl
  ·rw[OJ] at hi
   rw[rW r _ hi]
   refine⟨by simp,λj e he=>?_⟩
   have hj:j<es.length:=(Vg.1 he).1
   have hij:i*es.length+j<cap*es.length:=by
    have:(i+1)*es.length<=cap*es.length:=W7 _ (by omega)
    rw[WH] at this;omega
   rw[Zh,Xb,VF hj]
   show Told G e (r.get (i*es.length+j))
   refine hok _ e hij ?_
   rw[VB,Nat.mul_add_mod,YH hj];exact he
theorem Gz{α:Type}{ls:List (List AV)}{f:α->List AV}{p:α->Prop}(h: ∀i,i<ls.length-> ∃x,ls.getD i []=f x∧p x): ∃l:List α,ls=l.map f∧ ∀x∈l,p x:=by
 induction ls with
 |nil=>exact⟨[],rfl,λ_ h=>by cases h⟩
 |cons a ls ih=>
  obtain⟨x,h1,h2⟩:=h 0 (by simp)
  obtain⟨l,h3,h4⟩:=ih λi hi=>by
   have:=h (i+1) (by simp;omega)
   simpa using this
  refine⟨x::l,by rw[ZB,<-h3,<-h1];rfl,λy hy=>?_⟩
  rcases Ys.1 hy with rfl|hy
  ·exact h2
  ·exact h4 y hy
theorem ZeM{l:List AV}(h:l.length=2):l=[l.getD 0 .unk,l.getD 1 .unk]:=by
 match l,h with
 |[a,b],_=>rfl
theorem IS{G:Heap}{v:AV}(h:Told G .str v): ∃s,v=.str s:=by cases h;exact⟨_,rfl⟩
theorem D0{G:Heap}{k:IntKind}{v:AV}(h:Told G (.int k) v): ∃z,v=.int k z∧k.min<=z∧z<=k.max:=by
 cases h with|int h=>exact⟨_,rfl,h⟩
theorem bG{G:Heap}{v:AV}(h:Told G (.int .u8) v): ∃c:UInt8,v=Vf c:=by
 obtain⟨z,rfl,h1,h2⟩:=D0 h
 have h1:0<=z:=h1
 have h2:z<=255:=h2
 refine⟨UInt8.ofNat z.toNat,?_⟩
 show AV.int .u8 z=.int .u8 (.ofNat (UInt8.ofNat z.toNat).toNat)
 rw[Uk,YH (by omega)]
 congr 1
 show z=(z.toNat:Int)
 omega
theorem D1{G:Heap}{v:AV}(h:Told G (.int .u32) v): ∃n:Nat,v=nI .u32 n∧n<4294967296:=by
 obtain⟨z,rfl,h1,h2⟩:=D0 h
 have h1:0<=z:=h1
 have h2:z<=4294967295:=h2
 refine⟨z.toNat,?_,by omega⟩
 show AV.int .u32 z=.int .u32 (.ofNat z.toNat)
 congr 1
 show z=(z.toNat:Int)
 omega
theorem vd{G:Heap}{v:AV}(h:Told G (.int .i64) v): ∃z:Int,v=.int .i64 z∧ -9223372036854775808<=z∧z<=9223372036854775807:=D0 h
section
variable {Zx:Lib} {fs:T CF} {fuel k n i h b:Nat} {H H0:Heap} {s:List UInt8} {cs:List AV}
theorem Sz.len{sz:Nat}{v:AV}{ls:List (List AV)}(h:Sz H sz v ls)(G:Heap):Ll v G=.val (nI .i64 ls.length) G:=by
 rcases h with⟨rfl,rfl⟩|h
 ·rfl
 ·exact h.len G
theorem Sz.low{sz:Nat}{v:AV}{ls:List (List AV)}(h:Sz H sz v ls)(hn:H.nx<=n):WC n v=true:=by
 rcases h with⟨rfl,rfl⟩|h
 ·rfl
 ·exact h.low hn
theorem Sz.same{sz:Nat}{v:AV}{ls:List (List AV)}(h:Sz H sz v ls)(n:Nat)(t:T Obj):Um (.val v ⟨n,t,n⟩) v n=true:=by
 rcases h with⟨rfl,rfl⟩|h
 ·exact Td _ _ _ (by unfold AI.same;rfl)
 ·exact h.same n t
theorem Sz.cells{sz:Nat}{v:AV}{ls:List (List AV)}(h:Sz H sz v ls):v.cells=[v]:=by
 rcases h with⟨rfl,rfl⟩|h
 ·rfl
 ·exact h.cells
theorem Sz.at_{sz:Nat}{v:AV}{ls:List (List AV)}(h:Sz H sz v ls)(hi:i<ls.length):
  ∃b o r,(∀(k:IntKind) (G:Heap),KA sz v (nI k i) G=.val (.ptr b o) G)∧b<H.nx∧H.t.get b=some (.row r)∧(∀G:Heap,zq sz (some (.row r)) o G=.val (.agg (ls.getD i [])) G)∧ ∀(j:Nat) (G:Heap),j<sz->ld1 (some (.row r)) (o+j) G=.val ((ls.getD i []).getD j .unk) G:=by
 rcases h with⟨rfl,_⟩|h
 ·cases hi
 ·exact h.at_ hi
theorem Rg(a b:List UInt8)(H:Heap):Tl Tp WT (.str a) (.str b) H=.val (.bool (WT a b)) H:=by
 show SF (WT a b) H=_
 cases WT a b<;>rfl
abbrev NP:=List UInt8×List UInt8
def S2(l:List NP):List (List AV):=l.map λp=>[.str p.1,.str p.2]
theorem Tg(l:List NP):(S2 l).length=l.length:=ZW ..
theorem Ka{l:List NP}(h:i<l.length):(S2 l).getD i []=[.str (l.getD i ([],[])).1,.str (l.getD i ([],[])).2]:=by
 unfold S2
 rw[Zh,Xb,Zh,Zp h];rfl
def cC(l:List NP)(i:Nat):Bool:=!decide ((l.getD i ([],[])).1=[])&&decide ((l.getD i ([],[])).1.length<=242)&&!MH [0,61,10] (l.getD i ([],[])).1&&(decide (i=0)||!WT (l.getD (i - 1) ([],[])).1 (l.getD i ([],[])).1)
def OF(l:List NP):Bool:=(List.range l.length).all (cC l)&&decide (l.length<=16)
def NM(s:List UInt8)(is:Bool):Bool:=if is then !decide (s=[])&&decide (s.length<=4096)&&decide (Vk 0 s=0) else decide (s=[])
theorem rj:Qn [0,61,10]:=⟨by decide,by decide,by decide⟩
theorem ux(E:Env Zx fs fuel){is:Bool}:
  ∃H',Z7 (LK Zx fs fuel 2) fs fuel (n+2) 27 [.str s,.bool is] H=.ret (.bool (NM s is)) H'∧ZK H H' []:=by
 rw[Z1 (ZU E.n27 (.inl (by decide)) _ _) E.f27]
 have e1:=λ{j}=>ZbX E (k:=2) (n:=j) (by decide) (s:=s) (x:=0) (H:=H) (by decide)
 cases is with
 |false=>
  rw[show NM s false=decide (s=[]) from rfl]
  simp only[YM,c27,Z9,Xg,ZY,Yu,Xe]
  refine⟨_,rfl,?_⟩
  exact ZK.refl _ _
 |true=>
  by_cases h1:s=[]
  ·have d1:decide (s=[])=true:=Zi h1
   rw[show NM s true=false by unfold NM;simp[h1]]
   simp only[d1,Y7,c27,Z9,Xg,ZY,Yu,Xe]
   refine⟨_,rfl,?_⟩
   exact ZK.refl _ _
  ·have d1:decide (s=[])=false:=Ze h1
   by_cases h2:s.length<=4096
   ·have d2:decide (s.length<=4096)=true:=Zi h2
    rw[show NM s true=decide (Vk 0 s=0) by unfold NM;simp[h1,h2]]
    simp only[d1,d2,e1,ZO,Y7,ZP,X1,c27,Z9,Xg,ZY,Yu,Xe]
    refine⟨_,rfl,?_⟩
    exact ZK.refl _ _
   ·have d2:decide (s.length<=4096)=false:=Ze h2
    rw[show NM s true=false by unfold NM;rw[d2];simp]
    simp only[d1,d2,ZO,Y7,ZP,c27,Z9,Xg,ZY,Yu,Xe]
    refine⟨_,rfl,?_⟩
    exact ZK.refl _ _
theorem Zcg(E:Env Zx fs fuel)(hk:3<=k){is:Bool}:
  Z7 (LK Zx fs fuel k) fs fuel (n+1) 27 [.str s,.bool is] H=.ret (.bool (NM s is)) H:=by
 obtain⟨H',e,g⟩:=ux E (n:=898) (H:=H)
 exact Xc (r:=2) rfl rfl e g (rfl) hk
structure MAI(H0:Heap)(v:AV)(l:List NP)(m:Nat)(tm:TM)(H:Heap):Prop where
 t0:YX tm=v
 t5:X2 tm=v
 t6:WA tm=nI .i64 l.length
 i: ∃i,Wt tm=nI .i64 i∧i+m=l.length∧ ∀j,j<i->cC l j=true
 k:ZK H0 H []
def MAQ(H0:Heap)(v:AV)(l:List NP)(o:Out)(tm:TM)(H:Heap):Prop:=ZK H0 H []∧((o=.ret∧VE tm=.bool false∧OF l=false)∨(o=.exit 0∧YX tm=v∧OF l=decide (l.length<=16)))
theorem rq{l:List NP}(h:i<l.length)(e:cC l i=false):OF l=false:=by
 have:(List.range l.length).all (cC l)=false:=by
  rw[Bool.eq_false_iff]
  intro q
  rw[Y2] at q
  have:=q i (Tc.2 h)
  rw[e] at this;cases this
 unfold OF;rw[this];rfl
theorem Zce{l:List NP}(h: ∀j,j<l.length->cC l j=true):OF l=decide (l.length<=16):=by
 have:(List.range l.length).all (cC l)=true:=Y2.2 λx hx=>h x (Tc.1 hx)
 unfold OF;rw[this,Sv]
theorem dS(E:Env Zx fs fuel)(hk:5<=k){v:AV}{l:List NP}(hl:l.length<=90000)(hs: ∀i,i<l.length->(l.getD i ([],[])).1.length<=90000)(hro:H0.ro<=H0.nx)(hN:Sz H0 2 v (S2 l))(y f dd q)(X0:X)(m:Nat)(tm:TM)(H:Heap)(hI:MAI H0 v l m tm H):
  ∃o tm' H',Np ⟨Z7 (LK Zx fs fuel k) fs fuel (n+1),y,f,dd,q⟩ tm H X0=.ok o tm' H' X0∧((o=.normal∧ ∃k,k<m∧MAI H0 v l k tm' H')∨(o≠.normal∧MAQ H0 v l o tm' H')):=by
 obtain⟨t0,t5,t6,⟨i,t7,him,hn⟩,k0⟩:=hI
 have t0':=t0;have AC:=t5;have CG:=t6
 simp only[Mc,A8,lX,A9] at t0 t5 t6 t7
 cases m with
 |zero=>
  have d1:decide (i<l.length)=false:=Ze (by omega)
  simp only[t6,t7,d1,Zu,Np,Z9,Xg,Xe]
  refine⟨_,_,_,rfl,?_⟩
  exact .inr ⟨by simp,k0,.inr ⟨rfl,t0',Zce λj hj=>hn j (by omega)⟩⟩
 |succ m=>
  have d1:decide (i<l.length)=true:=Zi (by omega)
  have hi:i<l.length:=by omega
  have hN:=hN.keep0 k0
  have Zd5:=hN.low (n:=H.nx+1) (Vr _)
  obtain⟨b,o,r,eI,hb,gb,eL,eE⟩:=hN.at_ (i:=i) (by rw[Tg];omega)
  have ra:=Ka hi
  rw[ra] at eL
  generalize hp:l.getD i ([],[])=p at*
  have hpl:p.1.length<=90000:=by have:=hs i hi;rw[hp] at this;exact this
  obtain⟨H1,hH1⟩:=SK (H.new (rH 41 [.str p.1,.str p.2]))
  have k1:ZK H0 H1 []:=by rw[<-hH1];exact k0.then_new _
  have kH:ZK H H1 []:=by rw[<-hH1];exact ZK.new _ _ _
  have g1:H1.t.get H.nx=some (rH 41 [.str p.1,.str p.2]):=by rw[<-hH1];exact YD rfl _
  have Kn:H1.nx=H.nx+1:=by rw[<-hH1];rfl
  have sf:=SD (n:=2) (b:=H.nx) (l:=[.str [],.str []]) (vs:=[.str p.1,.str p.2]) (H:=H.new (rH 41 [.str [],.str []])) rfl rfl (by decide) (by show H.ro<=_;rw[k0.ro];have:=k0.nx;omega) 41 1 false true
  rw[SC rfl,hH1] at sf
  have e1:=λ{j}=>mJ E (k:=k) (n:=j) hk (H:=H1) rj hpl (by rw[k1.ro];exact YR hro k1.nx)
  have okI:cC l i=(!decide (p.1=[])&&decide (p.1.length<=242)&&!MH [0,61,10] p.1&&(decide (i=0)||!WT (l.getD (i - 1) ([],[])).1 p.1)):=by unfold cC;rw[hp]
  by_cases h1:p.1=[]
  ·have d2:decide (p.1=[])=true:=Zi h1
   simp(disch:=first|assumption|omega|(simp -implicitDefEqProofs only[Xh,Xi]<;>first|assumption|omega)|decide) only[t5,t6,t7,d1,eI,gb,eL,sf,g1,Kn,Un,d2,YA,Zu,YM,decide_true,Zd,Zd,ZJ,Zq,Np,Z9,Xg,ZY,Yu,Z3,Z6,Nat.reducePow,Nat.reduceDiv,Nat.reduceMod,Xe,U4]
   refine⟨_,_,_,rfl,?_⟩
   exact .inr ⟨by simp,k1,.inl ⟨rfl,rfl,rq hi (by rw[okI];simp[h1])⟩⟩
  have d2:decide (p.1=[])=false:=Ze h1
  by_cases h2:242<p.1.length
  ·have d3:decide (242<p.1.length)=true:=Zi h2
   simp(disch:=first|assumption|omega|(simp -implicitDefEqProofs only[Xh,Xi]<;>first|assumption|omega)|decide) only[t5,t6,t7,d1,eI,gb,eL,sf,g1,Kn,Un,d2,d3,YA,Zu,ZM,YM,ZP,decide_true,Zd,Zd,ZJ,Zq,Np,Z9,Xg,ZY,Yu,Z3,Z6,Nat.reducePow,Nat.reduceDiv,Nat.reduceMod,Xe,U4]
   refine⟨_,_,_,rfl,?_⟩
   exact .inr ⟨by simp,k1,.inl ⟨rfl,rfl,rq hi (by rw[okI];rw[Ze (show ¬p.1.length<=242 by omega)];simp)⟩⟩
  have d3:decide (242<p.1.length)=false:=Ze h2
  have d3':decide (p.1.length<=242)=true:=Zi (by omega)
  cases hc:MH [0,61,10] p.1 with
  |true=>
   rw[hc] at e1
   simp(disch:=first|assumption|omega|(simp -implicitDefEqProofs only[Xh,Xi]<;>first|assumption|omega)|decide) only[t5,t6,t7,d1,eI,gb,eL,sf,g1,Kn,Un,d2,d3,e1,YA,Zu,ZM,YM,ZP,decide_true,Zd,Zd,ZJ,Zq,Np,Z9,Xg,ZY,Yu,Z3,Z6,Nat.reducePow,Nat.reduceDiv,Nat.reduceMod,Xe,U4]
   refine⟨_,_,_,rfl,?_⟩
   exact .inr ⟨by simp,k1,.inl ⟨rfl,rfl,rq hi (by rw[okI];rw[hc];simp)⟩⟩
  |false=>
   rw[hc] at e1
   by_cases h0:i=0
   ·have d4:decide (0<i)=false:=Ze (by omega)
    simp(disch:=first|assumption|omega|(simp -implicitDefEqProofs only[Xh,Xi]<;>first|assumption|omega)|decide) only[t5,t6,t7,d1,eI,gb,eL,sf,g1,Kn,Un,d2,d3,e1,d4,Zu,ZM,YM,YB,ZP,decide_true,Zd,Zd,ZJ,Zq,Np,Z9,Xg,ZY,Yu,Z3,Z6,Nat.reducePow,Nat.reduceDiv,Nat.reduceMod,Xe,U4]
    refine⟨_,_,_,rfl,.inl ⟨rfl,m,by omega,t0',AC,CG,⟨i+1,rfl,by omega,λq hq=>?_⟩,k1⟩⟩
    obtain rfl:q=i:=by omega
    rw[okI,d2,d3',hc,Zi h0];rfl
   ·have d4:decide (0<i)=true:=Zi (by omega)
    obtain⟨b2,o2,r2,eI2,hb2,qQ,_,eE2⟩:=hN.at_ (i:=i - 1) (by rw[Tg];omega)
    have A6:H1.t.get b2=some (.row r2):=by rw[kH.get _ hb2 (by simp)];exact qQ
    have eF:=λG=>eE2 0 G (by decide)
    rw[Ka (by omega),Zd] at eF
    simp only[Zq] at eF
    cases hg:WT (l.getD (i - 1) ([],[])).1 p.1 with
    |true=>
     simp(disch:=first|assumption|omega|(simp -implicitDefEqProofs only[Xh,Xi]<;>first|assumption|omega)|decide) only[t0,t5,t6,t7,d1,eI,gb,eL,sf,g1,Kn,Zd5,Un,d2,d3,e1,d4,eI2,A6,eF,hg,Zu,ZM,YM,YQ,ZP,decide_true,Zd,Zd,Rg,ZJ,Zq,Np,Z9,Xg,ZY,Yu,Z3,Z6,Nat.reducePow,Nat.reduceDiv,Nat.reduceMod,Xe,U4]
     refine⟨_,_,_,rfl,?_⟩
     exact .inr ⟨by simp,k1,.inl ⟨rfl,rfl,rq hi (by rw[okI];rw[hg,Ze h0];simp)⟩⟩
    |false=>
     simp(disch:=first|assumption|omega|(simp -implicitDefEqProofs only[Xh,Xi]<;>first|assumption|omega)|decide) only[t0,t5,t6,t7,d1,eI,gb,eL,sf,g1,Kn,Zd5,Un,d2,d3,e1,d4,eI2,A6,eF,hg,Zu,ZM,YM,YQ,YB,ZP,decide_true,Zd,Zd,Rg,ZJ,Zq,Np,Z9,Xg,ZY,Yu,Z3,Z6,Nat.reducePow,Nat.reduceDiv,Nat.reduceMod,Xe,U4]
     refine⟨_,_,_,rfl,.inl ⟨rfl,m,by omega,t0',AC,CG,⟨i+1,rfl,by omega,λq hq=>?_⟩,k1⟩⟩
     by_cases hqi:q=i
     ·rw[hqi,okI,d2,d3',hc,hg];simp
     ·exact hn q (by omega)
theorem uw(E:Env Zx fs fuel){v:AV}{l:List NP}(hl:l.length<=90000)(hs: ∀i,i<l.length->(l.getD i ([],[])).1.length<=90000)(hro:H.ro<=H.nx)(hN:Sz H 2 v (S2 l)):
  ∃H',Z7 (LK Zx fs fuel 5) fs fuel (n+2) 26 [v] H=.ret (.bool (OF l)) H'∧ZK H H' []:=by
 rw[Z1 (ZU E.n26 (.inl (by decide)) _ _) E.f26]
 have ln:=hN.len
 rw[Tg] at ln
 simp only[ln,c26,Z9,Xg,Xe]
 generalize hL:Ue (Np _) fuel _ _ _=L
 obtain⟨o,Ny,H2,rfl,_,k2,z⟩:=XZ (P:=λT=>MAI H v l l.length T H) (Q:=MAQ H v l)
  (λT hi=>We (MAI H v l) (MAQ H v l) (λm tm H2 h=>dS E (by decide) hl hs hro hN _ _ _ _ _ m tm H2 h) fuel l.length T H (by have:=E.big;omega) hi) hL
  (by exact⟨rfl,rfl,rfl,⟨0,rfl,by omega,λj hj=>by omega⟩,ZK.refl _ _⟩)
 rcases z with⟨rfl,t2,e⟩|⟨rfl,t0,e⟩
 ·simp only[Cl] at t2
  rw[e]
  simp only[t2,Z9,ZY,Xe]
  refine⟨_,rfl,?_⟩
  exact k2
 ·simp only[Mc] at t0
  rw[e]
  simp only[t0,ln,ZO,Z9,Xg,ZY,Xe,U4]
  refine⟨_,rfl,?_⟩
  exact k2
theorem Zcf(E:Env Zx fs fuel)(hk:6<=k){v:AV}{l:List NP}(hl:l.length<=90000)(hs: ∀i,i<l.length->(l.getD i ([],[])).1.length<=90000)(hro:H.ro<=H.nx)(hN:Sz H 2 v (S2 l)):
  Z7 (LK Zx fs fuel k) fs fuel (n+1) 26 [v] H=.ret (.bool (OF l)) H:=by
 obtain⟨H',e,g⟩:=uw E (n:=898) (H:=H) hl hs hro hN
 exact Xc (r:=5) rfl rfl e g (rfl) hk
theorem tZ(a b:Int):(a==b)=decide (a=b):=by rw[Vw];simp
theorem Xs(k:IntKind)(a:Int)(b:Nat)(H:Heap):ND VU false (.int k a) (nI k b) H=.val (.bool (decide (a=(b:Int)))) H:=by
 show TK (cond (PR k k) (some (GW a (Int.ofNat b))) none) _=_
 rw[Wb,Pf]
 show SF (a==(b:Int)) H=_
 rw[tZ]
 cases decide (a=(b:Int))<;>rfl
theorem XC(k:IntKind)(a:Int)(b:Nat)(H:Heap):ND VU true (.int k a) (nI k b) H=.val (.bool (!decide (a=(b:Int)))) H:=by
 show TK (cond (PR k k) (some (GW a (Int.ofNat b))) none) _=_
 rw[Wb,Pf]
 show SF (cond (a==(b:Int)) false true) H=_
 rw[tZ]
 cases decide (a=(b:Int))<;>rfl
theorem Oe{eq:AV->AV->Option Bool}{k:AV}{no:OR}{yes:AV->OR}{x:Sy}{l:List Sy}{t:Bool}(h:eq k x.key=some t):Ua eq k no yes (x::l)=cond t (yes x.val) (Ua eq k no yes l):=by
 rw[Ua,h]
structure Mem where
 path:List UInt8
 kind:Int
 mode:Nat
 uid:Nat
 gid:Nat
 time:Int
 attrs:List NP
 data:List UInt8
 link:List UInt8
def MI(l:List UInt8):List (List AV):=l.map λx=>[Vf x]
theorem Sq(l:List UInt8):(MI l).length=l.length:=ZW ..
def KH(H:Heap)(cs:List AV)(m:Mem):Prop:= ∃av dv,cs=[.str m.path,.int .i64 m.kind,nI .u32 m.mode,nI .u32 m.uid,nI .u32 m.gid,.int .i64 m.time,av,dv,.str m.link]∧Sz H 2 av (S2 m.attrs)∧Sz H 1 dv (MI m.data)
theorem KH.keep{H H':Heap}{m:Mem}(h:KH H cs m)(k:ZK H H' []):KH H' cs m:=by
 obtain⟨av,dv,e,h1,h2⟩:=h
 exact⟨av,dv,e,h1.keep0 k,h2.keep0 k⟩
theorem KH.len{m:Mem}(h:KH H cs m):cs.length=9:=by
 obtain⟨av,dv,rfl,_⟩:=h;rfl
structure Ea(m:Mem):Prop where
 path:m.path.length<=80000
 attrs:m.attrs.length<=90000
 keys: ∀i,i<m.attrs.length->(m.attrs.getD i ([],[])).1.length<=90000
def nO(z:Int):Nat:=if z=1 then 53 else if z=2 then 48 else if z=3 then 50 else if z=4 then 54 else 0
theorem dO(z:Int)(G:Heap):lkO VU (nI .u8 0) false (some (.cmap tEs)) (.int .i64 z) G=.val (nI .u8 (nO z)) G:=by
 have e: ∀b:Nat,VU (.int .i64 z) (nI .i64 b)=some (decide (z=(b:Int))):=λb=>by
  show cond (PR .i64 .i64) (some (GW z (Int.ofNat b))) none=_
  rw[Wb,Pf];rfl
 show Ua VU (.int .i64 z) (OR.val (nI .u8 0) G) (λv=>OR.val v G) tEs=_
 unfold tEs nO
 rw[Oe (e 1),Oe (e 2),Oe (e 3),Oe (e 4)]
 by_cases h1:z=1
 ·subst h1;rfl
 by_cases h2:z=2
 ·subst h2;rfl
 by_cases h3:z=3
 ·subst h3;rfl
 by_cases h4:z=4
 ·subst h4;rfl
 rw[Ze (show ¬z=((1:Nat):Int) from h1),if_neg h1,Ze (show ¬z=((2:Nat):Int) from h2),if_neg h2,Ze (show ¬z=((3:Nat):Int) from h3),if_neg h3,Ze (show ¬z=((4:Nat):Int) from h4),if_neg h4]
 rfl
def Wm(m:Mem):Bool:=!decide ((W8 m.path).1=0)&&!decide (nO m.kind=0)&&decide (m.mode<=4095)&&OF m.attrs&&NM m.link (decide (m.kind=3))&&decide (m.data.length<=16777216)&&(decide (m.kind=2)||decide (m.data.length=0))
theorem tL(E:Env Zx fs fuel){m:Mem}(hs:Ea m)(g:Ot H)(hm:KH H cs m):
  ∃H',Z7 (LK Zx fs fuel 11) fs fuel (n+2) 11 [.agg cs] H=.ret (.bool (Wm m)) H'∧ZK H H' []:=by
 rw[Z1 (ZU E.n11 (.inl (by decide)) _ _) E.f11]
 obtain⟨av,dv,rfl,hA,hD⟩:=hm
 obtain⟨H1,hH1⟩:=SK (H.new (rH 28 [.str m.path,.int .i64 m.kind,nI .u32 m.mode,nI .u32 m.uid,nI .u32 m.gid,.int .i64 m.time,av,dv,.str m.link]))
 obtain⟨H2,hH2⟩:=SK (H1.new (rH 26 [.int .i64 m.kind,nI .u32 m.mode,nI .u32 m.uid,nI .u32 m.gid,.int .i64 m.time,av,dv,.str m.link]))
 have k1:ZK H H1 []:=by rw[<-hH1];exact ZK.new _ _ _
 have k2:ZK H H2 []:=by rw[<-hH2];exact k1.then_new _
 have g1:H1.t.get H.nx=some (rH 28 [.str m.path,.int .i64 m.kind,nI .u32 m.mode,nI .u32 m.uid,nI .u32 m.gid,.int .i64 m.time,av,dv,.str m.link]):=by rw[<-hH1];exact YD rfl _
 have g2:H2.t.get H1.nx=some (rH 26 [.int .i64 m.kind,nI .u32 m.mode,nI .u32 m.uid,nI .u32 m.gid,.int .i64 m.time,av,dv,.str m.link]):=by rw[<-hH2];exact YD rfl _
 have gP2:=g.keep0 k2
 obtain⟨rT,gT,lT0,lT1⟩:=gP2.t
 have lT: ∀G,ld1 (some (.row rT)) 0 G=.val (.map 12) G:=λG=>by rw[Y0 lT0,lT1]
 have eT:=gP2.tm
 have FF:H1.ro<=H1.nx:=by rw[k1.ro];exact YR g.ro k1.nx
 have sf:=SD (n:=8) (b:=H1.nx) (l:=[nI .i64 0,nI .u32 0,nI .u32 0,nI .u32 0,nI .i64 0,.nils,.nils,.str []]) (vs:=[.int .i64 m.kind,nI .u32 m.mode,nI .u32 m.uid,nI .u32 m.gid,.int .i64 m.time,av,dv,.str m.link]) (H:=H1.new (rH 26 [nI .i64 0,nI .u32 0,nI .u32 0,nI .u32 0,nI .i64 0,.nils,.nils,.str []])) rfl rfl (by decide) (by show H1.ro<=_;exact FF) 26 1 false true
 rw[SC rfl,hH2] at sf
 have ec:=λ{j}=>Zbe E (k:=11) (n:=j) (by decide) (s:=m.path) (H:=H1) hs.path (g.keep0 k1)
 have ir:H2.ro<=H2.nx:=by rw[k2.ro];exact YR g.ro k2.nx
 have e4:=λ{j}=>Zcf E (k:=11) (n:=j) (by decide) (v:=av) (l:=m.attrs) (H:=H2) hs.attrs hs.keys ir (hA.keep0 k2)
 have e5: ∀{j},Z7 (LK Zx fs fuel 11) fs fuel (j+1) 27 [.str m.link,.bool (decide (m.kind=((3:Nat):Int)))] H2=.ret (.bool (NM m.link (decide (m.kind=3)))) H2:=λ{j}=>Zcg E (k:=11) (n:=j) (by decide) (s:=m.link) (is:=decide (m.kind=3)) (H:=H2)
 have ln:=hD.len
 rw[Sq] at ln
 by_cases h1:(W8 m.path).1=0
 ·have d1:decide ((W8 m.path).1=0)=true:=Zi h1
  rw[show Wm m=false by unfold Wm;simp[h1]]
  simp(disch:=first|assumption|omega|(simp -implicitDefEqProofs only[Xh,Xi]<;>first|assumption|omega)|decide) only[ec,g1,sf,hH1,Un,TJ,Vx,d1,YL,Zd,Zb,Zb,Zd,Zs,ZC,Zt,ZF,Zq,c11,Z9,Xg,ZY,Xe,U4]
  refine⟨_,rfl,?_⟩
  exact k2
 have d1:decide ((W8 m.path).1=0)=false:=Ze h1
 by_cases h2:nO m.kind=0
 ·have d2:decide (nO m.kind=0)=true:=Zi h2
  rw[show Wm m=false by unfold Wm;simp[h2]]
  simp(disch:=first|assumption|omega|(simp -implicitDefEqProofs only[Xh,Xi]<;>first|assumption|omega)|decide) only[ec,eT,gT,lT,g1,g2,sf,hH1,dO,Un,TJ,Vx,d1,d2,YL,Zd,Zb,Zb,Zd,Zr,ZL,Zs,ZC,Zt,ZF,Zq,c11,Z9,Xg,ZY,Xe,U4]
  refine⟨_,rfl,?_⟩
  exact k2
 have d2:decide (nO m.kind=0)=false:=Ze h2
 by_cases h3:4095<m.mode
 ·have d3:decide (4095<m.mode)=true:=Zi h3
  have h3': ¬m.mode<=4095:=by omega
  rw[show Wm m=false by unfold Wm;simp[h3']]
  simp(disch:=first|assumption|omega|(simp -implicitDefEqProofs only[Xh,Xi]<;>first|assumption|omega)|decide) only[ec,eT,gT,lT,g1,g2,sf,hH1,dO,Un,TJ,Vx,d1,d2,d3,ZM,YL,Zd,Zb,Zb,Zd,Zr,ZL,Zs,ZC,Zt,ZF,Zq,Zy,c11,Z9,Xg,ZY,Xe,U4]
  refine⟨_,rfl,?_⟩
  exact k2
 have d3:decide (4095<m.mode)=false:=Ze h3
 have h3':m.mode<=4095:=by omega
 cases h4:OF m.attrs with
 |false=>
  rw[h4] at e4
  rw[show Wm m=false by unfold Wm;simp[h4]]
  simp(disch:=first|assumption|omega|(simp -implicitDefEqProofs only[Xh,Xi]<;>first|assumption|omega)|decide) only[ec,eT,gT,lT,g1,g2,sf,hH1,dO,e4,Un,TJ,Vx,d1,d2,d3,ZM,YL,Zd,Zb,Zb,Zd,Zr,ZL,Zs,ZC,Zt,ZF,Zq,Zy,c11,Z9,Xg,ZY,Yu,Xe,U4]
  refine⟨_,rfl,?_⟩
  exact k2
 |true=>
  rw[h4] at e4
  cases h5:NM m.link (decide (m.kind=3)) with
  |false=>
   rw[h5] at e5
   rw[show Wm m=false by unfold Wm;simp[h5]]
   simp(disch:=first|assumption|omega|(simp -implicitDefEqProofs only[Xh,Xi]<;>first|assumption|omega)|decide) only[ec,eT,gT,lT,g1,g2,sf,hH1,dO,e4,e5,Un,TJ,Vx,d1,d2,d3,ZM,YL,Zd,Zb,Zb,Zd,Zr,ZL,Zs,ZC,Zt,ZF,Zq,Zy,Xs,c11,Z9,Xg,ZY,Yu,Xe,U4]
   refine⟨_,rfl,?_⟩
   exact k2
  |true=>
   rw[h5] at e5
   by_cases h6: ¬m.data.length<=16777216
   ·have d6:decide (m.data.length<=16777216)=false:=Ze h6
    rw[show Wm m=false by unfold Wm;simp[h6]]
    simp(disch:=first|assumption|omega|(simp -implicitDefEqProofs only[Xh,Xi]<;>first|assumption|omega)|decide) only[ec,eT,gT,lT,g1,g2,sf,hH1,dO,e4,e5,ln,Un,TJ,Vx,d1,d2,d3,d6,YA,ZO,ZM,YL,Zd,Zb,Zb,Zd,Zr,ZL,Zs,ZC,Zt,ZF,Zq,Zy,Xs,c11,Z9,Xg,ZY,Yu,Xe,U4]
    refine⟨_,rfl,?_⟩
    exact k2
   have h6:=Decidable.not_not.1 h6
   have d6:decide (m.data.length<=16777216)=true:=Zi h6
   by_cases h7:m.kind=2
   ·have d7:decide (m.kind=((2:Nat):Int))=true:=Zi h7
    rw[show Wm m=true by unfold Wm;rw[h5];simp[h1,h3',h4,h6,h7];rw[<-h7];exact h2]
    simp(disch:=first|assumption|omega|(simp -implicitDefEqProofs only[Xh,Xi]<;>first|assumption|omega)|decide) only[ec,eT,gT,lT,g1,g2,sf,hH1,dO,e4,e5,ln,Un,TJ,Vx,d1,d2,d3,d6,d7,ZO,ZM,YL,Zd,Zb,Zb,Zd,Zr,ZL,Zs,ZC,Zt,ZF,Zq,Zy,Xs,c11,Z9,Xg,ZY,Yu,Xe,U4]
    refine⟨_,rfl,?_⟩
    exact k2
   have d7:decide (m.kind=((2:Nat):Int))=false:=Ze h7
   by_cases h8:m.data.length=0
   ·have d8:decide (m.data.length=0)=true:=Zi h8
    rw[show Wm m=true by unfold Wm;rw[h5];simp[h1,h2,h3',h4,h7,h8]]
    simp(disch:=first|assumption|omega|(simp -implicitDefEqProofs only[Xh,Xi]<;>first|assumption|omega)|decide) only[ec,eT,gT,lT,g1,g2,sf,hH1,dO,e4,e5,ln,Un,TJ,Vx,d1,d2,d3,d6,d7,d8,ZO,ZM,YL,Zd,Zb,Zb,Zd,Zr,ZL,Zs,ZC,Zt,ZF,Zq,Zy,Xs,c11,Z9,Xg,ZY,Yu,Xe,U4]
    refine⟨_,rfl,?_⟩
    exact k2
   have d8:decide (m.data.length=0)=false:=Ze h8
   rw[show Wm m=false by unfold Wm;rw[d8,Ze h7];simp]
   simp(disch:=first|assumption|omega|(simp -implicitDefEqProofs only[Xh,Xi]<;>first|assumption|omega)|decide) only[ec,eT,gT,lT,g1,g2,sf,hH1,dO,e4,e5,ln,Un,TJ,Vx,d1,d2,d3,d6,d7,d8,ZO,ZM,YL,Zd,Zb,Zb,Zd,Zr,ZL,Zs,ZC,Zt,ZF,Zq,Zy,Xs,c11,Z9,Xg,ZY,Yu,Xe,U4]
   refine⟨_,rfl,?_⟩
   exact k2
theorem gh(E:Env Zx fs fuel)(hk:12<=k){m:Mem}(hs:Ea m)(g:Ot H)(hm:KH H cs m):
  Z7 (LK Zx fs fuel k) fs fuel (n+1) 11 [.agg cs] H=.ret (.bool (Wm m)) H:=by
 obtain⟨H',e,g⟩:=tL E (n:=898) (H:=H) hs g hm
 exact Xc (r:=11) rfl rfl e g (rfl) hk
end
end
end Go.AI
