/- What may be a path, and what it stands for: walked: proved without conditions but those that each names. -/
import Derived.Test.YthhmkldnnnajhaaGreatDoorP9
import Derived.Test.YthhmkldnnnajhaaGreatDoorP7
import Derived.Test.YthhmkldnnnajhaaGreatDoorP6
set_option maxRecDepth 1000000
set_option maxHeartbeats 0
set_option linter.unusedVariables false
set_option linter.unusedSimpArgs false
namespace Go.AI
open Go
noncomputable section
theorem Yg(G:Heap):ND VE XW (.int .i64 (.negSucc 0)) (nI .i64 0) G=.val (.bool false) G:=rfl
theorem qU:Pz [47,0]:=⟨by decide,by decide,by decide⟩
theorem rE{Z7:Lib}{fs:T CF}{fuel:Nat}(E:Env Z7 fs fuel){n:Nat}{s:List UInt8}{H:Heap}(hs:s.length<=90000)(hro:H.ro<=H.nx):
  ∃H',Xd (LK Z7 fs fuel 5) fs fuel (n+2) 156 [.str s] H=.ret (.bool (Vo s)) H'∧Yw H H' []:=by
 rw[XR (Xk E.n156 (.inl (by decide)) _ _) E.f156]
 have e1:=λ{j}=>mE (Z7:=Z7) (fs:=fs) (fuel:=fuel) E (k:=5) (n:=j) (by decide) (s:=s) (H:=H) qU hs hro
 have e2:=λ{j}=>cu (Z7:=Z7) (fs:=fs) (fuel:=fuel) E (k:=5) (n:=j) (by decide) (s:=s) (p:=[46,119,104,46]) (H:=H) hs
 by_cases h1:s=[]
 ·have mH:decide (s=[])=true:=Zr h1
  rw[show Vo s=false by unfold Vo ww EU pp;simp[h1]]
  simp(maxSteps:=4000000) (disch:=first|assumption|omega|(simp -implicitDefEqProofs only[Yr,Ys]<;>first|assumption|omega)|decide) only[mH,ZG,Zz,ZK,ZT,ZP,ZS,Z9,Ya,ZO,Z8,Yc,Yb,Zx,Zt,Zs,ZU,Nat.reduceSub,Nat.reduceAdd,Nat.reduceLeDiff,Zi,Zh,Nat.reduceEqDiff,decide_true,decide_false,ZJ,Zf,Zd,YH,YJ,ZZ,ZC,Zv,ZY,ZX,ZM,Zk,Zl,Yf,ZD,Zd,Zf,Yg,En,YU,WD,Yp,Yq,ZE,ZH,ZF,Nat.reduceEqDiff,reduceCtorEq,WE]
  refine⟨_,rfl,?_⟩
  exact Yw.refl _ _
 have mH:decide (s=[])=false:=Zj h1
 by_cases h2: ¬s.length<=251
 ·have ko:decide (s.length<=251)=false:=Zj h2
  rw[show Vo s=false by unfold Vo ww EU pp;simp[h2]]
  simp(maxSteps:=4000000) (disch:=first|assumption|omega|(simp -implicitDefEqProofs only[Yr,Ys]<;>first|assumption|omega)|decide) only[ko,mH,ZG,Zz,ZK,ZT,ZP,ZS,Z9,Ya,ZO,Z8,Yc,Yb,Zx,Zt,Zs,ZU,Nat.reduceSub,Nat.reduceAdd,Nat.reduceLeDiff,Zi,Zh,Nat.reduceEqDiff,decide_true,decide_false,ZJ,Zf,Zd,YH,YJ,ZZ,ZC,Zv,ZY,ZX,ZM,Zk,Zl,Yf,ZD,Zd,Zf,Yg,En,YU,WD,Yp,Yq,ZE,ZH,ZF,Nat.reduceEqDiff,reduceCtorEq,WE]
  refine⟨_,rfl,?_⟩
  exact Yw.refl _ _
 have h2:=Decidable.not_not.1 h2
 have ko:decide (s.length<=251)=true:=Zr h2
 by_cases h3:s=[46]
 ·have ik:decide (s=[46])=true:=Zr h3
  rw[show Vo s=false by unfold Vo ww EU pp;simp[h3]]
  simp(maxSteps:=4000000) (disch:=first|assumption|omega|(simp -implicitDefEqProofs only[Yr,Ys]<;>first|assumption|omega)|decide) only[ik,mH,ko,ZG,Zz,ZK,ZT,ZP,ZS,Z9,Ya,ZO,Z8,Yc,Yb,Zx,Zt,Zs,ZU,Nat.reduceSub,Nat.reduceAdd,Nat.reduceLeDiff,Zi,Zh,Nat.reduceEqDiff,decide_true,decide_false,ZJ,Zf,Zd,YH,YJ,ZZ,ZC,Zv,ZY,ZX,ZM,Zk,Zl,Yf,ZD,Zd,Zf,Yg,En,YU,WD,Yp,Yq,ZE,ZH,ZF,Nat.reduceEqDiff,reduceCtorEq,WE]
  refine⟨_,rfl,?_⟩
  exact Yw.refl _ _
 have ik:decide (s=[46])=false:=Zj h3
 by_cases h4:s=[46,46]
 ·have dG:decide (s=[46,46])=true:=Zr h4
  rw[show Vo s=false by unfold Vo ww EU pp;simp[h4]]
  simp(maxSteps:=4000000) (disch:=first|assumption|omega|(simp -implicitDefEqProofs only[Yr,Ys]<;>first|assumption|omega)|decide) only[dG,mH,ko,ik,ZG,Zz,ZK,ZT,ZP,ZS,Z9,Ya,ZO,Z8,Yc,Yb,Zx,Zt,Zs,ZU,Nat.reduceSub,Nat.reduceAdd,Nat.reduceLeDiff,Zi,Zh,Nat.reduceEqDiff,decide_true,decide_false,ZJ,Zf,Zd,YH,YJ,ZZ,ZC,Zv,ZY,ZX,ZM,Zk,Zl,Yf,ZD,Zd,Zf,Yg,En,YU,WD,Yp,Yq,ZE,ZH,ZF,Nat.reduceEqDiff,reduceCtorEq,WE]
  refine⟨_,rfl,?_⟩
  exact Yw.refl _ _
 have dG:decide (s=[46,46])=false:=Zj h4
 cases ha:D1 [47,0] s with
 |true=>
  rw[ha] at e1
  rw[show Vo s=false by unfold Vo;simp[ha]]
  simp(maxSteps:=4000000) (disch:=first|assumption|omega|(simp -implicitDefEqProofs only[Yr,Ys]<;>first|assumption|omega)|decide) only[mH,ko,ik,dG,e1,ZG,Zz,ZK,ZT,ZP,ZS,Z9,Ya,ZO,Z8,Yc,Yb,Zx,Zt,Zs,ZU,Nat.reduceSub,Nat.reduceAdd,Nat.reduceLeDiff,Zi,Zh,Nat.reduceEqDiff,decide_true,decide_false,ZJ,Zf,Zd,YH,YJ,ZZ,ZC,Zv,ZY,ZX,ZM,Zk,Zl,Yf,ZD,Zd,Zf,Yg,En,YU,WD,Yp,Yq,ZE,ZH,ZF,Nat.reduceEqDiff,reduceCtorEq,WE]
  refine⟨_,rfl,?_⟩
  exact Yw.refl _ _
 |false=>
  rw[ha] at e1
  cases hb:Ez [46,119,104,46] s with
  |true=>
   rw[hb] at e2
   rw[show Vo s=false by unfold Vo pp;simp[hb]]
   simp(maxSteps:=4000000) (disch:=first|assumption|omega|(simp -implicitDefEqProofs only[Yr,Ys]<;>first|assumption|omega)|decide) only[mH,ko,ik,dG,e1,e2,ZG,Zz,ZK,ZT,ZP,ZS,Z9,Ya,ZO,Z8,Yc,Yb,Zx,Zt,Zs,ZU,Nat.reduceSub,Nat.reduceAdd,Nat.reduceLeDiff,Zi,Zh,Nat.reduceEqDiff,decide_true,decide_false,ZJ,Zf,Zd,YH,YJ,ZZ,ZC,Zv,ZY,ZX,ZM,Zk,Zl,Yf,ZD,Zd,Zf,Yg,En,YU,WD,Yp,Yq,ZE,ZH,ZF,Nat.reduceEqDiff,reduceCtorEq,WE]
   refine⟨_,rfl,?_⟩
   exact Yw.refl _ _
  |false=>
   rw[hb] at e2
   rw[show Vo s=true by unfold Vo ww EU pp;simp[h1,h2,h3,h4,ha,hb]]
   simp(maxSteps:=4000000) (disch:=first|assumption|omega|(simp -implicitDefEqProofs only[Yr,Ys]<;>first|assumption|omega)|decide) only[mH,ko,ik,dG,e1,e2,ZG,Zz,ZK,ZT,ZP,ZS,Z9,Ya,ZO,Z8,Yc,Yb,Zx,Zt,Zs,ZU,Nat.reduceSub,Nat.reduceAdd,Nat.reduceLeDiff,Zi,Zh,Nat.reduceEqDiff,decide_true,decide_false,ZJ,Zf,Zd,YH,YJ,ZZ,ZC,Zv,ZY,ZX,ZM,Zk,Zl,Yf,ZD,Zd,Zf,Yg,En,YU,WD,Yp,Yq,ZE,ZH,ZF,Nat.reduceEqDiff,reduceCtorEq,WE]
   refine⟨_,rfl,?_⟩
   exact Yw.refl _ _
theorem bp{Z7:Lib}{fs:T CF}{fuel:Nat}(E:Env Z7 fs fuel){k n:Nat}(hk:6<=k){s:List UInt8}{H:Heap}(hs:s.length<=90000)(hro:H.ro<=H.nx):
  Xd (LK Z7 fs fuel k) fs fuel (n+1) 156 [.str s] H=.ret (.bool (Vo s)) H:=by
 obtain⟨H',e,g⟩:=rE E (n:=898) (H:=H) hs hro
 exact Wy (r:=5) rfl rfl e g (rfl) hk
theorem rD{Z7:Lib}{fs:T CF}{fuel:Nat}(E:Env Z7 fs fuel){n:Nat}{s:List UInt8}{H:Heap}(hs:s.length<=90000)(hro:H.ro<=H.nx):
  ∃H',Xd (LK Z7 fs fuel 6) fs fuel (n+2) 213 [.str s] H=.ret (.bool (!Vo s)) H'∧Yw H H' []:=by
 rw[XR (Xk E.n213 (.inl (by decide)) _ _) E.f213]
 have e1:=λ{j}=>bp (Z7:=Z7) (fs:=fs) (fuel:=fuel) E (k:=6) (n:=j) (by decide) (s:=s) (H:=H) hs hro
 simp(maxSteps:=4000000) (disch:=first|assumption|omega|(simp -implicitDefEqProofs only[Yr,Ys]<;>first|assumption|omega)|decide) only[e1,ZG,Zz,ZK,ZT,ZP,ZS,Z9,Ya,ZO,Z8,Yc,Yb,Zx,Zt,Zs,ZU,Nat.reduceSub,Nat.reduceAdd,Nat.reduceLeDiff,Zi,Zh,Nat.reduceEqDiff,decide_true,decide_false,ZJ,Zf,Zd,YH,YJ,ZZ,ZC,Zv,ZY,ZX,ZM,Zk,Zl,Yf,ZD,Zd,Zf,Yg,pQ,YU,WD,Yp,Yq,ZE,ZH,ZF,Nat.reduceEqDiff,reduceCtorEq,WE]
 refine⟨_,rfl,?_⟩
 exact Yw.refl _ _
theorem Zel{Z7:Lib}{fs:T CF}{fuel:Nat}(E:Env Z7 fs fuel){k n:Nat}(hk:7<=k){s:List UInt8}{H:Heap}(hs:s.length<=90000)(hro:H.ro<=H.nx):
  Xd (LK Z7 fs fuel k) fs fuel (n+1) 213 [.str s] H=.ret (.bool (!Vo s)) H:=by
 obtain⟨H',e,g⟩:=rD E (n:=898) (H:=H) hs hro
 exact Wy (r:=6) rfl rfl e g (rfl) hk
structure ak(v:AV)(l:List (List UInt8))(H0:Heap)(m:Nat)(tm:TM)(H:Heap):Prop where
 heap:H=H0
 t0:Z0 tm=v
 t1:YQ tm=.func 213 [] []
 t7:Wl tm=nI .i64 l.length
 i: ∃i,XD tm=nI .i64 i∧i+m=l.length∧ ∀j,j<i->Vo (l.getD j [])=true
def aV(l:List (List UInt8))(H0:Heap)(o:Out)(tm:TM)(H:Heap):Prop:=H=H0∧((o=.ret∧ ∃p,Xh tm=nI .i64 p∧l.all Vo=false)∨(o=.exit 0∧l.all Vo=true))
theorem ke{l:List (List UInt8)}:(∀j,j<l.length->Vo (l.getD j [])=true)->l.all Vo=true:=λh=>by
 rw[Xw]
 intro x hx
 obtain⟨i,hi,rfl⟩:=Q9 hx
 have:=h i hi
 rwa [ZN,ZW hi] at this
theorem ny{l:List (List UInt8)}{i:Nat}(hi:i<l.length)(h:Vo (l.getD i [])=false):l.all Vo=false:=by
 rw[Bool.eq_false_iff]
 intro e
 rw[Xw] at e
 have:=e _ (Vc hi)
 rw[ZN,ZW hi] at h
 have h:Vo l[i]=false:=h
 rw[h] at this;cases this
theorem oK{Z7:Lib}{fs:T CF}{fuel:Nat}(E:Env Z7 fs fuel){n k:Nat}(hk:7<=k){v:AV}{l:List (List UInt8)}(hl:l.length<=90000)(hs: ∀i,i<l.length->(l.getD i []).length<=90000){H0:Heap}(hro:H0.ro<=H0.nx)(hN:DX H0 v l)(y f dd q)(X0:X)(m:Nat)(tm:TM)(H:Heap)(hI:ak v l H0 m tm H):
  ∃o tm' H',KK ⟨Xd (LK Z7 fs fuel k) fs fuel (n+1),y,f,dd,q⟩ tm H X0=.ok o tm' H' X0∧((o=.normal∧ ∃k,k<m∧ak v l H0 k tm' H')∨(o≠.normal∧aV l H0 o tm' H')):=by
 obtain⟨rfl,t0,t1,t7,i,t8,him,hn⟩:=hI
 have t0':=t0;have t1':=t1;have lR:=t7
 simp only[Cp] at t0
 simp only[JA] at t1
 simp only[sJ] at t7
 simp only[wR] at t8
 cases m with
 |zero=>
  have d1:decide (i<l.length)=false:=Zj (by omega)
  simp(maxSteps:=4000000) (disch:=first|assumption|omega|(simp -implicitDefEqProofs only[Yr,Ys]<;>first|assumption|omega)|decide) only[t7,t8,d1,ZG,Zz,ZK,ZT,ZP,ZS,Z9,Ya,ZO,Z8,Yc,Yb,Zx,Zt,Zs,ZU,Nat.reduceSub,Nat.reduceAdd,Nat.reduceLeDiff,Zi,Zh,Nat.reduceEqDiff,decide_true,decide_false,ZJ,Zf,Zd,YH,YJ,ZZ,ZC,Zv,ZY,ZX,ZM,Zk,Zl,Yf,ZD,Zd,Zf,Yg,KK,YU,WD,Yp,Yq,ZE,ZH,ZF,Nat.reduceEqDiff,reduceCtorEq,WE]
  refine⟨_,_,_,rfl,?_⟩
  exact .inr ⟨by simp,rfl,.inr ⟨rfl,ke λj hj=>hn j (by omega)⟩⟩
 |succ m=>
  have d1:decide (i<l.length)=true:=Zr (by omega)
  have hi:i<l.length:=by omega
  rcases hN with⟨_,rfl⟩|⟨b,rfl,_,r,g,hz,hsz,how,hb,hg⟩
  ·simp at hi
  ·have hir:i<r.size:=by omega
   have gi:=hg i hi
   have e1:=λ{j}=>Zel (Z7:=Z7) (fs:=fs) (fuel:=fuel) E (k:=k) (n:=j) hk (H:=H) (hs i hi) hro
   cases hm:Vo (l.getD i []) with
   |true=>
    rw[hm] at e1
    simp(maxSteps:=4000000) (disch:=first|assumption|omega|(simp -implicitDefEqProofs only[Yr,Ys]<;>first|assumption|omega)|decide) only[t0,t1,t7,t8,d1,g,gi,e1,ZG,Zz,ZK,ZT,ZP,ZS,Z9,Ya,ZO,Z8,Yc,Yb,Zx,Zt,Zs,ZU,Nat.reduceSub,Nat.reduceAdd,Nat.reduceLeDiff,Zi,Zh,Nat.reduceEqDiff,decide_true,decide_false,ZJ,Zf,Zd,YH,YJ,ZZ,ZC,Zv,ZY,ZX,ZM,Zk,Zl,Yf,ZD,Zd,Zf,Yg,KK,YU,WD,Yp,Yq,ZE,ZH,ZF,Nat.reduceEqDiff,reduceCtorEq,WE]
    refine⟨_,_,_,rfl,.inl ⟨rfl,m,by omega,rfl,t0',t1',lR,i+1,rfl,by omega,λj hj=>?_⟩⟩
    by_cases h:j=i
    ·rw[h];exact hm
    ·exact hn j (by omega)
   |false=>
    rw[hm] at e1
    simp(maxSteps:=4000000) (disch:=first|assumption|omega|(simp -implicitDefEqProofs only[Yr,Ys]<;>first|assumption|omega)|decide) only[t0,t1,t7,t8,d1,g,gi,e1,ZG,Zz,ZK,ZT,ZP,ZS,Z9,Ya,ZO,Z8,Yc,Yb,Zx,Zt,Zs,ZU,Nat.reduceSub,Nat.reduceAdd,Nat.reduceLeDiff,Zi,Zh,Nat.reduceEqDiff,decide_true,decide_false,ZJ,Zf,Zd,YH,YJ,ZZ,ZC,Zv,ZY,ZX,ZM,Zk,Zl,Yf,ZD,Zd,Zf,Yg,KK,YU,WD,Yp,Yq,ZE,ZH,ZF,Nat.reduceEqDiff,reduceCtorEq,WE]
    refine⟨_,_,_,rfl,?_⟩
    exact .inr ⟨by simp,rfl,.inl ⟨rfl,i,rfl,ny hi hm⟩⟩
theorem Zed{Z7:Lib}{fs:T CF}{fuel:Nat}(E:Env Z7 fs fuel){n k:Nat}(hk:7<=k){v:AV}{l:List (List UInt8)}(hl:l.length<=90000)(hs: ∀i,i<l.length->(l.getD i []).length<=90000){H:Heap}(hro:H.ro<=H.nx)(hN:DX H v l):
  ∃w,Xd (LK Z7 fs fuel k) fs fuel (n+2) 267 [v,.func 213 [] []] H=.ret w H∧((l.all Vo=false∧ ∃p,w=nI .i64 p)∨(l.all Vo=true∧w=.int .i64 (.negSucc 0))):=by
 rw[XR (Xk E.n267 (.inr rfl) _ _) E.f267]
 have ln:=hN.len
 simp(maxSteps:=4000000) (disch:=first|assumption|omega|(simp -implicitDefEqProofs only[Yr,Ys]<;>first|assumption|omega)|decide) only[ln,ZG,Zz,ZK,ZT,ZP,ZS,Z9,Ya,ZO,Z8,Yc,Yb,Zx,Zt,Zs,ZU,Nat.reduceSub,Nat.reduceAdd,Nat.reduceLeDiff,Zi,Zh,Nat.reduceEqDiff,decide_true,decide_false,ZJ,Zf,Zd,YH,YJ,ZZ,ZC,Zv,ZY,ZX,ZM,Zk,Zl,Yf,ZD,Zd,Zf,Yg,wa,YU,WD,Yp,Yq,ZE,ZH,ZF,Nat.reduceEqDiff,reduceCtorEq,WE]
 generalize hL:TH (KK _) fuel _ _ _=L
 obtain⟨o,MR,H2,rfl,_,rfl,z⟩:=WW (P:=λT=>ak v l H l.length T H) (Q:=aV l H)
  (λT hi=>Vd (ak v l H) (aV l H) (λm tm H2 h=>oK E hk hl hs hro hN _ _ _ _ _ m tm H2 h) fuel l.length T H (by have:=E.big;omega) hi) hL
  (by exact⟨rfl,rfl,rfl,rfl,0,rfl,by omega,λj hj=>by omega⟩)
 rcases z with⟨rfl,p,t4,e⟩|⟨rfl,e⟩
 ·simp only[Es] at t4
  simp(maxSteps:=4000000) (disch:=first|assumption|omega|(simp -implicitDefEqProofs only[Yr,Ys]<;>first|assumption|omega)|decide) only[t4,ZG,Zz,ZK,ZT,ZP,ZS,Z9,Ya,ZO,Z8,Yc,Yb,Zx,Zt,Zs,ZU,Nat.reduceSub,Nat.reduceAdd,Nat.reduceLeDiff,Zi,Zh,Nat.reduceEqDiff,decide_true,decide_false,ZJ,Zf,Zd,YH,YJ,ZZ,ZC,Zv,ZY,ZX,ZM,Zk,Zl,Yf,ZD,Zd,Zf,Yg,wa,YU,WD,Yp,Yq,ZE,ZH,ZF,Nat.reduceEqDiff,reduceCtorEq,WE]
  refine⟨_,rfl,?_⟩
  exact .inl ⟨e,p,rfl⟩
 ·
  simp(maxSteps:=4000000) (disch:=first|assumption|omega|(simp -implicitDefEqProofs only[Yr,Ys]<;>first|assumption|omega)|decide) only[ZG,Zz,ZK,ZT,ZP,ZS,Z9,Ya,ZO,Z8,Yc,Yb,Zx,Zt,Zs,ZU,Nat.reduceSub,Nat.reduceAdd,Nat.reduceLeDiff,Zi,Zh,Nat.reduceEqDiff,decide_true,decide_false,ZJ,Zf,Zd,YH,YJ,ZZ,ZC,Zv,ZY,ZX,ZM,Zk,Zl,Yf,ZD,Zd,Zf,Yg,wa,YU,WD,Yp,Yq,ZE,ZH,ZF,Nat.reduceEqDiff,reduceCtorEq,WE]
  refine⟨_,rfl,?_⟩
  exact .inr ⟨e,rfl⟩
theorem Zam{Z7:Lib}{fs:T CF}{fuel:Nat}(E:Env Z7 fs fuel){n k:Nat}(hk:7<=k){v:AV}{l:List (List UInt8)}(hl:l.length<=90000)(hs: ∀i,i<l.length->(l.getD i []).length<=90000){H:Heap}(hro:H.ro<=H.nx)(hN:DX H v l):
  Xd (LK Z7 fs fuel k) fs fuel (n+3) 212 [v,.func 213 [] []] H=.ret (.bool (!l.all Vo)) H:=by
 rw[XR (Xk E.n212 (.inr rfl) _ _) E.f212]
 obtain⟨w,e1,h⟩:=Zed E (n:=n) hk hl hs hro hN
 rcases h with⟨h,p,rfl⟩|⟨h,rfl⟩
 ·have d1:decide (0<=p)=true:=Zr (Zi _)
  rw[h]
  simp(maxSteps:=4000000) (disch:=first|assumption|omega|(simp -implicitDefEqProofs only[Yr,Ys]<;>first|assumption|omega)|decide) only[e1,d1,ZG,Zz,ZK,ZT,ZP,ZS,Z9,Ya,ZO,Z8,Yc,Yb,Zx,Zt,Zs,ZU,Nat.reduceSub,Nat.reduceAdd,Nat.reduceLeDiff,Zi,Zh,Nat.reduceEqDiff,decide_true,decide_false,ZJ,Zf,Zd,YH,YJ,ZZ,ZC,Zv,ZY,ZX,ZM,Zk,Zl,Yf,ZD,Zd,Zf,Yg,tF,YU,WD,Yp,Yq,ZE,ZH,ZF,Nat.reduceEqDiff,reduceCtorEq,WE]
 ·rw[h]
  simp(maxSteps:=4000000) (disch:=first|assumption|omega|(simp -implicitDefEqProofs only[Yr,Ys]<;>first|assumption|omega)|decide) only[e1,ZG,Zz,ZK,ZT,ZP,ZS,Z9,Ya,ZO,Z8,Yc,Yb,Zx,Zt,Zs,ZU,Nat.reduceSub,Nat.reduceAdd,Nat.reduceLeDiff,Zi,Zh,Nat.reduceEqDiff,decide_true,decide_false,ZJ,Zf,Zd,YH,YJ,ZZ,ZC,Zv,ZY,ZX,ZM,Zk,Zl,Yf,ZD,Zd,Zf,Yg,tF,YU,WD,Yp,Yq,ZE,ZH,ZF,Nat.reduceEqDiff,reduceCtorEq,WE]
theorem Mm: ∀(s:List UInt8) (x:List UInt8),x∈Tu s->x.length<=s.length
 |[],x,h=>by
  have:x=[]:=by simpa [Tu] using h
  rw[this];exact Z2 _
 |c::s,x,h=>by
  rw[Tu] at h
  rw[Zm]
  split at h
  ·rcases Yv.1 h with rfl|h
   ·exact Zi _
   ·have:=Mm s x h;omega
  ·split at h
   ·rename_i e;exact absurd e (IN s)
   ·rename_i a b e
    rcases Yv.1 h with rfl|h
    ·have:=Mm s a (by rw[e];exact Z5 ..)
     rw[Zm];omega
    ·have:=Mm s x (by rw[e];exact Yd _ h);omega
theorem B0{s x:List UInt8}(h:x∈Pc s):x.length<=s.length:=by
 unfold Pc at h
 split at h
 ·cases h
 ·exact Mm s x h
theorem vE(s:List UInt8):(Pc s).length<=s.length+1:=by
 unfold Pc
 split
 ·exact Zi _
 ·rw[OL];have:=Ce 47 s;omega
theorem qx{Z7:Lib}{fs:T CF}{fuel:Nat}(E:Env Z7 fs fuel){n:Nat}{s:List UInt8}{H:Heap}(hs:s.length<=89000)(hro:H.ro<=H.nx):
  ∃H',Xd (LK Z7 fs fuel 9) fs fuel (n+6) 155 [.str s] H=.ret (.bool (K1 s)) H'∧Yw H H' []:=by
 rw[XR (Xk E.n155 (.inl (by decide)) _ _) E.f155]
 obtain⟨v,H1,e1,hN,k1⟩:=yh (Z7:=Z7) (fs:=fs) (fuel:=fuel) E (k:=9) (n:=n+1) (by decide) (s:=s) (by omega) hro
 have ln:=hN.len
 have nl:=vE s
 have e2:=λ{j}=>Zam (Z7:=Z7) (fs:=fs) (fuel:=fuel) E (k:=9) (n:=j) (by decide) (v:=v) (l:=Pc s) (by omega) (λi hi=>by
  have:(Pc s).getD i []∈Pc s:=by rw[ZN,ZW hi];exact Vc hi
  have:=B0 this;omega) (by rw[k1.ro];exact YZ hro k1.nx) hN
 by_cases h1:s.length<=4080
 ·have d1:decide (s.length<=4080)=true:=Zr h1
  by_cases h2:(Pc s).length<255
  ·have d2:decide ((Pc s).length<255)=true:=Zr h2
   cases hm:(Pc s).all Vo with
   |true=>
    rw[hm] at e2
    rw[show K1 s=true by unfold K1;simp only[hm,h1,h2];rfl]
    simp(maxSteps:=4000000) (disch:=first|assumption|omega|(simp -implicitDefEqProofs only[Yr,Ys]<;>first|assumption|omega)|decide) only[e1,ln,d1,d2,e2,ZG,Zz,ZK,ZT,ZP,ZS,Z9,Ya,ZO,Z8,Yc,Yb,Zx,Zt,Zs,ZU,Nat.reduceSub,Nat.reduceAdd,Nat.reduceLeDiff,Zi,Zh,Nat.reduceEqDiff,decide_true,decide_false,ZJ,Zf,Zd,YH,YJ,ZZ,ZC,Zv,ZY,ZX,ZM,Zk,Zl,Yf,ZD,Zd,Zf,Yg,zf,YU,WD,Yp,Yq,ZE,ZH,ZF,Nat.reduceEqDiff,reduceCtorEq,WE]
    refine⟨_,rfl,?_⟩
    exact k1
   |false=>
    rw[hm] at e2
    rw[show K1 s=false by unfold K1;simp only[hm,Bool.and_false]]
    simp(maxSteps:=4000000) (disch:=first|assumption|omega|(simp -implicitDefEqProofs only[Yr,Ys]<;>first|assumption|omega)|decide) only[e1,ln,d1,d2,e2,ZG,Zz,ZK,ZT,ZP,ZS,Z9,Ya,ZO,Z8,Yc,Yb,Zx,Zt,Zs,ZU,Nat.reduceSub,Nat.reduceAdd,Nat.reduceLeDiff,Zi,Zh,Nat.reduceEqDiff,decide_true,decide_false,ZJ,Zf,Zd,YH,YJ,ZZ,ZC,Zv,ZY,ZX,ZM,Zk,Zl,Yf,ZD,Zd,Zf,Yg,zf,YU,WD,Yp,Yq,ZE,ZH,ZF,Nat.reduceEqDiff,reduceCtorEq,WE]
    refine⟨_,rfl,?_⟩
    exact k1
  ·have d2:decide ((Pc s).length<255)=false:=Zj h2
   rw[show K1 s=false by unfold K1;rw[d2,Bool.and_false];rfl]
   simp(maxSteps:=4000000) (disch:=first|assumption|omega|(simp -implicitDefEqProofs only[Yr,Ys]<;>first|assumption|omega)|decide) only[e1,ln,d1,d2,ZG,Zz,ZK,ZT,ZP,ZS,Z9,Ya,ZO,Z8,Yc,Yb,Zx,Zt,Zs,ZU,Nat.reduceSub,Nat.reduceAdd,Nat.reduceLeDiff,Zi,Zh,Nat.reduceEqDiff,decide_true,decide_false,ZJ,Zf,Zd,YH,YJ,ZZ,ZC,Zv,ZY,ZX,ZM,Zk,Zl,Yf,ZD,Zd,Zf,Yg,zf,YU,WD,Yp,Yq,ZE,ZH,ZF,Nat.reduceEqDiff,reduceCtorEq,WE]
   refine⟨_,rfl,?_⟩
   exact k1
 ·have d1:decide (s.length<=4080)=false:=Zj h1
  rw[show K1 s=false by unfold K1;rw[d1];rfl]
  simp(maxSteps:=4000000) (disch:=first|assumption|omega|(simp -implicitDefEqProofs only[Yr,Ys]<;>first|assumption|omega)|decide) only[e1,ln,d1,ZG,Zz,ZK,ZT,ZP,ZS,Z9,Ya,ZO,Z8,Yc,Yb,Zx,Zt,Zs,ZU,Nat.reduceSub,Nat.reduceAdd,Nat.reduceLeDiff,Zi,Zh,Nat.reduceEqDiff,decide_true,decide_false,ZJ,Zf,Zd,YH,YJ,ZZ,ZC,Zv,ZY,ZX,ZM,Zk,Zl,Yf,ZD,Zd,Zf,Yg,zf,YU,WD,Yp,Yq,ZE,ZH,ZF,Nat.reduceEqDiff,reduceCtorEq,WE]
  refine⟨_,rfl,?_⟩
  exact k1
theorem Zet{Z7:Lib}{fs:T CF}{fuel:Nat}(E:Env Z7 fs fuel){k n:Nat}(hk:10<=k){s:List UInt8}{H:Heap}(hs:s.length<=89000)(hro:H.ro<=H.nx):
  Xd (LK Z7 fs fuel k) fs fuel (n+1) 155 [.str s] H=.ret (.bool (K1 s)) H:=by
 obtain⟨H',e,g⟩:=qx E (n:=894) (H:=H) hs hro
 exact Wy (r:=9) rfl rfl e g (rfl) hk
def dB:List RP:=[⟨nI .i64 1,.func 427 [] [],0⟩,⟨nI .i64 2,.func 428 [] [],0⟩,⟨nI .i64 3,.func 429 [] [],0⟩]
def iE:List RP:=[⟨nI .i64 1,nI .u8 53,0⟩,⟨nI .i64 2,nI .u8 48,0⟩,⟨nI .i64 3,nI .u8 50,0⟩,⟨nI .i64 4,nI .u8 54,0⟩]
structure Ob(H:Heap):Prop where
 nx:100<=H.nx
 ro:H.ro<=H.nx
 c: ∃r,H.t.get 2=some (.row r)∧0<r.size∧r.get 0=.map 16
 cm:H.t.get 16=some (.cmap dB)
 t: ∃r,H.t.get 0=some (.row r)∧0<r.size∧r.get 0=.map 15
 tm:H.t.get 15=some (.cmap iE)
theorem Ob.keep{H H':Heap}{S:List Nat}(g:Ob H)(k:Yw H H' S)(hS: ∀x∈S,100<=x):Ob H':=by
 obtain⟨a,b,⟨r,c1,c2,c3⟩,d,⟨q,e1,e2,e3⟩,f⟩:=g
 have kk:=λx (hx:x<100)=>k.get x (by omega) (λh=>by have:=hS x h;omega)
 exact⟨YZ a k.nx,by rw[k.ro];exact YZ b k.nx,⟨r,by rw[kk _ (by decide)];exact c1,c2,c3⟩,by rw[kk _ (by decide)];exact d,⟨q,by rw[kk _ (by decide)];exact e1,e2,e3⟩,by rw[kk _ (by decide)];exact f⟩
theorem Ob.keep0{H H':Heap}(g:Ob H)(k:Yw H H' []):Ob H':=g.keep k (by simp)
theorem nf(G:Heap):bo Vj .nilf false (some (.cmap dB)) (nI .i64 1) G=.val (.func 427 [] []) G:=rfl
theorem rt(G:Heap):bo Vj .nilf false (some (.cmap dB)) (nI .i64 2) G=.val (.func 428 [] []) G:=rfl
theorem jh(G:Heap):bo Vj .nilf false (some (.cmap dB)) (nI .i64 3) G=.val (.func 429 [] []) G:=rfl
theorem nu(d:List UInt8):(CO d).length<=d.length:=by
 unfold CO
 split
 ·rw[Xo];omega
 ·exact Z2 _
theorem JW(p:List UInt8):(RQ p).length+(UV p).length=p.length:=by
 unfold RQ UV
 have:=Cf 47 p
 rw[Xo,V0];omega
theorem xH{b:List UInt8}(h:Ny b=2):4<=b.length:=by
 unfold Ny at h
 split at h
 ·cases h
 ·split at h
  ·rename_i e
   unfold Ez pp at e
   rw[Xv] at e
   exact ZB e.1
  ·cases h
theorem DT(p:List UInt8):(Qw p).length<=p.length:=by
 have h:=JW p
 unfold Qw
 split
 ·rw[X3];omega
 ·split
  ·rw[X3,V0];omega
  ·have:=nu (RQ p);omega
theorem zm{Z7:Lib}{fs:T CF}{fuel:Nat}(E:Env Z7 fs fuel){n:Nat}{s:List UInt8}{H:Heap}(hs:s.length<=80000)(g:Ob H):
  ∃H',Xd (LK Z7 fs fuel 10) fs fuel (n+2) 87 [.str s] H=.ret (.tup [nI .i64 (W2 s).1,.str (W2 s).2]) H'∧Yw H H' []:=by
 rw[XR (Xk E.n87 (.inl (by decide)) _ _) E.f87]
 have e1:=λ{j}=>base (Z7:=Z7) (fs:=fs) (fuel:=fuel) E (k:=10) (n:=j) (by decide) (s:=s) (H:=H) (by omega)
 have e2:=λ{j}=>bl (Z7:=Z7) (fs:=fs) (fuel:=fuel) E (k:=10) (n:=j) (by decide) (s:=UV s) (H:=H) (by have:=JW s;omega)
 have e3:=λ{j}=>lV (Z7:=Z7) (fs:=fs) (fuel:=fuel) E (k:=10) (n:=j) (by decide) (s:=s) (p:=UV s) (H:=H) (by omega)
 rw[uT] at e3
 have e4:=λ{j}=>Zet (Z7:=Z7) (fs:=fs) (fuel:=fuel) E (k:=10) (n:=j) (by decide) (s:=Qw s) (H:=H) (by have:=DT s;omega) g.ro
 have e6:=λ{j}=>bp (Z7:=Z7) (fs:=fs) (fuel:=fuel) E (k:=10) (n:=j) (by decide) (s:=(UV s).drop 4) (H:=H) (by rw[V0];have:=JW s;omega) g.ro
 have nq1:decide (1≠3)=true:=rfl
 have tg:decide (2≠3)=true:=rfl
 have th:decide (3≠3)=false:=rfl
 obtain⟨r,g1,g2,g3⟩:=g.c
 have ld: ∀G,ld1 (some (.row r)) 0 G=.val (.map 16) G:=λG=>by rw[Yf g2,g3]
 have gm:=g.cm
 have bd:=JW s
 have tl:=DT s
 obtain⟨l1,l3⟩:=oU (UV s)
 by_cases h0:s=[46,119,104,46,46,119,104,46,116,111,99]
 ·have d0:decide (s=[46,119,104,46,46,119,104,46,116,111,99])=true:=Zr h0
  rw[show W2 s=(4,[]) by unfold W2 j7;simp[h0]]
  simp(maxSteps:=4000000) (disch:=first|assumption|omega|(simp -implicitDefEqProofs only[Yr,Ys]<;>first|assumption|omega)|decide) only[d0,ZG,Zz,ZK,ZT,ZP,ZS,Z9,Ya,ZO,Z8,Yc,Yb,Zx,Zt,Zs,ZU,Nat.reduceSub,Nat.reduceAdd,Nat.reduceLeDiff,Zi,Zh,Nat.reduceEqDiff,decide_true,decide_false,ZJ,Zf,Zd,YH,YJ,ZZ,ZC,Zv,ZY,ZX,ZM,Zk,Zl,Yf,ZD,Zd,Zf,Yg,ZV,Ye,c87,YU,WD,Yp,Yq,ZE,ZH,ZF,Nat.reduceEqDiff,reduceCtorEq,WE,UF]
  refine⟨_,rfl,?_⟩
  exact Yw.refl _ _
 have d0:decide (s=[46,119,104,46,46,119,104,46,116,111,99])=false:=Zj h0
 have h0': ¬s=j7:=h0
 have hcl:Ny (UV s)=1∨Ny (UV s)=2∨Ny (UV s)=3:=by omega
 rcases hcl with hc|hc|hc
 ·rw[hc] at e2
  have ht:Qw s=RQ s++UV s:=by unfold Qw;simp[hc]
  rw[ht] at e4
  have e5:=λ{j}=>kg (Z7:=Z7) (fs:=fs) (fuel:=fuel) E (k:=10) (n:=j) (by decide) (a:=RQ s) (s:=UV s) (H:=H) (by omega)
  cases hm:K1 (RQ s++UV s) with
  |false=>
   rw[hm] at e4
   rw[show W2 s=(0,[]) by unfold W2 I3;simp[h0',ht,hm,hc]]
   simp(maxSteps:=4000000) (disch:=first|assumption|omega|(simp -implicitDefEqProofs only[Yr,Ys]<;>first|assumption|omega)|decide) only[nq1,tg,th,d0,e1,e2,e3,e4,e5,g1,ld,gm,nf,ZG,Zz,ZK,ZT,ZP,ZS,Z9,Ya,ZO,Z8,Yc,Yb,Zx,Zt,Zs,ZU,Nat.reduceSub,Nat.reduceAdd,Nat.reduceLeDiff,Zi,Zh,Nat.reduceEqDiff,decide_true,decide_false,ZJ,Zf,Zd,YH,YJ,ZZ,ZC,Zv,ZY,ZX,ZM,Zk,Zl,Yf,ZD,Zd,Zf,Yg,ZV,Ye,c87,YU,WD,Yp,Yq,ZE,ZH,ZF,Nat.reduceEqDiff,reduceCtorEq,WE,UF]
   refine⟨_,rfl,?_⟩
   exact Yw.refl _ _
  |true=>
   rw[hm] at e4
   by_cases hz:RQ s++UV s=[]
   ·have dz:decide (RQ s++UV s=[])=true:=Zr hz
    have hz2:K1 []=true:=by rw[<-hz];exact hm
    rw[show W2 s=(0,[]) by unfold W2 I3;rw[ht,dz];simp[h0',hc]]
    simp(maxSteps:=4000000) (disch:=first|assumption|omega|(simp -implicitDefEqProofs only[Yr,Ys]<;>first|assumption|omega)|decide) only[nq1,tg,th,d0,e1,e2,e3,e4,e5,g1,ld,gm,nf,dz,ZG,Zz,ZK,ZT,ZP,ZS,Z9,Ya,ZO,Z8,Yc,Yb,Zx,Zt,Zs,ZU,Nat.reduceSub,Nat.reduceAdd,Nat.reduceLeDiff,Zi,Zh,Nat.reduceEqDiff,decide_true,decide_false,ZJ,Zf,Zd,YH,YJ,ZZ,ZC,Zv,ZY,ZX,ZM,Zk,Zl,Yf,ZD,Zd,Zf,Yg,ZV,Ye,c87,YU,WD,Yp,Yq,ZE,ZH,ZF,Nat.reduceEqDiff,reduceCtorEq,WE,UF]
    refine⟨_,rfl,?_⟩
    exact Yw.refl _ _
   ·have dz:decide (RQ s++UV s=[])=false:=Zj hz
    have hz3:Qw s≠[]:=by rw[ht];exact hz
    by_cases hd:RQ s=[47]
    ·have dd:decide (RQ s=[47])=true:=Zr hd
     rw[show W2 s=(0,[]) by unfold W2 I3;simp[h0',hz3,ht,hm,hc,hz,hd]]
     simp(maxSteps:=4000000) (disch:=first|assumption|omega|(simp -implicitDefEqProofs only[Yr,Ys]<;>first|assumption|omega)|decide) only[nq1,tg,th,d0,e1,e2,e3,e4,e5,g1,ld,gm,nf,dz,dd,ZG,Zz,ZK,ZT,ZP,ZS,Z9,Ya,ZO,Z8,Yc,Yb,Zx,Zt,Zs,ZU,Nat.reduceSub,Nat.reduceAdd,Nat.reduceLeDiff,Zi,Zh,Nat.reduceEqDiff,decide_true,decide_false,ZJ,Zf,Zd,YH,YJ,ZZ,ZC,Zv,ZY,ZX,ZM,Zk,Zl,Yf,ZD,Zd,Zf,Yg,ZV,Ye,c87,YU,WD,Yp,Yq,ZE,ZH,ZF,Nat.reduceEqDiff,reduceCtorEq,WE,UF]
     refine⟨_,rfl,?_⟩
     exact Yw.refl _ _
    ·have dd:decide (RQ s=[47])=false:=Zj hd
     rw[show W2 s=(1,RQ s++UV s) by unfold W2 I3;simp[h0',hz3,ht,hm,hc,hz,hd]]
     simp(maxSteps:=4000000) (disch:=first|assumption|omega|(simp -implicitDefEqProofs only[Yr,Ys]<;>first|assumption|omega)|decide) only[nq1,tg,th,d0,e1,e2,e3,e4,e5,g1,ld,gm,nf,dz,dd,ZG,Zz,ZK,ZT,ZP,ZS,Z9,Ya,ZO,Z8,Yc,Yb,Zx,Zt,Zs,ZU,Nat.reduceSub,Nat.reduceAdd,Nat.reduceLeDiff,Zi,Zh,Nat.reduceEqDiff,decide_true,decide_false,ZJ,Zf,Zd,YH,YJ,ZZ,ZC,Zv,ZY,ZX,ZM,Zk,Zl,Yf,ZD,Zd,Zf,Yg,ZV,Ye,c87,YU,WD,Yp,Yq,ZE,ZH,ZF,Nat.reduceEqDiff,reduceCtorEq,WE,UF]
     refine⟨_,rfl,?_⟩
     exact Yw.refl _ _
 ·rw[hc] at e2
  have ht:Qw s=RQ s++(UV s).drop 4:=by unfold Qw;simp[hc]
  rw[ht] at e4
  have e5:=λ{j}=>kh (Z7:=Z7) (fs:=fs) (fuel:=fuel) E (k:=10) (n:=j) (by decide) (a:=RQ s) (s:=UV s) (H:=H) (by omega) (xH hc)
  have hp4:=xH hc
  cases hm:K1 (RQ s++(UV s).drop 4) with
  |false=>
   rw[hm] at e4
   rw[show W2 s=(0,[]) by unfold W2 I3;simp[h0',ht,hm,hc]]
   simp(maxSteps:=4000000) (disch:=first|assumption|omega|(simp -implicitDefEqProofs only[Yr,Ys]<;>first|assumption|omega)|decide) only[nq1,tg,th,d0,e1,e2,e3,e4,e5,g1,ld,gm,rt,ZG,Zz,ZK,ZT,ZP,ZS,Z9,Ya,ZO,Z8,Yc,Yb,Zx,Zt,Zs,ZU,Nat.reduceSub,Nat.reduceAdd,Nat.reduceLeDiff,Zi,Zh,Nat.reduceEqDiff,decide_true,decide_false,ZJ,Zf,Zd,YH,YJ,ZZ,ZC,Zv,ZY,ZX,ZM,Zk,Zl,Yf,ZD,Zd,Zf,Yg,ZV,Ye,c87,YU,WD,Yp,Yq,ZE,ZH,ZF,Nat.reduceEqDiff,reduceCtorEq,WE,UF]
   refine⟨_,rfl,?_⟩
   exact Yw.refl _ _
  |true=>
   rw[hm] at e4
   by_cases hz:RQ s++(UV s).drop 4=[]
   ·have dz:decide (RQ s++(UV s).drop 4=[])=true:=Zr hz
    have hz2:K1 []=true:=by rw[<-hz];exact hm
    rw[show W2 s=(0,[]) by unfold W2 I3;rw[ht,dz];simp[h0',hc]]
    simp(maxSteps:=4000000) (disch:=first|assumption|omega|(simp -implicitDefEqProofs only[Yr,Ys]<;>first|assumption|omega)|decide) only[nq1,tg,th,d0,e1,e2,e3,e4,e5,g1,ld,gm,rt,dz,ZG,Zz,ZK,ZT,ZP,ZS,Z9,Ya,ZO,Z8,Yc,Yb,Zx,Zt,Zs,ZU,Nat.reduceSub,Nat.reduceAdd,Nat.reduceLeDiff,Zi,Zh,Nat.reduceEqDiff,decide_true,decide_false,ZJ,Zf,Zd,YH,YJ,ZZ,ZC,Zv,ZY,ZX,ZM,Zk,Zl,Yf,ZD,Zd,Zf,Yg,ZV,Ye,c87,YU,WD,Yp,Yq,ZE,ZH,ZF,Nat.reduceEqDiff,reduceCtorEq,WE,UF]
    refine⟨_,rfl,?_⟩
    exact Yw.refl _ _
   ·have dz:decide (RQ s++(UV s).drop 4=[])=false:=Zj hz
    cases hn:Vo ((UV s).drop 4) with
    |false=>
     rw[hn] at e6
     rw[show W2 s=(0,[]) by unfold W2 I3;simp[h0',ht,hm,hc,hn]]
     simp(maxSteps:=4000000) (disch:=first|assumption|omega|(simp -implicitDefEqProofs only[Yr,Ys]<;>first|assumption|omega)|decide) only[nq1,tg,th,d0,e1,e2,e3,e4,e5,g1,ld,gm,rt,dz,e6,ZG,Zz,ZK,ZT,ZP,ZS,Z9,Ya,ZO,Z8,Yc,Yb,Zx,Zt,Zs,ZU,Nat.reduceSub,Nat.reduceAdd,Nat.reduceLeDiff,Zi,Zh,Nat.reduceEqDiff,decide_true,decide_false,ZJ,Zf,Zd,YH,YJ,ZZ,ZC,Zv,ZY,ZX,ZM,Zk,Zl,Yf,ZD,Zd,Zf,Yg,ZV,Ye,c87,YU,WD,Yp,Yq,ZE,ZH,ZF,Nat.reduceEqDiff,reduceCtorEq,WE,UF]
     refine⟨_,rfl,?_⟩
     exact Yw.refl _ _
    |true=>
     rw[hn] at e6
     by_cases hd:RQ s=[47]
     ·have dd:decide (RQ s=[47])=true:=Zr hd
      rw[show W2 s=(0,[]) by unfold W2 I3;simp[h0',ht,hm,hc,hn,hz,hd]]
      simp(maxSteps:=4000000) (disch:=first|assumption|omega|(simp -implicitDefEqProofs only[Yr,Ys]<;>first|assumption|omega)|decide) only[nq1,tg,th,d0,e1,e2,e3,e4,e5,g1,ld,gm,rt,dz,e6,dd,ZG,Zz,ZK,ZT,ZP,ZS,Z9,Ya,ZO,Z8,Yc,Yb,Zx,Zt,Zs,ZU,Nat.reduceSub,Nat.reduceAdd,Nat.reduceLeDiff,Zi,Zh,Nat.reduceEqDiff,decide_true,decide_false,ZJ,Zf,Zd,YH,YJ,ZZ,ZC,Zv,ZY,ZX,ZM,Zk,Zl,Yf,ZD,Zd,Zf,Yg,ZV,Ye,c87,YU,WD,Yp,Yq,ZE,ZH,ZF,Nat.reduceEqDiff,reduceCtorEq,WE,UF]
      refine⟨_,rfl,?_⟩
      exact Yw.refl _ _
     ·have dd:decide (RQ s=[47])=false:=Zj hd
      rw[show W2 s=(2,RQ s++(UV s).drop 4) by unfold W2 I3;simp[h0',ht,hm,hc,hn,hz,hd]]
      simp(maxSteps:=4000000) (disch:=first|assumption|omega|(simp -implicitDefEqProofs only[Yr,Ys]<;>first|assumption|omega)|decide) only[nq1,tg,th,d0,e1,e2,e3,e4,e5,g1,ld,gm,rt,dz,e6,dd,ZG,Zz,ZK,ZT,ZP,ZS,Z9,Ya,ZO,Z8,Yc,Yb,Zx,Zt,Zs,ZU,Nat.reduceSub,Nat.reduceAdd,Nat.reduceLeDiff,Zi,Zh,Nat.reduceEqDiff,decide_true,decide_false,ZJ,Zf,Zd,YH,YJ,ZZ,ZC,Zv,ZY,ZX,ZM,Zk,Zl,Yf,ZD,Zd,Zf,Yg,ZV,Ye,c87,YU,WD,Yp,Yq,ZE,ZH,ZF,Nat.reduceEqDiff,reduceCtorEq,WE,UF]
      refine⟨_,rfl,?_⟩
      exact Yw.refl _ _
 ·rw[hc] at e2
  have ht:Qw s=CO (RQ s):=by unfold Qw;simp[hc]
  rw[ht] at e4
  have e5:=λ{j}=>ki (Z7:=Z7) (fs:=fs) (fuel:=fuel) E (k:=10) (n:=j) (by decide) (a:=RQ s) (s:=UV s) (H:=H) (by omega)
  cases hm:K1 (CO (RQ s)) with
  |false=>
   rw[hm] at e4
   rw[show W2 s=(0,[]) by unfold W2 I3;simp[h0',ht,hm,hc]]
   simp(maxSteps:=4000000) (disch:=first|assumption|omega|(simp -implicitDefEqProofs only[Yr,Ys]<;>first|assumption|omega)|decide) only[nq1,tg,th,d0,e1,e2,e3,e4,e5,g1,ld,gm,jh,ZG,Zz,ZK,ZT,ZP,ZS,Z9,Ya,ZO,Z8,Yc,Yb,Zx,Zt,Zs,ZU,Nat.reduceSub,Nat.reduceAdd,Nat.reduceLeDiff,Zi,Zh,Nat.reduceEqDiff,decide_true,decide_false,ZJ,Zf,Zd,YH,YJ,ZZ,ZC,Zv,ZY,ZX,ZM,Zk,Zl,Yf,ZD,Zd,Zf,Yg,ZV,Ye,c87,YU,WD,Yp,Yq,ZE,ZH,ZF,Nat.reduceEqDiff,reduceCtorEq,WE,UF]
   refine⟨_,rfl,?_⟩
   exact Yw.refl _ _
  |true=>
   rw[hm] at e4
   by_cases hd:RQ s=[47]
   ·have dd:decide (RQ s=[47])=true:=Zr hd
    rw[show W2 s=(0,[]) by unfold W2 I3;simp[h0',ht,hm,hc,hd]]
    simp(maxSteps:=4000000) (disch:=first|assumption|omega|(simp -implicitDefEqProofs only[Yr,Ys]<;>first|assumption|omega)|decide) only[nq1,tg,th,d0,e1,e2,e3,e4,e5,g1,ld,gm,jh,dd,ZG,Zz,ZK,ZT,ZP,ZS,Z9,Ya,ZO,Z8,Yc,Yb,Zx,Zt,Zs,ZU,Nat.reduceSub,Nat.reduceAdd,Nat.reduceLeDiff,Zi,Zh,Nat.reduceEqDiff,decide_true,decide_false,ZJ,Zf,Zd,YH,YJ,ZZ,ZC,Zv,ZY,ZX,ZM,Zk,Zl,Yf,ZD,Zd,Zf,Yg,ZV,Ye,c87,YU,WD,Yp,Yq,ZE,ZH,ZF,Nat.reduceEqDiff,reduceCtorEq,WE,UF]
    refine⟨_,rfl,?_⟩
    exact Yw.refl _ _
   ·have dd:decide (RQ s=[47])=false:=Zj hd
    rw[show W2 s=(3,CO (RQ s)) by unfold W2 I3;simp[h0',ht,hm,hc,hd]]
    simp(maxSteps:=4000000) (disch:=first|assumption|omega|(simp -implicitDefEqProofs only[Yr,Ys]<;>first|assumption|omega)|decide) only[nq1,tg,th,d0,e1,e2,e3,e4,e5,g1,ld,gm,jh,dd,ZG,Zz,ZK,ZT,ZP,ZS,Z9,Ya,ZO,Z8,Yc,Yb,Zx,Zt,Zs,ZU,Nat.reduceSub,Nat.reduceAdd,Nat.reduceLeDiff,Zi,Zh,Nat.reduceEqDiff,decide_true,decide_false,ZJ,Zf,Zd,YH,YJ,ZZ,ZC,Zv,ZY,ZX,ZM,Zk,Zl,Yf,ZD,Zd,Zf,Yg,ZV,Ye,c87,YU,WD,Yp,Yq,ZE,ZH,ZF,Nat.reduceEqDiff,reduceCtorEq,WE,UF]
    refine⟨_,rfl,?_⟩
    exact Yw.refl _ _
theorem tU{Z7:Lib}{fs:T CF}{fuel:Nat}(E:Env Z7 fs fuel){k n:Nat}(hk:11<=k){s:List UInt8}{H:Heap}(hs:s.length<=80000)(g:Ob H):
  Xd (LK Z7 fs fuel k) fs fuel (n+1) 87 [.str s] H=.ret (.tup [nI .i64 (W2 s).1,.str (W2 s).2]) H:=by
 obtain⟨H',e,g⟩:=zm E (n:=898) (H:=H) hs g
 exact Wy (r:=10) rfl rfl e g (rfl) hk
theorem VY{b:Bool}{k:OR}{v:AV}{H:Heap}(h:YP b k=.val v H):k=.val v H:=by
 cases b with
 |true=>exact h
 |false=>cases h
theorem ud{H:Heap}{b:Nat}{k:Row->OR}{v:AV}{H':Heap}(h:Uc H b k=.val v H'): ∃r,k r=.val v H':=by
 unfold Uc at h
 split at h
 ·exact⟨_,h⟩
 ·cases h
theorem OI{H:Heap}{e sz:Nat}{l:List AV}{ex:Bool}{c:Nat}(hc:c<H.nx):(H.newRow e sz l ex).t.get c=H.t.get c:=by
 rw[Dn,WH (by omega)]
theorem x4{v:AV}{e sz bytes:Nat}{H:Heap}{n:Nat}{new:List AV}{v':AV}{H':Heap}(h:Jm v e sz bytes H n new=.val v' H'){c:Nat}(hc:c<H.nx)(hv: ∀b o l q,v=.slice b o l q->c≠b):H'.t.get c=H.t.get c:=by
 cases v with
 |nils=>
  replace h:cond (Nat.beq n 0) (.val .nils H) (YP (Nat.ble (Nat.mul n bytes) 140737488355328) (.val (.slice H.nx 0 n none) (H.newRow e sz new false)))=OR.val v' H':=h
  cases h0:Nat.beq n 0 with
  |true=>rw[h0] at h;cases h;rfl
  |false=>
   rw[h0] at h
   have h:=VY (show YP (Nat.ble (Nat.mul n bytes) 140737488355328) (.val (.slice H.nx 0 n none) (H.newRow e sz new false))=OR.val v' H' from h)
   cases h;exact OI hc
 |slice0=>
  replace h:cond (Nat.beq n 0) (.val .slice0 H) (YP (Nat.ble (Nat.mul n bytes) 140737488355328) (.val (.slice H.nx 0 n none) (H.newRow e sz new false)))=OR.val v' H':=h
  cases h0:Nat.beq n 0 with
  |true=>rw[h0] at h;cases h;rfl
  |false=>
   rw[h0] at h
   have h:=VY (show YP (Nat.ble (Nat.mul n bytes) 140737488355328) (.val (.slice H.nx 0 n none) (H.newRow e sz new false))=OR.val v' H' from h)
   cases h;exact OI hc
 |slice b o len cap=>
  have hb:=hv b o len cap rfl
  replace h:Uc H b (λr=>YP (AP r sz cap) (cond (Nat.ble (Nat.add len n) (RK r o cap)) (EH H (.slice b o len cap) b o len n sz cap r new) (LH H e b o len n sz bytes cap r new)))=OR.val v' H':=h
  obtain⟨r,h⟩:=ud h
  have h:=VY h
  cases h0:Nat.ble (Nat.add len n) (RK r o cap) with
  |true=>
   rw[h0] at h
   replace h:EH H (.slice b o len cap) b o len n sz cap r new=OR.val v' H':=h
   unfold EH at h
   cases h1:Nat.beq n 0 with
   |true=>rw[h1] at h;cases h;rfl
   |false=>
    rw[h1] at h
    have h:=VY (VY (VY h))
    cases h
    exact Rl (λe=>hb e.symm) ..
  |false=>
   rw[h0] at h
   replace h:LH H e b o len n sz bytes cap r new=OR.val v' H':=h
   unfold LH at h
   have h:=VY (VY h)
   cases cap with
   |some q=>cases h;exact OI hc
   |none=>
    cases h1:r.exact with
    |true=>
     have h:=VY (show YP (Nat.beq (Nat.mod o sz) 0) (.val (.slice H.nx 0 (Nat.add len n) none) (H.newRow e sz (U5 r o (Nat.mul len sz)++new) false))=OR.val v' H' by rw[h1] at h;exact h)
     cases h;exact OI hc
    |false=>
     have h:I2 H e b o len n sz r new=OR.val v' H':=by rw[h1] at h;exact h
     unfold I2 at h
     have h:=VY (VY (VY (VY (VY h))))
     cases h
     show((H.t.del b).set H.nx _).get c=_
     rw[T.get_set,if_neg (by omega),T.get_del,if_neg λe=>hb e.symm]
 |_=>cases h
theorem tA{v:AV}{e sz bytes:Nat}{H:Heap}{n:Nat}{new:List AV}{v':AV}{H':Heap}(h:Jm v e sz bytes H n new=.val v' H')(hcap: ∀b o l q,v=.slice b o l q-> ∀r,H.t.get b=some (.row r)->Nat.ble (Nat.add l n) (RK r o q)=false): ∀b o l q,v'=.slice b o l q->b=H.nx:=by
 intro b0 o0 l0 q0 e0
 cases v with
 |nils=>
  replace h:cond (Nat.beq n 0) (.val .nils H) (YP (Nat.ble (Nat.mul n bytes) 140737488355328) (.val (.slice H.nx 0 n none) (H.newRow e sz new false)))=OR.val v' H':=h
  cases h0:Nat.beq n 0 with
  |true=>rw[h0] at h;cases h;cases e0
  |false=>
   rw[h0] at h
   have h:=VY (show YP (Nat.ble (Nat.mul n bytes) 140737488355328) (.val (.slice H.nx 0 n none) (H.newRow e sz new false))=OR.val v' H' from h)
   cases h;cases e0;rfl
 |slice0=>
  replace h:cond (Nat.beq n 0) (.val .slice0 H) (YP (Nat.ble (Nat.mul n bytes) 140737488355328) (.val (.slice H.nx 0 n none) (H.newRow e sz new false)))=OR.val v' H':=h
  cases h0:Nat.beq n 0 with
  |true=>rw[h0] at h;cases h;cases e0
  |false=>
   rw[h0] at h
   have h:=VY (show YP (Nat.ble (Nat.mul n bytes) 140737488355328) (.val (.slice H.nx 0 n none) (H.newRow e sz new false))=OR.val v' H' from h)
   cases h;cases e0;rfl
 |slice b o len cap=>
  have hb:=hcap b o len cap rfl
  replace h:Uc H b (λr=>YP (AP r sz cap) (cond (Nat.ble (Nat.add len n) (RK r o cap)) (EH H (.slice b o len cap) b o len n sz cap r new) (LH H e b o len n sz bytes cap r new)))=OR.val v' H':=h
  unfold Uc at h
  split at h
  ·rename_i r hr
   have h:=VY h
   rw[hb r hr] at h
   replace h:LH H e b o len n sz bytes cap r new=OR.val v' H':=h
   unfold LH at h
   have h:=VY (VY h)
   cases cap with
   |some q=>cases h;cases e0;rfl
   |none=>
    cases h1:r.exact with
    |true=>
     have h:=VY (show YP (Nat.beq (Nat.mod o sz) 0) (.val (.slice H.nx 0 (Nat.add len n) none) (H.newRow e sz (U5 r o (Nat.mul len sz)++new) false))=OR.val v' H' by rw[h1] at h;exact h)
     cases h;cases e0;rfl
    |false=>
     have h:I2 H e b o len n sz r new=OR.val v' H':=by rw[h1] at h;exact h
     unfold I2 at h
     have h:=VY (VY (VY (VY (VY h))))
     cases h;cases e0;rfl
  ·cases h
 |_=>cases h
theorem yn{H:Heap}{v:AV}{e sz bytes:Nat}{ls:List (List AV)}{lo:Nat}(h:Pu H v e sz ls lo)(hsz:1<=sz)(hby:1<=bytes)(hl:(ls.length+1)*bytes<=140737488355328)(hro:H.ro<=H.nx)(hlo:lo<=H.nx){x:List AV}(hx:x.length=sz):
  ∃v' H',NC e sz bytes v (.slice H.nx 0 1 none) (H.newRow e sz x true)=.val v' H'∧Pu H' v' e sz (ls++[x]) lo∧Below lo H H'∧
   (∀c,c<H.nx->(∀b o l q,v=.slice b o l q->c≠b)->H'.t.get c=H.t.get c)∧ ∀b o l q,v'=.slice b o l q->H.nx<=b:=by
 obtain⟨v',H',ea,rb,w⟩:=ut h hsz hby hl hro hlo hx
 generalize hH1:H.newRow e sz x true=H1 at ea
 have Kd:H1.nx=H.nx+1:=by rw[<-hH1];rfl
 have gx:H1.t.get H.nx=some (.row ⟨e,sz,XX x,T.ofList x,.unk,0,false,true,true⟩):=by rw[<-hH1,Hj,Mg,if_pos rfl]
 have cx:=Cells.new e sz x 0 false true true
 have ap:NC e sz bytes v (.slice H.nx 0 1 none) H1=Jm v e sz bytes H1 1 x:=by
  show YP (Nat.ble 1 sz) (YP (Nat.ble 1 bytes) (Ti H1 sz (.slice H.nx 0 1 none) 1 λnew=>Jm v e sz bytes H1 1 new))=_
  rw[Z1 hsz,Z1 hby]
  show(Ti H1 sz (.slice H.nx 0 1 none) 1 λnew=>Jm v e sz bytes H1 1 new)=_
  generalize(⟨e,sz,XX x,T.ofList x,.unk,0,false,true,true⟩:Row)=r0 at gx cx
  unfold Ti Uc
  simp only[gx]
  show YP (Nat.ble (0+1*sz) r0.size) (Jm v e sz bytes H1 1 (U5 r0 0 (1*sz)))=_
  rw[RW,cx.size,hx,Z1 (show 0+sz<=sz by omega)]
  have:=cx.load (o:=0) (n:=sz) (by omega)
  rw[this,Zw,VI (by omega)]
  rfl
 rw[ap] at ea
 refine⟨v',H',by rw[ap];exact ea,rb,w,λc hc hv=>?_,λb o l q e'=>?_⟩
 ·rw[x4 ea (by omega) hv,<-hH1,OI hc]
 ·have:=tA ea (λb o l q ev r hr=>by
   rcases h with⟨_,rfl⟩|⟨_,b2,r2,rfl,g,_⟩
   ·cases ev
   ·cases ev
    have hg:H1.t.get b=some (.row r2):=by rw[<-hH1,OI g.low];exact g.at_
    rw[hg] at hr
    cases hr
    have hcap:RK r 0 none=ls.length:=by
     show cond (Nat.beq r.sz 1) (r.size - 0) ((r.size - 0)/r.sz)=_
     rw[g.szr,g.size,Nat.sub_zero]
     by_cases h1:sz=1
     ·subst h1;show ls.length*1=_;omega
     ·rw[Xx,Zj h1]
      exact Nat.mul_div_cancel _ (by omega)
    rw[hcap]
    cases h:Nat.ble (Nat.add ls.length 1) ls.length with
    |false=>rfl
    |true=>have:=YE h;have:ls.length+1<=ls.length:=this;omega) b o l q e'
  omega
def QG:AV->List Nat
 |.slice b _ _ _=>[b]
 |_=>[]
theorem xI{H:Heap}{v:AV}{e sz bytes:Nat}{ls:List (List AV)}{lo:Nat}(h:Pu H v e sz ls lo)(hsz:1<=sz)(hby:1<=bytes)(hl:(ls.length+1)*bytes<=140737488355328)(hro:H.ro<=H.nx)(hlo:lo<=H.nx){x:List AV}(hx:x.length=sz):
  ∃v' H',NC e sz bytes v (.slice H.nx 0 1 none) (H.new (rG e sz x 0 false true true))=.val v' H'∧Pu H' v' e sz (ls++[x]) lo∧Yw H H' (QG v)∧(∀b∈QG v',H.nx<=b)∧H.nx<H'.nx:=by
 obtain⟨v',H',a,b,w,c,d⟩:=yn h hsz hby hl hro hlo hx
 have hn:H.nx<H'.nx:=by
  rcases b with⟨e,_⟩|⟨_,b,r,e,g,_⟩
  ·simp at e
  ·have:=d _ _ _ _ e;have:=g.low;omega
 refine⟨v',H',a,b,⟨w.nx,w.ro,λx hx hn=>c x hx λb o l q e he=>hn ?_⟩,λx hx=>?_,hn⟩
 ·subst e;rw[he];exact YM.2 rfl
 ·rcases b with⟨e,_⟩|⟨_,b,r,e,g,_⟩
  ·simp at e
  ·subst e
   rw[YM.1 hx]
   exact d _ _ _ _ rfl
def Sz(H:Heap)(sz:Nat)(v:AV)(ls:List (List AV)):Prop:=(ls=[]∧v=.slice0)∨Sl H sz v ls
theorem Sz.keep{H H':Heap}{sz:Nat}{v:AV}{ls:List (List AV)}{S:List Nat}(h:Sz H sz v ls)(k:Yw H H' S)(hS: ∀b o n c,v=.slice b o n c->b∉S):Sz H' sz v ls:=by
 rcases h with h|h
 ·exact .inl h
 ·exact .inr (h.keep k hS)
theorem Sz.keep0{H H':Heap}{sz:Nat}{v:AV}{ls:List (List AV)}(h:Sz H sz v ls)(k:Yw H H' []):Sz H' sz v ls:=h.keep k (by simp)
def Cut(H:Heap)(sz:Nat)(v:AV)(ls:List (List AV)):Prop:=Sz H sz v ls∧ ∀(k:Nat),k<=ls.length-> ∃v',(∀G:Heap,(∀c,c<H.nx->G.t.get c=H.t.get c)->Hw sz v none (some (nI .i64 k)) G=.val v' G)∧Sz H sz v' (ls.take k)
theorem Cut.keep{H H':Heap}{sz:Nat}{v:AV}{ls:List (List AV)}(h:Cut H sz v ls)(k:Yw H H' []):Cut H' sz v ls:=
 ⟨h.1.keep0 k,λn hn=>by
  obtain⟨v',h1,h2⟩:=h.2 n hn
  exact⟨v',λG hG=>h1 G λc hc=>(hG c (YV hc k.nx)).trans (k.get c hc (by simp)),h2.keep0 k⟩⟩
def Hq(r:Row)(sz n:Nat):List (List AV):=(List.range n).map λi=>(List.range sz).map λj=>r.get (i*sz+j)
theorem NZ(r:Row)(sz n:Nat):(Hq r sz n).length=n:=by unfold Hq;simp
theorem DD(r:Row)(sz n:Nat): ∀l∈Hq r sz n,l.length=sz:=by
 intro l hl
 unfold Hq at hl
 obtain⟨i,_,rfl⟩:=Wj.1 hl
 simp
theorem xM(r:Row)(sz:Nat){n i:Nat}(h:i<n):(Hq r sz n).getD i []=(List.range sz).map λj=>r.get (i*sz+j):=by
 unfold Hq
 rw[ZN,Vx,UN h];rfl
theorem uz(r:Row)(sz:Nat)(hsz:1<=sz){n i:Nat}(h:i<n*sz):(Hq r sz n).flatten.getD i .unk=r.get i:=by
 have hq:i/sz<n:=PC (by rw[T1];exact h)
 have hm:i % sz<sz:=Rk _ (by omega)
 have:=AI.flat_at (ls:=Hq r sz n) (i:=i/sz) (DD r sz n) (by rw[NZ];exact hq)
 rw[xM r sz hq] at this
 have e:i/sz*sz+i % sz=i:=by rw[T1];exact RT i sz
 have h2:=congrArg (λl=>l[i % sz]?) this
 simp only[UE hm,Ua,e,Vx,UN hm] at h2
 rw[ZN,h2]
 show r.get (i/sz*sz+i % sz)=_
 rw[e]
theorem uA(r:Row)(sz:Nat){n k:Nat}(h:k<=n):(Hq r sz n).take k=Hq r sz k:=by
 unfold Hq
 rw[<-List.map_take,List.take_range,VV h]
theorem qT{G:Heap}{b sz n:Nat}{r:Row}{c:Option Nat}(hsz:1<=sz)(hb:b<G.nx)(hr:G.t.get b=some (.row r))(hs:n*sz<=r.size):Sl G sz (.slice b 0 n c) (Hq r sz n):=
 ⟨DD r sz n,.inr ⟨b,0,c,by rw[NZ],hb,λ_=>⟨r,hr,by rw[NZ];omega,λi hi=>by rw[NZ] at hi;rw[Zd,uz r sz hsz hi]⟩⟩⟩
theorem GL{G:Heap}{es:List Sh}{v:AV}(h:Told G (.sl es) v): ∃ls,Cut G es.length v ls∧ls.length<=maxLen∧ ∀i,i<ls.length->(ls.getD i []).length=es.length∧ ∀(j:Nat) e,es[j]? =some e->Told G e ((ls.getD i []).getD j .unk):=by
 cases h with
 |nils=>
  refine⟨[],⟨.inr (Sl.nil ..),λk hk=>?_⟩,Zi _,λi hi=>by simp at hi⟩
  obtain rfl:k=0:=by simpa using hk
  exact⟨.nils,λ_ _=>rfl,.inr (Sl.nil ..)⟩
 |slice0=>
  refine⟨[],⟨.inl ⟨rfl,rfl⟩,λk hk=>?_⟩,Zi _,λi hi=>by simp at hi⟩
  obtain rfl:k=0:=by simpa using hk
  exact⟨.slice0,λ_ _=>rfl,.inl ⟨rfl,rfl⟩⟩
 | @slice _ b len cap r h1 hl h0 hc hb hr hs ho hok=>
  have hm:len*es.length<=cap*es.length:=To _ hl
  refine⟨Hq r es.length len,⟨.inr (qT h1 hb hr (by omega)),λk hkl=>?_⟩,by rw[NZ];omega,λi hi=>?_⟩
  ·rw[NZ] at hkl
   have hmk:k*es.length<=len*es.length:=To _ hkl
   refine⟨.slice b 0 k (some cap),λG' hk=>?_,by rw[uA _ _ hkl];exact .inr (qT h1 hb hr (by omega))⟩
   have g:=hk b hb
   show Uc G' b _=_
   unfold Uc
   rw[g,hr]
   show YP (Nat.ble k cap) (YP (Nat.ble 0 k) (YP (Nat.ble 0 cap) (cond (Nat.beq 0 cap) _ (OR.val (.slice b (0+0*es.length) (k - 0) (some (cap - 0))) G'))))=_
   rw[Z1 (by omega),Z1 (Zi _),Z1 (Zi _),show Nat.beq 0 cap=false by rw[Xx];exact Zj (by omega),UH]
   rfl
  ·rw[NZ] at hi
   rw[xM r _ hi]
   refine⟨by simp,λj e he=>?_⟩
   have hj:j<es.length:=(Ut.1 he).1
   have hij:i*es.length+j<cap*es.length:=by
    have:(i+1)*es.length<=cap*es.length:=To _ (by omega)
    rw[VJ] at this;omega
   rw[ZN,Vx,UN hj]
   show Told G e (r.get (i*es.length+j))
   refine hok _ e hij ?_
   rw[T1,Nat.mul_add_mod,Sf hj];exact he
theorem LN{α:Type}{ls:List (List AV)}{f:α->List AV}{p:α->Prop}(h: ∀i,i<ls.length-> ∃x,ls.getD i []=f x∧p x): ∃l:List α,ls=l.map f∧ ∀x∈l,p x:=by
 induction ls with
 |nil=>exact⟨[],rfl,λ_ h=>by cases h⟩
 |cons a ls ih=>
  obtain⟨x,h1,h2⟩:=h 0 (by simp)
  obtain⟨l,h3,h4⟩:=ih λi hi=>by
   have:=h (i+1) (by simp;omega)
   simpa using this
  refine⟨x::l,by rw[VC,<-h3,<-h1];rfl,λy hy=>?_⟩
  rcases Yv.1 hy with rfl|hy
  ·exact h2
  ·exact h4 y hy
theorem bn{l:List AV}(h:l.length=2):l=[l.getD 0 .unk,l.getD 1 .unk]:=by
 match l,h with
 |[a,b],_=>rfl
theorem IV{G:Heap}{v:AV}(h:Told G .str v): ∃s,v=.str s:=by cases h;exact⟨_,rfl⟩
theorem Ed{G:Heap}{k:IntKind}{v:AV}(h:Told G (.int k) v): ∃z,v=.int k z∧k.min<=z∧z<=k.max:=by
 cases h with|int h=>exact⟨_,rfl,h⟩
theorem xV{G:Heap}{v:AV}(h:Told G (.int .u8) v): ∃c:UInt8,v=Gq c:=by
 obtain⟨z,rfl,h1,h2⟩:=Ed h
 have h1:0<=z:=h1
 have h2:z<=255:=h2
 refine⟨UInt8.ofNat z.toNat,?_⟩
 show AV.int .u8 z=.int .u8 (.ofNat (UInt8.ofNat z.toNat).toNat)
 rw[UInt8.toNat_ofNat',Sf (by omega)]
 congr 1
 show z=(z.toNat:Int)
 omega
theorem Ee{G:Heap}{v:AV}(h:Told G (.int .u32) v): ∃n:Nat,v=nI .u32 n∧n<4294967296:=by
 obtain⟨z,rfl,h1,h2⟩:=Ed h
 have h1:0<=z:=h1
 have h2:z<=4294967295:=h2
 refine⟨z.toNat,?_,by omega⟩
 show AV.int .u32 z=.int .u32 (.ofNat z.toNat)
 congr 1
 show z=(z.toNat:Int)
 omega
theorem N4{G:Heap}{v:AV}(h:Told G (.int .i64) v): ∃z:Int,v=.int .i64 z∧ -9223372036854775808<=z∧z<=9223372036854775807:=Ed h
theorem Sz.len{H:Heap}{sz:Nat}{v:AV}{ls:List (List AV)}(h:Sz H sz v ls)(G:Heap):In v G=.val (nI .i64 ls.length) G:=by
 rcases h with⟨rfl,rfl⟩|h
 ·rfl
 ·exact h.len G
theorem Sz.low{H:Heap}{sz:Nat}{v:AV}{ls:List (List AV)}(h:Sz H sz v ls){n:Nat}(hn:H.nx<=n):VB n v=true:=by
 rcases h with⟨rfl,rfl⟩|h
 ·rfl
 ·exact h.low hn
theorem Sz.same{H:Heap}{sz:Nat}{v:AV}{ls:List (List AV)}(h:Sz H sz v ls)(n:Nat)(t:T Obj):TS (.val v ⟨n,t,n⟩) v n=true:=by
 rcases h with⟨rfl,rfl⟩|h
 ·exact SQ _ _ _ (by unfold AI.same;rfl)
 ·exact h.same n t
theorem Sz.cells{H:Heap}{sz:Nat}{v:AV}{ls:List (List AV)}(h:Sz H sz v ls):v.cells=[v]:=by
 rcases h with⟨rfl,rfl⟩|h
 ·rfl
 ·exact h.cells
theorem Sz.at_{H:Heap}{sz:Nat}{v:AV}{ls:List (List AV)}(h:Sz H sz v ls){i:Nat}(hi:i<ls.length):
  ∃b o r,(∀(k:IntKind) (G:Heap),Fv sz v (nI k i) G=.val (.ptr b o) G)∧b<H.nx∧H.t.get b=some (.row r)∧(∀G:Heap,pk sz (some (.row r)) o G=.val (.agg (ls.getD i [])) G)∧ ∀(j:Nat) (G:Heap),j<sz->ld1 (some (.row r)) (o+j) G=.val ((ls.getD i []).getD j .unk) G:=by
 rcases h with⟨rfl,_⟩|h
 ·cases hi
 ·exact h.at_ hi
theorem U3(a b:List UInt8)(H:Heap):ND VE XW (.str a) (.str b) H=.val (.bool (XW a b)) H:=by
 show RO (XW a b) H=_
 cases XW a b<;>rfl
abbrev NP:=List UInt8×List UInt8
def MA(l:List NP):List (List AV):=l.map λp=>[.str p.1,.str p.2]
theorem MJ(l:List NP):(MA l).length=l.length:=VU ..
theorem C4{l:List NP}{i:Nat}(h:i<l.length):(MA l).getD i []=[.str (l.getD i ([],[])).1,.str (l.getD i ([],[])).2]:=by
 unfold MA
 rw[ZN,Vx,ZN,ZW h];rfl
def pm(l:List NP)(i:Nat):Bool:=!decide ((l.getD i ([],[])).1=[])&&decide ((l.getD i ([],[])).1.length<=242)&&!D1 [0,61,10] (l.getD i ([],[])).1&&(decide (i=0)||!XW (l.getD (i - 1) ([],[])).1 (l.getD i ([],[])).1)
def Ja(l:List NP):Bool:=(List.range l.length).all (pm l)&&decide (l.length<=16)
def Lt(s:List UInt8)(is:Bool):Bool:=if is then !decide (s=[])&&decide (s.length<=4096)&&decide (S7 0 s=0) else decide (s=[])
theorem oS:Pz [0,61,10]:=⟨by decide,by decide,by decide⟩
theorem zS{Z7:Lib}{fs:T CF}{fuel:Nat}(E:Env Z7 fs fuel){n:Nat}{s:List UInt8}{is:Bool}{H:Heap}:
  ∃H',Xd (LK Z7 fs fuel 2) fs fuel (n+2) 89 [.str s,.bool is] H=.ret (.bool (Lt s is)) H'∧Yw H H' []:=by
 rw[XR (Xk E.n89 (.inl (by decide)) _ _) E.f89]
 have e1:=λ{j}=>kZ (Z7:=Z7) (fs:=fs) (fuel:=fuel) E (k:=2) (n:=j) (by decide) (s:=s) (x:=0) (H:=H) (by decide)
 cases is with
 |false=>
  rw[show Lt s false=decide (s=[]) from rfl]
  simp(maxSteps:=4000000) (disch:=first|assumption|omega|(simp -implicitDefEqProofs only[Yr,Ys]<;>first|assumption|omega)|decide) only[ZG,Zz,ZK,ZT,ZP,ZS,Z9,Ya,ZO,Z8,Yc,Yb,Zx,Zt,Zs,ZU,Nat.reduceSub,Nat.reduceAdd,Nat.reduceLeDiff,Zi,Zh,Nat.reduceEqDiff,decide_true,decide_false,ZJ,Zf,Zd,YH,YJ,ZZ,ZC,Zv,ZY,ZX,ZM,Zk,Zl,Yf,ZD,Zd,Zf,Yg,ZV,Ye,U3,Yj,Zn,Zw,Zq,ZA,Zo,Zp,Zm,Zu,kf,YU,WD,Yp,Yq,ZE,ZH,ZF,Nat.reduceEqDiff,reduceCtorEq,WE]
  refine⟨_,rfl,?_⟩
  exact Yw.refl _ _
 |true=>
  by_cases h1:s=[]
  ·have d1:decide (s=[])=true:=Zr h1
   rw[show Lt s true=false by unfold Lt;simp[h1]]
   simp(maxSteps:=4000000) (disch:=first|assumption|omega|(simp -implicitDefEqProofs only[Yr,Ys]<;>first|assumption|omega)|decide) only[d1,ZG,Zz,ZK,ZT,ZP,ZS,Z9,Ya,ZO,Z8,Yc,Yb,Zx,Zt,Zs,ZU,Nat.reduceSub,Nat.reduceAdd,Nat.reduceLeDiff,Zi,Zh,Nat.reduceEqDiff,decide_true,decide_false,ZJ,Zf,Zd,YH,YJ,ZZ,ZC,Zv,ZY,ZX,ZM,Zk,Zl,Yf,ZD,Zd,Zf,Yg,ZV,Ye,U3,Yj,Zn,Zw,Zq,ZA,Zo,Zp,Zm,Zu,kf,YU,WD,Yp,Yq,ZE,ZH,ZF,Nat.reduceEqDiff,reduceCtorEq,WE]
   refine⟨_,rfl,?_⟩
   exact Yw.refl _ _
  ·have d1:decide (s=[])=false:=Zj h1
   by_cases h2:s.length<=4096
   ·have d2:decide (s.length<=4096)=true:=Zr h2
    rw[show Lt s true=decide (S7 0 s=0) by unfold Lt;simp[h1,h2]]
    simp(maxSteps:=4000000) (disch:=first|assumption|omega|(simp -implicitDefEqProofs only[Yr,Ys]<;>first|assumption|omega)|decide) only[d1,d2,e1,ZG,Zz,ZK,ZT,ZP,ZS,Z9,Ya,ZO,Z8,Yc,Yb,Zx,Zt,Zs,ZU,Nat.reduceSub,Nat.reduceAdd,Nat.reduceLeDiff,Zi,Zh,Nat.reduceEqDiff,decide_true,decide_false,ZJ,Zf,Zd,YH,YJ,ZZ,ZC,Zv,ZY,ZX,ZM,Zk,Zl,Yf,ZD,Zd,Zf,Yg,ZV,Ye,U3,Yj,Zn,Zw,Zq,ZA,Zo,Zp,Zm,Zu,kf,YU,WD,Yp,Yq,ZE,ZH,ZF,Nat.reduceEqDiff,reduceCtorEq,WE]
    refine⟨_,rfl,?_⟩
    exact Yw.refl _ _
   ·have d2:decide (s.length<=4096)=false:=Zj h2
    rw[show Lt s true=false by unfold Lt;rw[d2];simp]
    simp(maxSteps:=4000000) (disch:=first|assumption|omega|(simp -implicitDefEqProofs only[Yr,Ys]<;>first|assumption|omega)|decide) only[d1,d2,ZG,Zz,ZK,ZT,ZP,ZS,Z9,Ya,ZO,Z8,Yc,Yb,Zx,Zt,Zs,ZU,Nat.reduceSub,Nat.reduceAdd,Nat.reduceLeDiff,Zi,Zh,Nat.reduceEqDiff,decide_true,decide_false,ZJ,Zf,Zd,YH,YJ,ZZ,ZC,Zv,ZY,ZX,ZM,Zk,Zl,Yf,ZD,Zd,Zf,Yg,ZV,Ye,U3,Yj,Zn,Zw,Zq,ZA,Zo,Zp,Zm,Zu,kf,YU,WD,Yp,Yq,ZE,ZH,ZF,Nat.reduceEqDiff,reduceCtorEq,WE]
    refine⟨_,rfl,?_⟩
    exact Yw.refl _ _
theorem jo{Z7:Lib}{fs:T CF}{fuel:Nat}(E:Env Z7 fs fuel){k n:Nat}(hk:3<=k){s:List UInt8}{is:Bool}{H:Heap}:
  Xd (LK Z7 fs fuel k) fs fuel (n+1) 89 [.str s,.bool is] H=.ret (.bool (Lt s is)) H:=by
 obtain⟨H',e,g⟩:=zS E (n:=898) (H:=H)
 exact Wy (r:=2) rfl rfl e g (rfl) hk
structure am(H0:Heap)(v:AV)(l:List NP)(m:Nat)(tm:TM)(H:Heap):Prop where
 t0:Z0 tm=v
 t5:Xy tm=v
 t6:X5 tm=nI .i64 l.length
 i: ∃i,Wl tm=nI .i64 i∧i+m=l.length∧ ∀j,j<i->pm l j=true
 k:Yw H0 H []
def a9(H0:Heap)(v:AV)(l:List NP)(o:Out)(tm:TM)(H:Heap):Prop:=Yw H0 H []∧((o=.ret∧XC tm=.bool false∧Ja l=false)∨(o=.exit 0∧Z0 tm=v∧Ja l=decide (l.length<=16)))
theorem xw{l:List NP}{i:Nat}(h:i<l.length)(e:pm l i=false):Ja l=false:=by
 have:(List.range l.length).all (pm l)=false:=by
  rw[Bool.eq_false_iff]
  intro q
  rw[Xw] at q
  have:=q i (SU.2 h)
  rw[e] at this;cases this
 unfold Ja;rw[this];rfl
theorem jm{l:List NP}(h: ∀j,j<l.length->pm l j=true):Ja l=decide (l.length<=16):=by
 have:(List.range l.length).all (pm l)=true:=Xw.2 λx hx=>h x (SU.1 hx)
 unfold Ja;rw[this,Ur]
theorem nn{Z7:Lib}{fs:T CF}{fuel:Nat}(E:Env Z7 fs fuel){n k:Nat}(hk:5<=k){v:AV}{l:List NP}(hl:l.length<=90000)(hs: ∀i,i<l.length->(l.getD i ([],[])).1.length<=90000){H0:Heap}(hro:H0.ro<=H0.nx)(hN:Sz H0 2 v (MA l))(y f dd q)(X0:X)(m:Nat)(tm:TM)(H:Heap)(hI:am H0 v l m tm H):
  ∃o tm' H',Mt ⟨Xd (LK Z7 fs fuel k) fs fuel (n+1),y,f,dd,q⟩ tm H X0=.ok o tm' H' X0∧((o=.normal∧ ∃k,k<m∧am H0 v l k tm' H')∨(o≠.normal∧a9 H0 v l o tm' H')):=by
 obtain⟨t0,t5,t6,⟨i,t7,him,hn⟩,k0⟩:=hI
 have t0':=t0;have lQ:=t5;have AQ:=t6
 simp only[Cp] at t0
 simp only[wQ] at t5
 simp only[Fq] at t6
 simp only[sJ] at t7
 cases m with
 |zero=>
  have d1:decide (i<l.length)=false:=Zj (by omega)
  simp(maxSteps:=4000000) (disch:=first|assumption|omega|(simp -implicitDefEqProofs only[Yr,Ys]<;>first|assumption|omega)|decide) only[t6,t7,d1,ZG,Zz,ZK,ZT,ZP,ZS,Z9,Ya,ZO,Z8,Yc,Yb,Zx,Zt,Zs,ZU,Nat.reduceSub,Nat.reduceAdd,Nat.reduceLeDiff,Zi,Zh,Nat.reduceEqDiff,decide_true,decide_false,ZJ,Zf,Zd,YH,YJ,ZZ,ZC,Zv,ZY,ZX,ZM,Zk,Zl,Yf,ZD,Zd,Zf,Yg,ZV,Ye,U3,Yj,Zn,Zw,Zq,ZA,Zo,Zp,Zm,Zu,Mt,YU,WD,Yp,Yq,ZE,ZH,ZF,Nat.reducePow,Nat.reduceDiv,Nat.reduceMod,Nat.reduceEqDiff,reduceCtorEq,WE,UF]
  refine⟨_,_,_,rfl,?_⟩
  exact .inr ⟨by simp,k0,.inr ⟨rfl,t0',jm λj hj=>hn j (by omega)⟩⟩
 |succ m=>
  have d1:decide (i<l.length)=true:=Zr (by omega)
  have hi:i<l.length:=by omega
  have hN:=hN.keep0 k0
  have iw:=hN.low (n:=H.nx) (Z2 _)
  have wX:=hN.low (n:=H.nx+1) (Un _)
  have hNs:=hN.same
  obtain⟨b,o,r,eI,hb,gb,eL,eE⟩:=hN.at_ (i:=i) (by rw[MJ];omega)
  have ra:=C4 hi
  rw[ra] at eL
  generalize hp:l.getD i ([],[])=p at*
  have hpl:p.1.length<=90000:=by have:=hs i hi;rw[hp] at this;exact this
  obtain⟨H1,hH1⟩: ∃G,H.new (rG 107 1 [.str p.1,.str p.2] 0 false true true)=G:=⟨_,rfl⟩
  have k1:Yw H0 H1 []:=by rw[<-hH1];exact k0.then_new _
  have kH:Yw H H1 []:=by rw[<-hH1];exact Yw.new _ _ _
  have g1:H1.t.get H.nx=some (rG 107 1 [.str p.1,.str p.2] 0 false true true):=by rw[<-hH1];exact YN rfl _
  have Kd:H1.nx=H.nx+1:=by rw[<-hH1];rfl
  have sf:=TL (n:=2) (b:=H.nx) (l:=[.str [],.str []]) (vs:=[.str p.1,.str p.2]) (H:=H.new (rG 107 1 [.str [],.str []] 0 false true true)) rfl rfl (by decide) (by show H.ro<=_;rw[k0.ro];have:=k0.nx;omega) 107 1 false true
  rw[Ty rfl,hH1] at sf
  have gz:=λ(G:Heap)=>YN (H:=H) rfl (rG 107 1 [.str [],.str []] 0 false true true)
  have e1:=λ{j}=>mE (Z7:=Z7) (fs:=fs) (fuel:=fuel) E (k:=k) (n:=j) hk (H:=H1) oS hpl (by rw[k1.ro];exact YZ hro k1.nx)
  have base: ∀b',pm l i=b'->pm l i=b':=λ_ h=>h
  have iD:pm l i=(!decide (p.1=[])&&decide (p.1.length<=242)&&!D1 [0,61,10] p.1&&(decide (i=0)||!XW (l.getD (i - 1) ([],[])).1 p.1)):=by unfold pm;rw[hp]
  have ir:H1.t.get b=some (.row r):=by rw[kH.get _ hb (by simp)];exact gb
  by_cases h1:p.1=[]
  ·have d2:decide (p.1=[])=true:=Zr h1
   simp(maxSteps:=4000000) (disch:=first|assumption|omega|(simp -implicitDefEqProofs only[Yr,Ys]<;>first|assumption|omega)|decide) only[t0,t5,t6,t7,d1,eI,gb,ir,eL,gz,sf,hH1,g1,Kd,iw,wX,hNs,X1,d2,ZG,Zz,ZK,ZT,ZP,ZS,Z9,Ya,ZO,Z8,Yc,Yb,Zx,Zt,Zs,ZU,Nat.reduceSub,Nat.reduceAdd,Nat.reduceLeDiff,Zi,Zh,Nat.reduceEqDiff,decide_true,decide_false,ZJ,Zf,Zd,YH,YJ,ZZ,ZC,Zv,ZY,ZX,ZM,Zk,Zl,Yf,ZD,Zd,Zf,Yg,ZV,Ye,U3,Yj,Zn,Zw,Zq,ZA,Zo,Zp,Zm,Zu,Mt,YU,WD,Yp,Yq,ZE,ZH,ZF,Nat.reducePow,Nat.reduceDiv,Nat.reduceMod,Nat.reduceEqDiff,reduceCtorEq,WE,UF]
   refine⟨_,_,_,rfl,?_⟩
   exact .inr ⟨by simp,k1,.inl ⟨rfl,rfl,xw hi (by rw[iD];simp[h1])⟩⟩
  have d2:decide (p.1=[])=false:=Zj h1
  by_cases h2:242<p.1.length
  ·have d3:decide (242<p.1.length)=true:=Zr h2
   simp(maxSteps:=4000000) (disch:=first|assumption|omega|(simp -implicitDefEqProofs only[Yr,Ys]<;>first|assumption|omega)|decide) only[t0,t5,t6,t7,d1,eI,gb,ir,eL,gz,sf,hH1,g1,Kd,iw,wX,hNs,X1,d2,d3,ZG,Zz,ZK,ZT,ZP,ZS,Z9,Ya,ZO,Z8,Yc,Yb,Zx,Zt,Zs,ZU,Nat.reduceSub,Nat.reduceAdd,Nat.reduceLeDiff,Zi,Zh,Nat.reduceEqDiff,decide_true,decide_false,ZJ,Zf,Zd,YH,YJ,ZZ,ZC,Zv,ZY,ZX,ZM,Zk,Zl,Yf,ZD,Zd,Zf,Yg,ZV,Ye,U3,Yj,Zn,Zw,Zq,ZA,Zo,Zp,Zm,Zu,Mt,YU,WD,Yp,Yq,ZE,ZH,ZF,Nat.reducePow,Nat.reduceDiv,Nat.reduceMod,Nat.reduceEqDiff,reduceCtorEq,WE,UF]
   refine⟨_,_,_,rfl,?_⟩
   exact .inr ⟨by simp,k1,.inl ⟨rfl,rfl,xw hi (by rw[iD];rw[Zj (show ¬p.1.length<=242 by omega)];simp)⟩⟩
  have d3:decide (242<p.1.length)=false:=Zj h2
  have d3':decide (p.1.length<=242)=true:=Zr (by omega)
  cases hc:D1 [0,61,10] p.1 with
  |true=>
   rw[hc] at e1
   simp(maxSteps:=4000000) (disch:=first|assumption|omega|(simp -implicitDefEqProofs only[Yr,Ys]<;>first|assumption|omega)|decide) only[t0,t5,t6,t7,d1,eI,gb,ir,eL,gz,sf,hH1,g1,Kd,iw,wX,hNs,X1,d2,d3,e1,ZG,Zz,ZK,ZT,ZP,ZS,Z9,Ya,ZO,Z8,Yc,Yb,Zx,Zt,Zs,ZU,Nat.reduceSub,Nat.reduceAdd,Nat.reduceLeDiff,Zi,Zh,Nat.reduceEqDiff,decide_true,decide_false,ZJ,Zf,Zd,YH,YJ,ZZ,ZC,Zv,ZY,ZX,ZM,Zk,Zl,Yf,ZD,Zd,Zf,Yg,ZV,Ye,U3,Yj,Zn,Zw,Zq,ZA,Zo,Zp,Zm,Zu,Mt,YU,WD,Yp,Yq,ZE,ZH,ZF,Nat.reducePow,Nat.reduceDiv,Nat.reduceMod,Nat.reduceEqDiff,reduceCtorEq,WE,UF]
   refine⟨_,_,_,rfl,?_⟩
   exact .inr ⟨by simp,k1,.inl ⟨rfl,rfl,xw hi (by rw[iD];rw[hc];simp)⟩⟩
  |false=>
   rw[hc] at e1
   by_cases h0:i=0
   ·have d4:decide (0<i)=false:=Zj (by omega)
    simp(maxSteps:=4000000) (disch:=first|assumption|omega|(simp -implicitDefEqProofs only[Yr,Ys]<;>first|assumption|omega)|decide) only[t0,t5,t6,t7,d1,eI,gb,ir,eL,gz,sf,hH1,g1,Kd,iw,wX,hNs,X1,d2,d3,e1,d4,ZG,Zz,ZK,ZT,ZP,ZS,Z9,Ya,ZO,Z8,Yc,Yb,Zx,Zt,Zs,ZU,Nat.reduceSub,Nat.reduceAdd,Nat.reduceLeDiff,Zi,Zh,Nat.reduceEqDiff,decide_true,decide_false,ZJ,Zf,Zd,YH,YJ,ZZ,ZC,Zv,ZY,ZX,ZM,Zk,Zl,Yf,ZD,Zd,Zf,Yg,ZV,Ye,U3,Yj,Zn,Zw,Zq,ZA,Zo,Zp,Zm,Zu,Mt,YU,WD,Yp,Yq,ZE,ZH,ZF,Nat.reducePow,Nat.reduceDiv,Nat.reduceMod,Nat.reduceEqDiff,reduceCtorEq,WE,UF]
    refine⟨_,_,_,rfl,.inl ⟨rfl,m,by omega,t0',lQ,AQ,⟨i+1,rfl,by omega,λq hq=>?_⟩,k1⟩⟩
    obtain rfl:q=i:=by omega
    rw[iD,d2,d3',hc,Zr h0];rfl
   ·have d4:decide (0<i)=true:=Zr (by omega)
    obtain⟨b2,o2,r2,mJ,hb2,dK,_,eE2⟩:=hN.at_ (i:=i - 1) (by rw[MJ];omega)
    have pj:H1.t.get b2=some (.row r2):=by rw[kH.get _ hb2 (by simp)];exact dK
    have eF:=λG=>eE2 0 G (by decide)
    rw[C4 (by omega),Zf] at eF
    simp only[Zo] at eF
    cases hg:XW (l.getD (i - 1) ([],[])).1 p.1 with
    |true=>
     simp(maxSteps:=4000000) (disch:=first|assumption|omega|(simp -implicitDefEqProofs only[Yr,Ys]<;>first|assumption|omega)|decide) only[t0,t5,t6,t7,d1,eI,gb,ir,eL,gz,sf,hH1,g1,Kd,iw,wX,hNs,X1,d2,d3,e1,d4,mJ,dK,pj,eF,hg,ZG,Zz,ZK,ZT,ZP,ZS,Z9,Ya,ZO,Z8,Yc,Yb,Zx,Zt,Zs,ZU,Nat.reduceSub,Nat.reduceAdd,Nat.reduceLeDiff,Zi,Zh,Nat.reduceEqDiff,decide_true,decide_false,ZJ,Zf,Zd,YH,YJ,ZZ,ZC,Zv,ZY,ZX,ZM,Zk,Zl,Yf,ZD,Zd,Zf,Yg,ZV,Ye,U3,Yj,Zn,Zw,Zq,ZA,Zo,Zp,Zm,Zu,Mt,YU,WD,Yp,Yq,ZE,ZH,ZF,Nat.reducePow,Nat.reduceDiv,Nat.reduceMod,Nat.reduceEqDiff,reduceCtorEq,WE,UF]
     refine⟨_,_,_,rfl,?_⟩
     exact .inr ⟨by simp,k1,.inl ⟨rfl,rfl,xw hi (by rw[iD];rw[hg,Zj h0];simp)⟩⟩
    |false=>
     simp(maxSteps:=4000000) (disch:=first|assumption|omega|(simp -implicitDefEqProofs only[Yr,Ys]<;>first|assumption|omega)|decide) only[t0,t5,t6,t7,d1,eI,gb,ir,eL,gz,sf,hH1,g1,Kd,iw,wX,hNs,X1,d2,d3,e1,d4,mJ,dK,pj,eF,hg,ZG,Zz,ZK,ZT,ZP,ZS,Z9,Ya,ZO,Z8,Yc,Yb,Zx,Zt,Zs,ZU,Nat.reduceSub,Nat.reduceAdd,Nat.reduceLeDiff,Zi,Zh,Nat.reduceEqDiff,decide_true,decide_false,ZJ,Zf,Zd,YH,YJ,ZZ,ZC,Zv,ZY,ZX,ZM,Zk,Zl,Yf,ZD,Zd,Zf,Yg,ZV,Ye,U3,Yj,Zn,Zw,Zq,ZA,Zo,Zp,Zm,Zu,Mt,YU,WD,Yp,Yq,ZE,ZH,ZF,Nat.reducePow,Nat.reduceDiv,Nat.reduceMod,Nat.reduceEqDiff,reduceCtorEq,WE,UF]
     refine⟨_,_,_,rfl,.inl ⟨rfl,m,by omega,t0',lQ,AQ,⟨i+1,rfl,by omega,λq hq=>?_⟩,k1⟩⟩
     by_cases hqi:q=i
     ·rw[hqi,iD,d2,d3',hc,hg];simp
     ·exact hn q (by omega)
theorem zR{Z7:Lib}{fs:T CF}{fuel:Nat}(E:Env Z7 fs fuel){n:Nat}{v:AV}{l:List NP}{H:Heap}(hl:l.length<=90000)(hs: ∀i,i<l.length->(l.getD i ([],[])).1.length<=90000)(hro:H.ro<=H.nx)(hN:Sz H 2 v (MA l)):
  ∃H',Xd (LK Z7 fs fuel 5) fs fuel (n+2) 88 [v] H=.ret (.bool (Ja l)) H'∧Yw H H' []:=by
 rw[XR (Xk E.n88 (.inl (by decide)) _ _) E.f88]
 have ln:=hN.len
 rw[MJ] at ln
 simp(maxSteps:=4000000) (disch:=first|assumption|omega|(simp -implicitDefEqProofs only[Yr,Ys]<;>first|assumption|omega)|decide) only[ln,ZG,Zz,ZK,ZT,ZP,ZS,Z9,Ya,ZO,Z8,Yc,Yb,Zx,Zt,Zs,ZU,Nat.reduceSub,Nat.reduceAdd,Nat.reduceLeDiff,Zi,Zh,Nat.reduceEqDiff,decide_true,decide_false,ZJ,Zf,Zd,YH,YJ,ZZ,ZC,Zv,ZY,ZX,ZM,Zk,Zl,Yf,ZD,Zd,Zf,Yg,ZV,Ye,U3,Yj,Zn,Zw,Zq,ZA,Zo,Zp,Zm,Zu,ij,YU,WD,Yp,Yq,ZE,ZH,ZF,Nat.reduceEqDiff,reduceCtorEq,WE,UF]
 generalize hL:TH (Mt _) fuel _ _ _=L
 obtain⟨o,MR,H2,rfl,_,k2,z⟩:=WW (P:=λT=>am H v l l.length T H) (Q:=a9 H v l)
  (λT hi=>Vd (am H v l) (a9 H v l) (λm tm H2 h=>nn E (by decide) hl hs hro hN _ _ _ _ _ m tm H2 h) fuel l.length T H (by have:=E.big;omega) hi) hL
  (by exact⟨rfl,rfl,rfl,⟨0,rfl,by omega,λj hj=>by omega⟩,Yw.refl _ _⟩)
 rcases z with⟨rfl,t2,e⟩|⟨rfl,t0,e⟩
 ·simp only[K0] at t2
  rw[e]
  simp(maxSteps:=4000000) (disch:=first|assumption|omega|(simp -implicitDefEqProofs only[Yr,Ys]<;>first|assumption|omega)|decide) only[t2,ZG,Zz,ZK,ZT,ZP,ZS,Z9,Ya,ZO,Z8,Yc,Yb,Zx,Zt,Zs,ZU,Nat.reduceSub,Nat.reduceAdd,Nat.reduceLeDiff,Zi,Zh,Nat.reduceEqDiff,decide_true,decide_false,ZJ,Zf,Zd,YH,YJ,ZZ,ZC,Zv,ZY,ZX,ZM,Zk,Zl,Yf,ZD,Zd,Zf,Yg,ZV,Ye,U3,Yj,Zn,Zw,Zq,ZA,Zo,Zp,Zm,Zu,ij,YU,WD,Yp,Yq,ZE,ZH,ZF,Nat.reduceEqDiff,reduceCtorEq,WE,UF]
  refine⟨_,rfl,?_⟩
  exact k2
 ·simp only[Cp] at t0
  rw[e]
  simp(maxSteps:=4000000) (disch:=first|assumption|omega|(simp -implicitDefEqProofs only[Yr,Ys]<;>first|assumption|omega)|decide) only[t0,ln,ZG,Zz,ZK,ZT,ZP,ZS,Z9,Ya,ZO,Z8,Yc,Yb,Zx,Zt,Zs,ZU,Nat.reduceSub,Nat.reduceAdd,Nat.reduceLeDiff,Zi,Zh,Nat.reduceEqDiff,decide_true,decide_false,ZJ,Zf,Zd,YH,YJ,ZZ,ZC,Zv,ZY,ZX,ZM,Zk,Zl,Yf,ZD,Zd,Zf,Yg,ZV,Ye,U3,Yj,Zn,Zw,Zq,ZA,Zo,Zp,Zm,Zu,ij,YU,WD,Yp,Yq,ZE,ZH,ZF,Nat.reduceEqDiff,reduceCtorEq,WE,UF]
  refine⟨_,rfl,?_⟩
  exact k2
theorem jn{Z7:Lib}{fs:T CF}{fuel:Nat}(E:Env Z7 fs fuel){k n:Nat}(hk:6<=k){v:AV}{l:List NP}{H:Heap}(hl:l.length<=90000)(hs: ∀i,i<l.length->(l.getD i ([],[])).1.length<=90000)(hro:H.ro<=H.nx)(hN:Sz H 2 v (MA l)):
  Xd (LK Z7 fs fuel k) fs fuel (n+1) 88 [v] H=.ret (.bool (Ja l)) H:=by
 obtain⟨H',e,g⟩:=zR E (n:=898) (H:=H) hl hs hro hN
 exact Wy (r:=5) rfl rfl e g (rfl) hk
theorem D9(a b:Int):(a==b)=decide (a=b):=by rw[Um];simp
theorem YW(k:IntKind)(a:Int)(b:Nat)(H:Heap):GB Vj false (.int k a) (nI k b) H=.val (.bool (decide (a=(b:Int)))) H:=by
 show S0 (cond (MU k k) (some (Eu a (Int.ofNat b))) none) _=_
 rw[UY,PP]
 show RO (a==(b:Int)) H=_
 rw[D9]
 cases decide (a=(b:Int))<;>rfl
theorem YX(k:IntKind)(a:Int)(b:Nat)(H:Heap):GB Vj true (.int k a) (nI k b) H=.val (.bool (!decide (a=(b:Int)))) H:=by
 show S0 (cond (MU k k) (some (Eu a (Int.ofNat b))) none) _=_
 rw[UY,PP]
 show RO (cond (a==(b:Int)) false true) H=_
 rw[D9]
 cases decide (a=(b:Int))<;>rfl
theorem NH{eq:AV->AV->Option Bool}{k:AV}{no:OR}{yes:AV->OR}{x:RP}{l:List RP}{t:Bool}(h:eq k x.key=some t):Te eq k no yes (x::l)=cond t (yes x.val) (Te eq k no yes l):=by
 rw[Te,h]
structure Mem where
 path:List UInt8
 kind:Int
 mode:Nat
 uid:Nat
 gid:Nat
 time:Int
 attrs:List NP
 data:List UInt8
 link:List UInt8
def Eo(l:List UInt8):List (List AV):=l.map λx=>[Gq x]
theorem J4(l:List UInt8):(Eo l).length=l.length:=VU ..
def A0(H:Heap)(cs:List AV)(m:Mem):Prop:= ∃av dv,cs=[.str m.path,.int .i64 m.kind,nI .u32 m.mode,nI .u32 m.uid,nI .u32 m.gid,.int .i64 m.time,av,dv,.str m.link]∧Sz H 2 av (MA m.attrs)∧Sz H 1 dv (Eo m.data)
theorem A0.keep{H H':Heap}{cs:List AV}{m:Mem}(h:A0 H cs m)(k:Yw H H' []):A0 H' cs m:=by
 obtain⟨av,dv,e,h1,h2⟩:=h
 exact⟨av,dv,e,h1.keep0 k,h2.keep0 k⟩
theorem A0.len{H:Heap}{cs:List AV}{m:Mem}(h:A0 H cs m):cs.length=9:=by
 obtain⟨av,dv,rfl,_⟩:=h;rfl
structure tq(m:Mem):Prop where
 path:m.path.length<=80000
 attrs:m.attrs.length<=90000
 keys: ∀i,i<m.attrs.length->(m.attrs.getD i ([],[])).1.length<=90000
def iF(z:Int):Nat:=if z=1 then 53 else if z=2 then 48 else if z=3 then 50 else if z=4 then 54 else 0
theorem nh(z:Int)(G:Heap):bo Vj (nI .u8 0) false (some (.cmap iE)) (.int .i64 z) G=.val (nI .u8 (iF z)) G:=by
 have e: ∀b:Nat,Vj (.int .i64 z) (nI .i64 b)=some (decide (z=(b:Int))):=λb=>by
  show cond (MU .i64 .i64) (some (Eu z (Int.ofNat b))) none=_
  rw[UY,PP];rfl
 show Te Vj (.int .i64 z) (OR.val (nI .u8 0) G) (λv=>OR.val v G) iE=_
 unfold iE iF
 rw[NH (e 1),NH (e 2),NH (e 3),NH (e 4)]
 by_cases h1:z=1
 ·subst h1;rfl
 by_cases h2:z=2
 ·subst h2;rfl
 by_cases h3:z=3
 ·subst h3;rfl
 by_cases h4:z=4
 ·subst h4;rfl
 rw[Zj (show ¬z=((1:Nat):Int) from h1),if_neg h1,Zj (show ¬z=((2:Nat):Int) from h2),if_neg h2,Zj (show ¬z=((3:Nat):Int) from h3),if_neg h3,Zj (show ¬z=((4:Nat):Int) from h4),if_neg h4]
 rfl
def T4(m:Mem):Bool:=!decide ((W2 m.path).1=0)&&!decide (iF m.kind=0)&&decide (m.mode<=4095)&&Ja m.attrs&&Lt m.link (decide (m.kind=3))&&decide (m.data.length<=16777216)&&(decide (m.kind=2)||decide (m.data.length=0))
theorem yF{Z7:Lib}{fs:T CF}{fuel:Nat}(E:Env Z7 fs fuel){n:Nat}{cs:List AV}{m:Mem}{H:Heap}(hs:tq m)(g:Ob H)(hm:A0 H cs m):
  ∃H',Xd (LK Z7 fs fuel 11) fs fuel (n+2) 33 [.agg cs] H=.ret (.bool (T4 m)) H'∧Yw H H' []:=by
 rw[XR (Xk E.n33 (.inl (by decide)) _ _) E.f33]
 obtain⟨av,dv,rfl,hA,hD⟩:=hm
 obtain⟨H1,hH1⟩: ∃G,H.new (rG 28 1 [.str m.path,.int .i64 m.kind,nI .u32 m.mode,nI .u32 m.uid,nI .u32 m.gid,.int .i64 m.time,av,dv,.str m.link] 0 false true true)=G:=⟨_,rfl⟩
 obtain⟨H2,hH2⟩: ∃G,H1.new (rG 26 1 [.int .i64 m.kind,nI .u32 m.mode,nI .u32 m.uid,nI .u32 m.gid,.int .i64 m.time,av,dv,.str m.link] 0 false true true)=G:=⟨_,rfl⟩
 have Kd:H1.nx=H.nx+1:=by rw[<-hH1];rfl
 have k1:Yw H H1 []:=by rw[<-hH1];exact Yw.new _ _ _
 have k2:Yw H H2 []:=by rw[<-hH2];exact k1.then_new _
 have g1:H1.t.get H.nx=some (rG 28 1 [.str m.path,.int .i64 m.kind,nI .u32 m.mode,nI .u32 m.uid,nI .u32 m.gid,.int .i64 m.time,av,dv,.str m.link] 0 false true true):=by rw[<-hH1];exact YN rfl _
 have g2:H2.t.get H1.nx=some (rG 26 1 [.int .i64 m.kind,nI .u32 m.mode,nI .u32 m.uid,nI .u32 m.gid,.int .i64 m.time,av,dv,.str m.link] 0 false true true):=by rw[<-hH2];exact YN rfl _
 have gP2:=g.keep0 k2
 obtain⟨rT,gT,lT0,lT1⟩:=gP2.t
 have lT: ∀G,ld1 (some (.row rT)) 0 G=.val (.map 15) G:=λG=>by rw[Yf lT0,lT1]
 have eT:=gP2.tm
 have jQ:H1.ro<=H1.nx:=by rw[k1.ro];exact YZ g.ro k1.nx
 have sf:=TL (n:=8) (b:=H1.nx) (l:=[nI .i64 0,nI .u32 0,nI .u32 0,nI .u32 0,nI .i64 0,.nils,.nils,.str []]) (vs:=[.int .i64 m.kind,nI .u32 m.mode,nI .u32 m.uid,nI .u32 m.gid,.int .i64 m.time,av,dv,.str m.link]) (H:=H1.new (rG 26 1 [nI .i64 0,nI .u32 0,nI .u32 0,nI .u32 0,nI .i64 0,.nils,.nils,.str []] 0 false true true)) rfl rfl (by decide) (by show H1.ro<=_;exact jQ) 26 1 false true
 rw[Ty rfl,hH2] at sf
 have gz:=λ(G:Heap)=>YN (H:=H1) rfl (rG 26 1 [nI .i64 0,nI .u32 0,nI .u32 0,nI .u32 0,nI .i64 0,.nils,.nils,.str []] 0 false true true)
 have ec:=λ{j}=>tU (Z7:=Z7) (fs:=fs) (fuel:=fuel) E (k:=11) (n:=j) (by decide) (s:=m.path) (H:=H1) hs.path (g.keep0 k1)
 have ro2:H2.ro<=H2.nx:=by rw[k2.ro];exact YZ g.ro k2.nx
 have e4:=λ{j}=>jn (Z7:=Z7) (fs:=fs) (fuel:=fuel) E (k:=11) (n:=j) (by decide) (v:=av) (l:=m.attrs) (H:=H2) hs.attrs hs.keys ro2 (hA.keep0 k2)
 have e5: ∀{j},Xd (LK Z7 fs fuel 11) fs fuel (j+1) 89 [.str m.link,.bool (decide (m.kind=((3:Nat):Int)))] H2=.ret (.bool (Lt m.link (decide (m.kind=3)))) H2:=λ{j}=>jo (Z7:=Z7) (fs:=fs) (fuel:=fuel) E (k:=11) (n:=j) (by decide) (s:=m.link) (is:=decide (m.kind=3)) (H:=H2)
 have ln:=hD.len
 rw[J4] at ln
 have cv:=hA.cells
 have cd:=hD.cells
 by_cases h1:(W2 m.path).1=0
 ·have d1:decide ((W2 m.path).1=0)=true:=Zr h1
  rw[show T4 m=false by unfold T4;simp[h1]]
  simp(maxSteps:=4000000) (disch:=first|assumption|omega|(simp -implicitDefEqProofs only[Yr,Ys]<;>first|assumption|omega)|decide) only[ec,eT,gT,lT,g1,g2,gz,sf,hH1,hH2,nh,e4,e5,ln,X1,VQ,Vy,d1,ZG,Zz,ZK,ZT,ZP,ZS,Z9,Ya,ZO,Z8,Yc,Yb,Zx,Zt,Zs,ZU,Nat.reduceSub,Nat.reduceAdd,Nat.reduceLeDiff,Zi,Zh,Nat.reduceEqDiff,decide_true,decide_false,ZJ,Zf,Zd,YH,YJ,ZZ,ZC,Zv,ZY,ZX,ZM,Zk,Zl,Yf,ZD,Zd,Zf,Yg,ZV,Ye,U3,Yj,Zn,Zw,Zq,ZA,Zo,Zp,Zm,Zu,YW,YX,ta,YU,WD,Yp,Yq,ZE,ZH,ZF,Nat.reduceEqDiff,reduceCtorEq,WE,UF]
  refine⟨_,rfl,?_⟩
  exact k2
 have d1:decide ((W2 m.path).1=0)=false:=Zj h1
 by_cases h2:iF m.kind=0
 ·have d2:decide (iF m.kind=0)=true:=Zr h2
  rw[show T4 m=false by unfold T4;simp[h2]]
  simp(maxSteps:=4000000) (disch:=first|assumption|omega|(simp -implicitDefEqProofs only[Yr,Ys]<;>first|assumption|omega)|decide) only[ec,eT,gT,lT,g1,g2,gz,sf,hH1,hH2,nh,e4,e5,ln,X1,VQ,Vy,d1,d2,ZG,Zz,ZK,ZT,ZP,ZS,Z9,Ya,ZO,Z8,Yc,Yb,Zx,Zt,Zs,ZU,Nat.reduceSub,Nat.reduceAdd,Nat.reduceLeDiff,Zi,Zh,Nat.reduceEqDiff,decide_true,decide_false,ZJ,Zf,Zd,YH,YJ,ZZ,ZC,Zv,ZY,ZX,ZM,Zk,Zl,Yf,ZD,Zd,Zf,Yg,ZV,Ye,U3,Yj,Zn,Zw,Zq,ZA,Zo,Zp,Zm,Zu,YW,YX,ta,YU,WD,Yp,Yq,ZE,ZH,ZF,Nat.reduceEqDiff,reduceCtorEq,WE,UF]
  refine⟨_,rfl,?_⟩
  exact k2
 have d2:decide (iF m.kind=0)=false:=Zj h2
 by_cases h3:4095<m.mode
 ·have d3:decide (4095<m.mode)=true:=Zr h3
  have h3': ¬m.mode<=4095:=by omega
  rw[show T4 m=false by unfold T4;simp[h3']]
  simp(maxSteps:=4000000) (disch:=first|assumption|omega|(simp -implicitDefEqProofs only[Yr,Ys]<;>first|assumption|omega)|decide) only[ec,eT,gT,lT,g1,g2,gz,sf,hH1,hH2,nh,e4,e5,ln,X1,VQ,Vy,d1,d2,d3,ZG,Zz,ZK,ZT,ZP,ZS,Z9,Ya,ZO,Z8,Yc,Yb,Zx,Zt,Zs,ZU,Nat.reduceSub,Nat.reduceAdd,Nat.reduceLeDiff,Zi,Zh,Nat.reduceEqDiff,decide_true,decide_false,ZJ,Zf,Zd,YH,YJ,ZZ,ZC,Zv,ZY,ZX,ZM,Zk,Zl,Yf,ZD,Zd,Zf,Yg,ZV,Ye,U3,Yj,Zn,Zw,Zq,ZA,Zo,Zp,Zm,Zu,YW,YX,ta,YU,WD,Yp,Yq,ZE,ZH,ZF,Nat.reduceEqDiff,reduceCtorEq,WE,UF]
  refine⟨_,rfl,?_⟩
  exact k2
 have d3:decide (4095<m.mode)=false:=Zj h3
 have h3':m.mode<=4095:=by omega
 cases h4:Ja m.attrs with
 |false=>
  rw[h4] at e4
  rw[show T4 m=false by unfold T4;simp[h4]]
  simp(maxSteps:=4000000) (disch:=first|assumption|omega|(simp -implicitDefEqProofs only[Yr,Ys]<;>first|assumption|omega)|decide) only[ec,eT,gT,lT,g1,g2,gz,sf,hH1,hH2,nh,e4,e5,ln,X1,VQ,Vy,d1,d2,d3,ZG,Zz,ZK,ZT,ZP,ZS,Z9,Ya,ZO,Z8,Yc,Yb,Zx,Zt,Zs,ZU,Nat.reduceSub,Nat.reduceAdd,Nat.reduceLeDiff,Zi,Zh,Nat.reduceEqDiff,decide_true,decide_false,ZJ,Zf,Zd,YH,YJ,ZZ,ZC,Zv,ZY,ZX,ZM,Zk,Zl,Yf,ZD,Zd,Zf,Yg,ZV,Ye,U3,Yj,Zn,Zw,Zq,ZA,Zo,Zp,Zm,Zu,YW,YX,ta,YU,WD,Yp,Yq,ZE,ZH,ZF,Nat.reduceEqDiff,reduceCtorEq,WE,UF]
  refine⟨_,rfl,?_⟩
  exact k2
 |true=>
  rw[h4] at e4
  cases h5:Lt m.link (decide (m.kind=3)) with
  |false=>
   rw[h5] at e5
   rw[show T4 m=false by unfold T4;simp[h5]]
   simp(maxSteps:=4000000) (disch:=first|assumption|omega|(simp -implicitDefEqProofs only[Yr,Ys]<;>first|assumption|omega)|decide) only[ec,eT,gT,lT,g1,g2,gz,sf,hH1,hH2,nh,e4,e5,ln,X1,VQ,Vy,d1,d2,d3,ZG,Zz,ZK,ZT,ZP,ZS,Z9,Ya,ZO,Z8,Yc,Yb,Zx,Zt,Zs,ZU,Nat.reduceSub,Nat.reduceAdd,Nat.reduceLeDiff,Zi,Zh,Nat.reduceEqDiff,decide_true,decide_false,ZJ,Zf,Zd,YH,YJ,ZZ,ZC,Zv,ZY,ZX,ZM,Zk,Zl,Yf,ZD,Zd,Zf,Yg,ZV,Ye,U3,Yj,Zn,Zw,Zq,ZA,Zo,Zp,Zm,Zu,YW,YX,ta,YU,WD,Yp,Yq,ZE,ZH,ZF,Nat.reduceEqDiff,reduceCtorEq,WE,UF]
   refine⟨_,rfl,?_⟩
   exact k2
  |true=>
   rw[h5] at e5
   by_cases h6: ¬m.data.length<=16777216
   ·have d6:decide (m.data.length<=16777216)=false:=Zj h6
    rw[show T4 m=false by unfold T4;simp[h6]]
    simp(maxSteps:=4000000) (disch:=first|assumption|omega|(simp -implicitDefEqProofs only[Yr,Ys]<;>first|assumption|omega)|decide) only[ec,eT,gT,lT,g1,g2,gz,sf,hH1,hH2,nh,e4,e5,ln,X1,VQ,Vy,d1,d2,d3,d6,ZG,Zz,ZK,ZT,ZP,ZS,Z9,Ya,ZO,Z8,Yc,Yb,Zx,Zt,Zs,ZU,Nat.reduceSub,Nat.reduceAdd,Nat.reduceLeDiff,Zi,Zh,Nat.reduceEqDiff,decide_true,decide_false,ZJ,Zf,Zd,YH,YJ,ZZ,ZC,Zv,ZY,ZX,ZM,Zk,Zl,Yf,ZD,Zd,Zf,Yg,ZV,Ye,U3,Yj,Zn,Zw,Zq,ZA,Zo,Zp,Zm,Zu,YW,YX,ta,YU,WD,Yp,Yq,ZE,ZH,ZF,Nat.reduceEqDiff,reduceCtorEq,WE,UF]
    refine⟨_,rfl,?_⟩
    exact k2
   have h6:=Decidable.not_not.1 h6
   have d6:decide (m.data.length<=16777216)=true:=Zr h6
   by_cases h7:m.kind=2
   ·have d7:decide (m.kind=((2:Nat):Int))=true:=Zr h7
    rw[show T4 m=true by unfold T4;rw[h5];simp[h1,h3',h4,h6,h7];rw[<-h7];exact h2]
    simp(maxSteps:=4000000) (disch:=first|assumption|omega|(simp -implicitDefEqProofs only[Yr,Ys]<;>first|assumption|omega)|decide) only[ec,eT,gT,lT,g1,g2,gz,sf,hH1,hH2,nh,e4,e5,ln,X1,VQ,Vy,d1,d2,d3,d6,d7,ZG,Zz,ZK,ZT,ZP,ZS,Z9,Ya,ZO,Z8,Yc,Yb,Zx,Zt,Zs,ZU,Nat.reduceSub,Nat.reduceAdd,Nat.reduceLeDiff,Zi,Zh,Nat.reduceEqDiff,decide_true,decide_false,ZJ,Zf,Zd,YH,YJ,ZZ,ZC,Zv,ZY,ZX,ZM,Zk,Zl,Yf,ZD,Zd,Zf,Yg,ZV,Ye,U3,Yj,Zn,Zw,Zq,ZA,Zo,Zp,Zm,Zu,YW,YX,ta,YU,WD,Yp,Yq,ZE,ZH,ZF,Nat.reduceEqDiff,reduceCtorEq,WE,UF]
    refine⟨_,rfl,?_⟩
    exact k2
   have d7:decide (m.kind=((2:Nat):Int))=false:=Zj h7
   by_cases h8:m.data.length=0
   ·have d8:decide (m.data.length=0)=true:=Zr h8
    rw[show T4 m=true by unfold T4;rw[h5];simp[h1,h2,h3',h4,h7,h8]]
    simp(maxSteps:=4000000) (disch:=first|assumption|omega|(simp -implicitDefEqProofs only[Yr,Ys]<;>first|assumption|omega)|decide) only[ec,eT,gT,lT,g1,g2,gz,sf,hH1,hH2,nh,e4,e5,ln,X1,VQ,Vy,d1,d2,d3,d6,d7,d8,ZG,Zz,ZK,ZT,ZP,ZS,Z9,Ya,ZO,Z8,Yc,Yb,Zx,Zt,Zs,ZU,Nat.reduceSub,Nat.reduceAdd,Nat.reduceLeDiff,Zi,Zh,Nat.reduceEqDiff,decide_true,decide_false,ZJ,Zf,Zd,YH,YJ,ZZ,ZC,Zv,ZY,ZX,ZM,Zk,Zl,Yf,ZD,Zd,Zf,Yg,ZV,Ye,U3,Yj,Zn,Zw,Zq,ZA,Zo,Zp,Zm,Zu,YW,YX,ta,YU,WD,Yp,Yq,ZE,ZH,ZF,Nat.reduceEqDiff,reduceCtorEq,WE,UF]
    refine⟨_,rfl,?_⟩
    exact k2
   have d8:decide (m.data.length=0)=false:=Zj h8
   rw[show T4 m=false by unfold T4;rw[d8,Zj h7];simp]
   simp(maxSteps:=4000000) (disch:=first|assumption|omega|(simp -implicitDefEqProofs only[Yr,Ys]<;>first|assumption|omega)|decide) only[ec,eT,gT,lT,g1,g2,gz,sf,hH1,hH2,nh,e4,e5,ln,X1,VQ,Vy,d1,d2,d3,d6,d7,d8,ZG,Zz,ZK,ZT,ZP,ZS,Z9,Ya,ZO,Z8,Yc,Yb,Zx,Zt,Zs,ZU,Nat.reduceSub,Nat.reduceAdd,Nat.reduceLeDiff,Zi,Zh,Nat.reduceEqDiff,decide_true,decide_false,ZJ,Zf,Zd,YH,YJ,ZZ,ZC,Zv,ZY,ZX,ZM,Zk,Zl,Yf,ZD,Zd,Zf,Yg,ZV,Ye,U3,Yj,Zn,Zw,Zq,ZA,Zo,Zp,Zm,Zu,YW,YX,ta,YU,WD,Yp,Yq,ZE,ZH,ZF,Nat.reduceEqDiff,reduceCtorEq,WE,UF]
   refine⟨_,rfl,?_⟩
   exact k2
theorem j0{Z7:Lib}{fs:T CF}{fuel:Nat}(E:Env Z7 fs fuel){k n:Nat}(hk:12<=k){cs:List AV}{m:Mem}{H:Heap}(hs:tq m)(g:Ob H)(hm:A0 H cs m):
  Xd (LK Z7 fs fuel k) fs fuel (n+1) 33 [.agg cs] H=.ret (.bool (T4 m)) H:=by
 obtain⟨H',e,g⟩:=yF E (n:=898) (H:=H) hs g hm
 exact Wy (r:=11) rfl rfl e g (rfl) hk
end
end Go.AI
