/- Records read: walked: proved without conditions but those that each names. -/
import Derived.Test.YtbmdhpdcgbgcnaaGreatDoorPV
set_option maxRecDepth 1000000
set_option maxHeartbeats 0
set_option linter.unusedVariables false
set_option linter.unusedSimpArgs false
namespace Go.AI
open Go
noncomputable section
section
variable {Zx:Lib} {fs:T CF} {fuel k n i h b:Nat} {H H0:Heap} {s:List UInt8} {cs:List AV}
structure DGI(Hs:Heap)(v:AV)(z:Nat)(m:Nat)(tm:TM)(H:Heap):Prop where
 h:H=Hs
 t0:YX tm=v
 i: ∃i u,VE tm=nI .i64 i∧V5 tm=nI .i64 u∧i+m=Vy z∧u=Fu ((dec z).take i)∧u<10^i
def DGQ(Hs:Heap)(z:Nat)(o:Out)(tm:TM)(H:Heap):Prop:=o=.exit 0∧H=Hs∧VE tm=nI .i64 (Vy z)∧V5 tm=nI .i64 z
theorem Zi1{u:Nat}(h:i<=9)(hu:u<10^i):u<1000000000:=Yk hu (RU (by decide) h)
theorem mQ{v:AV}{l t:List UInt8}{z:Nat}{Hs:Heap}(hR:Rd Hs v l)(hl:l=dec z++32::t)(hl2:l.length<=1000000000)(hz:Vy z<=9)(cx:Ctx)(X0:X)(m:Nat)(tm:TM)(H:Heap)(hI:DGI Hs v z m tm H):
  ∃o tm' H',JC cx tm H X0=.ok o tm' H' X0∧((o=.normal∧ ∃k,k<m∧DGI Hs v z k tm' H')∨(o≠.normal∧DGQ Hs z o tm' H')):=by
 obtain⟨rfl,t0,i,u,t2,t3,him,hue,hu⟩:=hI
 have t0':=t0;have t2':=t2;have tJ:=t3
 simp only[Mc,Cl,FC] at t0 t2 t3
 have ln:=hR.len
 have hu9:=Zi1 (by omega) hu
 have hdl:=Qw z
 have hll:l.length=Vy z+1+t.length:=by rw[hl,Zk,hdl];show Vy z+(t.length+1)=_;omega
 have d1:decide (i<l.length)=true:=Zi (by omega)
 obtain⟨b,o,r,eI,hb,gb,ld⟩:=hR.at_ i (by omega)
 have ld': ∀G,ld1 (some (.row r)) o G=.val (nI .u8 (l.getD i 0).toNat) G:=ld
 cases m with
 |zero=>
  obtain rfl:i=Vy z:=by omega
  have hx:(l.getD (Vy z) 0).toNat=32:=by rw[hl,PT,hdl,if_neg (by omega),VX];rfl
  rw[hx] at ld'
  have d2:decide (48<=32)=false:=rfl
  simp(maxSteps:=4000000) (disch:=first|assumption|omega|(simp -implicitDefEqProofs only[Xh,Xi]<;>first|assumption|omega)|decide) only[t0,t2,t3,ln,d1,eI,gb,ld',d2,YA,Yl,ZR,ZO,Zu,ZM,YL,Y9,YM,Y7,YQ,YB,ZP,Yc,Yd,YT,Nat.reduceSub,Nat.reduceAdd,Nat.reduceLeDiff,ZA,ZT,Nat.reduceEqDiff,decide_true,decide_false,Yt,Zd,Zb,XV,X1,YO,Yq,Yj,YK,YJ,ZX,Zn,Zo,Y0,Z0,Zb,Zd,YV,Zr,ZL,Rg,ZJ,Zs,ZC,Zt,ZF,Zq,Zy,Zl,ZH,Xs,XC,Xz,Xy,ZN,ZI,ZZ,ZV,ZB,ZG,Yw,Yy,Zu,ZM,ZO,ZR,Zb,Zd,Zr,ZL,ZJ,Yx,Yp,Yv,YG,Yg,Z8,JC,Z9,Xg,ZY,Yu,Z3,Z6,Yf,Nat.reducePow,Nat.reduceDiv,Nat.reduceMod,Nat.reduceEqDiff,reduceCtorEq,Xe,U4]
  refine⟨_,_,_,rfl,.inr ⟨by simp,rfl,rfl,t2',?_⟩⟩
  have hz2:u=z:=by rw[hue,Y1 (by omega),nE]
  rw[<-hz2];exact tJ
 |succ m=>
  have hgd:l.getD i 0=(dec z).getD i 0:=by rw[hl,PT,hdl,if_pos (by omega)]
  have hmem:l.getD i 0∈dec z:=by
   rw[hgd,Zh,Zp (by omega)];exact Wz _
  obtain⟨q1,q2⟩:=qC hmem
  have hnx:Fu ((dec z).take (i+1))=10*u+((l.getD i 0).toNat - 48):=by
   have e:(dec z).take (i+1)=(dec z).take i++[l.getD i 0]:=by
    rw[hgd,Uj,Zh,Zp (by omega)];rfl
   rw[e,D3,<-hue]
  generalize(l.getD i 0).toNat=x at*
  have d2:decide (48<=x)=true:=Zi q1
  have d3:decide (x<=57)=true:=Zi q2
  have d4:decide (i<9)=true:=Zi (by omega)
  obtain⟨d,rfl⟩: ∃d,x=48+d:=⟨x - 48,by omega⟩
  rw[XU] at hnx
  have e1: ∀G,uC (nI .i64 10) (nI .i64 u) G=.val (nI .i64 (10*u)) G:=λG=>Dh (by omega) G
  have e2: ∀G,O3 (nI .u8 (48+d)) (nI .u8 48) G=.val (nI .u8 d) G:=λG=>by rw[r8 (by omega) (by omega),XU]
  have e3:=λG:Heap=>UT (j:=.u8) (a:=d) (by omega) G
  have e4: ∀G,SG (nI .i64 (10*u)) (nI .i64 d) G=.val (nI .i64 (10*u+d)) G:=λG=>YB (by omega) G
  have e5: ∀G,SG (nI .i64 i) (nI .i64 1) G=.val (nI .i64 (i+1)) G:=λG=>YB (by omega) G
  simp(maxSteps:=4000000) (disch:=first|assumption|omega|(simp -implicitDefEqProofs only[Xh,Xi]<;>first|assumption|omega)|decide) only[t0,t2,t3,ln,d1,eI,gb,ld',d2,d3,d4,e1,e2,e3,e4,e5,If,YA,Yl,ZR,ZO,Zu,ZM,YL,Y9,YM,Y7,YQ,ZP,Yc,Yd,YT,Nat.reduceSub,Nat.reduceAdd,Nat.reduceLeDiff,ZA,ZT,Nat.reduceEqDiff,decide_true,decide_false,Yt,Zd,Zb,XV,X1,YO,Yq,Yj,YK,YJ,ZX,Zn,Zo,Y0,Z0,Zb,Zd,YV,Zr,ZL,Rg,ZJ,Zs,ZC,Zt,ZF,Zq,Zy,Zl,ZH,Xs,XC,Xz,Xy,ZN,ZI,ZZ,ZV,ZB,ZG,Yw,Yy,Zu,ZM,ZO,ZR,Zb,Zd,Zr,ZL,ZJ,Yx,Yp,Yv,YG,Yg,Z8,JC,Z9,Xg,ZY,Yu,Z3,Z6,Yf,Nat.reducePow,Nat.reduceDiv,Nat.reduceMod,Nat.reduceEqDiff,reduceCtorEq,Xe,U4]
  refine⟨_,_,_,rfl,.inl ⟨rfl,m,by omega,rfl,t0',i+1,10*u+d,rfl,rfl,by omega,hnx.symm,?_⟩⟩
  rw[VC];omega
theorem cU(E:Env Zx fs fuel)(hk:1<=k){v:AV}{l t:List UInt8}{z:Nat}(hR:Rd H v l)(hl:l=dec z++32::t)(hl2:l.length<=1000000000)(hz:Vy z<=9):
  Z7 (LK Zx fs fuel k) fs fuel (n+1) 128 [v] H=.ret (.tup [nI .i64 (Vy z),nI .i64 z]) H:=by
 have run: ∃H',Z7 (LK Zx fs fuel 0) fs fuel (898+2) 128 [v] H=.ret (.tup [nI .i64 (Vy z),nI .i64 z]) H'∧ZK H H' []:=by
  rw[Z1 (ZU E.n128 (.inl (by decide)) _ _) E.f128]
  have hf:=E.big
  simp(maxSteps:=4000000) (disch:=first|assumption|omega|(simp -implicitDefEqProofs only[Xh,Xi]<;>first|assumption|omega)|decide) only[YA,Yl,ZR,ZO,Zu,ZM,YL,Y9,YM,Y7,YQ,YB,ZP,Yc,Yd,YT,Nat.reduceSub,Nat.reduceAdd,Nat.reduceLeDiff,ZA,ZT,Nat.reduceEqDiff,decide_true,decide_false,Yt,Zd,Zb,XV,X1,YO,Yq,Yj,YK,YJ,ZX,Zn,Zo,Y0,Z0,Zb,Zd,YV,Zr,ZL,Rg,ZJ,Zs,ZC,Zt,ZF,Zq,Zy,Zl,ZH,Xs,XC,Xz,Xy,ZN,ZI,ZZ,ZV,ZB,ZG,Yw,Yy,Zu,ZM,ZO,ZR,Zb,Zd,Zr,ZL,ZJ,Yx,Yp,Yv,YG,Yg,Z8,fK,Z9,Xg,ZY,Yu,Z3,Z6,Yf,Nat.reduceEqDiff,reduceCtorEq,Xe,U4]
  generalize hL:Ue (JC _) fuel _ _ _=L
  obtain⟨o,Ny,H1,rfl,_,rfl,h1,t2,t3⟩:=XZ (P:=λT=>DGI H v z (Vy z) T H) (Q:=DGQ H z)
   (λT hi=>We (DGI H v z) (DGQ H z) (λm tm H1 h=>mQ hR hl hl2 hz _ _ m tm H1 h) fuel (Vy z) T H (by omega) hi) hL
   (by exact⟨rfl,rfl,0,0,rfl,rfl,by omega,by rw[ZF];rfl,by decide⟩)
  subst h1
  simp only[Cl,FC] at t2 t3
  simp(maxSteps:=4000000) (disch:=first|assumption|omega|(simp -implicitDefEqProofs only[Xh,Xi]<;>first|assumption|omega)|decide) only[t2,t3,YA,Yl,ZR,ZO,Zu,ZM,YL,Y9,YM,Y7,YQ,YB,ZP,Yc,Yd,YT,Nat.reduceSub,Nat.reduceAdd,Nat.reduceLeDiff,ZA,ZT,Nat.reduceEqDiff,decide_true,decide_false,Yt,Zd,Zb,XV,X1,YO,Yq,Yj,YK,YJ,ZX,Zn,Zo,Y0,Z0,Zb,Zd,YV,Zr,ZL,Rg,ZJ,Zs,ZC,Zt,ZF,Zq,Zy,Zl,ZH,Xs,XC,Xz,Xy,ZN,ZI,ZZ,ZV,ZB,ZG,Yw,Yy,Zu,ZM,ZO,ZR,Zb,Zd,Zr,ZL,ZJ,Yx,Yp,Yv,YG,Yg,Z8,fK,Z9,Xg,ZY,Yu,Z3,Z6,Yf,Nat.reduceEqDiff,reduceCtorEq,Xe,U4]
  refine⟨_,rfl,?_⟩
  exact ZK.refl _ _
 obtain⟨H',e,g⟩:=run
 exact Xc (r:=0) rfl rfl e g rfl hk
structure TWI(Hs:Heap)(m:Nat)(tm:TM)(H:Heap):Prop where
 h:H=Hs
 i: ∃u,YX tm=nI .i64 u∧u<10^m∧u<1000000000
def TWQ(Hs:Heap)(o:Out)(tm:TM)(H:Heap):Prop:=o=.exit 0∧H=Hs∧ ∃u,YX tm=nI .i64 u
theorem bI{Hs:Heap}(cx:Ctx)(X0:X)(m:Nat)(tm:TM)(H:Heap)(hI:TWI Hs m tm H):
  ∃o tm' H',LZ cx tm H X0=.ok o tm' H' X0∧((o=.normal∧ ∃k,k<m∧TWI Hs k tm' H')∨(o≠.normal∧TWQ Hs o tm' H')):=by
 obtain⟨rfl,u,t0,hu,hu9⟩:=hI
 have t0':=t0
 simp only[Mc] at t0
 have e1:=λG:Heap=>ij (a:=u) (b:=10) (by decide) G
 have e2:=λG:Heap=>ZcF (a:=u) (b:=10) (by decide) (by omega) G
 by_cases h1:10<u
 ·have d1:decide (10<u)=true:=Zi h1
  by_cases h2:u % 10=0
  ·have d2:decide (u % 10=0)=true:=Zi h2
   cases m with
   |zero=>simp at hu;omega
   |succ m=>
    simp(maxSteps:=4000000) (disch:=first|assumption|omega|(simp -implicitDefEqProofs only[Xh,Xi]<;>first|assumption|omega)|decide) only[t0,d1,e1,d2,e2,YA,Yl,ZR,ZO,Zu,ZM,YL,Y9,YM,Y7,YQ,YB,ZP,Yc,Yd,YT,Nat.reduceSub,Nat.reduceAdd,Nat.reduceLeDiff,ZA,ZT,Nat.reduceEqDiff,decide_true,decide_false,Yt,Zd,Zb,XV,X1,YO,Yq,Yj,YK,YJ,ZX,Zn,Zo,Y0,Z0,Zb,Zd,YV,Zr,ZL,Rg,ZJ,Zs,ZC,Zt,ZF,Zq,Zy,Zl,ZH,Xs,XC,Xz,Xy,ZN,ZI,ZZ,ZV,ZB,ZG,Yw,Yy,Zu,ZM,ZO,ZR,Zb,Zd,Zr,ZL,ZJ,Yx,Yp,Yv,YG,Yg,Z8,LZ,Z9,Xg,ZY,Yu,Z3,Z6,Yf,Nat.reducePow,Nat.reduceDiv,Nat.reduceMod,Nat.reduceEqDiff,reduceCtorEq,Xe]
    refine⟨_,_,_,rfl,?_⟩
    exact .inl ⟨rfl,m,by omega,rfl,u/10,rfl,by rw[VC] at hu;omega,by omega⟩
  ·have d2:decide (u % 10=0)=false:=Ze h2
   simp(maxSteps:=4000000) (disch:=first|assumption|omega|(simp -implicitDefEqProofs only[Xh,Xi]<;>first|assumption|omega)|decide) only[t0,d1,e1,d2,YA,Yl,ZR,ZO,Zu,ZM,YL,Y9,YM,Y7,YQ,YB,ZP,Yc,Yd,YT,Nat.reduceSub,Nat.reduceAdd,Nat.reduceLeDiff,ZA,ZT,Nat.reduceEqDiff,decide_true,decide_false,Yt,Zd,Zb,XV,X1,YO,Yq,Yj,YK,YJ,ZX,Zn,Zo,Y0,Z0,Zb,Zd,YV,Zr,ZL,Rg,ZJ,Zs,ZC,Zt,ZF,Zq,Zy,Zl,ZH,Xs,XC,Xz,Xy,ZN,ZI,ZZ,ZV,ZB,ZG,Yw,Yy,Zu,ZM,ZO,ZR,Zb,Zd,Zr,ZL,ZJ,Yx,Yp,Yv,YG,Yg,Z8,LZ,Z9,Xg,ZY,Yu,Z3,Z6,Yf,Nat.reducePow,Nat.reduceDiv,Nat.reduceMod,Nat.reduceEqDiff,reduceCtorEq,Xe]
   refine⟨_,_,_,rfl,?_⟩
   exact .inr ⟨by simp,rfl,rfl,u,t0'⟩
 ·have d1:decide (10<u)=false:=Ze h1
  simp(maxSteps:=4000000) (disch:=first|assumption|omega|(simp -implicitDefEqProofs only[Xh,Xi]<;>first|assumption|omega)|decide) only[t0,d1,YA,Yl,ZR,ZO,Zu,ZM,YL,Y9,YM,Y7,YQ,YB,ZP,Yc,Yd,YT,Nat.reduceSub,Nat.reduceAdd,Nat.reduceLeDiff,ZA,ZT,Nat.reduceEqDiff,decide_true,decide_false,Yt,Zd,Zb,XV,X1,YO,Yq,Yj,YK,YJ,ZX,Zn,Zo,Y0,Z0,Zb,Zd,YV,Zr,ZL,Rg,ZJ,Zs,ZC,Zt,ZF,Zq,Zy,Zl,ZH,Xs,XC,Xz,Xy,ZN,ZI,ZZ,ZV,ZB,ZG,Yw,Yy,Zu,ZM,ZO,ZR,Zb,Zd,Zr,ZL,ZJ,Yx,Yp,Yv,YG,Yg,Z8,LZ,Z9,Xg,ZY,Yu,Z3,Z6,Yf,Nat.reducePow,Nat.reduceDiv,Nat.reduceMod,Nat.reduceEqDiff,reduceCtorEq,Xe]
  refine⟨_,_,_,rfl,?_⟩
  exact .inr ⟨by simp,rfl,rfl,u,t0'⟩
theorem ZcE(E:Env Zx fs fuel)(hk:1<=k){u:Nat}(hu:u<1000000000):
  ∃b,Z7 (LK Zx fs fuel k) fs fuel (n+1) 130 [nI .i64 u] H=.ret (.bool b) H:=by
 have run: ∃b H',Z7 (LK Zx fs fuel 0) fs fuel (898+2) 130 [nI .i64 u] H=.ret (.bool b) H'∧ZK H H' []:=by
  rw[Z1 (ZU E.n130 (.inl (by decide)) _ _) E.f130]
  have hf:=E.big
  simp(maxSteps:=4000000) (disch:=first|assumption|omega|(simp -implicitDefEqProofs only[Xh,Xi]<;>first|assumption|omega)|decide) only[YA,Yl,ZR,ZO,Zu,ZM,YL,Y9,YM,Y7,YQ,YB,ZP,Yc,Yd,YT,Nat.reduceSub,Nat.reduceAdd,Nat.reduceLeDiff,ZA,ZT,Nat.reduceEqDiff,decide_true,decide_false,Yt,Zd,Zb,XV,X1,YO,Yq,Yj,YK,YJ,ZX,Zn,Zo,Y0,Z0,Zb,Zd,YV,Zr,ZL,Rg,ZJ,Zs,ZC,Zt,ZF,Zq,Zy,Zl,ZH,Xs,XC,Xz,Xy,ZN,ZI,ZZ,ZV,ZB,ZG,Yw,Yy,Zu,ZM,ZO,ZR,Zb,Zd,Zr,ZL,ZJ,Yx,Yp,Yv,YG,Yg,Z8,fL,Z9,Xg,ZY,Yu,Z3,Z6,Yf,Nat.reduceEqDiff,reduceCtorEq,Xe]
  generalize hL:Ue (LZ _) fuel _ _ _=L
  obtain⟨o,Ny,H1,rfl,_,rfl,h1,w,t0⟩:=XZ (P:=λT=>TWI H 9 T H) (Q:=TWQ H)
   (λT hi=>We (TWI H) (TWQ H) (λm tm H1 h=>bI _ _ m tm H1 h) fuel 9 T H (by omega) hi) hL
   (by exact⟨rfl,u,rfl,hu,hu⟩)
  subst h1
  simp only[Mc] at t0
  simp(maxSteps:=4000000) (disch:=first|assumption|omega|(simp -implicitDefEqProofs only[Xh,Xi]<;>first|assumption|omega)|decide) only[t0,YA,Yl,ZR,ZO,Zu,ZM,YL,Y9,YM,Y7,YQ,YB,ZP,Yc,Yd,YT,Nat.reduceSub,Nat.reduceAdd,Nat.reduceLeDiff,ZA,ZT,Nat.reduceEqDiff,decide_true,decide_false,Yt,Zd,Zb,XV,X1,YO,Yq,Yj,YK,YJ,ZX,Zn,Zo,Y0,Z0,Zb,Zd,YV,Zr,ZL,Rg,ZJ,Zs,ZC,Zt,ZF,Zq,Zy,Zl,ZH,Xs,XC,Xz,Xy,ZN,ZI,ZZ,ZV,ZB,ZG,Yw,Yy,Zu,ZM,ZO,ZR,Zb,Zd,Zr,ZL,ZJ,Yx,Yp,Yv,YG,Yg,Z8,fL,Z9,Xg,ZY,Yu,Z3,Z6,Yf,Nat.reduceEqDiff,reduceCtorEq,Xe]
  exact⟨_,_,rfl,ZK.refl _ _⟩
 obtain⟨b,H',e,g⟩:=run
 exact⟨b,Xc (r:=0) rfl rfl e g rfl hk⟩
def KW(s:List UInt8):List UInt8×List UInt8×Bool:=if Vk 61 s=0 then(s,[],false) else(s.take (Vk 61 s - 1),s.drop (Vk 61 s),true)
theorem xm(E:Env Zx fs fuel):
  ∃H',Z7 (LK Zx fs fuel 1) fs fuel (n+2) 122 [.str s,.str [61]] H=.ret (mI (Vk 61 s)) H'∧ZK H H' []:=by
 rw[Z1 (ZU E.n122 (.inl (by decide)) _ _) E.f122]
 have e1:=λ{j}=>sZ (Zx:=Zx) (fs:=fs) (fuel:=fuel) E (k:=1) (n:=j) (by decide) (s:=s) (x:=61) (H:=H) (by decide)
 have wl:([61]:List UInt8).length=1:=rfl
 have w0:([61]:List UInt8).getD 0 0=61:=rfl
 have w1:(61:UInt8).toNat=61:=rfl
 have w2:decide (1=0)=false:=rfl
 by_cases h:([61]:List UInt8)=s
 ·have d_h:decide (([61]:List UInt8)=s)=true:=Zi h
  simp(maxSteps:=4000000) (disch:=first|assumption|omega|(simp -implicitDefEqProofs only[Xh,Xi]<;>first|assumption|omega)|decide) only[wl,w0,w1,w2,e1,d_h,YA,Yl,ZR,ZO,Zu,ZM,YL,Y9,YM,Y7,YQ,YB,ZP,Yc,Yd,YT,Nat.reduceSub,Nat.reduceAdd,Nat.reduceLeDiff,ZA,ZT,Nat.reduceEqDiff,decide_true,decide_false,yG,Z9,Xg,ZY,Yu,Z3,Z6,Yf,Nat.reduceEqDiff,reduceCtorEq,Xe,U4]
  subst h
  refine⟨_,rfl,?_⟩
  exact ZK.refl _ _
 ·have d_h:decide (([61]:List UInt8)=s)=false:=Ze h
  simp(maxSteps:=4000000) (disch:=first|assumption|omega|(simp -implicitDefEqProofs only[Xh,Xi]<;>first|assumption|omega)|decide) only[wl,w0,w1,w2,e1,d_h,YA,Yl,ZR,ZO,Zu,ZM,YL,Y9,YM,Y7,YQ,YB,ZP,Yc,Yd,YT,Nat.reduceSub,Nat.reduceAdd,Nat.reduceLeDiff,ZA,ZT,Nat.reduceEqDiff,decide_true,decide_false,yG,Z9,Xg,ZY,Yu,Z3,Z6,Yf,Nat.reduceEqDiff,reduceCtorEq,Xe,U4]
  refine⟨_,rfl,?_⟩
  exact ZK.refl _ _
theorem dp(E:Env Zx fs fuel)(hk:2<=k):
  Z7 (LK Zx fs fuel k) fs fuel (n+1) 122 [.str s,.str [61]] H=.ret (mI (Vk 61 s)) H:=by
 obtain⟨H',e,g⟩:=xm E (n:=898) (H:=H)
 exact Xc (r:=1) rfl rfl e g (PZ _ _) hk
theorem oZ(E:Env Zx fs fuel)(hs:s.length<=100000000):
  ∃H',Z7 (LK Zx fs fuel 3) fs fuel (n+2) 158 [.str s,.str [61]] H=.ret (.tup [.str (KW s).1,.str (KW s).2.1,.bool (KW s).2.2]) H'∧ZK H H' []:=by
 rw[Z1 (ZU E.n158 (.inl (by decide)) _ _) E.f158]
 have e1:=λ{j}=>dp (Zx:=Zx) (fs:=fs) (fuel:=fuel) E (k:=3) (n:=j) (by decide) (s:=s) (H:=H)
 have hfl:Vk 61 s<=s.length:=Zby
 have wl:([61]:List UInt8).length=1:=rfl
 unfold KW
 by_cases h0:Vk 61 s=0
 ·have c0: ∀G,Tl Tp WT (mI (Vk 61 s)) (nI .i64 0) G=.val (.bool false) G:=λG=>by rw[XV,Ze (by omega)]
  rw[if_pos h0]
  simp(maxSteps:=4000000) (disch:=first|assumption|omega|(simp -implicitDefEqProofs only[Xh,Xi]<;>first|assumption|omega)|decide) only[e1,c0,YA,Yl,ZR,ZO,Zu,ZM,YL,Y9,YM,Y7,YQ,YB,ZP,Yc,Yd,YT,Nat.reduceSub,Nat.reduceAdd,Nat.reduceLeDiff,ZA,ZT,Nat.reduceEqDiff,decide_true,decide_false,Yt,Zd,Zb,XV,X1,YO,Yq,Yj,YK,YJ,ZX,Zn,Zo,Y0,Z0,Zb,Zd,YV,Zr,ZL,Rg,ZJ,Zs,ZC,Zt,ZF,Zq,Zy,Zl,ZH,Xs,XC,Xz,Xy,ZN,ZI,ZZ,ZV,ZB,ZG,Yw,Yy,Zu,ZM,ZO,ZR,Zb,Zd,Zr,ZL,ZJ,Yx,Yp,Yv,YG,Yg,Z8,fN,Z9,Xg,ZY,Yu,Z3,Z6,Yf,Nat.reducePow,Nat.reduceDiv,Nat.reduceMod,Nat.reduceEqDiff,reduceCtorEq,Xe]
  refine⟨_,rfl,?_⟩
  exact ZK.refl _ _
 ·have c0: ∀G,Tl Tp WT (mI (Vk 61 s)) (nI .i64 0) G=.val (.bool true) G:=λG=>by rw[XV,Zi (by omega)]
  rw[if_neg h0]
  obtain⟨p,hp⟩: ∃p,Vk 61 s=p+1:=⟨Vk 61 s - 1,by omega⟩
  rw[hp] at e1 c0 hfl ⊢
  rw[ja] at e1 c0
  rw[Vq]
  have ad: ∀G,SG (nI .i64 p) (nI .i64 1) G=.val (nI .i64 (p+1)) G:=λG=>YB (by omega) G
  simp(maxSteps:=4000000) (disch:=first|assumption|omega|(simp -implicitDefEqProofs only[Xh,Xi]<;>first|assumption|omega)|decide) only[e1,c0,ad,wl,YA,Yl,ZR,ZO,Zu,ZM,YL,Y9,YM,Y7,YQ,ZP,Yc,Yd,YT,Nat.reduceSub,Nat.reduceAdd,Nat.reduceLeDiff,ZA,ZT,Nat.reduceEqDiff,decide_true,decide_false,Yt,Zd,Zb,XV,X1,YO,Yq,Yj,YK,YJ,ZX,Zn,Zo,Y0,Z0,Zb,Zd,YV,Zr,ZL,Rg,ZJ,Zs,ZC,Zt,ZF,Zq,Zy,Zl,ZH,Xs,XC,Xz,Xy,ZN,ZI,ZZ,ZV,ZB,ZG,Yw,Yy,Zu,ZM,ZO,ZR,Zb,Zd,Zr,ZL,ZJ,Yx,Yp,Yv,YG,Yg,Z8,fN,Z9,Xg,ZY,Yu,Z3,Z6,Yf,Nat.reducePow,Nat.reduceDiv,Nat.reduceMod,Nat.reduceEqDiff,reduceCtorEq,Xe]
  refine⟨_,rfl,?_⟩
  exact ZK.refl _ _
theorem Zfg(E:Env Zx fs fuel)(hk:4<=k)(hs:s.length<=100000000):
  Z7 (LK Zx fs fuel k) fs fuel (n+1) 158 [.str s,.str [61]] H=.ret (.tup [.str (KW s).1,.str (KW s).2.1,.bool (KW s).2.2]) H:=by
 obtain⟨H',e,g⟩:=oZ E (n:=898) (H:=H) hs
 exact Xc (r:=3) rfl rfl e g (rfl) hk
theorem iH(E:Env Zx fs fuel)(hs:s.length<=100000000):
  ∃H',Z7 (LK Zx fs fuel 4) fs fuel (n+2) 131 [.str s,.str [61]] H=.ret (.tup [.str (KW s).1,.str (KW s).2.1,.bool (KW s).2.2]) H'∧ZK H H' []:=by
 rw[Z1 (ZU E.n131 (.inl (by decide)) _ _) E.f131]
 have e1:=λ{j}=>Zfg (Zx:=Zx) (fs:=fs) (fuel:=fuel) E (k:=4) (n:=j) (by decide) (s:=s) (H:=H) hs
 simp(maxSteps:=4000000) (disch:=first|assumption|omega|(simp -implicitDefEqProofs only[Xh,Xi]<;>first|assumption|omega)|decide) only[e1,YA,Yl,ZR,ZO,Zu,ZM,YL,Y9,YM,Y7,YQ,YB,ZP,Yc,Yd,YT,Nat.reduceSub,Nat.reduceAdd,Nat.reduceLeDiff,ZA,ZT,Nat.reduceEqDiff,decide_true,decide_false,Yt,Zd,Zb,XV,X1,YO,Yq,Yj,YK,YJ,ZX,Zn,Zo,Y0,Z0,Zb,Zd,YV,Zr,ZL,Rg,ZJ,Zs,ZC,Zt,ZF,Zq,Zy,Zl,ZH,Xs,XC,Xz,Xy,ZN,ZI,ZZ,ZV,ZB,ZG,Yw,Yy,Zu,ZM,ZO,ZR,Zb,Zd,Zr,ZL,ZJ,Yx,Yp,Yv,YG,Yg,Z8,ZaZ,Z9,Xg,ZY,Yu,Z3,Z6,Yf,Nat.reduceEqDiff,reduceCtorEq,Xe]
 refine⟨_,rfl,?_⟩
 exact ZK.refl _ _
theorem Zi7(E:Env Zx fs fuel)(hk:5<=k)(hs:s.length<=100000000):
  Z7 (LK Zx fs fuel k) fs fuel (n+1) 131 [.str s,.str [61]] H=.ret (.tup [.str (KW s).1,.str (KW s).2.1,.bool (KW s).2.2]) H:=by
 obtain⟨H',e,g⟩:=iH E (n:=898) (H:=H) hs
 exact Xc (r:=4) rfl rfl e g (rfl) hk
theorem bc{rest:Nat}(hr:rest<=1000000):Dz rest=rest+Vy (Dz rest):=by
 have key: ∀j x,x<=rest+Vy x->x<=rest+21->rest+21<=x+j+1->DA rest j x=rest+Vy (DA rest j x):=by
  intro j
  induction j with
  |zero=>
   intro x h1 h2 h3
   have nd:=RN (n:=x) (k:=20) (by decide) (by omega)
   show x=rest+Vy x
   omega
  |succ j ih=>
   intro x h1 h2 h3
   have nd:=RN (n:=x) (k:=20) (by decide) (by omega)
   unfold DA
   by_cases hq:x=rest+Vy x
   ·rw[if_pos hq];exact hq
   ·rw[if_neg hq]
    have:=BT h1
    exact ih _ (by omega) (by omega) (by omega)
 exact key 20 (rest+1) (by have:=PG (rest+1);omega) (by omega) (by omega)
theorem sJ{x:Nat}{c:UInt8}{r:List UInt8}(hc:c.toNat=x): ∀{k:List UInt8},(∀y∈k,y.toNat≠x)->Vk x (k++c::r)=k.length+1
 |[],_=>by show Vk x (c::r)=1;unfold Vk;rw[if_pos hc]
 |y::k,h=>by
  show Vk x (y::(k++c::r))=_
  unfold Vk
  rw[if_neg (h y (ZE ..)),sJ hc λz hz=>h z (ZQ _ hz),if_neg (Nat.succ_ne_zero _)];rfl
theorem mL{k r:List UInt8}(h: ∀y∈k,y.toNat≠61):KW (k++61::r)=(k,r,true):=by
 have e:=sJ (x:=61) (c:=61) (r:=r) rfl h
 unfold KW
 rw[e,if_neg (Nat.succ_ne_zero _),Vq,SM,<-TS,TT];rfl
theorem je{k:List UInt8}(h:PF k=true):1<=k.length∧k.length<=255∧ ∀y∈k,y.toNat≠61:=by
 unfold PF at h
 rw[Xf,Xf] at h
 obtain⟨⟨h1,h2⟩,h3⟩:=h
 refine⟨?_,Zm h2,λy hy e=>?_⟩
 ·cases k with
  |nil=>simp at h1
  |cons=>show 1<=_+1;omega
 ·have:y=61:=UJ.1 e
  subst this
  unfold MH at h3
  have:(k.any λc=>decide (c∈([0,61,10]:List UInt8)))=true:=List.any_eq_true.2 ⟨61,hy,by decide⟩
  rw[this] at h3;cases h3
theorem x4{x:NP}(h:P7 x): ∃z,Dz (x.1.length+x.2.length+3)=z∧z=x.1.length+x.2.length+3+Vy z∧Vy z<=5∧RF x=dec z++32::(x.1++61::(x.2++[10]))∧(RF x).length=z:=by
 have h2:=h.2
 have hf:=bc (rest:=x.1.length+x.2.length+3) (by omega)
 have hl:=uZ (rest:=x.1.length+x.2.length+3) (by omega)
 refine⟨_,rfl,hf,RN (by decide) (by omega),?_,?_⟩
 ·unfold RF;simp only[Xd,List.singleton_append,WU,Zn]
 ·unfold RF
  simp only[Zk,Zl,ZH,Qw]
  omega
theorem cO(E:Env Zx fs fuel){K:Nat}(hK:6<=K){v:AV}{l t:List UInt8}{x:NP}(hro:H.ro<=H.nx)(bv:BV H v l)(hl:l=RF x++t)(hx:P7 x)(hl2:l.length<=1000000000):
  ∃p s m e H',Z7 (LK Zx fs fuel K) fs fuel (n+2) 101 [v] H=.ret (.tup [.agg [.str p,.str s],nI .i64 m,nI .i64 e]) H'∧ZK H H' []∧(e≠0∨(e=0∧m=(RF x).length)):=by
 rw[Z1 (ZU E.n101 (.inr rfl) _ _) E.f101]
 obtain⟨z,_,hz,hd,hp,hlen⟩:=x4 hx
 obtain⟨k1,k2,k3⟩:=je hx.1
 have hm:=hx.1
 have hx2:=hx.2
 rw[hlen]
 obtain⟨key,val⟩:=x
 simp only[] at hz hp k1 k2 k3 hm hx2
 generalize hd':Vy z=d at hz hd
 have hd1:1<=d:=by rw[<-hd'];exact PG z
 have hl':l=dec z++32::(key++61::(val++10::t)):=by rw[hl,hp];simp only[Xd,WU,Zn]
 have hll:l.length=z+t.length:=by rw[hl,Zk,hlen]
 have hdl:(dec z).length=d:=by rw[Qw,hd']
 have bx: ∀G:Heap,N2 24 v G=.val (.ptr G.nx 0) (G.new (rH 24 [v])):=λG=>yA (by
  rcases bv with⟨_,rfl|⟨b,o,c,rfl⟩⟩|⟨_,b,o,c,r,rfl,_⟩<;>rfl) 24 G
 obtain⟨H1,hH1⟩:=SK (H.new (rH 24 [v]))
 obtain⟨H2,hH2⟩:=SK (H1.new (rH 71 [.str [],.str []]))
 have Kn:H1.nx=H.nx+1:=by rw[<-hH1];rfl
 have ka:ZK H H1 []:=by rw[<-hH1];exact ZK.new _ _ _
 have kb:ZK H1 H2 []:=by rw[<-hH2];exact ZK.new _ _ _
 have kc:ZK H H2 []:=by rw[<-hH2];exact ka.then_new _
 have g1:H2.t.get H.nx=some (rH 24 [v]):=by rw[kb.get _ (by omega) (by simp),<-hH1];exact YD rfl _
 have g2:H2.t.get H1.nx=some (rH 71 [.str [],.str []]):=by rw[<-hH2];exact YD rfl _
 have ir:H2.ro<=H1.nx:=by rw[kc.ro];omega
 have nM:=bv.keep kc (λ_ _ _ _ _=>by simp)
 have rd:=Rd.of_bv nM
 have ln:=nM.len
 have l0: ∀G,ld1 (some (rH 24 [v])) 0 G=.val v G:=λG=>Un (YP 0) ..
 have st:=λa b=>SD (n:=2) (b:=H1.nx) (l:=[.str [],.str []]) (vs:=[.str a,.str b]) (H:=H2) rfl rfl (by decide) ir 71 1 false true
 have gp:=λa b=>Xv H2 H1.nx (rH 71 [.str a,.str b])
 have bd: ∀G:Heap,SA [.str [],.str []] [] G=.val (.agg [.str [],.str []]) G:=λG=>rfl
 have bd1: ∀G a,SA [.str [],.str []] [(0,1,.str a)] G=.val (.agg [.str a,.str []]) G:=λ_ _=>rfl
 have bd2: ∀G a b,SA [.str [],.str []] [(0,1,.str a),(1,1,.str b)] G=.val (.agg [.str a,.str b]) G:=λ_ _ _=>rfl
 have rv: ∀a b kk,rV 2 true (some (rH 71 [.str a,.str b])) 0 kk=kk (.agg [.str a,.str b]):=λa b kk=>j6 (n:=2) (l:=[.str a,.str b]) rfl kk
 have ed:=λ{j}=>cU (Zx:=Zx) (fs:=fs) (fuel:=fuel) E (k:=K) (n:=j) (by omega) rd hl' hl2 (by omega)
 rw[hd'] at ed
 have c0:decide (d=0)=false:=Ze (by omega)
 have c1:decide (16777216<z)=false:=Ze (by omega)
 obtain⟨b0,o0,r0,eI0,_,gb0,ld0⟩:=rd.at_ 0 (by omega)
 have pB: ∀G,ld1 (some (.row r0)) o0 G=.val (nI .u8 (l.getD 0 0).toNat) G:=ld0
 by_cases h48:(l.getD 0 0).toNat=48
 ·have c2:decide ((l.getD 0 0).toNat=48)=true:=Zi h48
  simp(maxSteps:=4000000) (disch:=first|assumption|omega|(simp -implicitDefEqProofs only[Xh,Xi]<;>first|assumption|omega)|decide) only[bx,hH1,hH2,g1,g2,l0,ed,c0,c1,eI0,gb0,pB,c2,bd,st,gp,rv,OH,Us,Te,ZG,YA,Yl,ZR,ZO,Zu,ZM,YL,Y9,YM,Y7,YQ,YB,ZP,Yc,Yd,YT,Nat.reduceSub,Nat.reduceAdd,Nat.reduceLeDiff,ZA,ZT,Nat.reduceEqDiff,decide_true,decide_false,Yt,Zd,Zb,XV,X1,YO,Yq,Yj,YK,YJ,ZX,Zn,Zo,Y0,Z0,Zb,Zd,YV,Zr,ZL,Rg,ZJ,Zs,ZC,Zt,ZF,Zq,Zy,Zl,ZH,Xs,XC,Xz,Xy,ZN,ZI,ZZ,ZV,ZB,ZG,Yw,Yy,Zu,ZM,ZO,ZR,Zb,Zd,Zr,ZL,ZJ,Yx,Yp,Yv,YG,Yg,Z8,mf,Z9,Xg,ZY,Yu,Z3,Z6,Yf,Nat.reducePow,Nat.reduceDiv,Nat.reduceMod,Nat.reduceEqDiff,reduceCtorEq,Xe,U4,CK,Ca,nL]
  exact⟨_,_,_,_,_,rfl,kc.then_put (by omega),.inl (by decide)⟩
 have c2:decide ((l.getD 0 0).toNat=48)=false:=Ze h48
 obtain⟨w,ew⟩:=ZcE (Zx:=Zx) (fs:=fs) (fuel:=fuel) E (k:=K) (n:=n) (by omega) (H:=H2) (u:=z) (by omega)
 obtain⟨b1,o1,r1,eI1,_,gb1,ld1_⟩:=rd.at_ d (by omega)
 have hx1:l.getD d 0=32:=by rw[hl',PT,hdl,if_neg (by omega),VX];rfl
 rw[hx1] at ld1_
 have ld1': ∀G,ld1 (some (.row r1)) o1 G=.val (nI .u8 32) G:=ld1_
 have m1: ∀G,uC (nI .i64 10) (nI .i64 z) G=.val (nI .i64 (10*z)) G:=λG=>Dh (by omega) G
 have c3:decide (16777216<10*z)=false:=Ze (by omega)
 have c4:decide (d<l.length)=true:=Zi (by omega)
 have c5:decide (d=l.length)=false:=Ze (by omega)
 cases w with
 |true=>
  simp(maxSteps:=4000000) (disch:=first|assumption|omega|(simp -implicitDefEqProofs only[Xh,Xi]<;>first|assumption|omega)|decide) only[bx,hH1,hH2,g1,g2,l0,ed,c0,c1,eI0,gb0,pB,c2,ew,m1,c3,ln,c4,eI1,gb1,ld1',bd,st,gp,rv,OH,Us,If,Te,ZG,YA,Yl,ZR,ZO,Zu,ZM,YL,Y9,YM,Y7,YQ,YB,ZP,Yc,Yd,YT,Nat.reduceSub,Nat.reduceAdd,Nat.reduceLeDiff,ZA,ZT,Nat.reduceEqDiff,decide_true,decide_false,Yt,Zd,Zb,XV,X1,YO,Yq,Yj,YK,YJ,ZX,Zn,Zo,Y0,Z0,Zb,Zd,YV,Zr,ZL,Rg,ZJ,Zs,ZC,Zt,ZF,Zq,Zy,Zl,ZH,Xs,XC,Xz,Xy,ZN,ZI,ZZ,ZV,ZB,ZG,Yw,Yy,Zu,ZM,ZO,ZR,Zb,Zd,Zr,ZL,ZJ,Yx,Yp,Yv,YG,Yg,Z8,mf,Z9,Xg,ZY,Yu,Z3,Z6,Yf,Nat.reducePow,Nat.reduceDiv,Nat.reduceMod,Nat.reduceEqDiff,reduceCtorEq,Xe,U4,CK,Ca,nL]
  exact⟨_,_,_,_,_,rfl,kc.then_put (by omega),.inl (by decide)⟩
 |false=>
  have a1: ∀G,SG (nI .i64 d) (nI .i64 1) G=.val (nI .i64 (d+1)) G:=λG=>YB (by omega) G
  obtain⟨v1,sl1,yD,_⟩:=FU nM (n:=d+1) (by omega) .i64
  have sa:Th 1 v (some (nI .i64 (d+1))) none H2=.val v1 H2:=sl1 H2.nx H2.ro
  have hdr:l.drop (d+1)=key++61::(val++10::t):=by
   rw[hl',<-TS,<-hdl,TT];rfl
  rw[hdr] at yD
  have ln1:=yD.len
  have hl1:(key++61::(val++10::t)).length=key.length+val.length+2+t.length:=by simp only[Zk,Zl];omega
  rw[hl1] at ln1
  have s1: ∀G,O3 (nI .i64 z) (nI .i64 d) G=.val (nI .i64 (key.length+val.length+3)) G:=λG=>by rw[YQ (by omega) (by omega),show z - d=key.length+val.length+3 by omega]
  have s2: ∀G,O3 (nI .i64 (key.length+val.length+3)) (nI .i64 1) G=.val (nI .i64 (key.length+val.length+2)) G:=λG=>by rw[YQ (by omega) (by omega)];rfl
  have s3: ∀G,O3 (nI .i64 (key.length+val.length+2)) (nI .i64 2) G=.val (nI .i64 (key.length+val.length)) G:=λG=>by rw[YQ (by omega) (by omega)];rfl
  have s4: ∀G,O3 (nI .i64 (key.length+val.length+2)) (nI .i64 1) G=.val (nI .i64 (key.length+val.length+1)) G:=λG=>by rw[YQ (by omega) (by omega)];rfl
  have s5: ∀G,O3 (nI .i64 (val.length+1)) (nI .i64 1) G=.val (nI .i64 val.length) G:=λG=>by rw[YQ (by omega) (by omega)];rfl
  have c32:decide ((32:Nat)≠32)=false:=rfl
  have c10:decide ((10:Nat)≠10)=false:=rfl
  have c6:decide (key.length+val.length+2<3)=false:=Ze (by omega)
  have c7:decide (key.length+val.length+2<=key.length+val.length+2+t.length)=true:=Zi (by omega)
  obtain⟨v2,sl2,IW,_⟩:=bU yD (n:=key.length+val.length+2) (by omega) (by omega) .i64
  have sb:Th 1 v1 none (some (nI .i64 (key.length+val.length+2))) H2=.val v2 H2:=sl2 H2.nx H2.ro
  have htk:(key++61::(val++10::t)).take (key.length+val.length+2)=key++61::(val++[10]):=by
   have:key++61::(val++10::t)=(key++61::(val++[10]))++t:=by simp only[Xd,WU,Zn]
   rw[this,show key.length+val.length+2=(key++61::(val++[10])).length by simp only[Zk,Zl,ZH];omega,SM]
  rw[htk] at IW
  have es:=sx IW
  have ec:=λ{j}=>Zi7 (Zx:=Zx) (fs:=fs) (fuel:=fuel) E (k:=K) (n:=j) (by omega) (s:=key++61::(val++[10])) (H:=H2) (by simp only[Zk,Zl,ZH];omega)
  rw[mL k3] at ec
  have ec': ∀{j},Z7 (LK Zx fs fuel K) fs fuel (j+1) 131 [.str (key++61::(val++[10])),.str [61]] H2=.ret (.tup [.str key,.str (val++[10]),.bool true]) H2:=ec
  have em:=λ{j}=>ZcD (Zx:=Zx) (fs:=fs) (fuel:=fuel) E (k:=K) (n:=j) (by omega) (a:=key) (b:=[]) (H:=H2) (by omega) (by have:=kb.nx;omega)
  rw[hm] at em
  have c8:decide (key.length+val.length<key.length)=false:=Ze (by omega)
  have lv:(val++[10]).length=val.length+1:=by rw[Zk];rfl
  obtain⟨b3,o3,r3,eI3,_,A6,ld3_⟩:=(Rd.of_bv IW).at_ (key.length+val.length+1) (by simp only[Zk,Zl,ZH];omega)
  have hx3:(key++61::(val++[10])).getD (key.length+val.length+1) 0=10:=by
   rw[show key++61::(val++[10])=(key++61::val)++[10] by simp only[Xd,WU],PT,if_neg (by simp only[Zk,Zl];omega),show key.length+val.length+1 - (key++61::val).length=0 by simp only[Zk,Zl];omega];rfl
  rw[hx3] at ld3_
  have Zb5: ∀G,ld1 (some (.row r3)) o3 G=.val (nI .u8 10) G:=ld3_
  have tk: ∀G,Ji (.str (val++[10])) none (some (nI .i64 val.length)) G=.val (.str ((val++[10]).take val.length)) G:=λG=>Yd (by omega) .i64 G
  simp(maxSteps:=4000000) (disch:=first|assumption|omega|(simp -implicitDefEqProofs only[Xh,Xi]<;>first|assumption|omega)|decide) only[bx,hH1,hH2,g1,g2,l0,ed,c0,c1,eI0,gb0,pB,c2,ew,m1,c3,ln,c4,c5,eI1,gb1,ld1',a1,sa,ln1,s1,s2,s3,s4,s5,c32,c10,c6,c7,sb,es,ec',em,c8,lv,eI3,A6,Zb5,tk,bd,bd1,bd2,st,gp,rv,OH,Us,If,QH,Dp,Te,SZ,Wy,XI,ZG,ZB,YA,Yl,ZR,ZO,Zu,ZM,YL,Y9,YM,Y7,ZP,Yc,YT,Nat.reduceSub,Nat.reduceAdd,Nat.reduceLeDiff,ZA,ZT,Nat.reduceEqDiff,decide_true,decide_false,Yt,Zd,Zb,XV,X1,YO,Yq,Yj,YK,YJ,ZX,Zn,Zo,Y0,Z0,Zb,Zd,YV,Zr,ZL,Rg,ZJ,Zs,ZC,Zt,ZF,Zq,Zy,Zl,ZH,Xs,XC,Xz,Xy,ZN,ZI,ZZ,ZV,ZB,ZG,Yw,Yy,Zu,ZM,ZO,ZR,Zb,Zd,Zr,ZL,ZJ,Yx,Yp,Yv,YG,Yg,Z8,mf,Z9,Xg,ZY,Yu,Z3,Z6,Yf,Nat.reducePow,Nat.reduceDiv,Nat.reduceMod,Nat.reduceEqDiff,reduceCtorEq,Xe,U4,CK,Ca,nL]
  refine⟨_,_,_,_,_,rfl,?_,.inr ⟨rfl,rfl⟩⟩
  exact kc.then_put (by omega)
theorem ZaQ{v:AV}{l:List UInt8}(h:BV H v l)(h0:l≠[])(k:IntKind):
  ∃v' H',Th 1 v (some (nI k l.length)) none H=.val v' H'∧ZK H H' []∧BV H' v' []∧ ∀b∈Wo v',b<H'.nx:=by
 have hf:=h.far h0
 rcases h with⟨rfl,_⟩|⟨_,b,o,c,r,rfl,hB,hlt⟩
 ·exact absurd rfl h0
 have hcap:l.length<=VO r o c:=by
  cases c with
  |none=>
   show l.length<=cond (Nat.beq r.sz 1) (r.size - o) _
   rw[hB.sz];have:=hB.fits;show l.length<=r.size - o;omega
  |some k=>exact(hB.cap k rfl).1
 have hs:MU r 1 c=true:=by
  cases c with
  |none=>show Nat.beq r.sz 1=true;rw[hB.sz];rfl
  |some c=>rfl
 have e:Th 1 (.slice b o l.length c) (some (nI k l.length)) none H=cond (Nat.beq l.length (VO r o c)) (Option.rec (.val (.slice H.nx 0 (l.length - l.length) none) ⟨Nat.succ H.nx,H.t,H.ro⟩) (λ_=>.val (.slice b o (l.length - l.length) (some 0)) H) c) (.val (.slice b (o+l.length) (l.length - l.length) (KT c l.length)) H):=by
  show XA H b _=_
  unfold XA
  rw[hB.at_]
  show Yb (MU r 1 c) (Yb (Nat.ble l.length l.length) (Yb (Nat.ble l.length (VO r o c)) (cond (Nat.beq l.length (VO r o c)) _ (.val (.slice b (o+l.length*1) (l.length - l.length) _) H))))=_
  rw[hs,Zj (Zz _),Zj hcap,XM]
  cases c<;>rfl
 rw[e,VX,YZ]
 by_cases hq:l.length=VO r o c
 ·rw[Zi hq]
  cases c with
  |none=>exact⟨_,_,rfl,⟨Vr _,rfl,λ_ _ _=>rfl⟩,.inl ⟨rfl,.inr ⟨_,_,_,rfl⟩⟩,λx hx=>by rw[Zv.1 hx];exact YP _⟩
  |some c=>exact⟨_,_,rfl,ZK.refl _ _,.inl ⟨rfl,.inr ⟨_,_,_,rfl⟩⟩,λx hx=>by rw[Zv.1 hx];exact hlt⟩
 ·rw[Ze hq]
  exact⟨_,_,rfl,ZK.refl _ _,.inl ⟨rfl,.inr ⟨_,_,_,rfl⟩⟩,λx hx=>by rw[Zv.1 hx];exact hlt⟩
theorem HT{x:NP}(h:P7 x):1<=(RF x).length:=by
 obtain⟨z,_,hz,_,_,hl⟩:=x4 h
 omega
theorem Om(x:NP)(R:List NP):WP (x::R)=RF x++WP R:=rfl
structure PGI(Hs:Heap)(N:Nat)(m:Nat)(tm:TM)(H:Heap):Prop where
 k:ZK Hs H []
 v: ∃v R,YX tm=v∧BV H v (WP R)∧R.length=m∧(∀x∈R,P7 x)∧(∀b∈Wo v,b<H.nx)∧(R≠[]-> ∀b∈Wo v,b<Hs.nx)∧(WP R).length<=100000000
 w: ∃w ls,XY tm=w∧RP H w 71 2 (S2 ls) Hs.nx∧ls.length+m=N
def PGQ(Hs:Heap)(o:Out)(tm:TM)(H:Heap):Prop:=ZK Hs H []∧((o=.ret∧VE tm=.nils∧ ∃e,V5 tm=nI .i64 e∧e≠0)∨(o=.exit 0∧ ∃w ls,XY tm=w∧RP H w 71 2 (S2 ls) Hs.nx))
theorem cV(E:Env Zx fs fuel){K:Nat}(hK:6<=K){Hs:Heap}{N:Nat}(hN:N<=1000)(hro:Hs.ro<=Hs.nx)(y f dd qq)(X0:X)(m:Nat)(tm:TM)(H:Heap)(hI:PGI Hs N m tm H):
  ∃o tm' H',I7 ⟨Z7 (LK Zx fs fuel K) fs fuel (n+3),y,f,dd,qq⟩ tm H X0=.ok o tm' H' X0∧((o=.normal∧ ∃k,k<m∧PGI Hs N k tm' H')∨(o≠.normal∧PGQ Hs o tm' H')):=by
 obtain⟨k0,⟨v,R,t0,bv,hm,hR,hb1,hb2,hlen⟩,w,ls,t4,hw,hls⟩:=hI
 have t0':=t0;have Jp:=t4
 simp only[Mc,PD] at t0 t4
 have ln:=bv.len
 have roH:H.ro<=H.nx:=by rw[k0.ro];have:=k0.nx;omega
 cases R with
 |nil=>
  have l0:(WP ([]:List NP)).length=0:=rfl
  rw[l0] at ln
  have d1:decide (0<0)=false:=rfl
  simp(maxSteps:=4000000) (disch:=first|assumption|omega|(simp -implicitDefEqProofs only[Xh,Xi]<;>first|assumption|omega)|decide) only[t0,ln,d1,YA,Yl,ZR,ZO,Zu,ZM,YL,Y9,YM,Y7,YQ,YB,ZP,Yc,Yd,YT,Nat.reduceSub,Nat.reduceAdd,Nat.reduceLeDiff,ZA,ZT,Nat.reduceEqDiff,decide_true,decide_false,Yt,Zd,Zb,XV,X1,YO,Yq,Yj,YK,YJ,ZX,Zn,Zo,Y0,Z0,Zb,Zd,YV,Zr,ZL,Rg,ZJ,Zs,ZC,Zt,ZF,Zq,Zy,Zl,ZH,Xs,XC,Xz,Xy,ZN,ZI,ZZ,ZV,ZB,ZG,Yw,Yy,Zu,ZM,ZO,ZR,Zb,Zd,Zr,ZL,ZJ,Yx,Yp,Yv,YG,Yg,Z8,I7,Z9,Xg,ZY,Yu,Z3,Z6,Yf,Nat.reduceEqDiff,reduceCtorEq,Xe]
  refine⟨_,_,_,rfl,?_⟩
  exact .inr ⟨by simp,k0,.inr ⟨rfl,w,ls,Jp,hw⟩⟩
 |cons x R=>
  have hx:=hR x (ZE ..)
  have hp:=HT hx
  have hlx:(WP (x::R)).length=(RF x).length+(WP R).length:=by rw[Om,Zk]
  have d1:decide (0<(WP (x::R)).length)=true:=Zi (by omega)
  have hb3:=hb2 (by simp)
  obtain⟨p,s,z,e,H1,e1,k1,he⟩:=cO E (K:=K) (n:=n+1) hK (H:=H) (v:=v) (l:=WP (x::R)) (t:=WP R) (x:=x) roH bv (Om x R) hx (by omega)
  obtain⟨H2,hH2⟩:=SK (H1.new (rH 71 [.str [],.str []]))
  obtain⟨H3,hH3⟩:=SK (H2.put H1.nx (rH 71 [.str p,.str s]))
  have nx2:H2.nx=H1.nx+1:=by rw[<-hH2];rfl
  have nx3:H3.nx=H1.nx+1:=by rw[<-hH3];exact nx2
  have k2:ZK H H2 []:=by rw[<-hH2];exact k1.then_new _
  have k3:ZK H H3 []:=by rw[<-hH3];exact k2.then_put (by have:=k1.nx;omega)
  have g2:H2.t.get H1.nx=some (rH 71 [.str [],.str []]):=by rw[<-hH2];exact YD rfl _
  have g3:H3.t.get H1.nx=some (rH 71 [.str p,.str s]):=by rw[<-hH3];exact Xv _ _ _
  have st:=SD (n:=2) (b:=H1.nx) (l:=[.str [],.str []]) (vs:=[.str p,.str s]) (H:=H2) rfl rfl (by decide) (by rw[k2.ro];have:=k1.nx;omega) 71 1 false true
  rw[hH3] at st
  have lb:=No bv (n:=H1.nx) (λb hb=>by have:=hb1 b hb;have:=k1.nx;omega)
  have lb3:=No bv (n:=H3.nx) (λb hb=>by have:=hb1 b hb;have:=k1.nx;omega)
  have sb:=O7 bv
  obtain⟨lw,sw,cw,bw⟩:=Tf hw
  have lw1:=lw H1.nx k1.nx
  have dR:=lw H3.nx k3.nx
  by_cases he0:e=0
  ·subst he0
   obtain rfl:z=(RF x).length:=by
    rcases he with h|⟨_,h⟩
    ·exact absurd rfl h
    ·exact h
   have d2:decide ((0:Nat)≠0)=false:=rfl
   have ld: ∀G,zq 2 (some (rH 71 [.str p,.str s])) 0 G=.val (.agg [.str p,.str s]) G:=λG=>TJ (l:=[.str p,.str s]) (n:=2) (o:=0) (Zz 2) ..
   have bs: ∀G,TQ 71 2 1 [.str [],.str []] [(0,2,.agg [.str p,.str s])] G=.val (.slice G.nx 0 1 none) (G.new (rG 71 2 [.str p,.str s] 0 false true true)):=λ_=>rfl
   have hw3:=hw.below (H':=H3) (λc _ hc=>k3.get c hc (by simp)) k3.ro k3.nx
   obtain⟨w',H4,ea,w4,k4,_,n4⟩:=rS (bytes:=32) hw3 (by decide) (by decide) (by rw[Tg];omega) (by rw[k3.ro];have:=k3.nx;omega) (by have:=k3.nx;have:=k0.nx;omega) (x:=[.str p,.str s]) rfl
   have bv3:=bv.keep k3 (λ_ _ _ _ _=>by simp)
   have mc:=bv3.keep k4 (λb o n c ev hm=>by
    have:=hb3 b (by rw[ev];exact Zv.2 rfl)
    have:=(bw b hm).1
    omega)
   have k04:ZK Hs H4 []:=by
    refine⟨by have:=k0.nx;have:=k3.nx;omega,by rw[k4.ro,k3.ro,k0.ro],λc hc _=>?_⟩
    rw[k4.get c (by have:=k0.nx;have:=k3.nx;omega) (λh=>by have:=(bw c h).1;omega),k3.get c (by have:=k0.nx;omega) (by simp),k0.get c hc (by simp)]
   have sl: ∃v' H5,Th 1 v (some (nI .i64 (RF x).length)) none H4=.val v' H5∧ZK H4 H5 []∧BV H5 v' (WP R)∧(∀b∈Wo v',b<H5.nx)∧(R≠[]-> ∀b∈Wo v',b<Hs.nx):=by
    have hdr:(WP (x::R)).drop (RF x).length=WP R:=by rw[Om,TT]
    cases R with
    |nil=>
     have hl0:WP [x]=RF x:=by rw[Om];exact Zo _
     rw[hl0] at mc
     obtain⟨v',H5,a1,a2,a3,a4⟩:=ZaQ mc (λh=>by rw[h] at hp;cases hp) .i64
     exact⟨v',H5,a1,a2,a3,a4,λh=>absurd rfl h⟩
    |cons x' R'=>
     have hx':=HT (hR x' (ZQ _ (ZE ..)))
     have hl2:(WP (x'::R')).length=(RF x').length+(WP R').length:=by rw[Om,Zk]
     obtain⟨v',a1,a2,a3⟩:=FU mc (n:=(RF x).length) (by omega) .i64
     rw[hdr] at a2
     exact⟨v',H4,a1 H4.nx H4.ro,ZK.refl _ _,a2,λb hb=>by rw[a3] at hb;have:=hb3 b hb;have:=k04.nx;omega,λ_ b hb=>hb3 b (by rw[<-a3];exact hb)⟩
   obtain⟨v',H5,sv,k5,bv5,hb5,hb6⟩:=sl
   simp(maxSteps:=4000000) (disch:=first|assumption|omega|(simp -implicitDefEqProofs only[Xh,Xi]<;>first|assumption|omega)|decide) only[t0,t4,ln,d1,e1,hH2,g2,g3,st,lb,lb3,sb,lw1,dR,sw,d2,ld,bs,ea,sv,Ol,SZ,ZZ,ZV,Wy,XI,YA,Yl,ZR,ZO,Zu,ZM,YL,Y9,YM,Y7,YQ,YB,ZP,Yc,Yd,YT,Nat.reduceSub,Nat.reduceAdd,Nat.reduceLeDiff,ZA,ZT,Nat.reduceEqDiff,decide_true,decide_false,Yt,Zd,Zb,XV,X1,YO,Yq,Yj,YK,YJ,ZX,Zn,Zo,Y0,Z0,Zb,Zd,YV,Zr,ZL,Rg,ZJ,Zs,ZC,Zt,ZF,Zq,Zy,Zl,ZH,Xs,XC,Xz,Xy,ZN,ZI,ZZ,ZV,ZB,ZG,Yw,Yy,Zu,ZM,ZO,ZR,Zb,Zd,Zr,ZL,ZJ,Yx,Yp,Yv,YG,Yg,Z8,I7,Z9,Xg,ZY,Yu,Z3,Z6,Yf,Nat.reduceEqDiff,reduceCtorEq,Xe]
   refine⟨_,_,_,rfl,.inl ⟨rfl,R.length,by rw[<-hm];exact YP _,k04.trans k5 (λ_ h _=>h),⟨v',R,rfl,bv5,rfl,λy hy=>hR y (ZQ _ hy),hb5,hb6,by omega⟩,w',ls++[(p,s)],rfl,?_,by rw[Zk];show ls.length+1+R.length=N;rw[<-hls,<-hm,Zl];omega⟩⟩
   rw[HX]
   exact w4.below (λc _ hc=>k5.get c hc (by simp)) k5.ro k5.nx
  ·have d2:decide (e≠0)=true:=Zi he0
   simp(maxSteps:=4000000) (disch:=first|assumption|omega|(simp -implicitDefEqProofs only[Xh,Xi]<;>first|assumption|omega)|decide) only[t0,t4,ln,d1,e1,hH2,g2,g3,st,lb,lb3,sb,lw1,dR,sw,d2,Ol,YA,Yl,ZR,ZO,Zu,ZM,YL,Y9,YM,Y7,YQ,YB,ZP,Yc,Yd,YT,Nat.reduceSub,Nat.reduceAdd,Nat.reduceLeDiff,ZA,ZT,Nat.reduceEqDiff,decide_true,decide_false,Yt,Zd,Zb,XV,X1,YO,Yq,Yj,YK,YJ,ZX,Zn,Zo,Y0,Z0,Zb,Zd,YV,Zr,ZL,Rg,ZJ,Zs,ZC,Zt,ZF,Zq,Zy,Zl,ZH,Xs,XC,Xz,Xy,ZN,ZI,ZZ,ZV,ZB,ZG,Yw,Yy,Zu,ZM,ZO,ZR,Zb,Zd,Zr,ZL,ZJ,Yx,Yp,Yv,YG,Yg,Z8,I7,Z9,Xg,ZY,Yu,Z3,Z6,Yf,Nat.reduceEqDiff,reduceCtorEq,Xe]
   refine⟨_,_,_,rfl,?_⟩
   exact .inr ⟨by simp,k0.trans k3 (λ_ h _=>h),.inl ⟨rfl,rfl,e,rfl,he0⟩⟩
theorem jX(E:Env Zx fs fuel){K:Nat}(hK:6<=K){v:AV}{Rs:List NP}(hro:H.ro<=H.nx)(bv:BV H v (WP Rs))(hb: ∀b∈Wo v,b<H.nx)(hR: ∀x∈Rs,P7 x)(hl:Rs.length<=1000)(hlen:(WP Rs).length<=16777216):
  ∃w e H',Z7 (LK Zx fs fuel K) fs fuel (n+4) 72 [v] H=.ret (.tup [w,nI .i64 e]) H'∧ZK H H' []∧(∀n,H'.nx<=n->WC n w=true)∧(∀n T,Um (.val w ⟨n,T,n⟩) w n=true)∧w.cells=[w]:=by
 rw[Z1 (ZU E.n72 (.inr rfl) _ _) E.f72]
 have hf:=E.big
 have ln:=bv.len
 have d1:decide (16777216<(WP Rs).length)=false:=Ze (by omega)
 simp(maxSteps:=4000000) (disch:=first|assumption|omega|(simp -implicitDefEqProofs only[Xh,Xi]<;>first|assumption|omega)|decide) only[ln,d1,YA,Yl,ZR,ZO,Zu,ZM,YL,Y9,YM,Y7,YQ,YB,ZP,Yc,Yd,YT,Nat.reduceSub,Nat.reduceAdd,Nat.reduceLeDiff,ZA,ZT,Nat.reduceEqDiff,decide_true,decide_false,Yt,Zd,Zb,XV,X1,YO,Yq,Yj,YK,YJ,ZX,Zn,Zo,Y0,Z0,Zb,Zd,YV,Zr,ZL,Rg,ZJ,Zs,ZC,Zt,ZF,Zq,Zy,Zl,ZH,Xs,XC,Xz,Xy,ZN,ZI,ZZ,ZV,ZB,ZG,Yw,Yy,Zu,ZM,ZO,ZR,Zb,Zd,Zr,ZL,ZJ,Yx,Yp,Yv,YG,Yg,Z8,c72,Z9,Xg,ZY,Yu,Z3,Z6,Yf,Nat.reduceEqDiff,reduceCtorEq,Xe]
 generalize hL:Ue (I7 _) fuel _ _ _=L
 obtain⟨o,Ny,H1,rfl,ho,k1,hq⟩:=XZ (P:=λT=>PGI H Rs.length Rs.length T H) (Q:=PGQ H)
  (λT hi=>We (PGI H Rs.length) (PGQ H) (λm tm H1 h=>cV E (n:=n) hK hl hro _ _ _ _ _ m tm H1 h) fuel Rs.length T H (by omega) hi) hL
  (by exact⟨ZK.refl _ _,⟨v,Rs,rfl,bv,rfl,hR,hb,λ_=>hb,by omega⟩,.nils,[],rfl,.inl ⟨rfl,rfl⟩,by simp⟩)
 rcases hq with⟨rfl,t2,e,t3,_⟩|⟨rfl,w,ls,t4,hw⟩
 ·simp only[Cl,FC] at t2 t3
  obtain⟨lw,sw,cw,bw⟩:=Tf (.inl ⟨rfl,rfl⟩:RP H1 .nils 71 2 [] H1.nx)
  simp(maxSteps:=4000000) (disch:=first|assumption|omega|(simp -implicitDefEqProofs only[Xh,Xi]<;>first|assumption|omega)|decide) only[t2,t3,YA,Yl,ZR,ZO,Zu,ZM,YL,Y9,YM,Y7,YQ,YB,ZP,Yc,Yd,YT,Nat.reduceSub,Nat.reduceAdd,Nat.reduceLeDiff,ZA,ZT,Nat.reduceEqDiff,decide_true,decide_false,Yt,Zd,Zb,XV,X1,YO,Yq,Yj,YK,YJ,ZX,Zn,Zo,Y0,Z0,Zb,Zd,YV,Zr,ZL,Rg,ZJ,Zs,ZC,Zt,ZF,Zq,Zy,Zl,ZH,Xs,XC,Xz,Xy,ZN,ZI,ZZ,ZV,ZB,ZG,Yw,Yy,Zu,ZM,ZO,ZR,Zb,Zd,Zr,ZL,ZJ,Yx,Yp,Yv,YG,Yg,Z8,c72,Z9,Xg,ZY,Yu,Z3,Z6,Yf,Nat.reduceEqDiff,reduceCtorEq,Xe]
  refine⟨_,_,_,rfl,?_⟩
  exact⟨k1,lw,sw,cw⟩
 ·simp only[PD] at t4
  obtain⟨lw,sw,cw,bw⟩:=Tf hw
  simp(maxSteps:=4000000) (disch:=first|assumption|omega|(simp -implicitDefEqProofs only[Xh,Xi]<;>first|assumption|omega)|decide) only[t4,YA,Yl,ZR,ZO,Zu,ZM,YL,Y9,YM,Y7,YQ,YB,ZP,Yc,Yd,YT,Nat.reduceSub,Nat.reduceAdd,Nat.reduceLeDiff,ZA,ZT,Nat.reduceEqDiff,decide_true,decide_false,Yt,Zd,Zb,XV,X1,YO,Yq,Yj,YK,YJ,ZX,Zn,Zo,Y0,Z0,Zb,Zd,YV,Zr,ZL,Rg,ZJ,Zs,ZC,Zt,ZF,Zq,Zy,Zl,ZH,Xs,XC,Xz,Xy,ZN,ZI,ZZ,ZV,ZB,ZG,Yw,Yy,Zu,ZM,ZO,ZR,Zb,Zd,Zr,ZL,ZJ,Yx,Yp,Yv,YG,Yg,Z8,c72,Z9,Xg,ZY,Yu,Z3,Z6,Yf,Nat.reduceEqDiff,reduceCtorEq,Xe]
  refine⟨_,_,_,rfl,?_⟩
  exact⟨k1,lw,sw,cw⟩
def kEs:List Sy:=[⟨nI .u8 0,nI .i64 2,0⟩,⟨nI .u8 48,nI .i64 2,0⟩,⟨nI .u8 50,nI .i64 3,0⟩,⟨nI .u8 53,nI .i64 1,0⟩,⟨nI .u8 54,nI .i64 4,0⟩]
structure MW(H:Heap):Prop where
 gH:TL H
 r: ∃r,H.t.get 1=some (.row r)∧0<r.size∧r.get 0=.map 13
 m:H.t.get 13=some (.cmap kEs)
theorem MW.keep{H H':Heap}{S:List Nat}(g:MW H)(k:ZK H H' S)(hS: ∀x∈S,100<=x):MW H':=by
 obtain⟨a,⟨r,c1,c2,c3⟩,d⟩:=g
 have kk:=λx (hx:x<100)=>k.get x (by have:=a.p.nx;omega) (λh=>by have:=hS x h;omega)
 exact⟨a.keep k hS,⟨r,by rw[kk _ (by decide)];exact c1,c2,c3⟩,by rw[kk _ (by decide)];exact d⟩
theorem MW.keep0{H H':Heap}(g:MW H)(k:ZK H H' []):MW H':=g.keep k (by simp)
structure XBk(B:List UInt8)(r:Nat):Prop where
 len:B.length=512
 nz: ∃j,j<512∧(B.getD j 0).toNat≠0
 chk: ∃N rest,(B.drop 148).take 8=Of 6 N++0::rest∧N<262144∧yL B N=0
 ty:(B.drop 156).take 1=[120]
 sz: ∃rest,(B.drop 124).take 12=Of 11 r++0::rest
theorem vk.moved{H H':Heap}{q:Nat}{l:List UInt8}{wt:Bool}{bv wv ov:AV}(h:vk H q l wt)(g:H.t.get q=some (rH 63 [bv,wv,.bool wt,ov])){w:AV}(hw:w.cells=[w])(k:ZK H H' [q])(g':H'.t.get q=some (rH 63 [bv,w,.bool true,ov])):vk H' q l true:=by
 obtain⟨⟨nM,wv',ov',h1,h2,h3,h4,h5⟩,h6,h7⟩:=h
 rw[g] at h1
 have e:=congrArg (λo=>match o with|some (.row r)=>W9 r 0 4|_=>[]) h1
 have e2:[bv,wv,.bool wt,ov]=[nM,wv',.bool wt,ov']:=e
 injection e2 with a1 e2
 injection e2 with a2 e2
 injection e2 with _ e2
 injection e2 with a3 _
 subst a1;subst a3
 refine⟨⟨bv,w,ov,g',h2.move k λb hb hm=>by have:=h3 b hb;have:=Zv.1 hm;omega,h3,hw,h5⟩,Yk h6 k.nx,by rw[k.ro];exact h7⟩
theorem fY(E:Env Zx fs fuel){K:Nat}(hK:6<=K){q:Nat}{B l t:List UInt8}{Rs:List NP}(gH:TL H)(g:vk H q l false)(hq:100<=q)(hB:HR H b B)(hX:XBk B (WP Rs).length)(hl:l=WP Rs++(List.replicate (UM (WP Rs).length) 0++t))(h0:0<(WP Rs).length)(h1:(WP Rs).length<=16777216)(ht:0<t.length)(hl2:l.length<=1000000000)(hR: ∀x∈Rs,P7 x)(hN:Rs.length<=1000):
  ∃H',(Z7 (LK Zx fs fuel K) fs fuel (n+6) 47 [.ptr q 0,.ptr b 0] H=.pan (eP 5) H'∧ZK H H' [q])∨(Z7 (LK Zx fs fuel K) fs fuel (n+6) 47 [.ptr q 0,.ptr b 0] H=.ret (.tup []) H'∧ZK H H' [q]∧vk H' q t true):=by
 rw[Z1 (ZU E.n47 (.inr rfl) _ _) E.f47]
 obtain⟨rest,hs⟩:=hX.sz
 have hll:l.length=(WP Rs).length+UM (WP Rs).length+t.length:=by rw[hl,Zk,Zk,Z5];omega
 have htk:l.take (WP Rs).length=WP Rs:=by rw[hl,SM]
 have hdr:l.drop ((WP Rs).length+UM (WP Rs).length)=t:=by
  have:l=(WP Rs++List.replicate (UM (WP Rs).length) 0)++t:=by rw[hl,Xd]
  rw[this,show(WP Rs).length+UM (WP Rs).length=(WP Rs++List.replicate (UM (WP Rs).length) (0:UInt8)).length by rw[Zk,Z5],TT]
 obtain⟨H1,e1,k1⟩:=gt E (K:=K) (n:=n) (k:=11) (u:=(WP Rs).length) gH hB vR hs (by decide) (by decide) (by omega) (by decide)
 have e2:=Zfy E (K:=K) (n:=n+3) (H:=H1) h1
 have g1:=g.keep k1
 obtain⟨⟨bv,wv,ov,r1,_⟩,qlt,qro⟩:=id g1
 have aV: ∀G,ld1 (some (rH 63 [bv,wv,.bool false,ov])) 2 G=.val (.bool false) G:=λG=>Un (show 2<4 by decide) ..
 have w1:=λ{H:Heap}=>OS E (k:=K) (n:=n+4) (H:=H) (e:=5)
 obtain⟨v,H2,e3,k2,IW,g2,hb2⟩:=qo E (k:=K) (n:=n+3) (by omega) g1 h0 h1 (by omega) hl2
 rw[htk] at IW
 rw[hdr] at g2
 obtain⟨⟨nM,wv',ov',r2,_,_,c2,c3⟩,Zi3,Zi4⟩:=id g2
 have lv:=λj (hj:H2.nx<=j)=>No IW (n:=j) (λb hb=>by have:=hb2 b hb;omega)
 have lv2:=lv H2.nx (Zz _)
 have sv:=O7 IW
 obtain⟨w,e,H3,e4,k3,lw,sw,cw⟩:=jX E (K:=K) (n:=n+1) hK (H:=H2) (v:=v) (Rs:=Rs) (by omega) IW (λb hb=>by have:=hb2 b hb;omega) hR hN h1
 have dR:=lw H3.nx (Zz _)
 have r3:H3.t.get q=some (rH 63 [nM,wv',.bool false,ov']):=by rw[k3.get q Zi3 (by simp)];exact r2
 have k03:ZK H H3 [q]:=(k1.more.trans k2 (λc hc _=>hc)).trans k3.more (λc hc _=>hc)
 by_cases he:e=0
 ·subst he
  have d1:decide ((0:Nat)=0)=true:=rfl
  obtain⟨H4,Kz⟩:=SK (H3.put q (rH 63 [nM,w,.bool false,ov']))
  obtain⟨H5,hH5⟩:=SK (H4.put q (rH 63 [nM,w,.bool true,ov']))
  have ro3:H3.ro<=q:=by rw[k3.ro];exact Zi4
  have s1:CC 1 (some (rH 63 [nM,wv',.bool false,ov'])) q 1 w H3=.val XL H4:=by
   rw[SE cw (show 1<4 by decide) ro3 (ZA _),<-Kz];rfl
  have g4:H4.t.get q=some (rH 63 [nM,w,.bool false,ov']):=by rw[<-Kz];exact Xv _ _ _
  have s2:CC 1 (some (rH 63 [nM,w,.bool false,ov'])) q 2 (.bool true) H4=.val XL H5:=by
   rw[SE rfl (show 2<4 by decide) (by rw[<-Kz];exact ro3) (ZA _),<-hH5];rfl
  have gL:ZK H3 H5 [q]:=by rw[<-hH5,<-Kz];exact(ZK.put λ_=>Zv.2 rfl).then_put λ_=>Zv.2 rfl
  simp(maxSteps:=4000000) (disch:=first|assumption|omega|(simp -implicitDefEqProofs only[Xh,Xi]<;>first|assumption|omega)|decide) only[e1,e2,r1,aV,w1,e3,lv2,sv,e4,dR,sw,d1,r3,s1,g4,s2,Uf,UD,YA,Yl,ZR,ZO,Zu,ZM,YL,Y9,YM,Y7,YQ,YB,ZP,Yc,Yd,YT,Nat.reduceSub,Nat.reduceAdd,Nat.reduceLeDiff,ZA,ZT,Nat.reduceEqDiff,decide_true,decide_false,Yt,Zd,Zb,XV,X1,YO,Yq,Yj,YK,YJ,ZX,Zn,Zo,Y0,Z0,Zb,Zd,YV,Zr,ZL,Rg,ZJ,Zs,ZC,Zt,ZF,Zq,Zy,Zl,ZH,Xs,XC,Xz,Xy,ZN,ZI,ZZ,ZV,ZB,ZG,Yw,Yy,Zu,ZM,ZO,ZR,Zb,Zd,Zr,ZL,ZJ,Yx,Yp,Yv,YG,Yg,Z8,c47,Z9,Xg,ZY,Yu,Z3,Z6,Yf,Nat.reduceEqDiff,reduceCtorEq,Xe,U4]
  refine⟨_,.inr ⟨rfl,k03.trans gL (λc hc _=>hc),(g2.keep k3).moved r3 cw gL (by rw[<-hH5];exact Xv _ _ _)⟩⟩
 ·have d1:decide (e=0)=false:=Ze he
  have w2:=vg E (k:=K) (n:=n+4) (H:=H3) (e:=5)
  simp(maxSteps:=4000000) (disch:=first|assumption|omega|(simp -implicitDefEqProofs only[Xh,Xi]<;>first|assumption|omega)|decide) only[e1,e2,r1,aV,w1,e3,lv2,sv,e4,dR,sw,d1,w2,Uf,UD,YA,Yl,ZR,ZO,Zu,ZM,YL,Y9,YM,Y7,YQ,YB,ZP,Yc,Yd,YT,Nat.reduceSub,Nat.reduceAdd,Nat.reduceLeDiff,ZA,ZT,Nat.reduceEqDiff,decide_true,decide_false,Yt,Zd,Zb,XV,X1,YO,Yq,Yj,YK,YJ,ZX,Zn,Zo,Y0,Z0,Zb,Zd,YV,Zr,ZL,Rg,ZJ,Zs,ZC,Zt,ZF,Zq,Zy,Zl,ZH,Xs,XC,Xz,Xy,ZN,ZI,ZZ,ZV,ZB,ZG,Yw,Yy,Zu,ZM,ZO,ZR,Zb,Zd,Zr,ZL,ZJ,Yx,Yp,Yv,YG,Yg,Z8,c47,Z9,Xg,ZY,Yu,Z3,Z6,Yf,Nat.reduceEqDiff,reduceCtorEq,Xe,U4]
  exact⟨_,.inl ⟨rfl,k03⟩⟩
end
end
end Go.AI
