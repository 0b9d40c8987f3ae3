/- Numbers read, and blocks: walked: proved without conditions but those that each names. -/
import Derived.Test.YtbmdhpdcgbgcnaaGreatDoorPU
import Derived.Test.YtbmdhpdcgbgcnaaGreatDoorPT
set_option maxRecDepth 1000000
set_option maxHeartbeats 0
set_option linter.unusedVariables false
set_option linter.unusedSimpArgs false
namespace Go.AI
open Go
noncomputable section
section
variable {Zx:Lib} {fs:T CF} {fuel k n i h b:Nat} {H H0:Heap} {s:List UInt8} {cs:List AV}
theorem Ih: ∀(k u i:Nat),i<k->(Of k u).getD i 0=OV (u/8^(k - 1 - i) % 8)
 |0,_,_,h=>by omega
 |k+1,u,i,h=>by
  show(Of k (u/8)++[OV (u % 8)]).getD i 0=_
  rw[PT,RE]
  by_cases hi:i<k
  ·rw[if_pos hi,Ih k (u/8) i hi,UR,show 8*8^(k - 1 - i)=8^(k+1 - 1 - i) by rw[show k+1 - 1 - i=(k - 1 - i)+1 by omega,VC,VB]]
  ·obtain rfl:i=k:=by omega
   rw[if_neg hi,VX,show i+1 - 1 - i=0 by omega,Nat.pow_zero,Qb];rfl
theorem Zi8{a:Nat}(h:a*8<9223372036854775808)(G:Heap):ZcO (nI .i64 a) (nI .u64 3) G=.val (nI .i64 (a*8)) G:=by
 show Ts .i64 (zi (.ofNat a) (.ofNat 8)) G=_
 rw[Vb,E8,OU h];rfl
theorem ZiO{a d:Nat}(hd:d<8)(h:a*8+d<9223372036854775808)(G:Heap):Ks Cp (nI .i64 (a*8)) (nI .i64 d) G=.val (nI .i64 (a*8+d)) G:=by
 show Yb (PR .i64 .i64) (Ts .i64 (.ofNat (Cp (UC .i64) (UK (UC .i64) (.ofNat (a*8))) (UK (UC .i64) (.ofNat d)))) G)=_
 have e:Cp (UC .i64) (UK (UC .i64) (.ofNat (a*8))) (UK (UC .i64) (.ofNat d))=a*8+d:=by
  show Nat.lor (a*8 % 18446744073709551616) (d % 18446744073709551616)=_
  rw[YH (by omega),YH (by omega)]
  have:=Nat.two_pow_add_eq_or_of_lt (b:=d) (i:=3) (by simpa using hd) a
  have e2:(2^3*a|||d)=a*8+d:=by rw[<-this];omega
  rw[show(2^3*a)=a*8 by omega] at e2
  exact e2
 rw[Wb,e,Vb,OU h];rfl
theorem Zfw(E:Env Zx fs fuel){v:AV}{l:List UInt8}{x:Nat}(hR:Rd H v l)(h0:0<l.length)(hx:(l.getD 0 0).toNat≠x):
  Z7 (LK Zx fs fuel k) fs fuel (n+1) 154 [v,nI .u8 x] H=.ret v H:=by
 rw[Z1 (ZU E.n154 (.inr rfl) _ _) E.f154]
 have hf:=E.big
 obtain⟨fu,rfl⟩: ∃fu,fuel=fu+1:=⟨fuel - 1,by omega⟩
 have ln:=hR.len
 obtain⟨b,o,r,eI,hb,gb,ld⟩:=hR.at_ 0 h0
 have ld': ∀G,ld1 (some (.row r)) o G=.val (nI .u8 (l.getD 0 0).toNat) G:=ld
 have d1:decide (0<l.length)=true:=Zi h0
 have d2:decide ((l.getD 0 0).toNat=x)=false:=Ze hx
 have d3:decide (l.length=0)=false:=Ze (by omega)
 simp(maxSteps:=4000000) (disch:=first|assumption|omega|(simp -implicitDefEqProofs only[Xh,Xi]<;>first|assumption|omega)|decide) only[ln,eI,gb,ld',d1,d2,d3,Pk,YA,Yl,ZR,ZO,Zu,ZM,YL,Y9,YM,Y7,YQ,YB,ZP,Yc,Yd,YT,Nat.reduceSub,Nat.reduceAdd,Nat.reduceLeDiff,ZA,ZT,Nat.reduceEqDiff,decide_true,decide_false,Yt,Zd,Zb,XV,X1,YO,Yq,Yj,YK,YJ,ZX,Zn,Zo,Y0,Z0,Zb,Zd,YV,Zr,ZL,Rg,ZJ,Zs,ZC,Zt,ZF,Zq,Zy,Zl,ZH,Xs,XC,Xz,Xy,ZN,ZI,ZZ,ZV,ZB,ZG,Yw,Yy,Zu,ZM,ZO,ZR,Zb,Zd,Zr,ZL,ZJ,Yx,Yp,Yv,YG,Yg,Z8,Za4,sy,Z9,Xg,ZY,Yu,Z3,Z6,Yf,Nat.reduceEqDiff,reduceCtorEq,Xe]
theorem Zfx(E:Env Zx fs fuel){v:AV}{l:List UInt8}(hR:Rd H v l)(h0:0<l.length)(hx:(l.getD 0 0).toNat≠32):
  Z7 (LK Zx fs fuel k) fs fuel (n+2) 127 [v,.str [32]] H=.ret v H:=by
 rw[Z1 (ZU E.n127 (.inr rfl) _ _) E.f127]
 have ln:=hR.len
 have d3:decide (l.length=0)=false:=Ze (by omega)
 have e1:=Zfw E (k:=k) (n:=n) hR h0 hx
 have wl:([32]:List UInt8).length=1:=rfl
 have w0:([32]:List UInt8).getD 0 0=32:=rfl
 have w1:(32:UInt8).toNat=32:=rfl
 have w2:decide (([32]:List UInt8)=[])=false:=rfl
 have w3:decide (32<128)=true:=rfl
 have w4:decide (1=1)=true:=rfl
 simp(maxSteps:=4000000) (disch:=first|assumption|omega|(simp -implicitDefEqProofs only[Xh,Xi]<;>first|assumption|omega)|decide) only[ln,d3,e1,wl,w0,w1,w2,w3,w4,YA,Yl,ZR,ZO,Zu,ZM,YL,Y9,YM,Y7,YQ,YB,ZP,Yc,Yd,YT,Nat.reduceSub,Nat.reduceAdd,Nat.reduceLeDiff,ZA,ZT,Nat.reduceEqDiff,decide_true,decide_false,Yt,Zd,Zb,XV,X1,YO,Yq,Yj,YK,YJ,ZX,Zn,Zo,Y0,Z0,Zb,Zd,YV,Zr,ZL,Rg,ZJ,Zs,ZC,Zt,ZF,Zq,Zy,Zl,ZH,Xs,XC,Xz,Xy,ZN,ZI,ZZ,ZV,ZB,ZG,Yw,Yy,Zu,ZM,ZO,ZR,Zb,Zd,Zr,ZL,ZJ,Yx,Yp,Yv,YG,Yg,Z8,ZaY,Z9,Xg,ZY,Yu,Z3,Z6,Yf,Nat.reduceEqDiff,reduceCtorEq,Xe,U4]
structure ODI(Hs:Heap)(v:AV)(ln k u:Nat)(m:Nat)(tm:TM)(H:Heap):Prop where
 h:H=Hs
 t9:WV tm=v
 t10:XD tm=nI .i64 ln
 i: ∃i,XQ tm=nI .i64 i∧i+m=k∧XY tm=nI .i64 (u/8^(k - i))
def ODQ(Hs:Heap)(u:Nat)(o:Out)(tm:TM)(H:Heap):Prop:=o=.ret∧H=Hs∧VE tm=nI .i64 u∧V5 tm=nI .i64 0
theorem cA{Hs:Heap}{v:AV}{l rest:List UInt8}{u:Nat}(hR:Rd Hs v l)(hl:l=Of k u++0::rest)(hk:k<=11)(hu:u<8589934592)(cx:Ctx)(X0:X)(m:Nat)(tm:TM)(H:Heap)(hI:ODI Hs v l.length k u m tm H):
  ∃o tm' H',Jy cx tm H X0=.ok o tm' H' X0∧((o=.normal∧ ∃j,j<m∧ODI Hs v l.length k u j tm' H')∨(o≠.normal∧ODQ Hs u o tm' H')):=by
 obtain⟨rfl,t9,t10,i,t11,him,t4⟩:=hI
 have t9':=t9;have np:=t10;have Jp:=t4
 simp only[PD,eJ,xh,lU] at t4 t9 t10 t11
 have hll:l.length=k+1+rest.length:=by rw[hl,Zk,RE];show k+(rest.length+1)=_;omega
 have d0:decide (i<l.length)=true:=Zi (by omega)
 obtain⟨b,o,r,eI,hb,gb,ld⟩:=hR.at_ i (by omega)
 cases m with
 |zero=>
  obtain rfl:i=k:=by omega
  have hb0:(l.getD i 0).toNat=0:=by
   rw[hl,PT,RE,if_neg (by omega),VX];rfl
  have ld': ∀G,ld1 (some (.row r)) o G=.val (nI .u8 0) G:=λG=>by
   have:=ld G
   rw[show Vf (l.getD i 0)=nI .u8 (l.getD i 0).toNat from rfl,hb0] at this;exact this
  have w1:decide (0=32)=false:=rfl
  have w2:decide (0=0)=true:=rfl
  simp(maxSteps:=4000000) (disch:=first|assumption|omega|(simp -implicitDefEqProofs only[Xh,Xi]<;>first|assumption|omega)|decide) only[t4,t9,t10,t11,d0,eI,gb,ld',w1,w2,YA,Yl,ZR,ZO,Zu,ZM,YL,Y9,YM,Y7,YQ,YB,ZP,Yc,Yd,YT,Nat.reduceSub,Nat.reduceAdd,Nat.reduceLeDiff,ZA,ZT,Nat.reduceEqDiff,decide_true,decide_false,Yt,Zd,Zb,XV,X1,YO,Yq,Yj,YK,YJ,ZX,Zn,Zo,Y0,Z0,Zb,Zd,YV,Zr,ZL,Rg,ZJ,Zs,ZC,Zt,ZF,Zq,Zy,Zl,ZH,Xs,XC,Xz,Xy,ZN,ZI,ZZ,ZV,ZB,ZG,Yw,Yy,Zu,ZM,ZO,ZR,Zb,Zd,Zr,ZL,ZJ,Yx,Yp,Yv,YG,Yg,Z8,Jy,Z9,Xg,ZY,Yu,Z3,Z6,Yf,Nat.reducePow,Nat.reduceDiv,Nat.reduceMod,Nat.reduceEqDiff,reduceCtorEq,Xe,U4]
  refine⟨_,_,_,rfl,.inr ⟨by simp,rfl,rfl,?_,rfl⟩⟩
  show nI .i64 (u/8^(i - i))=_
  rw[VX,Nat.pow_zero,Qb]
 |succ m=>
  obtain⟨d,hd⟩:=SK (u/8^(k - 1 - i) % 8)
  have hd8:d<8:=by rw[<-hd];exact X7 _ (by decide)
  have hbd:(l.getD i 0).toNat=48+d:=by
   rw[hl,PT,RE,if_pos (by omega),Ih _ _ _ (by omega),hd,Oa (by omega)]
  have ld': ∀G,ld1 (some (.row r)) o G=.val (nI .u8 (48+d)) G:=λG=>by
   have:=ld G
   rw[show Vf (l.getD i 0)=nI .u8 (l.getD i 0).toNat from rfl,hbd] at this;exact this
  obtain⟨q,hq⟩:=SK (u/8^(k - 1 - i))
  rw[hq] at hd
  have hqu:q<=u:=by rw[<-hq];exact SO _ _
  have ha:u/8^(k - i)=q/8:=by
   rw[show k - i=(k - 1 - i)+1 by omega,VC,<-UR,hq]
  rw[ha] at t4
  have w1:decide (48+d=32)=false:=Ze (by omega)
  have w2:decide (48+d=0)=false:=Ze (by omega)
  have w3:decide (48+d<48)=false:=Ze (by omega)
  have w4:decide (55<48+d)=false:=Ze (by omega)
  have e1:=λG:Heap=>Zi8 (a:=q/8) (by omega) G
  have e2: ∀G,O3 (nI .u8 (48+d)) (nI .u8 48) G=.val (nI .u8 d) G:=λG=>by rw[r8 (by omega) (by omega),XU]
  have e3:=λG:Heap=>UT (j:=.u8) (a:=d) (by omega) G
  have e4: ∀G,Ks Cp (nI .i64 (q/8*8)) (nI .i64 d) G=.val (nI .i64 q) G:=λG=>by
   rw[ZiO hd8 (by omega)]
   congr 2;omega
  have ad: ∀G,SG (nI .i64 i) (nI .i64 1) G=.val (nI .i64 (i+1)) G:=λG=>YB (by omega) G
  simp(maxSteps:=4000000) (disch:=first|assumption|omega|(simp -implicitDefEqProofs only[Xh,Xi]<;>first|assumption|omega)|decide) only[t4,t9,t10,t11,d0,eI,gb,ld',w1,w2,w3,w4,e1,e2,e3,e4,ad,xS,NR,YA,Yl,ZR,ZO,Zu,ZM,YL,Y9,YM,Y7,YQ,ZP,Yc,Yd,YT,Nat.reduceSub,Nat.reduceAdd,Nat.reduceLeDiff,ZA,ZT,Nat.reduceEqDiff,decide_true,decide_false,Yt,Zd,Zb,XV,X1,YO,Yq,Yj,YK,YJ,ZX,Zn,Zo,Y0,Z0,Zb,Zd,YV,Zr,ZL,Rg,ZJ,Zs,ZC,Zt,ZF,Zq,Zy,Zl,ZH,Xs,XC,Xz,Xy,ZN,ZI,ZZ,ZV,ZB,ZG,Yw,Yy,Zu,ZM,ZO,ZR,Zb,Zd,Zr,ZL,ZJ,Yx,Yp,Yv,YG,Yg,Z8,Jy,Z9,Xg,ZY,Yu,Z3,Z6,Yf,Nat.reducePow,Nat.reduceDiv,Nat.reduceMod,Nat.reduceEqDiff,reduceCtorEq,Xe,U4]
  refine⟨_,_,_,rfl,.inl ⟨rfl,m,by omega,rfl,t9',np,i+1,rfl,by omega,?_⟩⟩
  rw[show k - (i+1)=k - 1 - i by omega,hq];rfl
theorem jx(E:Env Zx fs fuel){K:Nat}{v:AV}{l rest:List UInt8}{u:Nat}(hR:Rd H v l)(hl:l=Of k u++0::rest)(hk1:1<=k)(hk:k<=11)(hu:u<8^k):
  Z7 (LK Zx fs fuel K) fs fuel (n+3) 100 [v] H=.ret (.tup [nI .i64 u,nI .i64 0]) H:=by
 rw[Z1 (ZU E.n100 (.inr rfl) _ _) E.f100]
 have hf:=E.big
 have ln:=hR.len
 have hu2:u<8589934592:=Yk hu (RU (by decide) hk)
 have h0:0<l.length:=by rw[hl,Zk];show 0<_+(rest.length+1);omega
 have hf0:(l.getD 0 0).toNat≠32:=by
  rw[hl,PT,RE,if_pos (by omega),Ih _ _ _ (by omega),Oa (by have:=X7 (u/8^(k - 1 - 0)) (show 0<8 by decide);omega)]
  omega
 have e1:=Zfx E (k:=K) (n:=n) hR h0 hf0
 simp(maxSteps:=4000000) (disch:=first|assumption|omega|(simp -implicitDefEqProofs only[Xh,Xi]<;>first|assumption|omega)|decide) only[ln,e1,YA,Yl,ZR,ZO,Zu,ZM,YL,Y9,YM,Y7,YQ,YB,ZP,Yc,Yd,YT,Nat.reduceSub,Nat.reduceAdd,Nat.reduceLeDiff,ZA,ZT,Nat.reduceEqDiff,decide_true,decide_false,Yt,Zd,Zb,XV,X1,YO,Yq,Yj,YK,YJ,ZX,Zn,Zo,Y0,Z0,Zb,Zd,YV,Zr,ZL,Rg,ZJ,Zs,ZC,Zt,ZF,Zq,Zy,Zl,ZH,Xs,XC,Xz,Xy,ZN,ZI,ZZ,ZV,ZB,ZG,Yw,Yy,Zu,ZM,ZO,ZR,Zb,Zd,Zr,ZL,ZJ,Yx,Yp,Yv,YG,Yg,Z8,fB,Z9,Xg,ZY,Yu,Z3,Z6,Yf,Nat.reduceEqDiff,reduceCtorEq,Xe,U4]
 generalize hL:Ue (Jy _) fuel _ _ _=L
 obtain⟨o,Ny,H1,rfl,_,rfl,h1,t2,t3⟩:=XZ (P:=λT=>ODI H v l.length k u k T H) (Q:=ODQ H u)
  (λT hi=>We (ODI H v l.length k u) (ODQ H u) (λm tm H2 h=>cA hR hl hk hu2 _ _ m tm H2 h) fuel k T H (by omega) hi) hL
  (by exact⟨rfl,rfl,rfl,0,rfl,by omega,by rw[Qq,Nat.div_eq_of_lt hu];rfl⟩)
 subst h1
 simp only[Cl,FC] at t2 t3
 simp(maxSteps:=4000000) (disch:=first|assumption|omega|(simp -implicitDefEqProofs only[Xh,Xi]<;>first|assumption|omega)|decide) only[t2,t3,YA,Yl,ZR,ZO,Zu,ZM,YL,Y9,YM,Y7,YQ,YB,ZP,Yc,Yd,YT,Nat.reduceSub,Nat.reduceAdd,Nat.reduceLeDiff,ZA,ZT,Nat.reduceEqDiff,decide_true,decide_false,Yt,Zd,Zb,XV,X1,YO,Yq,Yj,YK,YJ,ZX,Zn,Zo,Y0,Z0,Zb,Zd,YV,Zr,ZL,Rg,ZJ,Zs,ZC,Zt,ZF,Zq,Zy,Zl,ZH,Xs,XC,Xz,Xy,ZN,ZI,ZZ,ZV,ZB,ZG,Yw,Yy,Zu,ZM,ZO,ZR,Zb,Zd,Zr,ZL,ZJ,Yx,Yp,Yv,YG,Yg,Z8,fB,Z9,Xg,ZY,Yu,Z3,Z6,Yf,Nat.reduceEqDiff,reduceCtorEq,Xe,U4]
theorem jk(E:Env Zx fs fuel){K:Nat}{v:AV}{l rest:List UInt8}{u:Nat}(hR:Rd H v l)(hl:l=Of k u++0::rest)(hk1:1<=k)(hk:k<=11)(hu:u<8^k)(hlen:l.length<=20):
  Z7 (LK Zx fs fuel K) fs fuel (n+4) 69 [v] H=.ret (.tup [nI .i64 u,nI .i64 0]) H:=by
 rw[Z1 (ZU E.n69 (.inr rfl) _ _) E.f69]
 have ln:=hR.len
 have h0:0<l.length:=by rw[hl,Zk];show 0<_+(rest.length+1);omega
 obtain⟨b,o,r,eI,hb,gb,ld⟩:=hR.at_ 0 h0
 have ld': ∀G,ld1 (some (.row r)) o G=.val (nI .u8 (l.getD 0 0).toNat) G:=ld
 have hf0:(l.getD 0 0).toNat<128:=by
  rw[hl,PT,RE,if_pos (by omega),Ih _ _ _ (by omega),Oa (by have:=X7 (u/8^(k - 1 - 0)) (show 0<8 by decide);omega)]
  have:=X7 (u/8^(k - 1 - 0)) (show 0<8 by decide)
  omega
 have d1:decide (l.length<1)=false:=Ze (by omega)
 have d2:decide (20<l.length)=false:=Ze (by omega)
 have d3:decide (128<=(l.getD 0 0).toNat)=false:=Ze (by omega)
 have e1:=jx E (K:=K) (n:=n) hR hl hk1 hk hu
 simp(maxSteps:=4000000) (disch:=first|assumption|omega|(simp -implicitDefEqProofs only[Xh,Xi]<;>first|assumption|omega)|decide) only[ln,eI,gb,ld',d1,d2,d3,e1,YA,Yl,ZR,ZO,Zu,ZM,YL,Y9,YM,Y7,YQ,YB,ZP,Yc,Yd,YT,Nat.reduceSub,Nat.reduceAdd,Nat.reduceLeDiff,ZA,ZT,Nat.reduceEqDiff,decide_true,decide_false,Yt,Zd,Zb,XV,X1,YO,Yq,Yj,YK,YJ,ZX,Zn,Zo,Y0,Z0,Zb,Zd,YV,Zr,ZL,Rg,ZJ,Zs,ZC,Zt,ZF,Zq,Zy,Zl,ZH,Xs,XC,Xz,Xy,ZN,ZI,ZZ,ZV,ZB,ZG,Yw,Yy,Zu,ZM,ZO,ZR,Zb,Zd,Zr,ZL,ZJ,Yx,Yp,Yv,YG,Yg,Z8,c69,Z9,Xg,ZY,Yu,Z3,Z6,Yf,Nat.reduceEqDiff,reduceCtorEq,Xe]
theorem g9{p:UInt8->Bool}(h: ∀j,j<s.length->p (s.getD j 0)=false):s.any p=false:=by
 rw[List.any_eq_false]
 intro x hx
 obtain⟨i,hi,rfl⟩:=Rt.1 hx
 have:=h i hi
 rw[Zh,Zp hi] at this
 simpa using this
theorem yt{p:UInt8->Bool}(hi:i<s.length)(h:p (s.getD i 0)=true):s.any p=true:=by
 rw[List.any_eq_true]
 exact⟨_,Wz hi,by rw[Zh,Zp hi] at h;exact h⟩
theorem fQ(E:Env Zx fs fuel){x:UInt8}:
  ∃H',Z7 (LK Zx fs fuel 0) fs fuel (n+2) 68 [Vf x] H=.ret (.bool (!decide (x.toNat=0))) H'∧ZK H H' []:=by
 rw[Z1 (ZU E.n68 (.inl (by decide)) _ _) E.f68]
 have e1: ∀G,ND VU true (Vf x) (nI .u8 0) G=.val (.bool (!decide (x.toNat=0))) G:=λG=>by
  rw[show Vf x=nI .u8 x.toNat from rfl,Y9]
  cases hx:decide (x.toNat=0) with
  |true=>rw[Ze (λh=>h (Zm hx))];rfl
  |false=>rw[Zi (of_decide_eq_false hx)];rfl
 simp(maxSteps:=4000000) (disch:=first|assumption|omega|(simp -implicitDefEqProofs only[Xh,Xi]<;>first|assumption|omega)|decide) only[e1,YA,Yl,ZR,ZO,Zu,ZM,YL,Y9,YM,Y7,YQ,YB,ZP,Yc,Yd,YT,Nat.reduceSub,Nat.reduceAdd,Nat.reduceLeDiff,ZA,ZT,Nat.reduceEqDiff,decide_true,decide_false,Yt,Zd,Zb,XV,X1,YO,Yq,Yj,YK,YJ,ZX,Zn,Zo,Y0,Z0,Zb,Zd,YV,Zr,ZL,Rg,ZJ,Zs,ZC,Zt,ZF,Zq,Zy,Zl,ZH,Xs,XC,Xz,Xy,ZN,ZI,ZZ,ZV,ZB,ZG,Yw,Yy,Zu,ZM,ZO,ZR,Zb,Zd,Zr,ZL,ZJ,Yx,Yp,Yv,YG,Yg,Z8,c68,Z9,Xg,ZY,Yu,Z3,Z6,Yf,Nat.reduceEqDiff,reduceCtorEq,Xe]
 refine⟨_,rfl,?_⟩
 exact ZK.refl _ _
theorem ck1(E:Env Zx fs fuel)(hk:1<=k){x:UInt8}:
  Z7 (LK Zx fs fuel k) fs fuel (n+1) 68 [Vf x] H=.ret (.bool (!decide (x.toNat=0))) H:=by
 obtain⟨H',e,g⟩:=fQ E (n:=898) (H:=H)
 exact Xc (r:=0) rfl rfl e g (rfl) hk
structure IBI(v:AV)(l:List UInt8)(H0:Heap)(m:Nat)(tm:TM)(H:Heap):Prop where
 heap:H=H0
 t0:YX tm=v
 t1:Wj tm=.func 68 [] []
 t7:Wt tm=nI .i64 l.length
 i: ∃i,Wi tm=nI .i64 i∧i+m=l.length∧ ∀j,j<i->(l.getD j 0).toNat=0
def IBQ(l:List UInt8)(H0:Heap)(o:Out)(tm:TM)(H:Heap):Prop:=H=H0∧((o=.ret∧ ∃p,XY tm=nI .i64 p∧l.any (λc=>!decide (c.toNat=0))=true)∨(o=.exit 0∧l.any (λc=>!decide (c.toNat=0))=false))
theorem dg(E:Env Zx fs fuel)(hk:1<=k){v:AV}{l:List UInt8}(hl:l.length<=90000)(hN:Rd H0 v l)(y f dd q)(X0:X)(m:Nat)(tm:TM)(H:Heap)(hI:IBI v l H0 m tm H):
  ∃o tm' H',Hf ⟨Z7 (LK Zx fs fuel k) fs fuel (n+1),y,f,dd,q⟩ tm H X0=.ok o tm' H' X0∧((o=.normal∧ ∃k,k<m∧IBI v l H0 k tm' H')∨(o≠.normal∧IBQ l H0 o tm' H')):=by
 obtain⟨rfl,t0,t1,t7,i,t8,him,hn⟩:=hI
 have t0':=t0;have t1':=t1;have CH:=t7
 simp only[Mc,E2,A9,qY] at t0 t1 t7 t8
 cases m with
 |zero=>
  have d1:decide (i<l.length)=false:=Ze (by omega)
  simp(maxSteps:=4000000) (disch:=first|assumption|omega|(simp -implicitDefEqProofs only[Xh,Xi]<;>first|assumption|omega)|decide) only[t7,t8,d1,YA,Yl,ZR,ZO,Zu,ZM,YL,Y9,YM,Y7,YQ,YB,ZP,Yc,Yd,YT,Nat.reduceSub,Nat.reduceAdd,Nat.reduceLeDiff,ZA,ZT,Nat.reduceEqDiff,decide_true,decide_false,Yt,Zd,Zb,XV,X1,YO,Yq,Yj,YK,YJ,ZX,Zn,Zo,Y0,Z0,Zb,Zd,YV,Zr,ZL,Rg,ZJ,Zs,ZC,Zt,ZF,Zq,Zy,Zl,ZH,Xs,XC,Xz,Xy,ZN,ZI,ZZ,ZV,ZB,ZG,Yw,Yy,Zu,ZM,ZO,ZR,Zb,Zd,Zr,ZL,ZJ,Yx,Yp,Yv,YG,Yg,Z8,ZX,Zn,Zo,YV,Hf,Z9,Xg,ZY,Yu,Z3,Z6,Yf,Nat.reduceEqDiff,reduceCtorEq,Xe]
  refine⟨_,_,_,rfl,?_⟩
  exact .inr ⟨by simp,rfl,.inr ⟨rfl,g9 λj hj=>by rw[Zi (hn j (by omega))];rfl⟩⟩
 |succ m=>
  have d1:decide (i<l.length)=true:=Zi (by omega)
  have hi:i<l.length:=by omega
  obtain⟨b,o,r,eI,hb,gb,e0⟩:=hN.at_ i hi
  have e1:=λ{j}=>ck1 (Zx:=Zx) (fs:=fs) (fuel:=fuel) E (k:=k) (n:=j) hk (H:=H) (x:=l.getD i 0)
  cases hm:decide ((l.getD i 0).toNat=0) with
  |true=>
   rw[hm] at e1
   simp(maxSteps:=4000000) (disch:=first|assumption|omega|(simp -implicitDefEqProofs only[Xh,Xi]<;>first|assumption|omega)|decide) only[t0,t1,t7,t8,d1,eI,gb,e0,e1,YA,Yl,ZR,ZO,Zu,ZM,YL,Y9,YM,Y7,YQ,YB,ZP,Yc,Yd,YT,Nat.reduceSub,Nat.reduceAdd,Nat.reduceLeDiff,ZA,ZT,Nat.reduceEqDiff,decide_true,decide_false,Yt,Zd,Zb,XV,X1,YO,Yq,Yj,YK,YJ,ZX,Zn,Zo,Y0,Z0,Zb,Zd,YV,Zr,ZL,Rg,ZJ,Zs,ZC,Zt,ZF,Zq,Zy,Zl,ZH,Xs,XC,Xz,Xy,ZN,ZI,ZZ,ZV,ZB,ZG,Yw,Yy,Zu,ZM,ZO,ZR,Zb,Zd,Zr,ZL,ZJ,Yx,Yp,Yv,YG,Yg,Z8,ZX,Zn,Zo,YV,Hf,Z9,Xg,ZY,Yu,Z3,Z6,Yf,Nat.reduceEqDiff,reduceCtorEq,Xe]
   refine⟨_,_,_,rfl,.inl ⟨rfl,m,by omega,rfl,t0',t1',CH,i+1,rfl,by omega,λj hj=>?_⟩⟩
   by_cases h:j=i
   ·rw[h];exact Zm hm
   ·exact hn j (by omega)
  |false=>
   rw[hm] at e1
   simp(maxSteps:=4000000) (disch:=first|assumption|omega|(simp -implicitDefEqProofs only[Xh,Xi]<;>first|assumption|omega)|decide) only[t0,t1,t7,t8,d1,eI,gb,e0,e1,YA,Yl,ZR,ZO,Zu,ZM,YL,Y9,YM,Y7,YQ,YB,ZP,Yc,Yd,YT,Nat.reduceSub,Nat.reduceAdd,Nat.reduceLeDiff,ZA,ZT,Nat.reduceEqDiff,decide_true,decide_false,Yt,Zd,Zb,XV,X1,YO,Yq,Yj,YK,YJ,ZX,Zn,Zo,Y0,Z0,Zb,Zd,YV,Zr,ZL,Rg,ZJ,Zs,ZC,Zt,ZF,Zq,Zy,Zl,ZH,Xs,XC,Xz,Xy,ZN,ZI,ZZ,ZV,ZB,ZG,Yw,Yy,Zu,ZM,ZO,ZR,Zb,Zd,Zr,ZL,ZJ,Yx,Yp,Yv,YG,Yg,Z8,ZX,Zn,Zo,YV,Hf,Z9,Xg,ZY,Yu,Z3,Z6,Yf,Nat.reduceEqDiff,reduceCtorEq,Xe]
   refine⟨_,_,_,rfl,?_⟩
   exact .inr ⟨by simp,rfl,.inl ⟨rfl,i,rfl,yt hi (by rw[hm];rfl)⟩⟩
theorem Zir(E:Env Zx fs fuel)(hk:1<=k){v:AV}{l:List UInt8}(hl:l.length<=90000)(hN:Rd H v l):
  ∃w,Z7 (LK Zx fs fuel k) fs fuel (n+2) 98 [v,.func 68 [] []] H=.ret w H∧((l.any (λc=>!decide (c.toNat=0))=true∧ ∃p,w=nI .i64 p)∨(l.any (λc=>!decide (c.toNat=0))=false∧w=.int .i64 (.negSucc 0))):=by
 rw[Z1 (ZU E.n98 (.inr rfl) _ _) E.f98]
 have hf:=E.big
 have ln:=hN.len
 simp(maxSteps:=4000000) (disch:=first|assumption|omega|(simp -implicitDefEqProofs only[Xh,Xi]<;>first|assumption|omega)|decide) only[ln,YA,Yl,ZR,ZO,Zu,ZM,YL,Y9,YM,Y7,YQ,YB,ZP,Yc,Yd,YT,Nat.reduceSub,Nat.reduceAdd,Nat.reduceLeDiff,ZA,ZT,Nat.reduceEqDiff,decide_true,decide_false,Yt,Zd,Zb,XV,X1,YO,Yq,Yj,YK,YJ,ZX,Zn,Zo,Y0,Z0,Zb,Zd,YV,Zr,ZL,Rg,ZJ,Zs,ZC,Zt,ZF,Zq,Zy,Zl,ZH,Xs,XC,Xz,Xy,ZN,ZI,ZZ,ZV,ZB,ZG,Yw,Yy,Zu,ZM,ZO,ZR,Zb,Zd,Zr,ZL,ZJ,Yx,Yp,Yv,YG,Yg,Z8,ZX,Zn,Zo,YV,c98,Z9,Xg,ZY,Yu,Z3,Z6,Yf,Nat.reduceEqDiff,reduceCtorEq,Xe]
 generalize hL:Ue (Hf _) fuel _ _ _=L
 obtain⟨o,Ny,H2,rfl,_,rfl,z⟩:=XZ (P:=λT=>IBI v l H l.length T H) (Q:=IBQ l H)
  (λT hi=>We (IBI v l H) (IBQ l H) (λm tm H2 h=>dg E hk hl hN _ _ _ _ _ m tm H2 h) fuel l.length T H (by omega) hi) hL
  (by exact⟨rfl,rfl,rfl,rfl,0,rfl,by omega,λj hj=>by omega⟩)
 rcases z with⟨rfl,p,t4,e⟩|⟨rfl,e⟩
 ·simp only[PD] at t4
  simp(maxSteps:=4000000) (disch:=first|assumption|omega|(simp -implicitDefEqProofs only[Xh,Xi]<;>first|assumption|omega)|decide) only[t4,YA,Yl,ZR,ZO,Zu,ZM,YL,Y9,YM,Y7,YQ,YB,ZP,Yc,Yd,YT,Nat.reduceSub,Nat.reduceAdd,Nat.reduceLeDiff,ZA,ZT,Nat.reduceEqDiff,decide_true,decide_false,Yt,Zd,Zb,XV,X1,YO,Yq,Yj,YK,YJ,ZX,Zn,Zo,Y0,Z0,Zb,Zd,YV,Zr,ZL,Rg,ZJ,Zs,ZC,Zt,ZF,Zq,Zy,Zl,ZH,Xs,XC,Xz,Xy,ZN,ZI,ZZ,ZV,ZB,ZG,Yw,Yy,Zu,ZM,ZO,ZR,Zb,Zd,Zr,ZL,ZJ,Yx,Yp,Yv,YG,Yg,Z8,ZX,Zn,Zo,YV,c98,Z9,Xg,ZY,Yu,Z3,Z6,Yf,Nat.reduceEqDiff,reduceCtorEq,Xe]
  refine⟨_,rfl,?_⟩
  exact .inl ⟨e,p,rfl⟩
 ·
  simp(maxSteps:=4000000) (disch:=first|assumption|omega|(simp -implicitDefEqProofs only[Xh,Xi]<;>first|assumption|omega)|decide) only[YA,Yl,ZR,ZO,Zu,ZM,YL,Y9,YM,Y7,YQ,YB,ZP,Yc,Yd,YT,Nat.reduceSub,Nat.reduceAdd,Nat.reduceLeDiff,ZA,ZT,Nat.reduceEqDiff,decide_true,decide_false,Yt,Zd,Zb,XV,X1,YO,Yq,Yj,YK,YJ,ZX,Zn,Zo,Y0,Z0,Zb,Zd,YV,Zr,ZL,Rg,ZJ,Zs,ZC,Zt,ZF,Zq,Zy,Zl,ZH,Xs,XC,Xz,Xy,ZN,ZI,ZZ,ZV,ZB,ZG,Yw,Yy,Zu,ZM,ZO,ZR,Zb,Zd,Zr,ZL,ZJ,Yx,Yp,Yv,YG,Yg,Z8,ZX,Zn,Zo,YV,c98,Z9,Xg,ZY,Yu,Z3,Z6,Yf,Nat.reduceEqDiff,reduceCtorEq,Xe]
  refine⟨_,rfl,?_⟩
  exact .inr ⟨e,rfl⟩
theorem Zhw(E:Env Zx fs fuel)(hk:1<=k){v:AV}{l:List UInt8}(hl:l.length<=90000)(hN:Rd H v l):
  Z7 (LK Zx fs fuel k) fs fuel (n+3) 67 [v,.func 68 [] []] H=.ret (.bool (l.any (λc=>!decide (c.toNat=0)))) H:=by
 rw[Z1 (ZU E.n67 (.inr rfl) _ _) E.f67]
 obtain⟨w,e1,h⟩:=Zir E (n:=n) hk hl hN
 rcases h with⟨h,p,rfl⟩|⟨h,rfl⟩
 ·rw[h]
  simp(maxSteps:=4000000) (disch:=first|assumption|omega|(simp -implicitDefEqProofs only[Xh,Xi]<;>first|assumption|omega)|decide) only[e1,YA,Yl,ZR,ZO,Zu,ZM,YL,Y9,YM,Y7,YQ,YB,ZP,Yc,Yd,YT,Nat.reduceSub,Nat.reduceAdd,Nat.reduceLeDiff,ZA,ZT,Nat.reduceEqDiff,decide_true,decide_false,Yt,Zd,Zb,XV,X1,YO,Yq,Yj,YK,YJ,ZX,Zn,Zo,Y0,Z0,Zb,Zd,YV,Zr,ZL,Rg,ZJ,Zs,ZC,Zt,ZF,Zq,Zy,Zl,ZH,Xs,XC,Xz,Xy,ZN,ZI,ZZ,ZV,ZB,ZG,Yw,Yy,Zu,ZM,ZO,ZR,Zb,Zd,Zr,ZL,ZJ,Yx,Yp,Yv,YG,Yg,Z8,ZX,Zn,Zo,YV,c67,Z9,Xg,ZY,Yu,Z3,Z6,Yf,Nat.reduceEqDiff,reduceCtorEq,Xe]
 ·rw[h]
  simp(maxSteps:=4000000) (disch:=first|assumption|omega|(simp -implicitDefEqProofs only[Xh,Xi]<;>first|assumption|omega)|decide) only[e1,YA,Yl,ZR,ZO,Zu,ZM,YL,Y9,YM,Y7,YQ,YB,ZP,Yc,Yd,YT,Nat.reduceSub,Nat.reduceAdd,Nat.reduceLeDiff,ZA,ZT,Nat.reduceEqDiff,decide_true,decide_false,Yt,Zd,Zb,XV,X1,YO,Yq,Yj,YK,YJ,ZX,Zn,Zo,Y0,Z0,Zb,Zd,YV,Zr,ZL,Rg,ZJ,Zs,ZC,Zt,ZF,Zq,Zy,Zl,ZH,Xs,XC,Xz,Xy,ZN,ZI,ZZ,ZV,ZB,ZG,Yw,Yy,Zu,ZM,ZO,ZR,Zb,Zd,Zr,ZL,ZJ,Yx,Yp,Yv,YG,Yg,Z8,ZX,Zn,Zo,YV,c67,Z9,Xg,ZY,Yu,Z3,Z6,Yf,Nat.reduceEqDiff,reduceCtorEq,Xe]
theorem qf(E:Env Zx fs fuel)(hk:1<=k){l:List UInt8}(g:HR H b l){j:Nat}(hj:j<512)(h0:(l.getD j 0).toNat≠0):
  Z7 (LK Zx fs fuel k) fs fuel (n+4) 44 [.ptr b 0] H=.ret (.bool false) H:=by
 rw[Z1 (ZU E.n44 (.inr rfl) _ _) E.f44]
 have hl:=g.len
 have bv:=KR g (a:=0) (n:=512) (by decide) (by decide)
 rw[ZC,Y1 (by omega)] at bv
 have e1:=Zhw E (k:=k) (n:=n) hk (H:=H) (l:=l) (by omega) (Rd.of_bv bv)
 rw[yt (i:=j) (by omega) (by rw[Ze h0];rfl)] at e1
 have eqp: ∀(o:Nat) G,ND yS true (.ptr b o) .nilp G=.val (.bool true) G:=λ_ _=>rfl
 have sa: ∀(b:Nat) G,OM 512 1 (.ptr b 0) none none G=.val (.slice b 0 512 (some 512)) G:=λ_ _=>rfl
 simp(maxSteps:=4000000) (disch:=first|assumption|omega|(simp -implicitDefEqProofs only[Xh,Xi]<;>first|assumption|omega)|decide) only[eqp,sa,e1,Po,Uf,UD,Wy,ZN,YA,Yl,ZR,ZO,Zu,ZM,YL,Y9,YM,Y7,YQ,YB,ZP,Yc,Yd,YT,Nat.reduceSub,Nat.reduceAdd,Nat.reduceLeDiff,ZA,ZT,Nat.reduceEqDiff,decide_true,decide_false,Yt,Zd,Zb,XV,X1,YO,Yq,Yj,YK,YJ,ZX,Zn,Zo,Y0,Z0,Zb,Zd,YV,Zr,ZL,Rg,ZJ,Zs,ZC,Zt,ZF,Zq,Zy,Zl,ZH,Xs,XC,Xz,Xy,ZN,ZI,ZZ,ZV,ZB,ZG,Yw,Yy,Zu,ZM,ZO,ZR,Zb,Zd,Zr,ZL,ZJ,Yx,Yp,Yv,YG,Yg,Z8,c44,Z9,Xg,ZY,Yu,Z3,Z6,Yf,Nat.reduceEqDiff,reduceCtorEq,Xe]
theorem sx{v:AV}{l:List UInt8}(h:BV H v l):tH v H=.val (.str l) H:=by
 rcases h with⟨rfl,rfl|⟨b,o,c,rfl⟩⟩|⟨_,b,o,c,r,rfl,hB,_⟩
 ·rfl
 ·rfl
 ·exact IN hB.at_ rfl hB.fits λi hi=>hB.get i hi
def tP:List UInt8:=[117,115,116,97,114,0]
def gA:List UInt8:=[117,115,116,97,114,32]
def yL(l:List UInt8)(N:Nat):Nat:=if (l.drop 257).take 6=tP∨(l.drop 257).take 6=gA then(if N=TW l then 0 else 21) else 5
theorem C1(E:Env Zx fs fuel){N:Nat}{l rest:List UInt8}(gH:TL H)(g:HR H b l)(hc:(l.drop 148).take 8=Of 6 N++0::rest)(hN:N<262144):
  ∃H',Z7 (LK Zx fs fuel k) fs fuel (n+5) 46 [.ptr b 0] H=.ret (nI .i64 (yL l N)) H'∧ZK H H' []:=by
 rw[Z1 (ZU E.n46 (.inr rfl) _ _) E.f46]
 have hb:=g.lt;have hl:=g.len
 obtain⟨H1,e1,k1⟩:=Im E (k:=k) (n:=n+3) gH EH hb
 have g1:=g.keep0 k1
 have yD:=KR g1 (a:=148) (n:=8) (by decide) (by decide)
 have e2:=jk E (K:=k) (n:=n) (H:=H1) (k:=6) (u:=N) (Rd.of_bv yD) hc (by decide) (by decide) (by simpa using hN) (by rw[Z2];omega)
 obtain⟨H2,e3,k2⟩:=Im E (k:=k) (n:=n+3) (gH.keep0 k1) sG g1.lt
 have g2:=g1.keep0 k2
 have s3:=sx (KR g2 (a:=257) (n:=6) (by decide) (by decide))
 have eqp: ∀(o:Nat) G,ND yS false (.ptr b o) .nilp G=.val (.bool false) G:=λ_ _=>rfl
 have kk:=k1.trans' k2
 obtain⟨H3,e4,k3⟩:=yC E (k:=k) (n:=n) (gH.keep0 kk) g2
 have z0: ∀G,ND VU true (nI .i64 0) (nI .i64 0) G=.val (.bool false) G:=λ_=>rfl
 generalize hm:(l.drop 257).take 6=mg at*
 unfold yL
 rw[hm]
 unfold tP gA
 by_cases h1:mg=[117,115,116,97,114,0]
 ·have d1:decide (mg=[117,115,116,97,114,0])=true:=Zi h1
  have d1n:decide (¬mg=[117,115,116,97,114,0])=false:=Ze λh=>h h1
  rw[if_pos (.inl h1)]
  by_cases h3:N=TW l
  ·have d3:decide (¬N=TW l)=false:=Ze λh=>h h3
   rw[if_pos h3]
   simp(maxSteps:=4000000) (disch:=first|assumption|omega|(simp -implicitDefEqProofs only[Xh,Xi]<;>first|assumption|omega)|decide) only[e1,e2,e3,s3,eqp,e4,z0,d1,d1n,d3,QH,YA,Yl,ZR,ZO,Zu,ZM,YL,Y9,YM,Y7,YQ,YB,ZP,Yc,Yd,YT,Nat.reduceSub,Nat.reduceAdd,Nat.reduceLeDiff,ZA,ZT,Nat.reduceEqDiff,decide_true,decide_false,Yt,Zd,Zb,XV,X1,YO,Yq,Yj,YK,YJ,ZX,Zn,Zo,Y0,Z0,Zb,Zd,YV,Zr,ZL,Rg,ZJ,Zs,ZC,Zt,ZF,Zq,Zy,Zl,ZH,Xs,XC,Xz,Xy,ZN,ZI,ZZ,ZV,ZB,ZG,Yw,Yy,Zu,ZM,ZO,ZR,Zb,Zd,Zr,ZL,ZJ,Yx,Yp,Yv,YG,Yg,Z8,c46,Z9,Xg,ZY,Yu,Z3,Z6,Yf,Nat.reduceEqDiff,reduceCtorEq,Xe,U4]
   refine⟨_,rfl,?_⟩
   exact kk.trans' k3
  ·have d3:decide (¬N=TW l)=true:=Zi h3
   rw[if_neg h3]
   simp(maxSteps:=4000000) (disch:=first|assumption|omega|(simp -implicitDefEqProofs only[Xh,Xi]<;>first|assumption|omega)|decide) only[e1,e2,e3,s3,eqp,e4,z0,d1,d1n,d3,QH,YA,Yl,ZR,ZO,Zu,ZM,YL,Y9,YM,Y7,YQ,YB,ZP,Yc,Yd,YT,Nat.reduceSub,Nat.reduceAdd,Nat.reduceLeDiff,ZA,ZT,Nat.reduceEqDiff,decide_true,decide_false,Yt,Zd,Zb,XV,X1,YO,Yq,Yj,YK,YJ,ZX,Zn,Zo,Y0,Z0,Zb,Zd,YV,Zr,ZL,Rg,ZJ,Zs,ZC,Zt,ZF,Zq,Zy,Zl,ZH,Xs,XC,Xz,Xy,ZN,ZI,ZZ,ZV,ZB,ZG,Yw,Yy,Zu,ZM,ZO,ZR,Zb,Zd,Zr,ZL,ZJ,Yx,Yp,Yv,YG,Yg,Z8,c46,Z9,Xg,ZY,Yu,Z3,Z6,Yf,Nat.reduceEqDiff,reduceCtorEq,Xe,U4]
   refine⟨_,rfl,?_⟩
   exact kk.trans' k3
 ·have d1:decide (mg=[117,115,116,97,114,0])=false:=Ze h1
  have d1n:decide (¬mg=[117,115,116,97,114,0])=true:=Zi h1
  by_cases h2:mg=[117,115,116,97,114,32]
  ·have d2:decide (mg=[117,115,116,97,114,32])=true:=Zi h2
   have d2n:decide (¬mg=[117,115,116,97,114,32])=false:=Ze λh=>h h2
   rw[if_pos (.inr h2)]
   by_cases h3:N=TW l
   ·have d3:decide (¬N=TW l)=false:=Ze λh=>h h3
    rw[if_pos h3]
    simp(maxSteps:=4000000) (disch:=first|assumption|omega|(simp -implicitDefEqProofs only[Xh,Xi]<;>first|assumption|omega)|decide) only[e1,e2,e3,s3,eqp,e4,z0,d1,d1n,d2,d2n,d3,QH,YA,Yl,ZR,ZO,Zu,ZM,YL,Y9,YM,Y7,YQ,YB,ZP,Yc,Yd,YT,Nat.reduceSub,Nat.reduceAdd,Nat.reduceLeDiff,ZA,ZT,Nat.reduceEqDiff,decide_true,decide_false,Yt,Zd,Zb,XV,X1,YO,Yq,Yj,YK,YJ,ZX,Zn,Zo,Y0,Z0,Zb,Zd,YV,Zr,ZL,Rg,ZJ,Zs,ZC,Zt,ZF,Zq,Zy,Zl,ZH,Xs,XC,Xz,Xy,ZN,ZI,ZZ,ZV,ZB,ZG,Yw,Yy,Zu,ZM,ZO,ZR,Zb,Zd,Zr,ZL,ZJ,Yx,Yp,Yv,YG,Yg,Z8,c46,Z9,Xg,ZY,Yu,Z3,Z6,Yf,Nat.reduceEqDiff,reduceCtorEq,Xe,U4]
    refine⟨_,rfl,?_⟩
    exact kk.trans' k3
   ·have d3:decide (¬N=TW l)=true:=Zi h3
    rw[if_neg h3]
    simp(maxSteps:=4000000) (disch:=first|assumption|omega|(simp -implicitDefEqProofs only[Xh,Xi]<;>first|assumption|omega)|decide) only[e1,e2,e3,s3,eqp,e4,z0,d1,d1n,d2,d2n,d3,QH,YA,Yl,ZR,ZO,Zu,ZM,YL,Y9,YM,Y7,YQ,YB,ZP,Yc,Yd,YT,Nat.reduceSub,Nat.reduceAdd,Nat.reduceLeDiff,ZA,ZT,Nat.reduceEqDiff,decide_true,decide_false,Yt,Zd,Zb,XV,X1,YO,Yq,Yj,YK,YJ,ZX,Zn,Zo,Y0,Z0,Zb,Zd,YV,Zr,ZL,Rg,ZJ,Zs,ZC,Zt,ZF,Zq,Zy,Zl,ZH,Xs,XC,Xz,Xy,ZN,ZI,ZZ,ZV,ZB,ZG,Yw,Yy,Zu,ZM,ZO,ZR,Zb,Zd,Zr,ZL,ZJ,Yx,Yp,Yv,YG,Yg,Z8,c46,Z9,Xg,ZY,Yu,Z3,Z6,Yf,Nat.reduceEqDiff,reduceCtorEq,Xe,U4]
    refine⟨_,rfl,?_⟩
    exact kk.trans' k3
  ·have d2:decide (mg=[117,115,116,97,114,32])=false:=Ze h2
   have d2n:decide (¬mg=[117,115,116,97,114,32])=true:=Zi h2
   rw[if_neg (λh=>h.elim h1 h2)]
   simp(maxSteps:=4000000) (disch:=first|assumption|omega|(simp -implicitDefEqProofs only[Xh,Xi]<;>first|assumption|omega)|decide) only[e1,e2,e3,s3,eqp,e4,z0,d1,d1n,d2,d2n,QH,YA,Yl,ZR,ZO,Zu,ZM,YL,Y9,YM,Y7,YQ,YB,ZP,Yc,Yd,YT,Nat.reduceSub,Nat.reduceAdd,Nat.reduceLeDiff,ZA,ZT,Nat.reduceEqDiff,decide_true,decide_false,Yt,Zd,Zb,XV,X1,YO,Yq,Yj,YK,YJ,ZX,Zn,Zo,Y0,Z0,Zb,Zd,YV,Zr,ZL,Rg,ZJ,Zs,ZC,Zt,ZF,Zq,Zy,Zl,ZH,Xs,XC,Xz,Xy,ZN,ZI,ZZ,ZV,ZB,ZG,Yw,Yy,Zu,ZM,ZO,ZR,Zb,Zd,Zr,ZL,ZJ,Yx,Yp,Yv,YG,Yg,Z8,c46,Z9,Xg,ZY,Yu,Z3,Z6,Yf,Nat.reduceEqDiff,reduceCtorEq,Xe,U4]
   refine⟨_,rfl,?_⟩
   exact kk
theorem FU{v:AV}{l:List UInt8}(h:BV H v l)(hn:n<l.length)(k:IntKind): ∃v',(∀a b,Th 1 v (some (nI k n)) none ⟨a,H.t,b⟩=.val v' ⟨a,H.t,b⟩)∧BV H v' (l.drop n)∧Wo v'=Wo v:=by
 rcases h with⟨rfl,_⟩|⟨_,b,o,c,r,rfl,hB,hlt⟩
 ·cases hn
 have hcap:l.length<=VO r o c:=by
  cases c with
  |none=>
   show l.length<=cond (Nat.beq r.sz 1) (r.size - o) _
   rw[hB.sz];have:=hB.fits;show l.length<=r.size - o;omega
  |some k=>exact(hB.cap k rfl).1
 have hs:MU r 1 c=true:=by
  cases c with
  |none=>show Nat.beq r.sz 1=true;rw[hB.sz];rfl
  |some c=>rfl
 refine⟨.slice b (o+n) (l.length - n) (KT c n),λx y=>?_,?_,rfl⟩
 ·show XA (⟨x,H.t,y⟩:Heap) b _=_
  unfold XA
  show(match H.t.get b with|some (.row r)=>_|_=>_)=_
  rw[hB.at_]
  show Yb (MU r 1 c) (Yb (Nat.ble n l.length) (Yb (Nat.ble n (VO r o c)) (cond (Nat.beq n (VO r o c)) _ (.val (.slice b (o+n*1) (l.length - n) _) _))))=_
  rw[hs,Zj (by omega),Zj (by omega),XM,YZ,Ze (by omega)]
  cases c<;>rfl
 ·have hl:(l.drop n).length=l.length - n:=Xt ..
  refine .inr ⟨λh=>by rw[h] at hl;have:0=l.length - n:=hl;omega,b,o+n,KT c n,r,by rw[hl],hB.drop (by omega),hlt⟩
theorem bU{v:AV}{l:List UInt8}(h:BV H v l)(h0:0<n)(hn:n<=l.length)(k:IntKind): ∃v',(∀a b,Th 1 v none (some (nI k n)) ⟨a,H.t,b⟩=.val v' ⟨a,H.t,b⟩)∧BV H v' (l.take n)∧Wo v'=Wo v:=by
 rcases h with⟨rfl,_⟩|⟨_,b,o,c,r,rfl,hB,hlt⟩
 ·have:([]:List UInt8).length=0:=rfl
  omega
 have hcap:l.length<=VO r o c:=by
  cases c with
  |none=>
   show l.length<=cond (Nat.beq r.sz 1) (r.size - o) _
   rw[hB.sz];have:=hB.fits;show l.length<=r.size - o;omega
  |some k=>exact(hB.cap k rfl).1
 have hs:MU r 1 c=true:=by
  cases c with
  |none=>show Nat.beq r.sz 1=true;rw[hB.sz];rfl
  |some c=>rfl
 refine⟨.slice b o n (KT c 0),λx y=>?_,?_,rfl⟩
 ·show XA (⟨x,H.t,y⟩:Heap) b _=_
  unfold XA
  show(match H.t.get b with|some (.row r)=>_|_=>_)=_
  rw[hB.at_]
  show Yb (MU r 1 c) (Yb (Nat.ble n (VO r o c)) (Yb (Nat.ble 0 n) (Yb (Nat.ble 0 (VO r o c)) (cond (Nat.beq 0 (VO r o c)) _ (.val (.slice b (o+0*1) (n - 0) _) _)))))=_
  rw[hs,Zj (by omega),Zj (ZA _),Zj (ZA _),YZ,Ze (by omega)]
  cases c<;>rfl
 ·have hl:(l.take n).length=n:=by rw[Z2];omega
  refine .inr ⟨λh=>by rw[h] at hl;have:0=n:=hl;omega,b,o,KT c 0,r,by rw[hl],hB.take hn,hlt⟩
def eP(e:Nat):AV:=.iface 32 (nI .i64 e)
theorem OS(E:Env Zx fs fuel){e:Nat}:Z7 (LK Zx fs fuel k) fs fuel (n+1) 45 [.bool true,nI .i64 e] H=.ret (.tup []) H:=by
 rw[Z1 (ZU E.n45 (.inr rfl) _ _) E.f45]
 simp(maxSteps:=4000000) (disch:=first|assumption|omega|(simp -implicitDefEqProofs only[Xh,Xi]<;>first|assumption|omega)|decide) only[ZN,ZI,YA,Yl,ZR,ZO,Zu,ZM,YL,Y9,YM,Y7,YQ,YB,ZP,Yc,Yd,YT,Nat.reduceSub,Nat.reduceAdd,Nat.reduceLeDiff,ZA,ZT,Nat.reduceEqDiff,decide_true,decide_false,Yt,Zd,Zb,XV,X1,YO,Yq,Yj,YK,YJ,ZX,Zn,Zo,Y0,Z0,Zb,Zd,YV,Zr,ZL,Rg,ZJ,Zs,ZC,Zt,ZF,Zq,Zy,Zl,ZH,Xs,XC,Xz,Xy,ZN,ZI,ZZ,ZV,ZB,ZG,Yw,Yy,Zu,ZM,ZO,ZR,Zb,Zd,Zr,ZL,ZJ,Yx,Yp,Yv,YG,Yg,Z8,c45,Z9,Xg,ZY,Yu,Z3,Z6,Yf,Nat.reduceEqDiff,reduceCtorEq,Xe]
theorem vg(E:Env Zx fs fuel){e:Nat}:Z7 (LK Zx fs fuel k) fs fuel (n+1) 45 [.bool false,nI .i64 e] H=.pan (eP e) H:=by
 rw[Z1 (ZU E.n45 (.inr rfl) _ _) E.f45]
 unfold eP
 simp(maxSteps:=4000000) (disch:=first|assumption|omega|(simp -implicitDefEqProofs only[Xh,Xi]<;>first|assumption|omega)|decide) only[ZN,ZI,YA,Yl,ZR,ZO,Zu,ZM,YL,Y9,YM,Y7,YQ,YB,ZP,Yc,Yd,YT,Nat.reduceSub,Nat.reduceAdd,Nat.reduceLeDiff,ZA,ZT,Nat.reduceEqDiff,decide_true,decide_false,Yt,Zd,Zb,XV,X1,YO,Yq,Yj,YK,YJ,ZX,Zn,Zo,Y0,Z0,Zb,Zd,YV,Zr,ZL,Rg,ZJ,Zs,ZC,Zt,ZF,Zq,Zy,Zl,ZH,Xs,XC,Xz,Xy,ZN,ZI,ZZ,ZV,ZB,ZG,Yw,Yy,Zu,ZM,ZO,ZR,Zb,Zd,Zr,ZL,ZJ,Yx,Yp,Yv,YG,Yg,Z8,c45,Z9,Xg,ZY,Yu,Z3,Z6,Yf,Nat.reduceEqDiff,reduceCtorEq,Xe]
structure vk(H:Heap)(q:Nat)(l:List UInt8)(wt:Bool):Prop where
 row: ∃bv wv ov,H.t.get q=some (rH 63 [bv,wv,.bool wt,ov])∧BV H bv l∧(∀c∈Wo bv,c<q)∧wv.cells=[wv]∧ov.cells=[ov]
 lt:q<H.nx
 ro:H.ro<=q
theorem vk.keep{H H':Heap}{q:Nat}{l:List UInt8}{wt:Bool}(h:vk H q l wt)(k:ZK H H' []):vk H' q l wt:=by
 obtain⟨⟨bv,wv,ov,h1,h2,h3,h4,h5⟩,h6,h7⟩:=h
 exact⟨⟨bv,wv,ov,by rw[k.get q h6 (by simp)];exact h1,h2.keep k (λ_ _ _ _ _=>by simp),h3,h4,h5⟩,Yk h6 k.nx,by rw[k.ro];exact h7⟩
theorem CP(E:Env Zx fs fuel){q:Nat}{l:List UInt8}{wt:Bool}(gH:TL H)(g:vk H q l wt)(hl:512<l.length)(hl2:l.length<=1000000000):
  ∃b H',Z7 (LK Zx fs fuel k) fs fuel (n+2) 43 [.ptr q 0] H=.ret (.ptr b 0) H'∧ZK H H' [q]∧HR H' b (l.take 512)∧q<b∧vk H' q (l.drop 512) wt:=by
 rw[Z1 (ZU E.n43 (.inr rfl) _ _) E.f43]
 obtain⟨⟨bv,wv,ov,h1,h2,h3,h4,h5⟩,hlt,hro⟩:=g
 have ln:=h2.len
 have d1:decide (512<=l.length)=true:=Zi (by omega)
 have ew:=λ{H:Heap}=>OS E (k:=k) (n:=n) (H:=H) (e:=4)
 have l0: ∀G,ld1 (some (rH 63 [bv,wv,.bool wt,ov])) 0 G=.val bv G:=λG=>Un (show 0<4 by decide) ..
 have bd: ∀G:Heap,SA QS [] G=.val (.agg QS) G:=λG=>by unfold QS;rw[Ww,MY];rfl
 have bx: ∀G:Heap,N2 54 (.agg QS) G=.val (.ptr G.nx 0) (G.new (rH 54 QS)):=λG=>Vx (l:=QS) (by unfold QS;rw[Z5];decide) 54 G
 obtain⟨H1,hH1⟩:=SK (H.new (rH 54 QS))
 have k1:ZK H H1 []:=by rw[<-hH1];exact ZK.new _ _ _
 have Kn:H1.nx=H.nx+1:=by rw[<-hH1];rfl
 have g1:H1.t.get H.nx=some (rH 54 QS):=by rw[<-hH1];exact YD rfl _
 have gq1:H1.t.get q=some (rH 63 [bv,wv,.bool wt,ov]):=by rw[k1.get q hlt (by simp)];exact h1
 have yD:=h2.keep k1 (λ_ _ _ _ _=>by simp)
 have hz:QS=MF.map Vf:=by unfold QS MF;rw[U9];rfl
 have hcp: ∃r',yO 1 (.slice H.nx 0 512 (some 512)) bv H1=.val (nI .i64 512) (H1.put H.nx (.row r'))∧Cells r' ((l.take 512).map Vf)∧r'.own=true∧r'.fz=0∧r'.sz=1:=by
  rcases yD with⟨rfl,_⟩|⟨_,sb,so,sc,s,rfl,hB,hslt⟩
  ·cases hl
  have hl5:(l.take 512).length=512:=by rw[Z2];omega
  have hnew:W9 s so 512=(l.take 512).map Vf:=by
   refine XP λj=>?_
   by_cases hj:j<512
   ·rw[TZ s _ so j hj,hB.get j (by omega),Xb,Zh,XE hj,Zp (by omega)];rfl
   ·rw[Y5 (by rw[TB];omega),Y5 (by rw[ZW];omega)]
  have hcs:=O8 (o:=0) (new:=(l.take 512).map Vf) (LG 54 1 QS 0 false true true) (by rw[ZW,hl5];unfold QS;rw[Z5];decide)
  rw[ZF,Zn,UP (by rw[ZW,hl5];unfold QS;rw[Z5];decide),Zo] at hcs
  refine⟨_,?_,hcs,rfl,rfl,rfl⟩
  show TX (OZ 512 l.length) (λn=>WY H1 1 (.slice sb so _ sc) n λnew=>cond (Nat.beq n 0) (.val (.int .i64 0) H1) (XA H1 H.nx λr=>Yb (H1.may r H.nx) (Yb (Nat.ble r.fz 0) (Yb (Nat.ble (0+n*1) r.size) (.val (.int .i64 (.ofNat n)) (H1.put H.nx (.row (r.setCells (WO r.cells 0 new)))))))))=_
  have e':OZ 512 l.length=512:=by unfold OZ;rw[Zj (by omega)];rfl
  rw[Rf,e']
  unfold WY
  rw[show Nat.beq 512 0=false from rfl]
  simp only[cond_false]
  unfold XA
  rw[hB.at_,g1]
  show Yb (Nat.ble (so+512*1) s.size) (Yb (cond true (Nat.ble H1.ro H.nx) false) (Yb (Nat.ble 0 0) (Yb (Nat.ble (0+512*1) (Xa QS)) _)))=_
  have hz5:Xa QS=512:=by rw[Y6];unfold QS;rw[Z5]
  have Pe:Nat.ble H1.ro H.nx=true:=Zj (by rw[k1.ro];omega)
  rw[hz5,Pe,Zj (by have:=hB.fits;omega)]
  show OR.val _ (H1.put H.nx (.row (Row.setCells _ (WO _ 0 (W9 s so (512*1))))))=_
  rw[hnew]
  rfl
 obtain⟨r',ec,c1,c2,c3,c4⟩:=hcp
 obtain⟨H2,hH2⟩:=SK (H1.put H.nx (.row r'))
 rw[hH2] at ec
 have k2:ZK H H2 []:=by rw[<-hH2];exact k1.then_put (by omega)
 have nx2:H2.nx=H.nx+1:=by rw[<-hH2];exact Kn
 have ir:H2.ro=H.ro:=by rw[<-hH2];exact k1.ro
 have hr2:HR H2 H.nx (l.take 512):=⟨⟨r',by rw[<-hH2];exact Xv _ _ _,c1,c2,c3,c4⟩,by rw[Z2];omega,by omega,by omega⟩
 have gq2:H2.t.get q=some (rH 63 [bv,wv,.bool wt,ov]):=by rw[k2.get q hlt (by simp)];exact h1
 have IW:=h2.keep k2 (λ_ _ _ _ _=>by simp)
 obtain⟨v',sl,bv3,hbl⟩:=FU IW hl .i64
 have sl2:Th 1 bv (some (nI .i64 512)) none H2=.val v' H2:=sl H2.nx H2.ro
 have cv':v'.cells=[v']:=by
  rcases bv3 with⟨_,rfl|⟨b,o,c,rfl⟩⟩|⟨_,b,o,c,r,rfl,_⟩<;>rfl
 obtain⟨H3,hH3⟩:=SK (H2.put q (rH 63 [v',wv,.bool wt,ov]))
 have st:CC 1 (some (rH 63 [bv,wv,.bool wt,ov])) q 0 v' H2=.val XL H3:=by
  rw[SE cv' (show 0<4 by decide) (by omega) (ZA _),<-hH3];rfl
 have k23:ZK H2 H3 [q]:=by rw[<-hH3];exact ZK.put λ_=>Zv.2 rfl
 have lbv:=No yD (n:=H1.nx) (λb hb=>by have:=h3 b hb;omega)
 have sbv:=O7 yD
 have sa: ∀(b:Nat) G,OM 512 1 (.ptr b 0) none none G=.val (.slice b 0 512 (some 512)) G:=λ_ _=>rfl
 simp(maxSteps:=4000000) (disch:=first|assumption|omega|(simp -implicitDefEqProofs only[Xh,Xi]<;>first|assumption|omega)|decide) only[h1,l0,ln,d1,ew,bd,bx,hH1,g1,gq1,sa,ec,gq2,sl2,st,lbv,sbv,Po,L8,SZ,Te,Us,Uf,UD,Wy,XI,ZG,YA,Yl,ZR,ZO,Zu,ZM,YL,Y9,YM,Y7,YQ,YB,ZP,Yc,Yd,YT,Nat.reduceSub,Nat.reduceAdd,Nat.reduceLeDiff,ZA,ZT,Nat.reduceEqDiff,decide_true,decide_false,Yt,Zd,Zb,XV,X1,YO,Yq,Yj,YK,YJ,ZX,Zn,Zo,Y0,Z0,Zb,Zd,YV,Zr,ZL,Rg,ZJ,Zs,ZC,Zt,ZF,Zq,Zy,Zl,ZH,Xs,XC,Xz,Xy,ZN,ZI,ZZ,ZV,ZB,ZG,Yw,Yy,Zu,ZM,ZO,ZR,Zb,Zd,Zr,ZL,ZJ,Yx,Yp,Yv,YG,Yg,Z8,c43,Z9,Xg,ZY,Yu,Z3,Z6,Yf,Nat.reducePow,Nat.reduceDiv,Nat.reduceMod,Nat.reduceEqDiff,reduceCtorEq,Xe]
 refine⟨H.nx,_,rfl,?_,?_,by omega,?_⟩
 ·exact(k2.more).trans k23 λc hc _=>hc
 ·exact hr2.keep k23 λh=>by have:=Zv.1 h;omega
 ·refine⟨⟨v',wv,ov,by rw[<-hH3];exact Xv _ _ _,?_,λc hc=>h3 c (by rw[<-hbl];exact hc),h4,h5⟩,by rw[<-hH3];show q<H2.nx;omega,by rw[<-hH3];show H2.ro<=q;omega⟩
  exact bv3.move k23 λb hb hm=>by
   have:=h3 b (by rw[<-hbl];exact hb)
   have:=Zv.1 hm
   omega
theorem gt(E:Env Zx fs fuel){K:Nat}{a m u:Nat}{l nm rest:List UInt8}(gH:TL H)(g:HR H b l)(F:Cc nm a m)(hc:(l.drop a).take m=Of k u++0::rest)(hk1:1<=k)(hk:k<=11)(hu:u<8^k)(hm:m<=20):
  ∃H',Z7 (LK Zx fs fuel K) fs fuel (n+5) 71 [.ptr b 0,.str nm] H=.ret (nI .i64 u) H'∧ZK H H' []:=by
 rw[Z1 (ZU E.n71 (.inr rfl) _ _) E.f71]
 obtain⟨v,H1,e1,yD,k1,_⟩:=L0 E (k:=K) (n:=n+1) gH F g
 have e2:=jk E (K:=K) (n:=n) (H:=H1) (Rd.of_bv yD) hc hk1 hk hu (by rw[Z2];omega)
 have ew:=λ{H:Heap}=>OS E (k:=K) (n:=n+3) (H:=H) (e:=0)
 have w0:decide (0=0)=true:=rfl
 simp(maxSteps:=4000000) (disch:=first|assumption|omega|(simp -implicitDefEqProofs only[Xh,Xi]<;>first|assumption|omega)|decide) only[e1,e2,ew,w0,Uf,UD,YA,Yl,ZR,ZO,Zu,ZM,YL,Y9,YM,Y7,YQ,YB,ZP,Yc,Yd,YT,Nat.reduceSub,Nat.reduceAdd,Nat.reduceLeDiff,ZA,ZT,Nat.reduceEqDiff,decide_true,decide_false,Yt,Zd,Zb,XV,X1,YO,Yq,Yj,YK,YJ,ZX,Zn,Zo,Y0,Z0,Zb,Zd,YV,Zr,ZL,Rg,ZJ,Zs,ZC,Zt,ZF,Zq,Zy,Zl,ZH,Xs,XC,Xz,Xy,ZN,ZI,ZZ,ZV,ZB,ZG,Yw,Yy,Zu,ZM,ZO,ZR,Zb,Zd,Zr,ZL,ZJ,Yx,Yp,Yv,YG,Yg,Z8,c71,Z9,Xg,ZY,Yu,Z3,Z6,Yf,Nat.reduceEqDiff,reduceCtorEq,Xe]
 refine⟨_,rfl,?_⟩
 exact k1
theorem Zfy(E:Env Zx fs fuel){K:Nat}{u:Nat}(hu:u<=16777216):Z7 (LK Zx fs fuel K) fs fuel (n+2) 70 [nI .i64 u] H=.ret (nI .i64 u) H:=by
 rw[Z1 (ZU E.n70 (.inr rfl) _ _) E.f70]
 have ew1:=OS E (k:=K) (n:=n) (H:=H) (e:=5)
 have ew2:=OS E (k:=K) (n:=n) (H:=H) (e:=3)
 have d1:decide (0<=u)=true:=Zi (ZA _)
 have d2:decide (u<=16777216)=true:=Zi hu
 simp(maxSteps:=4000000) (disch:=first|assumption|omega|(simp -implicitDefEqProofs only[Xh,Xi]<;>first|assumption|omega)|decide) only[ew1,ew2,d1,d2,YA,Yl,ZR,ZO,Zu,ZM,YL,Y9,YM,Y7,YQ,YB,ZP,Yc,Yd,YT,Nat.reduceSub,Nat.reduceAdd,Nat.reduceLeDiff,ZA,ZT,Nat.reduceEqDiff,decide_true,decide_false,Yt,Zd,Zb,XV,X1,YO,Yq,Yj,YK,YJ,ZX,Zn,Zo,Y0,Z0,Zb,Zd,YV,Zr,ZL,Rg,ZJ,Zs,ZC,Zt,ZF,Zq,Zy,Zl,ZH,Xs,XC,Xz,Xy,ZN,ZI,ZZ,ZV,ZB,ZG,Yw,Yy,Zu,ZM,ZO,ZR,Zb,Zd,Zr,ZL,ZJ,Yx,Yp,Yv,YG,Yg,Z8,c70,Z9,Xg,ZY,Yu,Z3,Z6,Yf,Nat.reduceEqDiff,reduceCtorEq,Xe]
theorem qo(E:Env Zx fs fuel)(hk:1<=k){q m:Nat}{l:List UInt8}{wt:Bool}(g:vk H q l wt)(hm0:0<m)(hm:m<=16777216)(hl:m+UM m<l.length)(hl2:l.length<=1000000000):
  ∃v H',Z7 (LK Zx fs fuel k) fs fuel (n+2) 73 [.ptr q 0,nI .i64 m] H=.ret v H'∧ZK H H' [q]∧BV H' v (l.take m)∧vk H' q (l.drop (m+UM m)) wt∧ ∀c∈Wo v,c<q:=by
 rw[Z1 (ZU E.n73 (.inr rfl) _ _) E.f73]
 obtain⟨⟨bv,wv,ov,h1,h2,h3,h4,h5⟩,hlt,hro⟩:=g
 have ln:=h2.len
 have et:=λ{j}=>ZcV (Zx:=Zx) (fs:=fs) (fuel:=fuel) E (k:=k) (n:=j) hk (m:=m) (H:=H) hm
 have ad: ∀G,SG (nI .i64 m) (nI .i64 (UM m)) G=.val (nI .i64 (m+UM m)) G:=λG=>YB (by omega) G
 have d1:decide (m+UM m<=l.length)=true:=Zi (by omega)
 have ew:=OS E (k:=k) (n:=n) (H:=H) (e:=4)
 have l0: ∀G,ld1 (some (rH 63 [bv,wv,.bool wt,ov])) 0 G=.val bv G:=λG=>Un (show 0<4 by decide) ..
 obtain⟨v1,sl1,yD,hb1⟩:=bU h2 hm0 (by omega) .i64
 obtain⟨v2,sl2,IW,hb2⟩:=FU h2 hl .i64
 have sa:Th 1 bv none (some (nI .i64 m)) H=.val v1 H:=sl1 H.nx H.ro
 have sb:Th 1 bv (some (nI .i64 (m+UM m))) none H=.val v2 H:=sl2 H.nx H.ro
 have cv2:v2.cells=[v2]:=by
  rcases IW with⟨_,rfl|⟨b,o,c,rfl⟩⟩|⟨_,b,o,c,r,rfl,_⟩<;>rfl
 obtain⟨H3,hH3⟩:=SK (H.put q (rH 63 [v2,wv,.bool wt,ov]))
 have st:CC 1 (some (rH 63 [bv,wv,.bool wt,ov])) q 0 v2 H=.val XL H3:=by
  rw[SE cv2 (show 0<4 by decide) hro (ZA _),<-hH3];rfl
 have k3:ZK H H3 [q]:=by rw[<-hH3];exact ZK.put λ_=>Zv.2 rfl
 have lbv:=No h2 (n:=H.nx) (λb hb=>by have:=h3 b hb;omega)
 have sbv:=O7 h2
 have sv2:=O7 IW
 have lv2:=No IW (n:=H.nx) (λb hb=>by rw[hb2] at hb;have:=h3 b hb;omega)
 simp(maxSteps:=4000000) (disch:=first|assumption|omega|(simp -implicitDefEqProofs only[Xh,Xi]<;>first|assumption|omega)|decide) only[h1,l0,ln,et,ad,d1,ew,sa,sb,sl2,st,lbv,sbv,lv2,sv2,SZ,Uf,UD,Wy,XI,YA,Yl,ZR,ZO,Zu,ZM,YL,Y9,YM,Y7,YQ,ZP,Yc,Yd,YT,Nat.reduceSub,Nat.reduceAdd,Nat.reduceLeDiff,ZA,ZT,Nat.reduceEqDiff,decide_true,decide_false,Yt,Zd,Zb,XV,X1,YO,Yq,Yj,YK,YJ,ZX,Zn,Zo,Y0,Z0,Zb,Zd,YV,Zr,ZL,Rg,ZJ,Zs,ZC,Zt,ZF,Zq,Zy,Zl,ZH,Xs,XC,Xz,Xy,ZN,ZI,ZZ,ZV,ZB,ZG,Yw,Yy,Zu,ZM,ZO,ZR,Zb,Zd,Zr,ZL,ZJ,Yx,Yp,Yv,YG,Yg,Z8,c73,Z9,Xg,ZY,Yu,Z3,Z6,Yf,Nat.reducePow,Nat.reduceDiv,Nat.reduceMod,Nat.reduceEqDiff,reduceCtorEq,Xe,U4]
 refine⟨_,_,rfl,k3,?_,⟨⟨v2,wv,ov,by rw[<-hH3];exact Xv _ _ _,?_,λc hc=>h3 c (by rw[<-hb2];exact hc),h4,h5⟩,by rw[<-hH3];exact hlt,by rw[<-hH3];exact hro⟩,λc hc=>h3 c (by rw[<-hb1];exact hc)⟩
 ·exact yD.move k3 λb hb hm=>by
   have:=h3 b (by rw[<-hb1];exact hb)
   have:=Zv.1 hm
   omega
 ·exact IW.move k3 λb hb hm=>by
   have:=h3 b (by rw[<-hb2];exact hb)
   have:=Zv.1 hm
   omega
end
end
end Go.AI
