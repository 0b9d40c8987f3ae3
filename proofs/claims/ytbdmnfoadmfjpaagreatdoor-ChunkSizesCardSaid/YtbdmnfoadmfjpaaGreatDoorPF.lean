/- Records, and a whole head: walked: proved without conditions but those that each names. -/
import Derived.Test.YtbdmnfoadmfjpaaGreatDoorPD
set_option maxRecDepth 1000000
set_option maxHeartbeats 0
set_option linter.unusedVariables false
set_option linter.unusedSimpArgs false
namespace Go.AI
open Go
noncomputable section
def NI(k:List UInt8):Bool:=!decide (k=[])&&decide (k.length<=255)&&!Jj [0,61,10] k
theorem Zaj{Zo:Lib}{fs:T CF}{fuel:Nat}(E:Env Zo fs fuel){n:Nat}{a b:List UInt8}{H:Heap}(hal:a.length<=90000)(hro:H.ro<=H.nx):
  ∃H',Z8 (LK Zo fs fuel 5) fs fuel (n+2) 42 [.agg [.str a,.str b]] H=.ret (.bool (NI a)) H'∧ZE H H' []:=by
 rw[Z7 (Z2 E.n42 (.inl (by decide)) _ _) E.f42]
 have bx: ∀G:Heap,II 85 (.agg [.str a,.str b]) G=.val (.ptr G.nx 0) (G.new (rG 85 1 [.str a,.str b] 0 false true true)):=λG=>V7 (l:=[.str a,.str b]) (show 1<=2 by decide) 85 G
 have gz:=λ(G:Heap)=>YB (H:=G) rfl (rG 85 1 [.str a,.str b] 0 false true true)
 have l0: ∀G,ld1 (some (rG 85 1 [.str a,.str b] 0 false true true)) 0 G=.val (.str a) G:=λG=>rfl
 have ea: ∀{j},Z8 (LK Zo fs fuel 5) fs fuel (j+1) 58 [.str a,.str [0,61,10]] (H.new (rG 85 1 [.str a,.str b] 0 false true true))=.ret (.bool (Jj [0,61,10] a)) (H.new (rG 85 1 [.str a,.str b] 0 false true true)):=λ{j}=>eO E (k:=5) (n:=j) (by decide) mN hal (by show H.ro<=H.nx+1;omega)
 by_cases h1:a=[]
 ·have d1:decide (a=[])=true:=Zj h1
  rw[show NI a=false by unfold NI;rw[d1];rfl]
  simp only[bx,gz,l0,d1,SA,Xa,Xa,Zd,Zd,ZU,Zd,c42,Yf,Xr,ZV,Xq]
  refine⟨_,rfl,?_⟩
  exact ZE.new _ _ _
 have d1:decide (a=[])=false:=Ze h1
 by_cases h2:a.length<=255
 ·have d2:decide (a.length<=255)=true:=Zj h2
  rw[show NI a=!Jj [0,61,10] a by unfold NI;rw[d1,d2];rfl]
  cases ha:Jj [0,61,10] a
  all_goals
   rw[ha] at ea
   simp only[bx,gz,l0,d1,d2,ea,SA,Xa,ZK,Xa,ZP,Zd,Zd,ZU,ZS,ZK,Zd,c42,Yf,Xr,ZV,Yv,Xq]
   refine⟨_,rfl,?_⟩
   exact ZE.new _ _ _
 ·have d2:decide (a.length<=255)=false:=Ze h2
  rw[show NI a=false by unfold NI;rw[d1,d2];rfl]
  simp only[bx,gz,l0,d1,d2,SA,Xa,ZK,Xa,ZP,Zd,Zd,ZS,ZK,Zd,c42,Yf,Xr,ZV,Xq]
  refine⟨_,rfl,?_⟩
  exact ZE.new _ _ _
theorem ZkU{Zo:Lib}{fs:T CF}{fuel:Nat}(E:Env Zo fs fuel){k n:Nat}(hk:6<=k){a b:List UInt8}{H:Heap}(hal:a.length<=90000)(hro:H.ro<=H.nx):
  Z8 (LK Zo fs fuel k) fs fuel (n+1) 42 [.agg [.str a,.str b]] H=.ret (.bool (NI a)) H:=by
 obtain⟨H',e,g⟩:=Zaj E (n:=898) (H:=H) hal hro
 exact Xp (r:=5) rfl rfl e g (rfl) hk
theorem i9{Zo:Lib}{fs:T CF}{fuel:Nat}(E:Env Zo fs fuel){n:Nat}{a b:List UInt8}{H:Heap}(hal:a.length<=90000)(hro:H.ro<=H.nx):
  ∃H',Z8 (LK Zo fs fuel 6) fs fuel (n+2) 41 [.agg [.str a,.str b]] H=.ret (.bool (!NI a)) H'∧ZE H H' []:=by
 rw[Z7 (Z2 E.n41 (.inl (by decide)) _ _) E.f41]
 have bx: ∀G:Heap,II 85 (.agg [.str a,.str b]) G=.val (.ptr G.nx 0) (G.new (rG 85 1 [.str a,.str b] 0 false true true)):=λG=>V7 (l:=[.str a,.str b]) (show 1<=2 by decide) 85 G
 have gz:=λ(G:Heap)=>YB (H:=G) rfl (rG 85 1 [.str a,.str b] 0 false true true)
 have aa: ∀G,wZ 2 (some (rG 85 1 [.str a,.str b] 0 false true true)) 0 G=.val (.agg [.str a,.str b]) G:=λG=>To (show 0+2<=2 by decide) ..
 have em:=λ{j}=>ZkU E (k:=6) (n:=j) (by decide) (a:=a) (b:=b) (H:=(H.new (rG 85 1 [.str a,.str b] 0 false true true))) hal (by show H.ro<=H.nx+1;omega)
 cases hm:NI a
 all_goals
  rw[hm] at em
  simp only[bx,gz,aa,em,SA,ZU,ZS,c41,Yf,Xr,ZV,Yv,Xq]
  refine⟨_,rfl,?_⟩
  exact ZE.new _ _ _
theorem ZkW{Zo:Lib}{fs:T CF}{fuel:Nat}(E:Env Zo fs fuel){k n:Nat}(hk:7<=k){a b:List UInt8}{H:Heap}(hal:a.length<=90000)(hro:H.ro<=H.nx):
  Z8 (LK Zo fs fuel k) fs fuel (n+1) 41 [.agg [.str a,.str b]] H=.ret (.bool (!NI a)) H:=by
 obtain⟨H',e,g⟩:=i9 E (n:=898) (H:=H) hal hro
 exact Xp (r:=6) rfl rfl e g (rfl) hk
theorem ZoH{Zo:Lib}{fs:T CF}{fuel:Nat}(E:Env Zo fs fuel){k n:Nat}(hk:4<=k){H:Heap}{m:Nat}(g:P8 H)(hro:H.ro<=H.nx)(hm:m<9223372036854775808):
  Z8 (LK Zo fs fuel k) fs fuel (n+3) 62 [nI .i64 m] H=.ret (.str (dec m)) H:=by
 rw[Z7 (Z2 E.n62 (.inr rfl) _ _) E.f62]
 have e2: ∀{j},Z8 (LK Zo fs fuel k) fs fuel (j+2) 80 [nI .i64 m] H=.ret (.str (dec m)) H:=λ{j}=>by
  rw[Z7 (Z2 E.n80 (.inr rfl) _ _) E.f80]
  have e1:Z8 (LK Zo fs fuel k) fs fuel (j+1) 79 [nI .i64 m,nI .i64 10] H=.ret (.str (dec m)) H:=by
   have:=dE E (k:=k) (n:=j) (by omega) (z:=.ofNat m) (H:=H) g hro (by show _<=(m:Int);omega) (by show(m:Int)<_;omega)
   rwa [BK] at this
  simp only[e1,c80,Yf,Xr,ZV,Xq]
 simp only[e2,c62,Yf,Xr,ZV,Xq]
theorem il{a b:Nat}(h:a<=b):TU a<=TU b:=NJ (Mn b) (TZ h (CC b))
def sH(rest:Nat):Nat->Nat->Nat
 |0,x=>x
 |j+1,x=>if x=rest+TU x then x else sH rest j (rest+TU x)
theorem sI{rest x:Nat}(h:x=rest+TU x): ∀j,sH rest j x=x
 |0=>rfl
 |j+1=>by unfold sH;rw[if_pos h]
def sG(rest:Nat):Nat:=sH rest 20 (rest+1)
structure PSI(Hs:Heap)(rest:Nat)(m:Nat)(tm:TM)(H:Heap):Prop where
 h:H=Hs
 t3:VL tm=nI .i64 rest
 x: ∃x j,XQ tm=nI .i64 x∧x+m=rest+21∧m<=j+1∧sG rest=sH rest j x∧x<=rest+TU x
def PSQ(Hs:Heap)(rest:Nat)(o:Out)(tm:TM)(H:Heap):Prop:=o=.exit 0∧H=Hs∧XQ tm=nI .i64 (sG rest)∧sG rest<=rest+21
theorem Zet{Zo:Lib}{fs:T CF}{fuel:Nat}(E:Env Zo fs fuel){k n:Nat}(hk:4<=k){Hs:Heap}{rest:Nat}(g:P8 Hs)(hro:Hs.ro<=Hs.nx)(hr:rest<=1000000)(y f dd qq)(X0:X)(m:Nat)(tm:TM)(H:Heap)(hI:PSI Hs rest m tm H):
  ∃o tm' H',Bm ⟨Z8 (LK Zo fs fuel k) fs fuel (n+3),y,f,dd,qq⟩ tm H X0=.ok o tm' H' X0∧((o=.normal∧ ∃k,k<m∧PSI Hs rest k tm' H')∨(o≠.normal∧PSQ Hs rest o tm' H')):=by
 obtain⟨rfl,t3,x,j,t4,hxm,hmj,hp,hx⟩:=hI
 have vW:=t3;have x7:=t4
 simp only[RK] at t3
 simp only[TG] at t4
 have nd:=NJ (n:=x) (k:=20) (by decide) (by omega)
 have ei:=λ{j}=>ZoH E (k:=k) (n:=j) hk (m:=x) (H:=H) g hro (by omega)
 have dl:=MR x
 have ad: ∀G,RI (nI .i64 rest) (nI .i64 (TU x)) G=.val (nI .i64 (rest+TU x)) G:=λG=>Yy (by omega) G
 by_cases hq:x=rest+TU x
 ·have d1:decide (x≠rest+TU x)=false:=Ze λh=>h hq
  simp only[t3,t4,ei,dl,ad,d1,Y7,ZP,Bm,Yf,Xr,Xq]
  refine⟨_,_,_,rfl,.inr ⟨by simp,rfl,rfl,?_,?_⟩⟩
  ·rw[hp,sI hq];simp only[Xq,Xr];exact t4
  ·rw[hp,sI hq];omega
 ·have d1:decide (x≠rest+TU x)=true:=Zj hq
  simp only[t3,t4,ei,dl,ad,d1,Y7,ZP,Bm,Yf,Xr,Xq]
  obtain⟨j',rfl⟩: ∃j',j=j'+1:=⟨j - 1,by omega⟩
  refine⟨_,_,_,rfl,.inl ⟨rfl,rest+21 - (rest+TU x),by omega,rfl,vW,rest+TU x,j',rfl,by omega,by omega,?_,?_⟩⟩
  ·rw[hp]
   show(if x=rest+TU x then x else sH rest j' (rest+TU x))=_
   rw[if_neg hq]
  ·have:=il hx;omega
theorem Zak{rest:Nat}(hr:rest<=1000000):sG rest<=rest+21:=by
 have: ∀j x,x<=rest+21->sH rest j x<=rest+21:=by
  intro j
  induction j with
  |zero=>intro x h;exact h
  |succ j ih=>
   intro x h
   unfold sH
   split
   ·exact h
   ·refine ih _ ?_
    have:=NJ (n:=x) (k:=20) (by decide) (by omega)
    omega
 exact this 20 (rest+1) (by omega)
theorem ZaK{Zo:Lib}{fs:T CF}{fuel:Nat}(E:Env Zo fs fuel){k n:Nat}(hk:7<=k){H:Heap}{a b:List UInt8}(g:P8 H)(hro:H.ro<=H.nx)(hm:NI a=true)(ha:a.length<=90000)(hb:b.length<=90000):
  ∃H',Z8 (LK Zo fs fuel k) fs fuel (n+4) 43 [.agg [.str a,.str b]] H=.ret (nI .i64 (sG (a.length+b.length+3))) H'∧ZE H H' []:=by
 rw[Z7 (Z2 E.n43 (.inr rfl) _ _) E.f43]
 have bx: ∀G:Heap,II 85 (.agg [.str a,.str b]) G=.val (.ptr G.nx 0) (G.new (rG 85 1 [.str a,.str b] 0 false true true)):=λG=>V7 (l:=[.str a,.str b]) (show 1<=2 by decide) 85 G
 have gz:=λ(G:Heap)=>YB (H:=G) rfl (rG 85 1 [.str a,.str b] 0 false true true)
 have l0: ∀G,ld1 (some (rG 85 1 [.str a,.str b] 0 false true true)) 0 G=.val (.str a) G:=λG=>rfl
 have l1: ∀G,ld1 (some (rG 85 1 [.str a,.str b] 0 false true true)) 1 G=.val (.str b) G:=λG=>rfl
 have aa: ∀G,wZ 2 (some (rG 85 1 [.str a,.str b] 0 false true true)) 0 G=.val (.agg [.str a,.str b]) G:=λG=>To (show 0+2<=2 by decide) ..
 have em:=λ{j}=>ZkU E (k:=k) (n:=j) (by omega) (a:=a) (b:=b) (H:=(H.new (rG 85 1 [.str a,.str b] 0 false true true))) ha (by show H.ro<=H.nx+1;omega)
 rw[hm] at em
 have k1:ZE H (H.new (rG 85 1 [.str a,.str b] 0 false true true)) []:=ZE.new _ _ _
 have a1: ∀G,RI (nI .i64 a.length) (nI .i64 b.length) G=.val (nI .i64 (a.length+b.length)) G:=λG=>Yy (by omega) G
 have a2: ∀G,RI (nI .i64 (a.length+b.length)) (nI .i64 3) G=.val (nI .i64 (a.length+b.length+3)) G:=λG=>Yy (by omega) G
 have a3: ∀G,RI (nI .i64 (a.length+b.length+3)) (nI .i64 1) G=.val (nI .i64 (a.length+b.length+3+1)) G:=λG=>Yy (by omega) G
 have hf:=E.big
 simp only[bx,gz,l0,l1,aa,em,a1,a2,a3,SA,ZP,Zd,Zb,Zb,Zd,Zb,Zd,c43,Yf,Xr,Yv,Xq]
 generalize hL:WP (Bm _) fuel _ _ _=LL
 obtain⟨o,KO,H1,rfl,_,rfl,rfl,t4,_⟩:=Wd (P:=λT=>PSI (H.new (rG 85 1 [.str a,.str b] 0 false true true)) (a.length+b.length+3) 20 T (H.new (rG 85 1 [.str a,.str b] 0 false true true))) (Q:=PSQ (H.new (rG 85 1 [.str a,.str b] 0 false true true)) (a.length+b.length+3))
  (λT hi=>Wo (PSI (H.new (rG 85 1 [.str a,.str b] 0 false true true)) (a.length+b.length+3)) (PSQ (H.new (rG 85 1 [.str a,.str b] 0 false true true)) (a.length+b.length+3)) (λm tm H' h=>Zet E (k:=k) (n:=n) (by omega) (g.keep k1 (by simp)) (by show H.ro<=H.nx+1;omega) (by omega) _ _ _ _ _ m tm H' h) fuel 20 T _ (by omega) hi) hL
  (by exact⟨rfl,rfl,_,20,rfl,by omega,by omega,rfl,by have:=Mn (a.length+b.length+3+1);omega⟩)
 simp only[TG] at t4
 simp only[t4,Yf,Xr,ZV,Xq]
 refine⟨_,rfl,?_⟩
 exact k1
theorem fH{Zo:Lib}{fs:T CF}{fuel:Nat}(E:Env Zo fs fuel){k n:Nat}(hk:4<=k){H:Heap}{v:AV}{l:List UInt8}{lo m:Nat}(g:P8 H)(h:GB H v l lo)(hlo:lo<=H.nx)(hro:H.ro<=H.nx)(hm:m<1000000000000000000)(hl:l.length<=100000000):
  ∃v' H',Z8 (LK Zo fs fuel k) fs fuel (n+4) 44 [v,nI .i64 m,nI .i64 10] H=.ret v' H'∧GB H' v' (l++dec m) lo∧ZE H H' (WK v)∧(∀b∈WK v',b∈WK v∨H.nx<=b):=by
 have nd1:=Mn m
 have nd2:TU m<=18:=NJ (by decide) hm
 have dl:=MR m
 have main: ∃v' H',Z8 (LK Zo fs fuel k) fs fuel (n+2) 81 [v,nI .u64 m,nI .i64 10] H=.ret v' H'∧GB H' v' (l++dec m) lo∧ZE H H' (WK v)∧(∀b∈WK v',b∈WK v∨H.nx<=b):=by
  rw[Z7 (Z2 E.n81 (.inr rfl) _ _) E.f81]
  by_cases h1:m<100
  ·have d1:decide (m<100)=true:=Zj h1
   have es:=λ{j}=>ZfF (Zo:=Zo) (fs:=fs) (fuel:=fuel) E (k:=k) (n:=j) (by omega) (x:=m) (H:=H) h1
   have iv: ∀G,PS .i64 (nI .u64 m) G=.val (nI .i64 m) G:=λG=>Sb (by omega) G
   obtain⟨v',H',e1,r⟩:=qV h hlo hro (dec m) (by omega)
   simp(maxSteps:=4000000) (disch:=first|assumption|omega|(simp -implicitDefEqProofs only[Xl,Xm]<;>first|assumption|omega)|decide) only[d1,es,iv,e1,ZW,Yx,Ye,ZM,ZK,Zy,ZJ,YN,Y7,YE,Xa,YR,Yy,ZP,Ya,Yb,YV,Nat.reduceSub,Nat.reduceAdd,Nat.reduceLeDiff,ZB,ZL,Nat.reduceEqDiff,decide_true,decide_false,Yq,Zd,Zb,X7,Wc,Y0,Yw,Yk,YQ,YP,Z6,Zx,Zr,Y8,ZY,Zb,Zd,Xg,ZD,ZR,Qp,ZN,Zu,ZC,Zw,ZI,Zs,Zv,Zl,ZO,XC,XJ,Xx,Xw,ZU,ZS,ZX,ZW,Zz,ZH,YC,YF,Zy,ZJ,ZK,ZM,Zb,Zd,ZD,ZR,ZN,YL,YA,YH,YZ,Yp,Yj,c81,Yf,Xr,ZV,Yv,Z0,Z1,Yc,Nat.reduceEqDiff,reduceCtorEq,Xq,TB]
   exact⟨_,_,rfl,r⟩
  ·have d1:decide (m<100)=false:=Ze h1
   obtain⟨H1,hH1⟩: ∃H1,H.new (.row ⟨155,1,24,.leaf,nI .u8 0,0,false,true,true⟩)=H1:=⟨_,rfl⟩
   have Jh:H1.nx=H.nx+1:=by rw[<-hH1];rfl
   have FX:H1.ro=H.ro:=by rw[<-hH1];rfl
   have k1:ZE H H1 []:=by rw[<-hH1];exact ZE.new H _ []
   have ga:H1.t.get H.nx=some (.row ⟨155,1,24,.leaf,nI .u8 0,0,false,true,true⟩):=by rw[<-hH1,YB rfl]
   have en:=λ{j}=>EC (Zo:=Zo) (fs:=fs) (fuel:=fuel) E (k:=k) (n:=j) (by omega) (H:=H1) (g.keep k1 (by simp)) (d:=m) (by omega) (by omega)
   obtain⟨R,ef,fb⟩:=qQ (Zo:=Zo) (fs:=fs) (fuel:=fuel) E (k:=k) (n:=n) (H:=H1) (b:=H.nx) (zo:=0) (nd:=TU m) (u:=m) (c:=some 24) ga (by omega) (by omega) rfl rfl rfl (by omega) (by omega) (CC _)
   obtain⟨H2,hH2⟩: ∃G,H1.put H.nx (.row R)=G:=⟨_,rfl⟩
   rw[hH2] at ef
   have k2:ZE H H2 []:=by rw[<-hH2];exact k1.then_put (by omega)
   have hx2:=k2.nx
   have nx2:H2.nx=H1.nx:=by rw[<-hH2];rfl
   have s1:=fb.size
   have src:=Src.row (H:=H2) (b:=H.nx) (o:=0) (c:=some 24) (r:=R) (l:=(dec m).map X8) (by rw[<-hH2];exact XY _ _ _) (by rw[Zt];omega) (λi hi=>by
    rw[Zt] at hi
    rw[Zb,fb.get,if_pos (by omega),vm hi];rfl)
   obtain⟨v',H',e0,gb',k3,bk⟩:=wN (h.keep k2 (λ_ _=>by simp)) (by omega) (by rw[k2.ro];omega) (dec m) (by omega)
   have e1:U2 5 1 1 v (.slice H.nx 0 (TU m) (some 24)) H2=.val v' H':=by
    rw[Zt,dl] at src
    rw[SV (by decide) src,Zt];exact e0
   have sa: ∀G,KG 24 1 (.ptr H.nx 0) none (some (nI .i64 (TU m))) G=.val (.slice H.nx 0 (TU m) (some 24)) G:=λG=>LY (by omega) (by decide) _ _ _ _
   simp(maxSteps:=4000000) (disch:=first|assumption|omega|(simp -implicitDefEqProofs only[Xl,Xm]<;>first|assumption|omega)|decide) only[d1,hH1,en,ef,sa,e1,ZW,Mq,Yx,Ye,ZM,ZK,Zy,ZJ,YN,Y7,YE,Xa,YR,Yy,ZP,Ya,Yb,YV,Nat.reduceSub,Nat.reduceAdd,Nat.reduceLeDiff,ZB,ZL,Nat.reduceEqDiff,decide_true,decide_false,Yq,Zd,Zb,X7,Wc,Y0,Yw,Yk,YQ,YP,Z6,Zx,Zr,Y8,ZY,Zb,Zd,Xg,ZD,ZR,Qp,ZN,Zu,ZC,Zw,ZI,Zs,Zv,Zl,ZO,XC,XJ,Xx,Xw,ZU,ZS,ZX,ZW,Zz,ZH,YC,YF,Zy,ZJ,ZK,ZM,Zb,Zd,ZD,ZR,ZN,YL,YA,YH,YZ,Yp,Yj,c81,Yf,Xr,ZV,Yv,Z0,Z1,Yc,Nat.reduceEqDiff,reduceCtorEq,Xq,TB]
   exact⟨_,_,rfl,gb',k2.trans' k3,λb hb=>(bk b hb).imp id λh=>Yl hx2 h⟩
 obtain⟨v',H',e1,r⟩:=main
 rw[Z7 (Z2 E.n44 (.inr rfl) _ _) E.f44]
 have e2:Z8 (LK Zo fs fuel k) fs fuel (n+3) 63 [v,nI .i64 m,nI .i64 10] H=.ret v' H':=by
  rw[Z7 (Z2 E.n63 (.inr rfl) _ _) E.f63]
  have d0:decide (m<0)=false:=Ze (SH _)
  have iv: ∀G,PS .u64 (nI .i64 m) G=.val (nI .u64 m) G:=λG=>PT (by omega) G
  simp(maxSteps:=4000000) (disch:=first|assumption|omega|(simp -implicitDefEqProofs only[Xl,Xm]<;>first|assumption|omega)|decide) only[e1,d0,iv,Yx,Ye,ZM,ZK,Zy,ZJ,YN,Y7,YE,Xa,YR,Yy,ZP,Ya,Yb,YV,Nat.reduceSub,Nat.reduceAdd,Nat.reduceLeDiff,ZB,ZL,Nat.reduceEqDiff,decide_true,decide_false,Yq,Zd,Zb,X7,Wc,Y0,Yw,Yk,YQ,YP,Z6,Zx,Zr,Y8,ZY,Zb,Zd,Xg,ZD,ZR,Qp,ZN,Zu,ZC,Zw,ZI,Zs,Zv,Zl,ZO,XC,XJ,Xx,Xw,ZU,ZS,ZX,ZW,Zz,ZH,YC,YF,Zy,ZJ,ZK,ZM,Zb,Zd,ZD,ZR,ZN,YL,YA,YH,YZ,Yp,Yj,c63,Yf,Xr,ZV,Yv,Z0,Z1,Yc,Nat.reduceEqDiff,reduceCtorEq,Xq]
 simp(maxSteps:=4000000) (disch:=first|assumption|omega|(simp -implicitDefEqProofs only[Xl,Xm]<;>first|assumption|omega)|decide) only[e2,Yx,Ye,ZM,ZK,Zy,ZJ,YN,Y7,YE,Xa,YR,Yy,ZP,Ya,Yb,YV,Nat.reduceSub,Nat.reduceAdd,Nat.reduceLeDiff,ZB,ZL,Nat.reduceEqDiff,decide_true,decide_false,Yq,Zd,Zb,X7,Wc,Y0,Yw,Yk,YQ,YP,Z6,Zx,Zr,Y8,ZY,Zb,Zd,Xg,ZD,ZR,Qp,ZN,Zu,ZC,Zw,ZI,Zs,Zv,Zl,ZO,XC,XJ,Xx,Xw,ZU,ZS,ZX,ZW,Zz,ZH,YC,YF,Zy,ZJ,ZK,ZM,Zb,Zd,ZD,ZR,ZN,YL,YA,YH,YZ,Yp,Yj,c44,Yf,Xr,ZV,Yv,Z0,Z1,Yc,Nat.reduceEqDiff,reduceCtorEq,Xq]
 exact⟨_,_,rfl,r⟩
structure IRI(Hs:Heap)(v:AV)(l:List NP)(m:Nat)(tm:TM)(H:Heap):Prop where
 h:H=Hs
 t0:Y3 tm=v
 t1:Wv tm=.func 41 [] []
 t7:WH tm=nI .i64 l.length
 i: ∃i,WD tm=nI .i64 i∧i+m=l.length
def IRQ(Hs:Heap)(o:Out)(tm:TM)(H:Heap):Prop:=o=.exit 0∧H=Hs
theorem bP{Zo:Lib}{fs:T CF}{fuel:Nat}(E:Env Zo fs fuel){k n:Nat}(hk:7<=k){v:AV}{l:List NP}{Hs:Heap}(hro:Hs.ro<=Hs.nx)(hN:Sl Hs 2 v (QG l))(hm: ∀x∈l,NI x.1=true)(hal: ∀x∈l,x.1.length<=90000)(hl:l.length<=100000)(y f dd q)(X0:X)(m:Nat)(tm:TM)(H:Heap)(hI:IRI Hs v l m tm H):
  ∃o tm' H',Bp ⟨Z8 (LK Zo fs fuel k) fs fuel (n+1),y,f,dd,q⟩ tm H X0=.ok o tm' H' X0∧((o=.normal∧ ∃k,k<m∧IRI Hs v l k tm' H')∨(o≠.normal∧IRQ Hs o tm' H')):=by
 obtain⟨rfl,t0,t1,t7,i,t8,him⟩:=hI
 have t0':=t0;have t1':=t1;have Cs:=t7
 simp only[Um] at t0
 simp only[Mi] at t1
 simp only[LG] at t7
 simp only[HH] at t8
 cases m with
 |zero=>
  have d1:decide (i<l.length)=false:=Ze (by omega)
  simp(maxSteps:=4000000) (disch:=first|assumption|omega|(simp -implicitDefEqProofs only[Xl,Xm]<;>first|assumption|omega)|decide) only[t0,t1,t7,t8,d1,Yx,Ye,ZM,ZK,Zy,ZJ,YN,Y7,YE,Xa,YR,Yy,ZP,Ya,Yb,YV,Nat.reduceSub,Nat.reduceAdd,Nat.reduceLeDiff,ZB,ZL,Nat.reduceEqDiff,decide_true,decide_false,Yq,Zd,Zb,X7,Wc,Y0,Yw,Yk,YQ,YP,Z6,Zx,Zr,Y8,ZY,Zb,Zd,Xg,ZD,ZR,Qp,ZN,Zu,ZC,Zw,ZI,Zs,Zv,Zl,ZO,XC,XJ,Xx,Xw,ZU,ZS,ZX,ZW,Zz,ZH,YC,YF,Zy,ZJ,ZK,ZM,Zb,Zd,ZD,ZR,ZN,YL,YA,YH,YZ,Yp,Yj,Bp,Yf,Xr,ZV,Yv,Z0,Z1,Yc,Nat.reduceEqDiff,reduceCtorEq,Xq]
  refine⟨_,_,_,rfl,?_⟩
  exact .inr ⟨by simp,rfl,rfl⟩
 |succ m=>
  have d1:decide (i<l.length)=true:=Zj (by omega)
  have hi:i<l.length:=by omega
  obtain⟨bb,o,r,eI,hb,gb,eL,_⟩:=(show Sz H 2 v (QG l) from .inr hN).at_ (i:=i) (by rw[Sg];exact hi)
  rw[Ix hi] at eL
  have hmm:l.getD i ([],[])∈l:=by rw[Zf,Zn hi];exact WN hi
  have e1:=λ{j}=>ZkW (Zo:=Zo) (fs:=fs) (fuel:=fuel) E (k:=k) (n:=j) hk (a:=(l.getD i ([],[])).1) (b:=(l.getD i ([],[])).2) (H:=H) (hal _ hmm) hro
  rw[hm _ hmm] at e1
  simp(maxSteps:=4000000) (disch:=first|assumption|omega|(simp -implicitDefEqProofs only[Xl,Xm]<;>first|assumption|omega)|decide) only[t0,t1,t7,t8,d1,eI,gb,eL,e1,LN,Z6,Zx,Zr,Yx,Ye,ZM,ZK,Zy,ZJ,YN,Y7,YE,Xa,YR,Yy,ZP,Ya,Yb,YV,Nat.reduceSub,Nat.reduceAdd,Nat.reduceLeDiff,ZB,ZL,Nat.reduceEqDiff,decide_true,decide_false,Yq,Zd,Zb,X7,Wc,Y0,Yw,Yk,YQ,YP,Z6,Zx,Zr,Y8,ZY,Zb,Zd,Xg,ZD,ZR,Qp,ZN,Zu,ZC,Zw,ZI,Zs,Zv,Zl,ZO,XC,XJ,Xx,Xw,ZU,ZS,ZX,ZW,Zz,ZH,YC,YF,Zy,ZJ,ZK,ZM,Zb,Zd,ZD,ZR,ZN,YL,YA,YH,YZ,Yp,Yj,Bp,Yf,Xr,ZV,Yv,Z0,Z1,Yc,Nat.reduceEqDiff,reduceCtorEq,Xq]
  refine⟨_,_,_,rfl,?_⟩
  exact .inl ⟨rfl,m,by omega,rfl,t0',t1',Cs,i+1,rfl,by omega⟩
theorem Znk{Zo:Lib}{fs:T CF}{fuel:Nat}(E:Env Zo fs fuel){k n:Nat}(hk:7<=k){v:AV}{l:List NP}{H:Heap}(hro:H.ro<=H.nx)(hN:Sl H 2 v (QG l))(hm: ∀x∈l,NI x.1=true)(hal: ∀x∈l,x.1.length<=90000)(hl:l.length<=1000):
  Z8 (LK Zo fs fuel k) fs fuel (n+3) 40 [v,.func 41 [] []] H=.ret (.bool false) H:=by
 rw[Z7 (Z2 E.n40 (.inr rfl) _ _) E.f40]
 have e1:Z8 (LK Zo fs fuel k) fs fuel (n+2) 61 [v,.func 41 [] []] H=.ret (.int .i64 (.negSucc 0)) H:=by
  rw[Z7 (Z2 E.n61 (.inr rfl) _ _) E.f61]
  have hf:=E.big
  have ln:=hN.len
  rw[Sg] at ln
  simp(maxSteps:=4000000) (disch:=first|assumption|omega|(simp -implicitDefEqProofs only[Xl,Xm]<;>first|assumption|omega)|decide) only[ln,Yx,Ye,ZM,ZK,Zy,ZJ,YN,Y7,YE,Xa,YR,Yy,ZP,Ya,Yb,YV,Nat.reduceSub,Nat.reduceAdd,Nat.reduceLeDiff,ZB,ZL,Nat.reduceEqDiff,decide_true,decide_false,Yq,Zd,Zb,X7,Wc,Y0,Yw,Yk,YQ,YP,Z6,Zx,Zr,Y8,ZY,Zb,Zd,Xg,ZD,ZR,Qp,ZN,Zu,ZC,Zw,ZI,Zs,Zv,Zl,ZO,XC,XJ,Xx,Xw,ZU,ZS,ZX,ZW,Zz,ZH,YC,YF,Zy,ZJ,ZK,ZM,Zb,Zd,ZD,ZR,ZN,YL,YA,YH,YZ,Yp,Yj,c61,Yf,Xr,ZV,Yv,Z0,Z1,Yc,Nat.reduceEqDiff,reduceCtorEq,Xq]
  generalize hL:WP (Bp _) fuel _ _ _=L
  obtain⟨o,KO,H2,rfl,_,rfl,rfl⟩:=Wd (P:=λT=>IRI H v l l.length T H) (Q:=IRQ H)
   (λT hi=>Wo (IRI H v l) (IRQ H) (λm tm H2 h=>bP E hk hro hN hm hal (by omega) _ _ _ _ _ m tm H2 h) fuel l.length T H (by omega) hi) hL
   (by exact⟨rfl,rfl,rfl,rfl,0,rfl,by omega⟩)
  simp(maxSteps:=4000000) (disch:=first|assumption|omega|(simp -implicitDefEqProofs only[Xl,Xm]<;>first|assumption|omega)|decide) only[Yx,Ye,ZM,ZK,Zy,ZJ,YN,Y7,YE,Xa,YR,Yy,ZP,Ya,Yb,YV,Nat.reduceSub,Nat.reduceAdd,Nat.reduceLeDiff,ZB,ZL,Nat.reduceEqDiff,decide_true,decide_false,Yq,Zd,Zb,X7,Wc,Y0,Yw,Yk,YQ,YP,Z6,Zx,Zr,Y8,ZY,Zb,Zd,Xg,ZD,ZR,Qp,ZN,Zu,ZC,Zw,ZI,Zs,Zv,Zl,ZO,XC,XJ,Xx,Xw,ZU,ZS,ZX,ZW,Zz,ZH,YC,YF,Zy,ZJ,ZK,ZM,Zb,Zd,ZD,ZR,ZN,YL,YA,YH,YZ,Yp,Yj,c61,Yf,Xr,ZV,Yv,Z0,Z1,Yc,Nat.reduceEqDiff,reduceCtorEq,Xq]
 simp(maxSteps:=4000000) (disch:=first|assumption|omega|(simp -implicitDefEqProofs only[Xl,Xm]<;>first|assumption|omega)|decide) only[e1,Xg,Yx,Ye,ZM,ZK,Zy,ZJ,YN,Y7,YE,Xa,YR,Yy,ZP,Ya,Yb,YV,Nat.reduceSub,Nat.reduceAdd,Nat.reduceLeDiff,ZB,ZL,Nat.reduceEqDiff,decide_true,decide_false,Yq,Zd,Zb,X7,Wc,Y0,Yw,Yk,YQ,YP,Z6,Zx,Zr,Y8,ZY,Zb,Zd,Xg,ZD,ZR,Qp,ZN,Zu,ZC,Zw,ZI,Zs,Zv,Zl,ZO,XC,XJ,Xx,Xw,ZU,ZS,ZX,ZW,Zz,ZH,YC,YF,Zy,ZJ,ZK,ZM,Zb,Zd,ZD,ZR,ZN,YL,YA,YH,YZ,Yp,Yj,c40,Yf,Xr,ZV,Yv,Z0,Z1,Yc,Nat.reduceEqDiff,reduceCtorEq,Xq]
def xg(x:NP):List UInt8:=dec (sG (x.1.length+x.2.length+3))++[32]++x.1++[61]++x.2++[10]
def MG(l:List NP):List UInt8:=(l.map xg).flatten
theorem iY{x:NP}(h:x.1.length+x.2.length<=10000):(xg x).length<=10023:=by
 unfold xg
 have h1:=Zak (rest:=x.1.length+x.2.length+3) (by omega)
 have h2:=NJ (n:=sG (x.1.length+x.2.length+3)) (k:=20) (by decide) (by omega)
 simp only[Zm,MR,Zl,ZO]
 omega
theorem AB{l:List NP}(h: ∀x∈l,x.1.length+x.2.length<=10000):(MG l).length<=l.length*10023:=by
 unfold MG
 induction l with
 |nil=>exact Zq _
 |cons a l ih=>
  rw[Zz,Vy,Zm,Zl]
  have h1:=iY (h a (ZF ..))
  have h2:=ih λx hx=>h x (ZQ _ hx)
  omega
theorem iZ{l:List NP}{i:Nat}(h:i<l.length):MG (l.take (i+1))=MG (l.take i)++xg (l.getD i ([],[])):=by
 unfold MG
 rw[UA,Zf,Zn h,Xe,Uf]
 simp
structure PPI(Hs:Heap)(v:AV)(l:List NP)(m:Nat)(tm:TM)(H:Heap):Prop where
 k:ZE Hs H []
 t10:XF tm=v
 t11:XO tm=nI .i64 l.length
 i: ∃i w,X6 tm=nI .i64 i∧i+m=l.length∧XQ tm=w∧GB H w (MG (l.take i)) Hs.nx
def PPQ(Hs:Heap)(l:List NP)(o:Out)(tm:TM)(H:Heap):Prop:=o=.exit 0∧ZE Hs H []∧ ∃w,XQ tm=w∧GB H w (MG l) Hs.nx
theorem Zer{Zo:Lib}{fs:T CF}{fuel:Nat}(E:Env Zo fs fuel){k n:Nat}(hk:7<=k){v:AV}{l:List NP}{Hs:Heap}(gH:Su Hs)(hN:Sl Hs 2 v (QG l))(hm: ∀x∈l,NI x.1=true)(hal: ∀x∈l,x.1.length+x.2.length<=10000)(hl:l.length<=1000)(y f dd q)(X0:X)(m:Nat)(tm:TM)(H:Heap)(hI:PPI Hs v l m tm H):
  ∃o tm' H',Bl ⟨Z8 (LK Zo fs fuel k) fs fuel (n+4),y,f,dd,q⟩ tm H X0=.ok o tm' H' X0∧((o=.normal∧ ∃k,k<m∧PPI Hs v l k tm' H')∨(o≠.normal∧PPQ Hs l o tm' H')):=by
 obtain⟨k0,t10,t11,i,w,t12,him,t4,gb⟩:=hI
 have EV:=t10;have vV:=t11;have x7:=t4
 simp only[TG] at t4
 simp only[LD] at t10
 simp only[QO] at t11
 simp only[LF] at t12
 cases m with
 |zero=>
  have d1:decide (i<l.length)=false:=Ze (by omega)
  simp(maxSteps:=4000000) (disch:=first|assumption|omega|(simp -implicitDefEqProofs only[Xl,Xm]<;>first|assumption|omega)|decide) only[t10,t11,t12,d1,Yx,Ye,ZM,ZK,Zy,ZJ,YN,Y7,YE,Xa,YR,Yy,ZP,Ya,Yb,YV,Nat.reduceSub,Nat.reduceAdd,Nat.reduceLeDiff,ZB,ZL,Nat.reduceEqDiff,decide_true,decide_false,Yq,Zd,Zb,X7,Wc,Y0,Yw,Yk,YQ,YP,Z6,Zx,Zr,Y8,ZY,Zb,Zd,Xg,ZD,ZR,Qp,ZN,Zu,ZC,Zw,ZI,Zs,Zv,Zl,ZO,XC,XJ,Xx,Xw,ZU,ZS,ZX,ZW,Zz,ZH,YC,YF,Zy,ZJ,ZK,ZM,Zb,Zd,ZD,ZR,ZN,YL,YA,YH,YZ,Yp,Yj,Bl,Yf,Xr,ZV,Yv,Z0,Z1,Yc,Nat.reducePow,Nat.reduceDiv,Nat.reduceMod,Nat.reduceEqDiff,reduceCtorEq,Xq,TB]
  rw[YS (by omega)] at gb
  refine⟨_,_,_,rfl,?_⟩
  exact .inr ⟨by simp,rfl,k0,w,x7,gb⟩
 |succ m=>
  have d1:decide (i<l.length)=true:=Zj (by omega)
  have hi:i<l.length:=by omega
  obtain⟨bb,o,r,eI,hb,gbb,eL,_⟩:=(show Sz H 2 v (QG l) from .inr (hN.keep0 k0)).at_ (i:=i) (by rw[Sg];exact hi)
  rw[Ix hi] at eL
  have hmm:l.getD i ([],[])∈l:=by rw[Zf,Zn hi];exact WN hi
  have hpl:=AB (l:=l.take i) λx hx=>hal x (Uz hx)
  rw[Z4] at hpl
  have hpl:(MG (l.take i)).length<=1000*10023:=by
   have:min i l.length*10023<=1000*10023:=XX _ (by omega)
   omega
  have hpush:=iZ hi
  have hx1:=hal _ hmm
  have hx2:=hm _ hmm
  generalize l.getD i ([],[])=a at*
  have hx0:=k0.nx
  have gH0:=gH.keep0 k0
  have hro:=gH0.p.ro;have GY:=gH0.p.nx
  obtain⟨lw1,lw2⟩:=(⟨λn hn=>gb.low hn,gb.blk⟩:(∀n,H.nx<=n->Wu n w=true)∧ ∀b∈WK w,Hs.nx<=b∧b<H.nx)
  obtain⟨H1,hH1⟩: ∃G,H.new (rG 85 1 [.str a.1,.str a.2] 0 false true true)=G:=⟨_,rfl⟩
  have qi:ZE H H1 []:=by rw[<-hH1];exact ZE.new _ _ _
  have Jh:H1.nx=H.nx+1:=by rw[<-hH1];rfl
  have g1:H1.t.get H.nx=some (rG 85 1 [.str a.1,.str a.2] 0 false true true):=by rw[<-hH1];exact YB rfl _
  have sf:=SB (n:=2) (b:=H.nx) (l:=[.str [],.str []]) (vs:=[.str a.1,.str a.2]) (H:=H.new (rG 85 1 [.str [],.str []] 0 false true true)) rfl rfl (by decide) hro 85 1 false true
  rw[Sy rfl,hH1] at sf
  have gz:=λ(G:Heap)=>YB (H:=H) rfl (rG 85 1 [.str [],.str []] 0 false true true)
  have aa: ∀G,wZ 2 (some (rG 85 1 [.str a.1,.str a.2] 0 false true true)) 0 G=.val (.agg [.str a.1,.str a.2]) G:=λG=>To (show 0+2<=2 by decide) ..
  have l0: ∀G,ld1 (some (rG 85 1 [.str a.1,.str a.2] 0 false true true)) 0 G=.val (.str a.1) G:=λG=>rfl
  have l1: ∀G,ld1 (some (rG 85 1 [.str a.1,.str a.2] 0 false true true)) 1 G=.val (.str a.2) G:=λG=>rfl
  have gH1:=gH0.keep0 qi
  obtain⟨H2,e2,k12⟩:=ZaK E (k:=k) (n:=n) hk (H:=H1) (a:=a.1) (b:=a.2) gH1.g gH1.p.ro hx2 (by omega) (by omega)
  have hps:=Zak (rest:=a.1.length+a.2.length+3) (by omega)
  generalize hpz:sG (a.1.length+a.2.length+3)=z at*
  have fy:=gH1.keep0 k12
  have hx2':=k12.nx
  have Gj:=(gb.keep qi (λ_ _=>by simp)).keep k12 (λ_ _=>by simp)
  have g2:H2.t.get H.nx=some (rG 85 1 [.str a.1,.str a.2] 0 false true true):=by rw[k12.get _ (by omega) (by simp)];exact g1
  have ln:=gb.len
  have ad: ∀G,RI (nI .i64 (MG (l.take i)).length) (nI .i64 z) G=.val (nI .i64 ((MG (l.take i)).length+z)) G:=λG=>Yy (by omega) G
  have d2:decide (16777216<(MG (l.take i)).length+z)=false:=Ze (by omega)
  obtain⟨w3,H3,e3,jv,k23,bk3⟩:=fH E (k:=k) (n:=n) (by omega) (m:=z) fy.g Gj (by omega) fy.p.ro (by omega) (by omega)
  have hx3:=k23.nx
  have hdl:=MR z
  have hdn:=NJ (n:=z) (k:=20) (by decide) (by omega)
  have nb: ∀x∈WK w,x≠H.nx:=λx hx=>by have:=(lw2 x hx).2;omega
  have g3:H3.t.get H.nx=some (rG 85 1 [.str a.1,.str a.2] 0 false true true):=by rw[k23.get _ (by omega) (λh=>nb _ h rfl)];exact g2
  have bw3: ∀x∈WK w3,x≠H.nx∧Hs.nx<=x:=λx hx=>by
   rcases bk3 x hx with h|h
   ·exact⟨nb x h,(lw2 x h).1⟩
   ·exact⟨by omega,by omega⟩
  have lw3:=λn hn=>jv.low (n:=n) hn
  have sm3:=jv.same
  have lwa:=lw3 H3.nx (Zq _)
  have lwb:=lw3 (H3.nx+1) (by omega)
  have lwc:=lw3 (H3.nx+1+1) (by omega)
  have hro3:H3.ro<=H3.nx:=by rw[k23.ro];exact Yl fy.p.ro hx3
  obtain⟨H4,GZ⟩: ∃G,H3.new (rG 5 1 [nI .u8 32] 0 false true true)=G:=⟨_,rfl⟩
  have v7:ZE H3 H4 []:=by rw[<-GZ];exact ZE.new _ _ _
  have nx4:H4.nx=H3.nx+1:=by rw[<-GZ];rfl
  have lwd:=lw3 H4.nx (by omega)
  have q4:H4.t.get H3.nx=some (rG 5 1 [nI .u8 32] 0 false true true):=by rw[<-GZ];exact YB rfl _
  have g4:H4.t.get H.nx=some (rG 85 1 [.str a.1,.str a.2] 0 false true true):=by rw[v7.get _ (by omega) (by simp)];exact g3
  obtain⟨H5,hH5⟩: ∃G,H4.new (rG 5 1 [nI .u8 61] 0 false true true)=G:=⟨_,rfl⟩
  have tu:ZE H4 H5 []:=by rw[<-hH5];exact ZE.new _ _ _
  have nx5:H5.nx=H4.nx+1:=by rw[<-hH5];rfl
  have lwe:=lw3 H5.nx (by omega)
  have q5:H5.t.get H4.nx=some (rG 5 1 [nI .u8 61] 0 false true true):=by rw[<-hH5];exact YB rfl _
  have k35:=v7.trans' tu
  have q45:H5.t.get H3.nx=some (rG 5 1 [nI .u8 32] 0 false true true):=by rw[tu.get _ (by omega) (by simp)];exact q4
  have g5:H5.t.get H.nx=some (rG 85 1 [.str a.1,.str a.2] 0 false true true):=by rw[k35.get _ (by omega) (by simp)];exact g3
  have ro5:H5.ro<=H5.nx:=by rw[k35.ro];omega
  have bvA:=Bh (H:=H5) (b:=H3.nx) (a:=0) (n:=1) (c:=none) (l:=[32]) q45 (by omega) (by decide) (by decide) (λk h=>by cases h)
  obtain⟨w6,H6,e6,gb6,qj,bk6⟩:=uE (jv.keep k35 (λ_ _=>by simp)) bvA (by omega) ro5 (by rw[Zm];show _+1<=_;omega)
  have hx6:=qj.nx
  have g6:H6.t.get H.nx=some (rG 85 1 [.str a.1,.str a.2] 0 false true true):=by rw[qj.get _ (by omega) (λh=>(bw3 _ h).1 rfl)];exact g5
  have q6:H6.t.get H4.nx=some (rG 5 1 [nI .u8 61] 0 false true true):=by rw[qj.get _ (by omega) (λh=>by have:=(jv.blk _ h).2;omega)];exact q5
  have bw6: ∀x∈WK w6,x≠H.nx∧Hs.nx<=x∧x≠H4.nx:=λx hx=>by
   rcases bk6 x hx with h|h
   ·exact⟨(bw3 x h).1,(bw3 x h).2,by have:=(jv.blk _ h).2;omega⟩
   ·exact⟨by omega,by omega,by omega⟩
  have ro6:H6.ro<=H6.nx:=by rw[qj.ro];omega
  obtain⟨w7,H7,e7,gb7,mL,bk7⟩:=qV gb6 (by omega) ro6 a.1 (by rw[Zm,Zm];show _+1+_<=_;omega)
  have hx7:=mL.nx
  have g7:H7.t.get H.nx=some (rG 85 1 [.str a.1,.str a.2] 0 false true true):=by rw[mL.get _ (by omega) (λh=>(bw6 _ h).1 rfl)];exact g6
  have q7:H7.t.get H4.nx=some (rG 5 1 [nI .u8 61] 0 false true true):=by rw[mL.get _ (by omega) (λh=>(bw6 _ h).2.2 rfl)];exact q6
  have bw7: ∀x∈WK w7,x≠H.nx∧Hs.nx<=x:=λx hx=>by
   rcases bk7 x hx with h|h
   ·exact⟨(bw6 x h).1,(bw6 x h).2.1⟩
   ·exact⟨by omega,by omega⟩
  have ro7:H7.ro<=H7.nx:=by rw[mL.ro];omega
  have bvB:=Bh (H:=H7) (b:=H4.nx) (a:=0) (n:=1) (c:=none) (l:=[61]) q7 (by omega) (by decide) (by decide) (λk h=>by cases h)
  obtain⟨w8,H8,e8,gb8,bQ,bk8⟩:=uE gb7 bvB (by omega) ro7 (by rw[Zm,Zm,Zm];show _+1+_+1<=_;omega)
  have hx8:=bQ.nx
  have g8:H8.t.get H.nx=some (rG 85 1 [.str a.1,.str a.2] 0 false true true):=by rw[bQ.get _ (by omega) (λh=>(bw7 _ h).1 rfl)];exact g7
  have bw8: ∀x∈WK w8,x≠H.nx∧Hs.nx<=x:=λx hx=>by
   rcases bk8 x hx with h|h
   ·exact bw7 x h
   ·exact⟨by omega,by omega⟩
  have ro8:H8.ro<=H8.nx:=by rw[bQ.ro];omega
  obtain⟨w9,H9,e9,gb9,k89,bk9⟩:=qV gb8 (by omega) ro8 a.2 (by rw[Zm,Zm,Zm,Zm];show _+1+_+1+_<=_;omega)
  have hx9:=k89.nx
  have bw9: ∀x∈WK w9,Hs.nx<=x:=λx hx=>by
   rcases bk9 x hx with h|h
   ·exact(bw8 x h).2
   ·omega
  obtain⟨Ha,hHa⟩: ∃G,H9.new (rG 5 1 [nI .u8 10] 0 false true true)=G:=⟨_,rfl⟩
  have k9a:ZE H9 Ha []:=by rw[<-hHa];exact ZE.new _ _ _
  have nxa:Ha.nx=H9.nx+1:=by rw[<-hHa];rfl
  have roa:Ha.ro<=Ha.nx:=by rw[k9a.ro,k89.ro];omega
  have bvC:=Bh (H:=Ha) (b:=H9.nx) (a:=0) (n:=1) (c:=none) (l:=[10]) (by rw[<-hHa];exact YB rfl _) (by omega) (by decide) (by decide) (λk h=>by cases h)
  obtain⟨wb,Hb,eb,Zn0,kab,bkb⟩:=uE (gb9.keep k9a (λ_ _=>by simp)) bvC (by omega) roa (by simp only[Zm];show _+1+_+1+_+1<=_;omega)
  have bs1: ∀(x:Nat) (G:Heap),UL 5 1 1 [nI .u8 0] [(0,1,nI .u8 x)] G=.val (.slice G.nx 0 1 none) (G.new (rG 5 1 [nI .u8 x] 0 false true true)):=λx G=>by rw[Pk _ _ _ rfl];rfl
  have kk:ZE Hs Hb []:=by
   refine(((((((k0.trans' (qi.trans' k12)).trans k23 ?_).trans' k35).trans qj ?_).trans mL ?_).trans bQ ?_).trans k89 ?_).trans' k9a|>.trans kab ?_
   ·intro c hc hlt;have:=(lw2 c hc).1;omega
   ·intro c hc hlt;have:=(bw3 c hc).2;omega
   ·intro c hc hlt;have:=(bw6 c hc).2.1;omega
   ·intro c hc hlt;have:=(bw7 c hc).2;omega
   ·intro c hc hlt;have:=(bw8 c hc).2;omega
   ·intro c hc hlt;have:=bw9 c hc;omega
  simp(maxSteps:=4000000) (disch:=first|assumption|omega|(simp -implicitDefEqProofs only[Xl,Xm]<;>first|assumption|omega)|decide) only[t4,t10,t11,t12,d1,eI,gbb,eL,gz,sf,g1,aa,l0,l1,e2,g2,ln,ad,d2,e3,g3,bs1,GZ,hH5,g4,g5,e6,g6,e7,g7,e8,g8,e9,hHa,eb,sm3,lwa,lwb,lwc,lwd,lwe,ZW,ZX,Zz,ZH,Yx,Ye,ZM,ZK,Zy,ZJ,YN,Y7,YE,Xa,YR,Yy,ZP,Ya,Yb,YV,Nat.reduceSub,Nat.reduceAdd,Nat.reduceLeDiff,ZB,ZL,Nat.reduceEqDiff,decide_true,decide_false,Yq,Zd,Zb,X7,Wc,Y0,Yw,Yk,YQ,YP,Z6,Zx,Zr,Y8,ZY,Zb,Zd,Xg,ZD,ZR,Qp,ZN,Zu,ZC,Zw,ZI,Zs,Zv,Zl,ZO,XC,XJ,Xx,Xw,ZU,ZS,ZX,ZW,Zz,ZH,YC,YF,Zy,ZJ,ZK,ZM,Zb,Zd,ZD,ZR,ZN,YL,YA,YH,YZ,Yp,Yj,Bl,Yf,Xr,ZV,Yv,Z0,Z1,Yc,Nat.reducePow,Nat.reduceDiv,Nat.reduceMod,Nat.reduceEqDiff,reduceCtorEq,Xq,TB]
  refine⟨_,_,_,rfl,.inl ⟨rfl,m,by omega,kk,EV,vV,i+1,wb,rfl,by omega,rfl,?_⟩⟩
  rw[hpush]
  have:xg a=dec z++[32]++a.1++[61]++a.2++[10]:=by unfold xg;rw[hpz]
  rw[this]
  simpa only[XB,ZC,Zw,ZI] using Zn0
theorem pV{Zo:Lib}{fs:T CF}{fuel:Nat}(E:Env Zo fs fuel){k n:Nat}(hk:7<=k){v:AV}{l:List NP}{H:Heap}(gH:Su H)(hN:Sl H 2 v (QG l))(hm: ∀x∈l,NI x.1=true)(hal: ∀x∈l,x.1.length+x.2.length<=10000)(hl:l.length<=1000):
  ∃w H',Z8 (LK Zo fs fuel k) fs fuel (n+5) 21 [v] H=.ret (.tup [w,nI .i64 0]) H'∧GB H' w (MG l) H.nx∧ZE H H' []:=by
 rw[Z7 (Z2 E.n21 (.inr rfl) _ _) E.f21]
 have hf:=E.big
 have ec:=λ{j}=>Znk (Zo:=Zo) (fs:=fs) (fuel:=fuel) E (k:=k) (n:=j) hk (H:=H) gH.p.ro hN hm (λx hx=>by have:=hal x hx;omega) hl
 have ln:=hN.len
 rw[Sg] at ln
 simp(maxSteps:=4000000) (disch:=first|assumption|omega|(simp -implicitDefEqProofs only[Xl,Xm]<;>first|assumption|omega)|decide) only[ec,ln,Yx,Ye,ZM,ZK,Zy,ZJ,YN,Y7,YE,Xa,YR,Yy,ZP,Ya,Yb,YV,Nat.reduceSub,Nat.reduceAdd,Nat.reduceLeDiff,ZB,ZL,Nat.reduceEqDiff,decide_true,decide_false,Yq,Zd,Zb,X7,Wc,Y0,Yw,Yk,YQ,YP,Z6,Zx,Zr,Y8,ZY,Zb,Zd,Xg,ZD,ZR,Qp,ZN,Zu,ZC,Zw,ZI,Zs,Zv,Zl,ZO,XC,XJ,Xx,Xw,ZU,ZS,ZX,ZW,Zz,ZH,YC,YF,Zy,ZJ,ZK,ZM,Zb,Zd,ZD,ZR,ZN,YL,YA,YH,YZ,Yp,Yj,c21,Yf,Xr,ZV,Yv,Z0,Z1,Yc,Nat.reduceEqDiff,reduceCtorEq,Xq,TB]
 generalize hL:WP (Bl _) fuel _ _ _=L
 obtain⟨o,KO,H2,rfl,_,rfl,k2,w,t4,gb⟩:=Wd (P:=λT=>PPI H v l l.length T H) (Q:=PPQ H l)
  (λT hi=>Wo (PPI H v l) (PPQ H l) (λm tm H2 h=>Zer E (n:=n) hk gH hN hm hal hl _ _ _ _ _ m tm H2 h) fuel l.length T H (by omega) hi) hL
  (by exact⟨ZE.refl _ _,rfl,rfl,0,.nils,rfl,by omega,rfl,by rw[ZI];exact .inl ⟨rfl,rfl⟩⟩)
 have gt4':=t4
 simp only[TG] at t4
 simp(maxSteps:=4000000) (disch:=first|assumption|omega|(simp -implicitDefEqProofs only[Xl,Xm]<;>first|assumption|omega)|decide) only[t4,Yx,Ye,ZM,ZK,Zy,ZJ,YN,Y7,YE,Xa,YR,Yy,ZP,Ya,Yb,YV,Nat.reduceSub,Nat.reduceAdd,Nat.reduceLeDiff,ZB,ZL,Nat.reduceEqDiff,decide_true,decide_false,Yq,Zd,Zb,X7,Wc,Y0,Yw,Yk,YQ,YP,Z6,Zx,Zr,Y8,ZY,Zb,Zd,Xg,ZD,ZR,Qp,ZN,Zu,ZC,Zw,ZI,Zs,Zv,Zl,ZO,XC,XJ,Xx,Xw,ZU,ZS,ZX,ZW,Zz,ZH,YC,YF,Zy,ZJ,ZK,ZM,Zb,Zd,ZD,ZR,ZN,YL,YA,YH,YZ,Yp,Yj,c21,Yf,Xr,ZV,Yv,Z0,Z1,Yc,Nat.reduceEqDiff,reduceCtorEq,Xq,TB]
 refine⟨_,_,rfl,?_⟩
 exact⟨gb,k2⟩
def Ro(n:Nat):Nat:=(512 - n % 512) % 512
theorem Zek{n:Nat}(h0:0<n)(h:n<=16777216)(H:Heap):KS TT (.int .i64 (.negSucc (n - 1))) (nI .i64 511) H=.val (nI .i64 (Ro n)) H:=by
 show Z3 (Oz .i64 .i64) (UX .i64 (.ofNat (TT (Sc .i64) (UP (Sc .i64) (.negSucc (n - 1))) (UP (Sc .i64) (.ofNat 511)))) H)=_
 have hx:TT (Sc .i64) (UP (Sc .i64) (.negSucc (n - 1))) (UP (Sc .i64) (.ofNat 511))=Ro n:=by
  show Nat.land (18446744073709551616 - 1 - (n - 1) % 18446744073709551616) 511=_
  rw[YD (by omega)]
  have:=Nat.and_two_pow_sub_one_eq_mod (18446744073709551616 - 1 - (n - 1)) 9
  have e:Nat.land (18446744073709551616 - 1 - (n - 1)) 511=(18446744073709551616 - 1 - (n - 1)) % 512:=this
  rw[e]
  unfold Ro
  omega
 have hl:Ro n<512:=Vu _ (by decide)
 rw[X4,Wb,hx]
 show OR.val (.int .i64 (IntKind.wrap .i64 ((Ro n:Nat):Int))) H=_
 rw[wc (by omega) (by omega)];rfl
theorem Zag(H:Heap):KS TT (nI .i64 0) (nI .i64 511) H=.val (nI .i64 0) H:=rfl
theorem ZbT{Zo:Lib}{fs:T CF}{fuel:Nat}(E:Env Zo fs fuel){n:Nat}{m:Nat}{H:Heap}(hm:m<=16777216):
  ∃H',Z8 (LK Zo fs fuel 0) fs fuel (n+2) 27 [nI .i64 m] H=.ret (nI .i64 (Ro m)) H'∧ZE H H' []:=by
 rw[Z7 (Z2 E.n27 (.inl (by decide)) _ _) E.f27]
 by_cases h0:m=0
 ·subst h0
  have d1:decide (0<0)=false:=rfl
  rw[show Ro 0=0 from rfl]
  simp only[vr,Zag,Fg,OF,Zy,ZL,decide_false,Zy,c27,Yf,Xr,ZV,Xq]
  refine⟨_,rfl,?_⟩
  exact ZE.refl _ _
 ·have d1:decide (m<0)=false:=Ze (by omega)
  have e1:=λG=>aG (u:=m) (by omega) (by omega) G
  have e2:=λG=>Zek (n:=m) (by omega) hm G
  simp only[d1,e1,e2,Fg,OF,Zy,Zy,c27,Yf,Xr,ZV,Xq]
  refine⟨_,rfl,?_⟩
  exact ZE.refl _ _
theorem ZlH{Zo:Lib}{fs:T CF}{fuel:Nat}(E:Env Zo fs fuel){k n:Nat}(hk:1<=k){m:Nat}{H:Heap}(hm:m<=16777216):
  Z8 (LK Zo fs fuel k) fs fuel (n+1) 27 [nI .i64 m] H=.ret (nI .i64 (Ro m)) H:=by
 obtain⟨H',e,g⟩:=ZbT E (n:=898) (H:=H) hm
 exact Xp (r:=0) rfl rfl e g (rfl) hk
structure zg(H:Heap)(b N:Nat)(l:List UInt8):Prop where
 row: ∃r,H.t.get b=some (.row r)∧r.size=N∧r.own=true∧r.fz=0∧r.sz=1∧ ∀i,i<l.length->r.get i=X8 (l.getD i 0)
 lt:b<H.nx
 ro:H.ro<=b
theorem zg.keep{H H':Heap}{b N:Nat}{l:List UInt8}{S:List Nat}(h:zg H b N l)(k:ZE H H' S)(hS:b∉S):zg H' b N l:=by
 obtain⟨⟨r,h1,h2⟩,h3,h4⟩:=h
 exact⟨⟨r,by rw[k.get b h3 hS];exact h1,h2⟩,ZZ h3 k.nx,by rw[k.ro];exact h4⟩
theorem Zgg{H:Heap}{b N:Nat}{l m:List UInt8}(h:zg H b N l)(hN:l.length+m.length<=N):
  ∃H',Ol (.slice b 0 l.length none) 5 1 1 H m.length (m.map X8)=.val (.slice b 0 (l.length+m.length) none) H'∧zg H' b N (l++m)∧ZE H H' [b]:=by
 obtain⟨⟨r,h1,h2,h3,h4,h5,h6⟩,h7,h8⟩:=h
 have hrow: ∀k:Row->OR,Xv H b k=k r:=λk=>by unfold Xv;rw[h1]
 have hcap:W4 r 0 none=N:=by
  show cond (Nat.beq r.sz 1) (r.size - 0) (Nat.div (r.size - 0) r.sz)=_
  rw[h5,h2];rfl
 have hsz:L9 r 1 none=true:=by show Nat.beq r.sz 1=true;rw[h5];rfl
 have Ox:H.may r b=true:=by unfold Heap.may;rw[h3,Zg h8];rfl
 have e0: ∀(n:Nat) (new:List AV),l.length+n<=N->Ol (.slice b 0 l.length none) 5 1 1 H n new=Jl H (.slice b 0 l.length none) b 0 l.length n 1 none r new:=λn new hn=>by
  show Xv H b (λr=>Z3 (L9 r 1 none) (cond (Nat.ble (Nat.add l.length n) (W4 r 0 none)) (Jl H (.slice b 0 l.length none) b 0 l.length n 1 none r new) (Ni H 5 b 0 l.length n 1 1 none r new)))=_
  rw[hrow,hsz,hcap,show Nat.ble (Nat.add l.length n) N=true from Zg hn];rfl
 rw[e0 _ _ hN]
 by_cases h0:m=[]
 ·subst h0
  exact⟨H,rfl,⟨⟨r,h1,h2,h3,h4,h5,by rw[Zr];exact h6⟩,h7,h8⟩,ZE.refl _ _⟩
 ·have hp:0<m.length:=by rcases m with _|_;exact absurd rfl h0;exact S6 _
  refine⟨H.put b (.row (r.setCells (Xj r.cells (0+l.length*1) (m.map X8)))),?_,⟨⟨_,XY _ _ _,h2,h3,h4,h5,λi hi=>?_⟩,h7,h8⟩,ZE.put λ_=>ZG.2 rfl⟩
  ·show cond (Nat.beq m.length 0) _ (Z3 (H.may r b) (Z3 (Nat.ble (0+(l.length+m.length)*1) r.size) (Z3 (Nat.ble r.fz (0+l.length*1)) (.val (.slice b 0 (l.length+m.length) none) _))))=_
   rw[Y1,Ze (by omega),Ox,h2,h4,Zg (by omega),Zg (ZB _)];rfl
  ·rw[Zm] at hi
   rw[Row.get_eq]
   show((Xj r.cells (0+l.length*1) (m.map X8)).get i).getD r.dflt=_
   rw[Xf,Zb,Qg,Zt]
   by_cases hA:i<l.length
   ·rw[if_neg (by omega)]
    have:=h6 i hA
    rw[Row.get_eq] at this
    rw[this,Zf,Zf,Yt hA]
   ·rw[if_pos (by omega),YO,Zn (by omega),Zf,Yz (by omega),Zn (by omega)];rfl
theorem nt{H:Heap}{b N:Nat}{l m:List UInt8}{v:AV}(h:zg H b N l)(hv:BV H v m)(hN:l.length+m.length<=N):
  ∃H',U2 5 1 1 (.slice b 0 l.length none) v H=.val (.slice b 0 (l.length+m.length) none) H'∧zg H' b N (l++m)∧ZE H H' [b]:=by
 obtain⟨H',e,r⟩:=Zgg h hN
 refine⟨H',?_,r⟩
 rw[SV (by decide) hv.src,Zt];exact e
theorem zg.bv{H:Heap}{b N:Nat}{l:List UInt8}(h:zg H b N l)(hl:l.length=N)(h0:0<N):BV H (.slice b 0 N none) l:=by
 obtain⟨⟨r,h1,h2,h3,h4,h5,h6⟩,h7,h8⟩:=h
 exact .inr ⟨λh=>by rw[h] at hl;have:0=N:=hl;omega,b,0,none,r,by rw[hl],⟨h1,h5,by omega,λi hi=>by rw[Zb];exact h6 i hi,λk hk=>by cases hk⟩,h7⟩
def Zjj(a:AV)(H:Heap):OR:=pH (λ_=>a) OM H
theorem Zd2(x:YG)(tm:TM)(H:Heap):pH x tm H=Zjj (x tm) H:=rfl
theorem dO{Zo:Lib}{fs:T CF}{fuel:Nat}(E:Env Zo fs fuel){k n:Nat}{H:Heap}{N:Nat}(hro:H.ro<=H.nx)(h0:0<N)(hN:N<=140737488355328):
  ∃H',Z8 (LK Zo fs fuel k) fs fuel (n+1) 50 [.nils,nI .i64 N] H=.ret (.slice H.nx 0 0 none) H'∧zg H' H.nx N []∧ZE H H' []:=by
 rw[Z7 (Z2 E.n50 (.inr rfl) _ _) E.f50]
 have c0: ∀G:Heap,Zjj .nils G=.val (nI .i64 0) G:=λG=>rfl
 have s0: ∀G:Heap,J8 (nI .i64 0) (nI .i64 0) G=.val (nI .i64 0) G:=λG=>rfl
 have s1: ∀G:Heap,J8 (nI .i64 N) (nI .i64 0) G=.val (nI .i64 N) G:=λG=>by rw[YR (by omega) (by omega),PE]
 have d0:decide (N<0)=false:=Ze (by omega)
 have d1:decide (0<N)=true:=Zj h0
 have sn: ∀G:Heap,Ss 1 .nils none (some (nI .i64 0)) G=.val .nils G:=λG=>rfl
 have hrep:(List.replicate N (0:UInt8)).length=N:=Yu ..
 have ea:Zf3 5 1 1 [nI .u8 0] .nils (nI .i64 N) H=.val (.slice H.nx 0 N none) (H.new (rG 5 1 ((List.replicate N (0:UInt8)).map X8) 0 false true false)):=by
  show Z3 (Nat.ble (N*1) 140737488355328) (Ol .nils 5 1 1 H N (List.replicate N [nI .u8 0]).flatten)=_
  rw[Xf,Zg hN,vO]
  have:=Jm (e:=5) (H:=H) (l:=(List.replicate N (0:UInt8)).map X8) (by rw[Zt,hrep];exact h0) (by rw[Zt,hrep];exact hN)
  rw[Zt,hrep] at this
  show Ol .nils 5 1 1 H N ((List.replicate N (0:UInt8)).map X8)=_
  rw[this,YC]
 have hs:Xc ((List.replicate N (0:UInt8)).map X8)=N:=by rw[Xb,Zt,hrep]
 have sl:Ss 1 (.slice H.nx 0 N none) none (some (nI .i64 0)) (H.new (rG 5 1 ((List.replicate N (0:UInt8)).map X8) 0 false true false))=.val (.slice H.nx 0 0 none) (H.new (rG 5 1 ((List.replicate N (0:UInt8)).map X8) 0 false true false)):=by
  show Xv _ H.nx _=_
  unfold Xv
  rw[YB rfl]
  show Z3 true (Z3 (Nat.ble 0 (Xc ((List.replicate N (0:UInt8)).map X8) - 0)) (Z3 (Nat.ble 0 0) (Z3 (Nat.ble 0 (Xc ((List.replicate N (0:UInt8)).map X8) - 0)) (cond (Nat.beq 0 (Xc ((List.replicate N (0:UInt8)).map X8) - 0)) _ (.val (.slice H.nx (0+0*1) (0 - 0) none) _)))))=_
  rw[hs,PE,Zg (ZB _),Y1,Ze (by omega)];rfl
 simp only[c0,s0,s1,d0,d1,sn,ea,sl,Zd2,RZ,XG,VI,Zy,ZJ,Zy,ZJ,YA,c50,Yf,Xr,ZV,Xq]
 refine⟨_,rfl,⟨⟨_,YB rfl _,hs,rfl,rfl,rfl,λi hi=>by cases hi⟩,YK _,hro⟩,ZE.new _ _ _⟩
theorem eN{Zo:Lib}{fs:T CF}{fuel:Nat}(E:Env Zo fs fuel){k n:Nat}{H:Heap}{sb e:Nat}{s1 s2 s3 s4:AV}{l1 l2 l3 l4:List UInt8}(hro:H.ro<=H.nx)(hb:sb<H.nx)(g:H.t.get sb=some (rG e 1 [s1,s2,s3,s4] 0 false true true))(b1:BV H s1 l1)(b2:BV H s2 l2)(b3:BV H s3 l3)(b4:BV H s4 l4)
  (f1: ∀b∈WK s1,b<H.nx)(f2: ∀b∈WK s2,b<H.nx)(f3: ∀b∈WK s3,b<H.nx)(f4: ∀b∈WK s4,b<H.nx)(h0:0<l1.length)(hl:l1.length+l2.length+l3.length+l4.length<=1000000000):
  ∃b H',Z8 (LK Zo fs fuel k) fs fuel (n+2) 26 [.slice sb 0 4 none] H=.ret (.slice b 0 (l1.length+l2.length+l3.length+l4.length) none) H'∧BV H' (.slice b 0 (l1.length+l2.length+l3.length+l4.length) none) (l1++l2++l3++l4)∧ZE H H' []∧H.nx<=b∧b<H'.nx:=by
 rw[Z7 (Z2 E.n26 (.inr rfl) _ _) E.f26]
 have hf:=E.big
 obtain⟨fu,rfl⟩: ∃fu,fuel=fu+5:=⟨fuel - 5,by omega⟩
 have ix: ∀i,i<4-> ∀G,IZ 1 (.slice sb 0 4 none) (nI .i64 i) G=.val (.ptr sb i) G:=λi hi G=>by rw[ZY hi,Zb]
 have ix0:=ix 0 (by decide);have ix1:=ix 1 (by decide);have ix2:=ix 2 (by decide);have ix3:=ix 3 (by decide)
 have ld0: ∀G,ld1 (some (rG e 1 [s1,s2,s3,s4] 0 false true true)) 0 G=.val s1 G:=λG=>Vo (show 0<4 by decide) ..
 have ld1': ∀G,ld1 (some (rG e 1 [s1,s2,s3,s4] 0 false true true)) 1 G=.val s2 G:=λG=>Vo (show 1<4 by decide) ..
 have ZoS: ∀G,ld1 (some (rG e 1 [s1,s2,s3,s4] 0 false true true)) 2 G=.val s3 G:=λG=>Vo (show 2<4 by decide) ..
 have ZoT: ∀G,ld1 (some (rG e 1 [s1,s2,s3,s4] 0 false true true)) 3 G=.val s4 G:=λG=>Vo (show 3<4 by decide) ..
 have n1:=b1.len;have n2:=b2.len;have n3:=b3.len;have n4:=b4.len
 have a1: ∀G,RI (nI .i64 0) (nI .i64 l1.length) G=.val (nI .i64 l1.length) G:=λG=>by rw[Yy (by omega),Zb]
 have a2: ∀G,RI (nI .i64 l1.length) (nI .i64 l2.length) G=.val (nI .i64 (l1.length+l2.length)) G:=λG=>Yy (by omega) G
 have a3: ∀G,RI (nI .i64 (l1.length+l2.length)) (nI .i64 l3.length) G=.val (nI .i64 (l1.length+l2.length+l3.length)) G:=λG=>Yy (by omega) G
 have a4: ∀G,RI (nI .i64 (l1.length+l2.length+l3.length)) (nI .i64 l4.length) G=.val (nI .i64 (l1.length+l2.length+l3.length+l4.length)) G:=λG=>Yy (by omega) G
 have dz: ∀x:Nat,decide (x<0)=false:=λx=>Ze (SH _)
 have p0: ∀G,Te Wf Xo (nI .i64 0) (nI .i64 4) G=.val (.bool true) G:=λ_=>rfl
 have p1: ∀G,Te Wf Xo (nI .i64 1) (nI .i64 4) G=.val (.bool true) G:=λ_=>rfl
 have p2: ∀G,Te Wf Xo (nI .i64 2) (nI .i64 4) G=.val (.bool true) G:=λ_=>rfl
 have p3: ∀G,Te Wf Xo (nI .i64 3) (nI .i64 4) G=.val (.bool true) G:=λ_=>rfl
 have p4: ∀G,Te Wf Xo (nI .i64 4) (nI .i64 4) G=.val (.bool false) G:=λ_=>rfl
 have q0: ∀G,RI (nI .i64 0) (nI .i64 1) G=.val (nI .i64 1) G:=λ_=>rfl
 have q1: ∀G,RI (nI .i64 1) (nI .i64 1) G=.val (nI .i64 2) G:=λ_=>rfl
 have q2: ∀G,RI (nI .i64 2) (nI .i64 1) G=.val (nI .i64 3) G:=λ_=>rfl
 have q3: ∀G,RI (nI .i64 3) (nI .i64 1) G=.val (nI .i64 4) G:=λ_=>rfl
 obtain⟨H1,eg,cb,k1⟩:=dO E (k:=k) (n:=n) (H:=H) (N:=l1.length+l2.length+l3.length+l4.length) hro (by omega) (by omega)
 have mv: ∀{G:Heap} {s:AV} {l:List UInt8},BV H s l->(∀b∈WK s,b<H.nx)->(∃S,ZE H G S∧ ∀x∈S,x=H.nx)->BV G s l:=λhb hf ⟨S,kk,hS⟩=>hb.keep kk λb o n c hh hm=>by
  subst hh
  have:=hf b (by simp[WK])
  have:=hS b hm
  omega
 obtain⟨H2,e2,cb2,k2⟩:=nt cb (mv b1 f1 ⟨[],k1,λx hx=>by cases hx⟩) (by show 0+_<=_;omega)
 have kk2:ZE H H2 [H.nx]:=(k1.more).trans k2 λc hc _=>hc
 rw[Zx] at cb2
 rw[show([]:List UInt8).length=0 from rfl,Zb] at e2
 obtain⟨H3,e3,cb3,k3⟩:=nt cb2 (mv b2 f2 ⟨_,kk2,λx hx=>ZG.1 hx⟩) (by omega)
 have kk3:ZE H H3 [H.nx]:=kk2.trans k3 λc hc _=>hc
 obtain⟨H4,e4,cb4,k4⟩:=nt cb3 (mv b3 f3 ⟨_,kk3,λx hx=>ZG.1 hx⟩) (by rw[Zm];omega)
 have kk4:ZE H H4 [H.nx]:=kk3.trans k4 λc hc _=>hc
 rw[Zm] at e4
 obtain⟨H5,e5,cb5,k5⟩:=nt cb4 (mv b4 f4 ⟨_,kk4,λx hx=>ZG.1 hx⟩) (by rw[Zm,Zm];omega)
 have kk5:ZE H H5 [H.nx]:=kk4.trans k5 λc hc _=>hc
 rw[Zm,Zm] at e5
 have gk: ∀{G S},ZE H G S->(∀x∈S,x=H.nx)->G.t.get sb=some (rG e 1 [s1,s2,s3,s4] 0 false true true):=λkk hS=>by
  rw[kk.get sb hb λh=>by have:=hS _ h;omega];exact g
 have g1:=gk k1 λx hx=>by cases hx
 have g2:=gk kk2 λx hx=>ZG.1 hx
 have g3:=gk kk3 λx hx=>ZG.1 hx
 have g4:=gk kk4 λx hx=>ZG.1 hx
 simp only[ix0,ix1,ix2,ix3,g,g1,g2,g3,g4,ld0,ld1',ZoS,ZoT,n1,n2,n3,n4,a1,a2,a3,a4,dz,p0,p1,p2,p3,p4,q0,q1,q2,q3,eg,e2,e3,e4,e5,Ml,ZW,V8,Zy,c26,fY,fZ,Yf,Xr,ZV,Xq,TB]
 refine⟨H.nx,_,rfl,cb5.bv ?_ (by omega),?_,Zq _,cb5.lt⟩
 ·simp only[Zm]
 ·exact⟨kk5.nx,kk5.ro,λc hc _=>kk5.get c hc λh=>by have:=ZG.1 h;omega⟩
structure Hj(m:Mem):Prop where
 path:m.path.length<=4200
 link:m.link.length<=4200
 attrs: ∀x∈m.attrs,x.1.length+x.2.length<=9000
 mode:m.mode<4294967296
 uid:m.uid<4294967296
 gid:m.gid<4294967296
 t1: -9223372036854775808<=m.time
 t2:m.time<=9223372036854775807
 ats:m.attrs.length<=100
theorem Hj.short{m:Mem}(h:Hj m):CX m:=
 ⟨by have:=h.path;omega,by have:=h.ats;omega,λi hi=>by
  have:=h.attrs (m.attrs.getD i ([],[])) (by rw[Zf,Zn hi];exact WN hi)
  omega⟩
def Ae(m:Mem):List UInt8:=mu m.path m.link m.kind m.time m.mode m.uid m.gid m.data
def Rm(m:Mem):List NP:=mw m.path m.link m.kind m.time m.uid m.gid m.attrs
theorem BJ{z:Int}(h1: -9223372036854775808<=z)(h2:z<=9223372036854775807):(Km z).length<=21:=by
 unfold Km
 have h:=NJ (n:=z.natAbs) (k:=20) (by decide) (by omega)
 split
 ·rw[Zl,MR];omega
 ·rw[MR];omega
def CW(x:NP):Prop:=NI x.1=true∧x.1.length+x.2.length<=10000
theorem vA{e:qm}{Rs:List NP}(h: ∀x∈Rs,CW x)(he:CW (e.key,Km e.z)): ∀x∈PW e Rs,CW x:=by
 intro x hx
 unfold PW at hx
 split at hx
 ·rcases ZA.1 hx with hx|hx
  ·exact h x hx
  ·rw[ZG.1 hx];exact he
 ·exact h x hx
theorem Zcg(a s t:List UInt8):Jj a (s++t)=(Jj a s||Jj a t):=by unfold Jj;rw[List.any_append]
theorem Zcl{m:Mem}(h:Hj m)(hm:O5 m.attrs=true): ∀x∈m.attrs,CW (uf x):=by
 intro x hx
 unfold O5 at hm
 rw[Xn,Y6] at hm
 obtain⟨i,hi,rfl⟩:=Sx.1 hx
 have h1:=hm.1 i (VD.2 hi)
 unfold okA at h1
 rw[Zf,Zn hi] at h1
 have h2:=h.attrs _ hx
 simp only[SJ,Xn,Bool.not_eq_true',decide_eq_true_eq,decide_eq_false_iff_not] at h1
 obtain⟨⟨⟨h3,h4⟩,h5⟩,_⟩:=h1
 refine⟨?_,?_⟩
 ·show NI ([83,67,72,73,76,89,46,120,97,116,116,114,46]++_)=true
  unfold NI
  rw[Zcg,h5]
  have hl:([83,67,72,73,76,89,46,120,97,116,116,114,46]++m.attrs[i].1).length<=255:=by rw[Zm];show 13+_<=_;omega
  rw[Zj hl,Ze (by simp)]
  rfl
 ·show([83,67,72,73,76,89,46,120,97,116,116,114,46]++m.attrs[i].1).length+m.attrs[i].2.length<=10000
  rw[Zm];show 13+m.attrs[i].1.length+m.attrs[i].2.length<=10000;omega
theorem lJ{m:Mem}(h:Hj m)(hm:O5 m.attrs=true):(∀x∈Rm m,CW x)∧(Rm m).length<=105:=by
 have hp:=h.path;have hl:=h.link
 have hlo:=tD m.kind m.path
 have kk:NI [112,97,116,104]=true∧NI [108,105,110,107,112,97,116,104]=true∧NI [117,105,100]=true∧NI [103,105,100]=true∧NI [109,116,105,109,101]=true:=by decide
 have h0: ∀x∈(if (R0 (SW m.kind m.path)).2.2=true then [] else [([112,97,116,104],SW m.kind m.path)]:List NP),CW x:=by
  intro x hx
  split at hx
  ·cases hx
  ·rw[ZG.1 hx];exact⟨kk.1,by show 4+(SW m.kind m.path).length<=10000;omega⟩
 have n0:(if (R0 (SW m.kind m.path)).2.2=true then [] else [([112,97,116,104],SW m.kind m.path)]:List NP).length<=1:=by split<;>simp
 generalize hq:(if (R0 (SW m.kind m.path)).2.2=true then [] else [([112,97,116,104],SW m.kind m.path)]:List NP)=q at h0 n0
 have h1: ∀x∈(if 100<m.link.length then q++[([108,105,110,107,112,97,116,104],m.link)] else q),CW x:=by
  intro x hx
  split at hx
  ·rcases ZA.1 hx with hx|hx
   ·exact h0 x hx
   ·rw[ZG.1 hx];exact⟨kk.2.1,by show 8+m.link.length<=10000;omega⟩
  ·exact h0 x hx
 have n1:(if 100<m.link.length then q++[([108,105,110,107,112,97,116,104],m.link)] else q).length<=2:=by
  split
  ·rw[Zm];show _+1<=_;omega
  ·omega
 unfold Rm mw ZdR ZbO
 rw[hq]
 generalize(if 100<m.link.length then q++[([108,105,110,107,112,97,116,104],m.link)] else q)=q1 at h1 n1
 have f1:=BJ (z:=(m.uid:Int)) (by omega) (by have:=h.uid;omega)
 have f2:=BJ (z:=(m.gid:Int)) (by omega) (by have:=h.gid;omega)
 have f3:=BJ h.t1 h.t2
 have a1:=vA (e:=⟨[117,105,100],108,8,m.uid,2097151⟩) h1 ⟨kk.2.2.1,by show 3+(Km (m.uid:Int)).length<=10000;omega⟩
 have b1:=PX ⟨[117,105,100],108,8,m.uid,2097151⟩ q1
 have a2:=vA (e:=⟨[103,105,100],116,8,m.gid,2097151⟩) a1 ⟨kk.2.2.2.1,by show 3+(Km (m.gid:Int)).length<=10000;omega⟩
 have b2:=PX ⟨[103,105,100],116,8,m.gid,2097151⟩ (PW ⟨[117,105,100],108,8,m.uid,2097151⟩ q1)
 have a3:=vA (e:=⟨[109,116,105,109,101],136,12,m.time,8589934591⟩) a2 ⟨kk.2.2.2.2,by show 5+(Km m.time).length<=10000;omega⟩
 have b3:=PX ⟨[109,116,105,109,101],136,12,m.time,8589934591⟩ (PW ⟨[103,105,100],116,8,m.gid,2097151⟩ (PW ⟨[117,105,100],108,8,m.uid,2097151⟩ q1))
 have hF:(tR m.uid m.gid m.time).foldl (λl x=>PW x l) q1=PW ⟨[109,116,105,109,101],136,12,m.time,8589934591⟩ (PW ⟨[103,105,100],116,8,m.gid,2097151⟩ (PW ⟨[117,105,100],108,8,m.uid,2097151⟩ q1)):=rfl
 rw[hF]
 refine⟨λx hx=>?_,?_⟩
 ·rcases ZA.1 hx with hx|hx
  ·exact a3 x hx
  ·obtain⟨y,hy,rfl⟩:=Xu.1 hx
   exact Zcl h hm y hy
 ·rw[Zm,Zt];have:=h.ats;omega
def Zai(r:Nat):List UInt8:=DQ (Sj (Sj (Sj (Sj (Sj (Sj (F3 120) 0 100 (Oj [112,97,120] 100)) 100 8 (Nu 0 8)) 108 8 (Nu 0 8)) 116 8 (Nu 0 8)) 136 12 (Nu 0 12)) 124 12 (Nu r 12))
def MZ(m:Mem):List UInt8:=if Rm m=[] then Ae m else Zai (MG (Rm m)).length++MG (Rm m)++List.replicate (Ro (MG (Rm m)).length) 0++Ae m
theorem sS(e n:Nat):Cells ⟨e,1,n,.leaf,nI .u8 0,0,false,true,true⟩ ((List.replicate n (0:UInt8)).map X8):=by
 have h:(List.replicate n (0:UInt8)).map X8=List.replicate n (nI .u8 0):=by rw[VM];rfl
 refine⟨by rw[Zt,Yu],λi hi=>?_⟩
 rw[Zt,Yu] at hi
 rw[h,Row.get_eq,Zf,Wp,if_pos hi]
 show(T.leaf.get i).getD (nI .u8 0)=nI .u8 0
 rw[T.get_leaf];rfl
theorem Gm.szd{H:Heap}{m:Mem}{av dv:AV}(hA:Sz H 2 av (QG m.attrs))(hD:Sz H 1 dv (ND m.data))(h:Hj m)(hd:m.data.length<=1073741824):Szd H av dv m.attrs m.data:=
 ⟨hA,hD,h.ats,λx hx=>by have:=h.attrs x hx;omega,hd⟩
theorem fE{Zo:Lib}{fs:T CF}{fuel:Nat}(E:Env Zo fs fuel){k n:Nat}(hk:12<=k){H:Heap}{cs:List AV}{m:Mem}(gH:Su H)(hC:Gm H cs m)(h:Hj m)(hm:UF m=true):
  ∃v H',Z8 (LK Zo fs fuel k) fs fuel (n+7) 15 [.agg cs] H=.ret (.tup [v,nI .i64 0]) H'∧BV H' v (MZ m)∧ZE H H' []∧ ∃b c,v=.slice b 0 (MZ m).length c∧H.nx<=b∧b<H'.nx:=by
 rw[Z7 (Z2 E.n15 (.inr rfl) _ _) E.f15]
 have hC0:=hC
 obtain⟨av,dv,rfl,hA,hD⟩:=hC
 have hm':=hm
 unfold UF at hm'
 simp only[Xn,decide_eq_true_eq] at hm'
 obtain⟨⟨⟨⟨⟨_,hmo⟩,hmA⟩,_⟩,hdl⟩,_⟩:=hm'
 have cv1:=hA.cells
 have cv2:=hD.cells
 have hro:=gH.p.ro;have GY:=gH.p.nx
 have bx: ∀G:Heap,II 36 (.agg [.str m.path,.int .i64 m.kind,nI .u32 m.mode,nI .u32 m.uid,nI .u32 m.gid,.int .i64 m.time,av,dv,.str m.link]) G=.val (.ptr G.nx 0) (G.new (rG 36 1 [.str m.path,.int .i64 m.kind,nI .u32 m.mode,nI .u32 m.uid,nI .u32 m.gid,.int .i64 m.time,av,dv,.str m.link] 0 false true true)):=λG=>V7 (l:=[.str m.path,.int .i64 m.kind,nI .u32 m.mode,nI .u32 m.uid,nI .u32 m.gid,.int .i64 m.time,av,dv,.str m.link]) (show 1<=9 by decide) 36 G
 obtain⟨H1,hH1⟩: ∃G,H.new (rG 36 1 [.str m.path,.int .i64 m.kind,nI .u32 m.mode,nI .u32 m.uid,nI .u32 m.gid,.int .i64 m.time,av,dv,.str m.link] 0 false true true)=G:=⟨_,rfl⟩
 have k1:ZE H H1 []:=by rw[<-hH1];exact ZE.new _ _ _
 have Jh:H1.nx=H.nx+1:=by rw[<-hH1];rfl
 have g1:H1.t.get H.nx=some (rG 36 1 [.str m.path,.int .i64 m.kind,nI .u32 m.mode,nI .u32 m.uid,nI .u32 m.gid,.int .i64 m.time,av,dv,.str m.link] 0 false true true):=by rw[<-hH1];exact YB rfl _
 have qk: ∀G,wZ 9 (some (rG 36 1 [.str m.path,.int .i64 m.kind,nI .u32 m.mode,nI .u32 m.uid,nI .u32 m.gid,.int .i64 m.time,av,dv,.str m.link] 0 false true true)) 0 G=.val (.agg [.str m.path,.int .i64 m.kind,nI .u32 m.mode,nI .u32 m.uid,nI .u32 m.gid,.int .i64 m.time,av,dv,.str m.link]) G:=λG=>To (show 0+9<=9 by decide) ..
 have gH1:=gH.keep0 k1
 have em:=λ{j}=>ZbR (Zo:=Zo) (fs:=fs) (fuel:=fuel) E (k:=k) (n:=j) hk h.short gH1.p (hC0.keep k1)
 rw[hm] at em
 obtain⟨b,q,w,H2,e2,hb,hbq,k12,fy,R2,rb⟩:=bA E (k:=k) (n:=n) (by omega) gH1 (Gm.szd (hA.keep0 k1) (hD.keep0 k1) h (by omega)) h.mode h.uid h.gid h.t1 h.t2 (Yl h.path (by decide)) (Yl h.link (by decide))
 have k2:ZE H H2 []:=k1.trans' k12
 have hl2:=R2.len
 have hb2:=R2.lt
 have lw:=rb.len
 rw[Sg] at lw
 obtain⟨FX,gj⟩:=lJ h hmA
 have sa: ∀(b:Nat) G,KG 512 1 (.ptr b 0) none none G=.val (.slice b 0 512 (some 512)) G:=λ_ _=>rfl
 by_cases hR:Rm m=[]
 ·have hR':=hR
  unfold Rm at hR'
  rw[hR'] at lw
  have d1: ∀G,MU UB false (nI .i64 ([]:List NP).length) (nI .i64 0) G=.val (.bool true) G:=λ_=>rfl
  have hb1:MZ m=Ae m:=by unfold MZ;rw[if_pos hR]
  have bv:=ww R2 (a:=0) (n:=512) (by decide) (by decide)
  rw[ZC,YS (by omega)] at bv
  have hl3:(MZ m).length=512:=by rw[hb1];exact hl2
  simp(maxSteps:=4000000) (disch:=first|assumption|omega|(simp -implicitDefEqProofs only[Xl,Xm]<;>first|assumption|omega)|decide) only[bx,hH1,g1,qk,em,e2,lw,sa,SA,Mq,Us,Vk,VI,d1,Yx,Ye,ZM,ZK,Zy,ZJ,YN,Y7,YE,Xa,YR,Yy,ZP,Ya,Yb,YV,Nat.reduceSub,Nat.reduceAdd,Nat.reduceLeDiff,ZB,ZL,Nat.reduceEqDiff,decide_true,decide_false,Yq,Zd,Zb,X7,Wc,Y0,Yw,Yk,YQ,YP,Z6,Zx,Zr,Y8,ZY,Zb,Zd,Xg,ZD,ZR,Qp,ZN,Zu,ZC,Zw,ZI,Zs,Zv,Zl,ZO,XC,XJ,Xx,Xw,ZU,ZS,ZX,ZW,Zz,ZH,YC,YF,Zy,ZJ,ZK,ZM,Zb,Zd,ZD,ZR,ZN,YL,YA,YH,YZ,Yp,Yj,c15,Yf,Xr,ZV,Yv,Z0,Z1,Yc,Nat.reducePow,Nat.reduceDiv,Nat.reduceMod,Nat.reduceEqDiff,reduceCtorEq,Xq,TB,K1]
  refine⟨_,_,rfl,?_⟩
  rw[hb1]
  exact⟨bv,k2,b,some 512,by rw[<-hb1,hl3],by omega,hb2⟩
 have hlen:0<(Rm m).length:=by
  rcases hx:Rm m with _|⟨a,l⟩
  ·exact absurd hx hR
  ·exact S6 _
 have lw: ∀G,lenV w G=.val (nI .i64 (Rm m).length) G:=lw
 have d1:decide ((Rm m).length=0)=false:=Ze (by omega)
 have hb1:MZ m=Zai (MG (Rm m)).length++MG (Rm m)++List.replicate (Ro (MG (Rm m)).length) 0++Ae m:=by unfold MZ;rw[if_neg hR]
 obtain⟨w3,H3,e3,jv,k23⟩:=pV E (k:=k) (n:=n+1) (by omega) fy (Sl.of_buf (show Py H2 w 85 2 (QG (Rm m)) (q+1) from rb)) (λx hx=>(FX x hx).1) (λx hx=>(FX x hx).2) (by omega)
 have hpl:=AB (l:=Rm m) λx hx=>(FX x hx).2
 have hpl:(MG (Rm m)).length<=105*10023:=by
  have:(Rm m).length*10023<=105*10023:=XX _ gj
  omega
 have ln3:=jv.len
 generalize hP:MG (Rm m)=P at*
 have d2: ∀G,MU UB true (nI .i64 0) (nI .i64 0) G=.val (.bool false) G:=λ_=>rfl
 have k3:ZE H H3 []:=k2.trans' k23
 have hx3:=k23.nx
 have gH3:=fy.keep0 k23
 obtain⟨H4,e4,v7,R4⟩:=zR E (k:=k) (n:=n+1) (by omega) (t:=120) (by decide) gH3
 have k4:ZE H H4 []:=k3.trans' v7
 have hx4:=v7.nx
 have up: ∀{G G':Heap},ZE H3 G []->ZE G G' [H3.nx]->ZE H3 G' []:=λa b=>a.trans b λx hx hlt=>by have:=ZG.1 hx;omega
 obtain⟨H5,e5,tu,R5⟩:=A4 E (k:=k) (n:=n+2) (by omega) (s:=[112,97,120]) (gH3.keep0 v7) du R4 (by decide)
 have k35:=up v7 tu
 obtain⟨H6,e6,qj,R6⟩:=Is E (k:=k) (n:=n+2) (by omega) (u:=0) (gH3.keep0 k35) dt R5 (by decide) (by decide) (by decide)
 have k36:=up k35 qj
 obtain⟨H7,e7,mL,R7⟩:=Is E (k:=k) (n:=n+2) (by omega) (u:=0) (gH3.keep0 k36) Ze8 R6 (by decide) (by decide) (by decide)
 have k37:=up k36 mL
 obtain⟨H8,e8,bQ,R8⟩:=Is E (k:=k) (n:=n+2) (by omega) (u:=0) (gH3.keep0 k37) Ze7 R7 (by decide) (by decide) (by decide)
 have k38:=up k37 bQ
 obtain⟨H9,e9,k89,R9⟩:=Is E (k:=k) (n:=n+2) (by omega) (u:=0) (gH3.keep0 k38) nC R8 (by decide) (by decide) (by decide)
 have k39:=up k38 k89
 obtain⟨Ha,ea,k9a,Ra⟩:=Is E (k:=k) (n:=n+2) (by omega) (u:=P.length) (gH3.keep0 k39) dy R9 (by omega) (by decide) (by decide)
 have k3a:=up k39 k9a
 obtain⟨Hb,eb,kab,Rb⟩:=sY E (k:=k) (n:=n+1) (by omega) (gH3.keep0 k3a) Ra
 have k3b:=up k3a kab
 have k2b:ZE H2 Hb []:=k23.trans' k3b
 have kb:ZE H Hb []:=k2.trans' k2b
 have hxb:=k3b.nx
 have hRb:=Rb.lt
 have gHb:=gH3.keep0 k3b
 have hrob:=gHb.p.ro
 have et:=λ{j}=>ZlH (Zo:=Zo) (fs:=fs) (fuel:=fuel) E (k:=k) (n:=j) (by omega) (m:=P.length) (H:=Hb) (by omega)
 obtain⟨Hc,hHc⟩: ∃G,Hb.new (.row ⟨5,1,Ro P.length,.leaf,nI .u8 0,0,false,true,true⟩)=G:=⟨_,rfl⟩
 have kbc:ZE Hb Hc []:=by rw[<-hHc];exact ZE.new _ _ _
 have nxc:Hc.nx=Hb.nx+1:=by rw[<-hHc];rfl
 obtain⟨Hd,hHd⟩: ∃G,Hc.new (rG 32 1 [.slice H3.nx 0 512 (some 512),w3,.slice Hb.nx 0 (Ro P.length) none,.slice b 0 512 (some 512)] 0 false true true)=G:=⟨_,rfl⟩
 have kcd:ZE Hc Hd []:=by rw[<-hHd];exact ZE.new _ _ _
 have nxd:Hd.nx=Hc.nx+1:=by rw[<-hHd];rfl
 have kbd:=kbc.trans' kcd
 have mk: ∀G:Heap,Zhw 5 1 1 [nI .u8 0] (nI .i64 (Ro P.length)) (nI .i64 (Ro P.length)) G=.val (.slice G.nx 0 (Ro P.length) none) (G.new (.row ⟨5,1,Ro P.length,.leaf,nI .u8 0,0,false,true,true⟩)):=λG=>aC (by have:Ro P.length<512:=Vu _ (by decide);omega) (by have:Ro P.length<512:=Vu _ (by decide);omega) _ _ _
 have hw:wrO (.row ⟨5,1,Ro P.length,.leaf,nI .u8 0,0,false,true,true⟩)=true:=rfl
 have bs4: ∀(x y z u:AV) (G:Heap),x.cells=[x]->y.cells=[y]->z.cells=[z]->u.cells=[u]->UL 32 1 4 (List.replicate 4 [.nils]).flatten [(0,1,x),(1,1,y),(2,1,z),(3,1,u)] G=.val (.slice G.nx 0 4 none) (G.new (rG 32 1 [x,y,z,u] 0 false true true)):=λx y z u G hx hy hz hu=>by
  rw[Hu (by decide) rfl,Tw hx (show 0<4 by decide),Tw hy (show 1<4 by decide),Tw hz (show 2<4 by decide),Tw hu (show 3<4 by decide),NV];rfl
 have bs:=bs4 (.slice H3.nx 0 512 (some 512)) w3 (.slice Hb.nx 0 (Ro P.length) none) (.slice b 0 512 (some 512))
 have cw:=jv.cells
 have hpz:(List.replicate (Ro P.length) (0:UInt8)).length=Ro P.length:=Yu ..
 have v1:=ww (Rb.keep0 kbd) (a:=0) (n:=512) (by decide) (by decide)
 rw[ZC,YS (by have:=Rb.len;omega)] at v1
 have v2:=(jv.keep k3b (λ_ _=>by simp)).keep kbd (λ_ _=>by simp)
 have v3:=um (H:=Hd) (b:=Hb.nx) (n:=Ro P.length) (c:=none) (l:=List.replicate (Ro P.length) 0) (by rw[kcd.get _ (by omega) (by simp),<-hHc];exact YB rfl _) (sS 5 _) rfl (by omega) hpz.symm (λk h=>by cases h)
 have v4:=ww ((R2.keep0 k2b).keep0 kbd) (a:=0) (n:=512) (by decide) (by decide)
 rw[ZC,YS (by omega)] at v4
 have l1:=Rb.len
 obtain⟨z,He,ee,bve,kde,hz1,hz2⟩:=eN E (k:=k) (n:=n+4) (H:=Hd) (sb:=Hc.nx) (e:=32) (by rw[kbd.ro];omega) (by omega) (by rw[<-hHd];exact YB rfl _) v1 v2.bv v3 v4
  (λx hx=>by simp[WK] at hx;omega) (λx hx=>(v2.blk x hx).2) (λx hx=>by simp[WK] at hx;omega) (λx hx=>by simp[WK] at hx;omega) (by omega) (by have:Ro P.length<512:=Vu _ (by decide);rw[hpz,l1,hl2];omega)
 have lwc: ∀n,H3.nx<=n->Wu n w3=true:=λn hn=>jv.low hn
 have lwx:=lwc Hb.nx (by omega);have lwy:=lwc Hc.nx (by omega)
 have hf:=E.big
 obtain⟨fu,rfl⟩: ∃fu,fuel=fu+5:=⟨fuel - 5,by omega⟩
 have b4: ∀G,Rz [.str [],.str [],.str [],.str []] [(0,1,.str [109,111,100,101]),(1,1,.str [117,105,100]),(2,1,.str [103,105,100]),(3,1,.str [109,116,105,109,101])] G=.val (.agg [.str [109,111,100,101],.str [117,105,100],.str [103,105,100],.str [109,116,105,109,101]]) G:=λ_=>rfl
 have i0: ∀G,Er 4 (.agg [.str [109,111,100,101],.str [117,105,100],.str [103,105,100],.str [109,116,105,109,101]]) (nI .i64 0) G=.val (.str [109,111,100,101]) G:=λ_=>rfl
 have i1: ∀G,Er 4 (.agg [.str [109,111,100,101],.str [117,105,100],.str [103,105,100],.str [109,116,105,109,101]]) (nI .i64 1) G=.val (.str [117,105,100]) G:=λ_=>rfl
 have i2: ∀G,Er 4 (.agg [.str [109,111,100,101],.str [117,105,100],.str [103,105,100],.str [109,116,105,109,101]]) (nI .i64 2) G=.val (.str [103,105,100]) G:=λ_=>rfl
 have i3: ∀G,Er 4 (.agg [.str [109,111,100,101],.str [117,105,100],.str [103,105,100],.str [109,116,105,109,101]]) (nI .i64 3) G=.val (.str [109,116,105,109,101]) G:=λ_=>rfl
 have p0: ∀G,Te Wf Xo (nI .i64 0) (nI .i64 4) G=.val (.bool true) G:=λ_=>rfl
 have p1: ∀G,Te Wf Xo (nI .i64 1) (nI .i64 4) G=.val (.bool true) G:=λ_=>rfl
 have p2: ∀G,Te Wf Xo (nI .i64 2) (nI .i64 4) G=.val (.bool true) G:=λ_=>rfl
 have p3: ∀G,Te Wf Xo (nI .i64 3) (nI .i64 4) G=.val (.bool true) G:=λ_=>rfl
 have p4: ∀G,Te Wf Xo (nI .i64 4) (nI .i64 4) G=.val (.bool false) G:=λ_=>rfl
 have q0: ∀G,RI (nI .i64 0) (nI .i64 1) G=.val (nI .i64 1) G:=λ_=>rfl
 have q1: ∀G,RI (nI .i64 1) (nI .i64 1) G=.val (nI .i64 2) G:=λ_=>rfl
 have q2: ∀G,RI (nI .i64 2) (nI .i64 1) G=.val (nI .i64 3) G:=λ_=>rfl
 have q3: ∀G,RI (nI .i64 3) (nI .i64 1) G=.val (nI .i64 4) G:=λ_=>rfl
 simp(maxSteps:=4000000) (disch:=first|assumption|omega|(simp -implicitDefEqProofs only[Xl,Xm]<;>first|assumption|omega)|decide) only[bx,hH1,g1,qk,em,e2,lw,sa,SA,Mq,Us,Vk,VI,d1,e3,d2,e4,e5,b4,i0,i1,i2,i3,p0,p1,p2,p3,p4,q0,q1,q2,q3,e6,e7,e8,e9,ln3,ea,eb,et,mk,hw,hHc,bs,hHd,ee,lwx,lwy,cw,Ml,DH,DI,TK,Yx,Ye,ZM,ZK,Zy,ZJ,YN,Y7,YE,Xa,YR,ZP,Ya,Yb,YV,Nat.reduceSub,Nat.reduceAdd,Nat.reduceLeDiff,ZB,ZL,Nat.reduceEqDiff,decide_true,decide_false,Yq,Zd,Zb,X7,Wc,Y0,Yw,Yk,YQ,YP,Z6,Zx,Zr,Y8,ZY,Zb,Zd,Xg,ZD,ZR,Qp,ZN,Zu,ZC,Zw,ZI,Zs,Zv,Zl,ZO,XC,XJ,Xx,Xw,ZU,ZS,ZX,ZW,Zz,ZH,YC,YF,Zy,ZJ,ZK,ZM,Zb,Zd,ZD,ZR,ZN,YL,YA,YH,YZ,Yp,Yj,c15,fX,Yf,Xr,ZV,Yv,Z0,Z1,Yc,Nat.reducePow,Nat.reduceDiv,Nat.reduceMod,Nat.reduceEqDiff,reduceCtorEq,Xq,TB,K1]
 refine⟨_,_,rfl,?_⟩
 have hlz:(MZ m).length=(Zai P.length).length+P.length+(List.replicate (Ro P.length) (0:UInt8)).length+(Ae m).length:=by rw[hb1];simp only[Zm]
 rw[hlz,hb1]
 exact⟨bve,(kb.trans' kbd).trans' kde,z,none,rfl,by omega,hz2⟩
end
end Go.AI
