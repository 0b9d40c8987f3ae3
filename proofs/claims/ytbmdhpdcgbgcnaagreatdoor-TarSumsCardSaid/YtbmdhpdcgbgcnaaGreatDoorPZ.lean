/- A tar that is wrong; the law: walked: proved without conditions but those that each names. -/
import Derived.Test.YtbmdhpdcgbgcnaaGreatDoorPW
set_option maxRecDepth 1000000
set_option maxHeartbeats 0
set_option linter.unusedVariables false
set_option linter.unusedSimpArgs false
namespace Go.AI
open Go
noncomputable section
section
variable {Zx:Lib} {fs:T CF} {fuel k n i h b:Nat} {H H0:Heap} {s:List UInt8} {cs:List AV}
theorem lkK(G:Heap):lkO VU (nI .i64 0) true (some (.cmap kEs)) (nI .u8 120) G=.val (.tup [nI .i64 0,.bool false]) G:=rfl
structure BBk(B:List UInt8):Prop where
 nz: ∃j,j<512∧(B.getD j 0).toNat≠0
 chk: ∃N rest,(B.drop 148).take 8=Of 6 N++0::rest∧N<262144∧(yL B N=5∨yL B N=21)
def vm(l:List UInt8):Prop:=512<l.length∧BBk (l.take 512)
structure gQ(l:List UInt8):Prop where
 is: ∃X Rs t,l=X++(WP Rs++(List.replicate (UM (WP Rs).length) 0++t))∧XBk X (WP Rs).length∧0<(WP Rs).length∧(WP Rs).length<=16777216∧(∀x∈Rs,P7 x)∧Rs.length<=1000∧vm t
structure ALI(Hs:Heap)(q:Nat)(m:Nat)(tm:TM)(H:Heap):Prop where
 t0:YX tm=.ptr q 0
 k:ZK Hs H [q]
 l: ∃l wt,vk H q l wt∧l.length<=1000000000∧(vm l∨(m=1∧wt=false∧gQ l))
def ALQ(Hs:Heap)(q:Nat)(o:Out)(tm:TM)(H:Heap):Prop:= ∃e,o=.pan (eP e)∧(e=5∨e=21)∧ZK Hs H [q]
theorem fA{v:AV}{l:List UInt8}(h:BV H v l){a:Nat}(f: ∀c o m k,v=.slice c o m k->a<=c∧c<b): ∀c∈Wo v,c<b:=by
 rcases h with⟨_,rfl|⟨b0,o,c,rfl⟩⟩|⟨_,b0,o,c,r,rfl,_⟩
 ·intro c h;cases h
 ·intro c h;rw[Zv.1 h];exact(f _ _ _ _ rfl).2
 ·intro c h;rw[Zv.1 h];exact(f _ _ _ _ rfl).2
theorem gW(E:Env Zx fs fuel){K:Nat}(hK:6<=K){Hs:Heap}{q:Nat}(gK:MW Hs)(hq:100<=q)(y f dd qq)(X0:X)(m:Nat)(tm:TM)(H:Heap)(hI:ALI Hs q m tm H):
  ∃o tm' H',I5 ⟨Z7 (LK Zx fs fuel K) fs fuel (n+6),y,f,dd,qq⟩ tm H X0=.ok o tm' H' X0∧((o=.normal∧ ∃k,k<m∧ALI Hs q k tm' H')∨(o≠.normal∧ALQ Hs q o tm' H')):=by
 obtain⟨t0,k0,l,wt,g,hl,hT⟩:=hI
 have t0':=t0
 simp only[Mc] at t0
 have g0:=gK.keep k0 (λx hx=>by rw[Zv.1 hx];exact hq)
 have ok5:=λ{H:Heap} {e:Nat}=>OS E (k:=K) (n:=n+5) (H:=H) (e:=e)
 have no5:=λ{H:Heap} {e:Nat}=>vg E (k:=K) (n:=n+5) (H:=H) (e:=e)
 rcases hT with⟨h1,⟨⟨j,hj,hz⟩,N,rest,hc,hN,hch⟩⟩|⟨rfl,rfl,⟨X,Rs,t,rfl,hX,hp0,hp1,hR,hRn,ht⟩⟩
 ·obtain⟨b,H1,e1,k1,hr1,hqb,gr1⟩:=CP E (k:=K) (n:=n+4) g0.gH g h1 hl
  have e2:=qf E (k:=K) (n:=n+2) (by omega) hr1 hj hz
  have g1:=g0.keep k1 (λx hx=>by rw[Zv.1 hx];exact hq)
  obtain⟨H2,e3,k2⟩:=C1 E (k:=K) (n:=n+1) g1.gH hr1 hc hN
  have d1:decide (yL (l.take 512) N=0)=false:=Ze (by omega)
  simp(maxSteps:=4000000) (disch:=first|assumption|omega|(simp -implicitDefEqProofs only[Xh,Xi]<;>first|assumption|omega)|decide) only[t0,e1,e2,e3,d1,no5,Uf,UD,YA,Yl,ZR,ZO,Zu,ZM,YL,Y9,YM,Y7,YQ,YB,ZP,Yc,Yd,YT,Nat.reduceSub,Nat.reduceAdd,Nat.reduceLeDiff,ZA,ZT,Nat.reduceEqDiff,decide_true,decide_false,Yt,Zd,Zb,XV,X1,YO,Yq,Yj,YK,YJ,ZX,Zn,Zo,Y0,Z0,Zb,Zd,YV,Zr,ZL,Rg,ZJ,Zs,ZC,Zt,ZF,Zq,Zy,Zl,ZH,Xs,XC,Xz,Xy,ZN,ZI,ZZ,ZV,ZB,ZG,Yw,Yy,Zu,ZM,ZO,ZR,Zb,Zd,Zr,ZL,ZJ,Yx,Yp,Yv,YG,Yg,Z8,I5,Z9,Xg,ZY,Yu,Z3,Z6,Yf,Nat.reducePow,Nat.reduceDiv,Nat.reduceMod,Nat.reduceEqDiff,reduceCtorEq,Xe,U4]
  refine⟨_,_,_,rfl,?_⟩
  exact .inr ⟨(λh=>by cases h),_,rfl,hch,(k0.trans k1 (λc hc _=>hc)).trans k2.more (λc hc _=>hc)⟩
 ·have hXl:=hX.len
  have hXt:(X++(WP Rs++(List.replicate (UM (WP Rs).length) 0++t))).take 512=X:=by rw[<-hXl,SM]
  have hXd:(X++(WP Rs++(List.replicate (UM (WP Rs).length) 0++t))).drop 512=WP Rs++(List.replicate (UM (WP Rs).length) 0++t):=by rw[<-hXl,TT]
  obtain⟨b,H1,e1,k1,hr1,hqb,gr1⟩:=CP E (k:=K) (n:=n+4) g0.gH g (by rw[Zk,Zk];omega) hl
  rw[hXt] at hr1
  rw[hXd] at gr1
  obtain⟨j,hj,hz⟩:=hX.nz
  obtain⟨N,rest,hc,hN,hch⟩:=hX.chk
  have e2:=qf E (k:=K) (n:=n+2) (by omega) hr1 hj hz
  have g1:=g0.keep k1 (λx hx=>by rw[Zv.1 hx];exact hq)
  obtain⟨H2,e3,k2⟩:=C1 E (k:=K) (n:=n+1) g1.gH hr1 hc hN
  rw[hch] at e3
  have d1:decide ((0:Nat)=0)=true:=rfl
  have g2:=g1.keep0 k2
  have hr2:=hr1.keep0 k2
  obtain⟨v,H3,e4,bv,k3,far⟩:=L0 E (k:=K) (n:=n+3) g2.gH lf hr2
  rw[hX.ty] at bv
  have g3:=g2.keep0 k3
  have hr3:=hr2.keep0 k3
  have gr3:=(gr1.keep k2).keep k3
  have hbl:=fA bv far
  have lv:=No bv (n:=H3.nx) hbl
  have sv:=O7 bv
  obtain⟨b0,o0,r0,eI,hb0,gb0,ld0⟩:=(Rd.of_bv bv).at_ 0 (by decide)
  have pB: ∀G,ld1 (some (.row r0)) o0 G=.val (nI .u8 120) G:=ld0
  obtain⟨rK,k1r,k2r,k3r⟩:=g3.r
  have kM:=g3.m
  have ldK: ∀G,ld1 (some (.row rK)) 0 G=.val (.map 13) G:=λG=>by rw[Y0 k2r,k3r]
  have n100:=g3.gH.p.nx
  have sm: ∀(j:Nat) (T:T Obj),Um (.val (.map 13) ⟨j,T,j⟩) (.map 13) j=true:=λj T=>Td _ _ _ rfl
  have st: ∀(j:Nat) (T:T Obj),Um (.val (.tup [nI .i64 0,.bool false]) ⟨j,T,j⟩) (.tup [nI .i64 0,.bool false]) j=true:=λj T=>Td _ _ _ rfl
  have roN:=g3.gH.p.ro
  have d2:decide ((120:Nat)=120)=true:=rfl
  have k03:ZK Hs H3 [q]:=((k0.trans k1 (λc hc _=>hc)).trans k2.more (λc hc _=>hc)).trans k3.more (λc hc _=>hc)
  obtain⟨H4,he⟩:=fY E (K:=K) (n:=n) hK g3.gH gr3 hq hr3 hX rfl hp0 hp1 (by have:=ht.1;omega) (by rw[Zk] at hl;omega) hR hRn
  rcases he with⟨e5,k4⟩|⟨e5,k4,gr4⟩
  ·clear hl hz hc
   simp(maxSteps:=4000000) (disch:=first|assumption|omega|(simp -implicitDefEqProofs only[Xh,Xi]<;>first|assumption|omega)|decide) only[t0,e1,e2,e3,d1,ok5,e4,lv,sv,eI,gb0,pB,k1r,kM,ldK,lkK,sm,st,d2,e5,Uf,UD,YA,Yl,ZR,ZO,Zu,ZM,YL,Y9,YM,Y7,YQ,YB,ZP,Yc,Yd,YT,Nat.reduceSub,Nat.reduceAdd,Nat.reduceLeDiff,ZA,ZT,Nat.reduceEqDiff,decide_true,decide_false,Yt,Zd,Zb,XV,X1,YO,Yq,Yj,YK,YJ,ZX,Zn,Zo,Y0,Z0,Zb,Zd,YV,Zr,ZL,Rg,ZJ,Zs,ZC,Zt,ZF,Zq,Zy,Zl,ZH,Xs,XC,Xz,Xy,ZN,ZI,ZZ,ZV,ZB,ZG,Yw,Yy,Zu,ZM,ZO,ZR,Zb,Zd,Zr,ZL,ZJ,Yx,Yp,Yv,YG,Yg,Z8,I5,Z9,Xg,ZY,Yu,Z3,Z6,Yf,Nat.reducePow,Nat.reduceDiv,Nat.reduceMod,Nat.reduceEqDiff,reduceCtorEq,Xe,U4]
   refine⟨_,_,_,rfl,?_⟩
   exact .inr ⟨(λh=>by cases h),_,rfl,.inl rfl,k03.trans k4 (λc hc _=>hc)⟩
  ·have hlt:t.length<=1000000000:=by rw[Zk,Zk,Zk] at hl;omega
   simp(maxSteps:=4000000) (disch:=first|assumption|omega|(simp -implicitDefEqProofs only[Xh,Xi]<;>first|assumption|omega)|decide) only[t0,e1,e2,e3,d1,ok5,e4,lv,sv,eI,gb0,pB,k1r,kM,ldK,lkK,sm,st,d2,e5,Uf,UD,YA,Yl,ZR,ZO,Zu,ZM,YL,Y9,YM,Y7,YQ,YB,ZP,Yc,Yd,YT,Nat.reduceSub,Nat.reduceAdd,Nat.reduceLeDiff,ZA,ZT,Nat.reduceEqDiff,decide_true,decide_false,Yt,Zd,Zb,XV,X1,YO,Yq,Yj,YK,YJ,ZX,Zn,Zo,Y0,Z0,Zb,Zd,YV,Zr,ZL,Rg,ZJ,Zs,ZC,Zt,ZF,Zq,Zy,Zl,ZH,Xs,XC,Xz,Xy,ZN,ZI,ZZ,ZV,ZB,ZG,Yw,Yy,Zu,ZM,ZO,ZR,Zb,Zd,Zr,ZL,ZJ,Yx,Yp,Yv,YG,Yg,Z8,I5,Z9,Xg,ZY,Yu,Z3,Z6,Yf,Nat.reducePow,Nat.reduceDiv,Nat.reduceMod,Nat.reduceEqDiff,reduceCtorEq,Xe,U4]
   refine⟨_,_,_,rfl,?_⟩
   exact .inl ⟨rfl,0,by decide,t0',k03.trans k4 (λc hc _=>hc),t,true,gr4,hlt,.inl ht⟩
theorem gY(E:Env Zx fs fuel){K:Nat}(hK:6<=K){q:Nat}{l:List UInt8}(gK:MW H)(hq:100<=q)(g:vk H q l false)(hl:l.length<=1000000000)(hT:vm l∨gQ l):
  ∃e H',Z7 (LK Zx fs fuel K) fs fuel (n+7) 23 [.ptr q 0] H=.pan (eP e) H'∧(e=5∨e=21)∧ZK H H' [q]:=by
 rw[Z1 (ZU E.n23 (.inr rfl) _ _) E.f23]
 have hf:=E.big
 simp(maxSteps:=4000000) (disch:=first|assumption|omega|(simp -implicitDefEqProofs only[Xh,Xi]<;>first|assumption|omega)|decide) only[YA,Yl,ZR,ZO,Zu,ZM,YL,Y9,YM,Y7,YQ,YB,ZP,Yc,Yd,YT,Nat.reduceSub,Nat.reduceAdd,Nat.reduceLeDiff,ZA,ZT,Nat.reduceEqDiff,decide_true,decide_false,Yt,Zd,Zb,XV,X1,YO,Yq,Yj,YK,YJ,ZX,Zn,Zo,Y0,Z0,Zb,Zd,YV,Zr,ZL,Rg,ZJ,Zs,ZC,Zt,ZF,Zq,Zy,Zl,ZH,Xs,XC,Xz,Xy,ZN,ZI,ZZ,ZV,ZB,ZG,Yw,Yy,Zu,ZM,ZO,ZR,Zb,Zd,Zr,ZL,ZJ,Yx,Yp,Yv,YG,Yg,Z8,c23,Z9,Xg,ZY,Yu,Z3,Z6,Yf,Nat.reduceEqDiff,reduceCtorEq,Xe]
 generalize hL:Ue (I5 _) fuel _ _ _=L
 obtain⟨o,Ny,H1,rfl,ho,e,rfl,he,k1⟩:=XZ (P:=λT=>ALI H q 1 T H) (Q:=ALQ H q)
  (λT hi=>We (ALI H q) (ALQ H q) (λm tm H1 h=>gW E (n:=n) hK gK hq _ _ _ _ _ m tm H1 h) fuel 1 T H (by omega) hi) hL
  (by exact⟨rfl,ZK.refl _ _,l,false,g,hl,hT.imp id λh=>⟨rfl,rfl,h⟩⟩)
 simp(maxSteps:=4000000) (disch:=first|assumption|omega|(simp -implicitDefEqProofs only[Xh,Xi]<;>first|assumption|omega)|decide) only[YA,Yl,ZR,ZO,Zu,ZM,YL,Y9,YM,Y7,YQ,YB,ZP,Yc,Yd,YT,Nat.reduceSub,Nat.reduceAdd,Nat.reduceLeDiff,ZA,ZT,Nat.reduceEqDiff,decide_true,decide_false,Yt,Zd,Zb,XV,X1,YO,Yq,Yj,YK,YJ,ZX,Zn,Zo,Y0,Z0,Zb,Zd,YV,Zr,ZL,Rg,ZJ,Zs,ZC,Zt,ZF,Zq,Zy,Zl,ZH,Xs,XC,Xz,Xy,ZN,ZI,ZZ,ZV,ZB,ZG,Yw,Yy,Zu,ZM,ZO,ZR,Zb,Zd,Zr,ZL,ZJ,Yx,Yp,Yv,YG,Yg,Z8,c23,Z9,Xg,ZY,Yu,Z3,Z6,Yf,Nat.reduceEqDiff,reduceCtorEq,Xe]
 exact⟨_,_,rfl,he,k1⟩
theorem sL(E:Env Zx fs fuel){K:Nat}(hK:6<=K){v:AV}{l:List UInt8}(gK:MW H)(bv:BV H v l)(hb: ∀b∈Wo v,b<H.nx)(hl:l.length<=1000000000)(hT:vm l∨gQ l):
  ∃e H',Z7 (LK Zx fs fuel K) fs fuel (n+8) 8 [v] H=.ret (.tup [.nils,nI .i64 e]) H'∧ZK H H' []∧(e=5∨e=21):=by
 rw[Z1 (ZU E.n8 (.inr rfl) _ _) E.f8]
 have zb:=gK.gH.p.nx
 have hro:=gK.gH.p.ro
 obtain⟨H1,hH1⟩:=SK (H.new (rH 30 [.nils]))
 obtain⟨H2,hH2⟩:=SK (H1.new (rH 32 [nI .i64 0]))
 obtain⟨H3,hH3⟩:=SK (H2.new (rH 63 [v,.nils,.bool false,.nils]))
 have Kn:H1.nx=H.nx+1:=by rw[<-hH1];rfl
 have nx2:H2.nx=H.nx+1+1:=by rw[<-hH2,zH,Kn]
 have nx3:H3.nx=H.nx+1+1+1:=by rw[<-hH3,zH,nx2]
 have k1:ZK H H1 []:=by rw[<-hH1];exact ZK.new _ _ _
 have k2:ZK H H2 []:=by rw[<-hH2];exact k1.then_new _
 have k3:ZK H H3 []:=by rw[<-hH3];exact k2.then_new _
 have a1:H3.t.get H.nx=some (rH 30 [.nils]):=by rw[<-hH3,Pb (by omega),<-hH2,Pb (by omega),<-hH1,YD rfl]
 have a2:H3.t.get (H.nx+1)=some (rH 32 [nI .i64 0]):=by rw[<-hH3,Pb (by omega),<-hH2,YD Kn]
 have a3:H3.t.get (H.nx+1+1)=some (rH 63 [v,.nils,.bool false,.nils]):=by rw[<-hH3,YD nx2]
 have g3:vk H3 (H.nx+1+1) l false:=⟨⟨v,.nils,.nils,a3,bv.keep k3 (λ_ _ _ _ _=>by simp),λc hc=>by have:=hb c hc;omega,rfl,rfl⟩,by omega,by rw[k3.ro];omega⟩
 have lb:=λj (hj:H.nx<=j)=>No bv (n:=j) (λb hb'=>by have:=hb b hb';omega)
 have sb:=O7 bv
 have vc:v.cells=[v]:=by
  rcases bv with⟨_,rfl|⟨b,o,c,rfl⟩⟩|⟨_,b,o,c,r,rfl,_⟩<;>rfl
 have bd: ∀G:Heap,SA [.nils,.nils,.bool false,.nils] [(0,1,v)] G=.val (.agg [v,.nils,.bool false,.nils]) G:=λG=>by
  rcases bv with⟨_,rfl|⟨b,o,c,rfl⟩⟩|⟨_,b,o,c,r,rfl,_⟩<;>rfl
 have bx: ∀G:Heap,N2 63 (.agg [v,.nils,.bool false,.nils]) G=.val (.ptr G.nx 0) (G.new (rH 63 [v,.nils,.bool false,.nils])):=λG=>Vx (l:=[v,.nils,.bool false,.nils]) (show 1<=4 by decide) 63 G
 obtain⟨e,H4,ea,he,k4⟩:=gY E (K:=K) (n:=n) hK (gK.keep0 k3) (by omega) g3 hl hT
 unfold eP at ea
 have b1:H4.t.get H.nx=some (rH 30 [.nils]):=by rw[k4.get _ (by omega) (by rw[Zv];omega),a1]
 have b2:H4.t.get (H.nx+1)=some (rH 32 [nI .i64 0]):=by rw[k4.get _ (by omega) (by rw[Zv];omega),a2]
 have n4:H3.nx<=H4.nx:=k4.nx
 have r4:H4.ro=H.ro:=by rw[k4.ro,k3.ro]
 have k04:ZK H H4 []:=k3.trans k4 (λc hc hl=>by rw[Zv] at hc;omega)
 obtain⟨H5,hH5⟩:=SK (H4.put H.nx (rH 30 [.nils]))
 obtain⟨H6,hH6⟩:=SK (H5.put (H.nx+1) (rH 32 [nI .i64 e]))
 have s1:CC 1 (some (rH 30 [.nils])) H.nx 0 .nils H4=.val XL H5:=by
  rw[SE rfl (YP 0) (by omega) (ZA _),<-hH5];rfl
 have r5:H5.ro=H.ro:=by rw[<-hH5];exact r4
 have b3:H5.t.get (H.nx+1)=some (rH 32 [nI .i64 0]):=by rw[<-hH5,RW (by omega),b2]
 have s2:CC 1 (some (rH 32 [nI .i64 0])) (H.nx+1) 0 (nI .i64 e) H5=.val XL H6:=by
  rw[SE rfl (YP 0) (by omega) (ZA _),<-hH6];rfl
 have c1:H6.t.get H.nx=some (rH 30 [.nils]):=by rw[<-hH6,RW (by omega),<-hH5,Xv]
 have c2:H6.t.get (H.nx+1)=some (rH 32 [nI .i64 e]):=by rw[<-hH6,Xv]
 have k6:ZK H H6 []:=by rw[<-hH6,<-hH5];exact(k04.then_put λh=>absurd h (ZT _)).then_put λh=>by omega
 have lb2:=lb H2.nx (by omega)
 have lb3:=lb (H.nx+1+1) (by omega)
 simp(maxSteps:=4000000) (disch:=first|assumption|omega|(simp -implicitDefEqProofs only[Xh,Xi]<;>first|assumption|omega)|decide) only[hH1,hH2,hH3,Kn,nx2,lb2,lb3,sb,bd,bx,ea,b1,b2,s1,b3,s2,c1,c2,E.f22,cM,ZcG,Us,OH,Te,Uf,UD,ZB,ZG,YA,Yl,ZR,ZO,Zu,ZM,YL,Y9,YM,Y7,YQ,YB,ZP,Yc,Yd,YT,Nat.reduceSub,Nat.reduceAdd,Nat.reduceLeDiff,ZA,ZT,Nat.reduceEqDiff,decide_true,decide_false,Yt,Zd,Zb,XV,X1,YO,Yq,Yj,YK,YJ,ZX,Zn,Zo,Y0,Z0,Zb,Zd,YV,Zr,ZL,Rg,ZJ,Zs,ZC,Zt,ZF,Zq,Zy,Zl,ZH,Xs,XC,Xz,Xy,ZN,ZI,ZZ,ZV,ZB,ZG,Yw,Yy,Zu,ZM,ZO,ZR,Zb,Zd,Zr,ZL,ZJ,Yx,Yp,Yv,YG,Yg,Z8,c8,c22,Z9,Xg,ZY,Yu,Z3,Z6,Yf,Nat.reduceEqDiff,reduceCtorEq,Xe]
 exact⟨_,_,rfl,k6,he⟩
end
theorem PO{l w:List UInt8}{a i:Nat}(h:a+w.length<=l.length):(Iz l a w)[i]? =if a<=i∧i<a+w.length then w[i - a]? else l[i]? :=by
 have ht:(l.take a).length=a:=by rw[Z2];omega
 unfold Iz
 rw[Rr,ht]
 by_cases h1:i<a
 ·rw[if_pos h1,if_neg (by omega),XE h1]
 ·rw[if_neg h1,Rr]
  by_cases h2:i<a+w.length
  ·rw[if_pos (by omega),if_pos ⟨by omega,h2⟩]
  ·rw[if_neg (by omega),if_neg (by omega),XN]
   congr 1;omega
theorem Kj{l:List UInt8}{a m i:Nat}:((l.drop a).take m)[i]? =if i<m then l[a+i]? else none:=by
 by_cases h:i<m
 ·rw[if_pos h,XE h,XN]
 ·rw[if_neg h,Y5 (by rw[Z2];omega)]
theorem yU{l w:List UInt8}{a n:Nat}(hw:w.length=n)(h:a+n<=l.length):((UV l a n w).drop a).take n=w:=by
 rw[Iy hw]
 refine XP λi=>?_
 rw[Kj,PO (by omega)]
 by_cases hi:i<n
 ·rw[if_pos hi,if_pos ⟨by omega,by omega⟩,XU]
 ·rw[if_neg hi,Y5 (by omega)]
theorem Qe{l w:List UInt8}{b n a m:Nat}(h:b+n<=l.length)(hd:a+m<=b∨b+n<=a):((UV l b n w).drop a).take m=(l.drop a).take m:=by
 unfold UV
 split
 ·rename_i hw
  refine XP λi=>?_
  rw[Kj,Kj,PO (by omega)]
  by_cases hi:i<m
  ·rw[if_pos hi,if_pos hi,if_neg (by omega)]
  ·rw[if_neg hi,if_neg hi]
 ·rfl
theorem gB{l w:List UInt8}{a m j:Nat}(h:(l.drop a).take m=w)(hj:j<m):l.getD (a+j) 0=w.getD j 0:=by
 rw[<-h,Zh,Zh,Kj,if_pos hj]
theorem bq{l:List UInt8}{a m k:Nat}{x:UInt8}(h:k<a∨a+m<=k):((l.set k x).drop a).take m=(l.drop a).take m:=by
 refine XP λi=>?_
 rw[Kj,Kj]
 by_cases hi:i<m
 ·rw[if_pos hi,if_pos hi,RS (by omega)]
 ·rw[if_neg hi,if_neg hi]
theorem wW: ∀{l:List UInt8} {k:Nat} {x:UInt8},k<l.length->O4 (l.set k x)+(l.getD k 0).toNat=O4 l+x.toNat
 |[],_,_,h=>by cases h
 |c::l,0,x,_=>by
  show O4 (x::l)+c.toNat=O4 (c::l)+x.toNat
  show(x.toNat+O4 l)+c.toNat=(c.toNat+O4 l)+x.toNat
  omega
 |c::l,k+1,x,h=>by
  have e:=wW (l:=l) (k:=k) (x:=x) (Nat.lt_of_succ_lt_succ h)
  show O4 (c::l.set k x)+(l.getD k 0).toNat=O4 (c::l)+x.toNat
  show(c.toNat+O4 (l.set k x))+(l.getD k 0).toNat=(c.toNat+O4 l)+x.toNat
  omega
theorem wp{Y:List UInt8}(hY:Y.length=512):((S6 Y).drop 148).take 8=Of 6 (TW Y)++0::[32]∧TW Y<262144:=by
 have h:=yB hY
 have ho:SJ (TW Y) 7=Of 6 (TW Y)++[0]:=rM (by decide) (by show _<262144;omega)
 refine⟨?_,by omega⟩
 unfold S6
 rw[yU (by rw[ho,Zk,Zk,RE];rfl) (by omega),ho,Xd];rfl
theorem Zbm(d:Nat)(h:d<8):(OV d).toNat≠0:=by
 unfold OV
 rw[Uk]
 omega
theorem rL(n:Nat)(t:List UInt8):((Of 6 n++t).getD 0 0).toNat≠0:=by
 rw[PT,RE,if_pos (by decide),Ih 6 n 0 (by decide)]
 exact Zbm _ (X7 _ (by decide))
theorem ma{B:List UInt8}(hB:B.length=512){k:Nat}(hk:k<512)(h2: ¬(148<=k∧k<156)){x:UInt8}(hx:x≠B.getD k 0):TW (B.set k x)≠TW B:=by
 unfold TW
 have e8:(List.replicate 8 (32:UInt8)).length=8:=Z5 ..
 rw[Iy e8,Iy e8]
 have hs:Iz (B.set k x) 148 (List.replicate 8 32)=(Iz B 148 (List.replicate 8 32)).set k x:=by
  refine XP λi=>?_
  rw[PO (by rw[Wx,e8,hB];decide)]
  by_cases hi:k=i
  ·subst hi
   rw[if_neg (by rw[e8];omega),List.getElem?_set_self (by omega),List.getElem?_set_self (by rw[IA (by rw[e8,hB];decide)];omega)]
  ·rw[RS hi,RS hi,PO (by rw[e8,hB];decide)]
 rw[hs]
 have e:=wW (l:=Iz B 148 (List.replicate 8 32)) (k:=k) (x:=x) (by rw[IA (by rw[e8,hB];decide)];omega)
 have hg:(Iz B 148 (List.replicate 8 32)).getD k 0=B.getD k 0:=by
  rw[Zh,Zh,PO (by rw[e8,hB];decide),if_neg (by rw[e8];omega)]
 rw[hg] at e
 intro h
 rw[h] at e
 exact hx (UJ.1 (by omega))
theorem CQ{Y:List UInt8}(hY:Y.length=512):TW (S6 Y)=TW Y:=by
 unfold S6
 generalize SJ (TW Y) 7++[32]=W
 unfold TW
 have e8:(List.replicate 8 (32:UInt8)).length=8:=Z5 ..
 congr 1
 rw[Iy e8,Iy e8]
 refine XP λi=>?_
 have hl:=DM (l:=Y) (w:=W) (a:=148) (n:=8) (by omega)
 rw[PO (by rw[e8,hl,hY];decide),PO (by rw[e8,hY];decide)]
 by_cases hi:148<=i∧i<148+(List.replicate 8 (32:UInt8)).length
 ·rw[if_pos hi,if_pos hi]
 ·rw[if_neg hi,if_neg hi]
  unfold UV
  split
  ·rename_i hw
   rw[PO (by omega),if_neg (by rw[hw];rw[e8] at hi;exact hi)]
  ·rfl
theorem bO{Y:List UInt8}(hY:Y.length=512){k:Nat}(hk:k<512)(h2: ¬(148<=k∧k<156)){x:UInt8}(hx:x≠(S6 Y).getD k 0):BBk ((S6 Y).set k x):=by
 obtain⟨h1,h3⟩:=wp hY
 have hw:(((S6 Y).set k x).drop 148).take 8=Of 6 (TW Y)++0::[32]:=by rw[bq (by omega)];exact h1
 refine⟨⟨148,by decide,?_⟩,_,_,hw,h3,?_⟩
 ·rw[show(148:Nat)=148+0 from rfl,gB hw (by decide)]
  exact rL _ _
 ·have hne:=ma (Ke hY) hk h2 hx
  rw[CQ hY] at hne
  unfold yL
  split
  ·rw[if_neg (λh=>hne h.symm)];exact .inr rfl
  ·exact .inl rfl
theorem jW{r:Nat}(hr:r<8589934592):XBk (In r) r:=by
 have ZgX:=Oy 120
 have q1:=X4 (w:=QP [112,97,120] 100) (a:=0) (n:=100) ZgX (by decide)
 have q2:=X4 (w:=SJ 0 8) (a:=100) (n:=8) q1 (by decide)
 have q3:=X4 (w:=SJ 0 8) (a:=108) (n:=8) q2 (by decide)
 have q4:=X4 (w:=SJ 0 8) (a:=116) (n:=8) q3 (by decide)
 have q5:=X4 (w:=SJ 0 12) (a:=136) (n:=12) q4 (by decide)
 have q6:=X4 (w:=SJ r 12) (a:=124) (n:=12) q5 (by decide)
 obtain⟨h1,h3⟩:=wp q6
 have win: ∀a m,(a+m<=100∧100<=a)∨156<=a->((In r).drop a).take m=((KO 120).drop a).take m:=λa m h=>by
  unfold In S6
  rw[Qe (by omega) (by omega),Qe (by omega) (by omega),Qe (by omega) (by omega),Qe (by omega) (by omega),Qe (by omega) (by omega),Qe (by omega) (by omega),Qe (by omega) (by omega)]
 refine⟨xZ r,⟨148,by decide,?_⟩,⟨_,_,h1,h3,?_⟩,?_,[],?_⟩
 ·rw[show(148:Nat)=148+0 from rfl]
  show((S6 _).getD (148+0) 0).toNat≠0
  rw[gB h1 (by decide)]
  exact rL _ _
 ·have hm:((In r).drop 257).take 6=tP:=by rw[win 257 6 (.inr (by decide))];decide
  unfold yL
  rw[if_pos (.inl hm),if_pos]
  show _=TW (S6 _)
  rw[CQ q6]
 ·rw[win 156 1 (.inr (by decide))];decide
 ·have ho:SJ r 12=Of 11 r++[0]:=rM (by decide) (by show r<8^11;omega)
  unfold In S6
  rw[Qe (by omega) (by omega),yU (by rw[ho,Zk,RE];rfl) (by omega),ho]
theorem K6(m:Mem): ∃Y,Lo m=S6 Y∧Y.length=512:=by
 refine⟨_,rfl,?_⟩
 unfold zN
 rw[Vc,Vc,Vc,List.foldl_nil]
 exact X4 (X4 (NO (NO (NO (X4 (X4 (X4 (Oy _) (by decide)) (by decide)) (by decide)) (show 108+8<=512 by decide)) (show 116+8<=512 by decide)) (show 136+12<=512 by decide)) (by decide)) (by decide)
theorem oH(r:Nat): ∃Y,In r=S6 Y∧Y.length=512:=by
 refine⟨_,rfl,?_⟩
 exact X4 (X4 (X4 (X4 (X4 (X4 (Oy _) (by decide)) (by decide)) (by decide)) (by decide)) (by decide)) (by decide)
theorem IP{B rest:List UInt8}(hB: ∃Y,B=S6 Y∧Y.length=512)(hr:0<rest.length){k:Nat}(hk:k<512)(h2: ¬(148<=k∧k<156)){y:UInt8}(hy:y≠(B++rest).getD k 0):vm ((B++rest).set k y):=by
 obtain⟨Y,rfl,hY⟩:=hB
 have hl:=Ke hY
 rw[PT,if_pos (by omega)] at hy
 rw[List.set_append_left _ _ (by omega)]
 have hl2:((S6 Y).set k y).length=512:=by rw[Wx];exact hl
 refine⟨by rw[Zk];omega,?_⟩
 rw[<-hl2,SM]
 exact bO hY hk h2 hy
theorem ic{R:List NP}(h:R≠[])(hR: ∀x∈R,P7 x):0<(WP R).length:=by
 cases R with
 |nil=>exact absurd rfl h
 |cons x R=>
  have:=HT (hR x (ZE ..))
  rw[Om,Zk];omega
theorem pd(x:Mem):512<=(U3 x).length:=by
 unfold U3
 split
 ·rw[Ok];exact Zz _
 ·rw[Zk,Ok];omega
theorem j9{x:Mem}(h:Cd x)(hm:Wm x=true):(∀y∈UB x,P7 y)∧(UB x).length<=1000∧(WP (UB x)).length<=16777216:=by
 obtain⟨r1,r2⟩:=z3 h (BR hm).2.2.2.1
 have h1:=Io (l:=UB x) λy hy=>(r1 y hy).2
 have h3:(UB x).length*10023<=105*10023:=W7 _ r2
 exact⟨r1,by omega,by omega⟩
theorem nt{x:Mem}{rest:List UInt8}(hr:0<rest.length){k:Nat}(hk:k<512)(h2: ¬(148<=k∧k<156)){y:UInt8}(hy:y≠(U3 x++rest).getD k 0):vm ((U3 x++rest).set k y):=by
 unfold U3 at hy ⊢
 split at hy
 ·rename_i hn
  rw[if_pos hn]
  exact IP (K6 x) hr hk h2 hy
 ·rename_i hn
  rw[if_neg hn]
  rw[Xd,Xd,Xd] at hy ⊢
  exact IP (oH _) (by rw[Zk,Zk,Zk];omega) hk h2 hy
theorem bD{x:Mem}(h:Cd x)(hm:Wm x=true){rest:List UInt8}(hr:0<rest.length){k:Nat}(hk:k<512)(h2: ¬(148<=k∧k<156)){y:UInt8}(hy:y≠(U3 x++rest).getD ((U3 x).length - 512+k) 0):vm ((U3 x++rest).set ((U3 x).length - 512+k) y)∨gQ ((U3 x++rest).set ((U3 x).length - 512+k) y):=by
 obtain⟨r1,r2,r3⟩:=j9 h hm
 unfold U3 at hy ⊢
 split at hy
 ·rename_i hn
  rw[if_pos hn]
  rw[Ok,VX,Zb] at hy ⊢
  exact .inl (IP (K6 x) hr hk h2 hy)
 ·rename_i hn
  rw[if_neg hn]
  obtain⟨i,hi⟩: ∃i,i=(In (WP (UB x)).length++WP (UB x)++List.replicate (UM (WP (UB x)).length) 0).length:=⟨_,rfl⟩
  have e:(In (WP (UB x)).length++WP (UB x)++List.replicate (UM (WP (UB x)).length) 0++Lo x).length - 512+k=i+k:=by
   rw[Zk,Ok,<-hi];omega
  rw[e] at hy ⊢
  rw[Xd _ (Lo x) rest] at hy ⊢
  rw[PT,<-hi,if_neg (by omega),XU] at hy
  rw[List.set_append_right _ _ (by omega),<-hi,XU]
  have ht:=IP (K6 x) hr hk h2 hy
  refine .inr ⟨In (WP (UB x)).length,UB x,(Lo x++rest).set k y,?_,jW (by omega),ic hn r1,r3,r1,r2,ht⟩
  rw[Xd,Xd]
theorem gf(x:Mem):tK [x]=U3 x++(x.data++(List.replicate (UM x.data.length) 0++List.replicate 1024 0)):=by
 unfold tK KE Ln
 simp only[ZB,ZG,WD,List.flatten_nil,Zo,Xd]
theorem ZfA(a:UInt8){b:Nat}(hb:b<256)(H:Heap):Ks CI (nI .u8 a.toNat) (nI .u8 b) H=.val (nI .u8 (a^^^UInt8.ofNat b).toNat) H:=by
 show Yb (PR .u8 .u8) (Ts .u8 (.ofNat (CI 256 (UK 256 (.ofNat a.toNat)) (UK 256 (.ofNat b)))) H)=_
 have e:CI 256 a.toNat b=(a^^^UInt8.ofNat b).toNat:=by
  rw[UInt8.toNat_xor,Uk,YH hb];rfl
 rw[Wb,Vb,Ek,Ek,YH a.toNat_lt,YH hb,e,F9,YH (UInt8.toNat_lt _)];rfl
theorem gE{a:UInt8}{b:Nat}(hb:b<256)(h0:b≠0):a^^^UInt8.ofNat b≠a:=λh=>by
 have e:a^^^(a^^^UInt8.ofNat b)=a^^^a:=by rw[h]
 rw[<-UInt8.xor_assoc,UInt8.xor_self,UInt8.zero_xor] at e
 have e2:=congrArg UInt8.toNat e
 rw[Uk,YH hb] at e2
 exact h0 e2
theorem lC{H:Heap}{v:AV}{l:List UInt8}{lo i:Nat}(h:GB H v l lo)(hi:i<l.length)(y:UInt8):
  ∃b o H',(∀(k:IntKind) (G:Heap),KA 1 v (nI k i) G=.val (.ptr b i) G)∧H.t.get b=some o∧(∀G,ld1 (some o) i G=.val (nI .u8 (l.getD i 0).toNat) G)∧CC 1 (some o) b i (nI .u8 y.toNat) H=.val XL H'∧GB H' v (l.set i y) lo∧ZK H H' [b]∧lo<=b∧b<H.nx:=by
 rcases h with⟨_,rfl⟩|⟨b,sm,rfl,h1,h2,h3,h4⟩
 ·cases hi
 have hml:i<(l.map Vf).length:=by rw[ZW];exact hi
 refine⟨b,_,_,λk G=>?_,h4,λG=>?_,SE rfl hml h3 (ZA _) _ _ _ _,.inr ⟨b,sm,by rw[Wx],h1,h2,h3,?_⟩,ZK.put λ_=>Zv.2 rfl,h1,h2⟩
 ·rw[Z0 hi,Zb]
 ·rw[Un hml,Zh,Xb,Zh,Zp hi];rfl
 ·rw[Xv,List.map_set];rfl
section
variable {Zx:Lib} {fs:T CF} {fuel k n i h b:Nat} {H H0:Heap} {s:List UInt8} {cs:List AV}
def ZaJ(H G:Heap):Prop:=H.nx<=G.nx∧G.ro=H.ro∧ ∀c,c<100->G.t.get c=H.t.get c
theorem ZK.kept{G:Heap}(k:ZK H G [])(h:100<=H.nx):ZaJ H G:=⟨k.nx,k.ro,λc hc=>k.get c (by omega) (by simp)⟩
theorem eu{m:Mem}(h:nS m):LOk (qJ m):=by
 refine⟨⟨?_,?_,?_,h.mode,h.uid,h.gid,h.time.1,h.time.2,?_⟩,?_⟩
 ·show(m.path.take 4100).length<=_;rw[Z2];omega
 ·show(m.link.take 4100).length<=_;rw[Z2];omega
 ·intro x hx
  have hx:x∈(m.attrs.take 20).map yP:=hx
  obtain⟨q,_,rfl⟩:=Xq.1 hx
  show(q.1.take 250).length+(q.2.take 700).length<=_
  rw[Z2,Z2];omega
 ·exact YR (vu _) (by decide)
 ·show(m.data.take 1500).length<=_;rw[Z2];omega
theorem dE(E:Env Zx fs fuel){m:Mem}{a:Nat}(gK:MW H)(hM:qg H cs m)(hok:nS m)(hb:b<256)
  (hwk: ∀G,ZaJ H G->Zx 6 [] G=some (.ret (.bool true) G))(ha:a<65536):
  ∃H',Z7 (LK Zx fs fuel 13) fs fuel (n+10) 3 [.agg cs,nI .u16 a,nI .u8 b] H=.ret (.bool true) H':=by
 rw[Z1 (ZU E.n3 (.inr rfl) _ _) E.f3]
 have zb:=gK.gH.p.nx;have hro:=gK.gH.p.ro
 have hcl:cs.length=9:=by obtain⟨_,_,rfl,_⟩:=hM;rfl
 obtain⟨H1,hH1⟩:=SK (H.new (rH 28 cs))
 obtain⟨H2,hH2⟩:=SK (H1.new (rG 28 9 cs 0 false true true))
 have k1:ZK H H1 []:=by rw[<-hH1];exact ZK.new _ _ _
 have k2:ZK H H2 []:=by rw[<-hH2];exact k1.then_new _
 have g1:H1.t.get H.nx=some (rH 28 cs):=by rw[<-hH1];exact YD rfl _
 have g2:H2.t.get H1.nx=some (rG 28 9 cs 0 false true true):=by rw[<-hH2];exact YD rfl _
 have bx: ∀G:Heap,N2 28 (.agg cs) G=.val (.ptr G.nx 0) (G.new (rH 28 cs)):=λG=>Vx (by omega) 28 G
 have uj: ∀G,zq 9 (some (rH 28 cs)) 0 G=.val (.agg cs) G:=λG=>by
  rw[TJ (by omega),ZC,Y1 (by omega)]
 have bs:=λG=>Zdw hcl G
 have hE:nT H2 (.slice H1.nx 0 1 none) [m]:=⟨[cs],.inr ⟨λl hl=>by rw[Zv.1 hl];exact hcl,.inr ⟨H1.nx,0,none,rfl,by rw[<-hH2];exact YP _,λ_=>⟨_,g2,by show 0+1*9<=Xa cs;rw[Y6,hcl];decide,λi hi=>by
  rw[DD,Zb,WD,List.flatten_nil,Zo]⟩⟩⟩,rfl,λi hi=>by
  obtain rfl:i=0:=Nat.lt_one_iff.1 hi
  exact hM.keep k2⟩
 obtain⟨w,H3,ea,k23,hV⟩:=lh E (k0:=13) (n:=n+8) (λi hi=>by
  obtain rfl:i=0:=Nat.lt_one_iff.1 hi
  exact hok.attrs) (by have:=k2.nx;rw[k2.ro];omega) hE
 obtain⟨x,hx⟩:=SK (qJ m)
 have hxo:=eu hok
 have hVx:Ku [m]=[x]:=by rw[<-hx];rfl
 rw[hVx] at hV
 rw[hx] at hxo
 have k3:=k2.trans' k23
 have gK3:=gK.keep0 k3
 obtain⟨w2,H4,eb,mc,zk,hb4⟩:=gv E (k:=13) (n:=n+1) (by decide) gK3.gH hV (by show 1<=12;decide) (λy hy=>by rw[Zv.1 hy];exact hxo)
 have k4:=k3.trans' zk
 have tl: ∀{j} {G:Heap},ZK H G []->Z7 (LK Zx fs fuel 13) fs fuel (j+1) 6 [] G=.ret (.bool true) G:=λ{j} {G} k=>NA rfl (hwk G (k.kept zb))
 have hall:[x].all Wm=Wm x:=by rw[List.all_cons,List.all_nil,Bool.and_true]
 rw[hall] at eb mc
 cases hm:Wm x with
 |false=>
  rw[hm,if_neg (by decide)] at eb
  have d1:decide ((1:Nat)≠0)=true:=rfl
  have tl4:=λ{j}=>tl (j:=j) k4
  simp(maxSteps:=4000000) (disch:=first|assumption|omega|(simp -implicitDefEqProofs only[Xh,Xi]<;>first|assumption|omega)|decide) only[bx,hH1,g1,uj,bs,hH2,ea,eb,d1,tl4,Ol,Us,ZZ,YA,Yl,ZR,ZO,Zu,ZM,YL,Y9,YM,Y7,YQ,YB,ZP,Yc,Yd,YT,Nat.reduceSub,Nat.reduceAdd,Nat.reduceLeDiff,ZA,ZT,Nat.reduceEqDiff,decide_true,decide_false,Yt,Zd,Zb,XV,X1,YO,Yq,Yj,YK,YJ,ZX,Zn,Zo,Y0,Z0,Zb,Zd,YV,Zr,ZL,Rg,ZJ,Zs,ZC,Zt,ZF,Zq,Zy,Zl,ZH,Xs,XC,Xz,Xy,ZN,ZI,ZZ,ZV,ZB,ZG,Yw,Yy,Zu,ZM,ZO,ZR,Zb,Zd,Zr,ZL,ZJ,Yx,Yp,Yv,YG,Yg,Z8,c3,Z9,Xg,ZY,Yu,Z3,Z6,Yf,Nat.reducePow,Nat.reduceDiv,Nat.reduceMod,Nat.reduceEqDiff,reduceCtorEq,Xe,U4,CK,Ca]
  exact⟨_,rfl⟩
 |true=>
  rw[hm,if_pos rfl] at eb mc
  have gK4:=gK.keep0 k4
  have d1:decide ((0:Nat)≠0)=false:=rfl
  obtain⟨bb,o,r,cs',eI,_,gR,ldR,_,mB⟩:=(hV.keep zk).at_ (i:=0) (YP 0)
  have mB:yn H4 cs' x:=mB
  obtain⟨v,H5,ec,bv5,xq,_⟩:=ym E (k:=13) (n:=n+2) (by decide) gK4.gH mB.toC hxo.1 hm
  have k5:=k4.trans' xq
  have lnh:=bv5.len
  have hpos:=pd x
  have d2:decide ((U3 x).length<512)=false:=Ze (by omega)
  have iv: ∀G,OY .i64 (nI .u16 a) G=.val (nI .i64 a) G:=λG=>UT (by omega) G
  have rm:=λG:Heap=>ij (a:=a) (b:=512) (by decide) G
  have hk:a % 512<512:=X7 _ (by decide)
  generalize a % 512=k at rm hk
  obtain⟨p,hp⟩:=SK (decide (148<=k))
  obtain⟨q,hq⟩:=SK (decide (k<156))
  obtain⟨z,hz⟩:=SK (decide (b=0))
  have tl5:=λ{j}=>tl (j:=j) k5
  cases hB:(p&&q||z) with
  |true=>
   clear mc bv5 hV hE mB gK3 gK4 hok hM
   cases p<;>cases q<;>cases z<;>first|exact absurd hB (by decide)|skip
   all_goals
    simp(maxSteps:=4000000) (disch:=first|assumption|omega|(simp -implicitDefEqProofs only[Xh,Xi]<;>first|assumption|omega)|decide) only[bx,hH1,g1,uj,bs,hH2,ea,eb,d1,eI,gR,ldR,ec,lnh,d2,iv,rm,hp,hq,hz,tl5,Ol,Us,ZZ,YA,Yl,ZR,ZO,Zu,ZM,YL,Y9,YM,Y7,YQ,YB,ZP,Yc,Yd,YT,Nat.reduceSub,Nat.reduceAdd,Nat.reduceLeDiff,ZA,ZT,Nat.reduceEqDiff,decide_true,decide_false,Yt,Zd,Zb,XV,X1,YO,Yq,Yj,YK,YJ,ZX,Zn,Zo,Y0,Z0,Zb,Zd,YV,Zr,ZL,Rg,ZJ,Zs,ZC,Zt,ZF,Zq,Zy,Zl,ZH,Xs,XC,Xz,Xy,ZN,ZI,ZZ,ZV,ZB,ZG,Yw,Yy,Zu,ZM,ZO,ZR,Zb,Zd,Zr,ZL,ZJ,Yx,Yp,Yv,YG,Yg,Z8,c3,Z9,Xg,ZY,Yu,Z3,Z6,Yf,Nat.reducePow,Nat.reduceDiv,Nat.reduceMod,Nat.reduceEqDiff,reduceCtorEq,Xe,U4,CK,Ca]
    exact⟨_,rfl⟩
  |false=>
   have hkn: ¬(148<=k∧k<156):=λh=>by
    rw[Zi h.1] at hp;rw[Zi h.2] at hq
    subst hp;subst hq;cases hB
   have hb0:b≠0:=λh=>by
    rw[Zi h] at hz
    subst hz;rw[Bool.or_true] at hB;cases hB
   have hT:=gf x
   obtain⟨rest,hrest⟩:=SK (x.data++(List.replicate (UM x.data.length) 0++List.replicate 1024 0))
   have hr0:0<rest.length:=by rw[<-hrest,Zk,Zk,Z5,Z5];omega
   rw[hrest] at hT
   have hTl:=DC (L:=[x]) λy hy=>by rw[Zv.1 hy];exact⟨hxo,hm⟩
   have hTl2:(tK [x]).length<=3000000:=by unfold tK;rw[Zk,Z5];have:[x].length=1:=rfl;omega
   have hTn:(tK [x]).length=(U3 x).length+rest.length:=by rw[hT,Zk]
   generalize tK [x]=T at*
   have bw5:=mc.keep xq (λ_ _ _ _ _=>by simp)
   obtain⟨v6,H6,ap1,gb6,yl,_⟩:=JO (GB.nil H5 H5.nx) bw5 (Zz _) (by rw[k5.ro];have:=k5.nx;omega) (by show 0+_<=_;omega)
   have gb6:GB H6 v6 T H5.nx:=gb6
   have yl:ZK H5 H6 []:=yl
   obtain⟨b7,o7,H7,ix7,g7,l7,s7,gb7,kC,lo7,_⟩:=lC gb6 (i:=(U3 x).length - 512+k) (by omega) (T.getD ((U3 x).length - 512+k) 0^^^UInt8.ofNat b)
   have x7:=λG=>ZfA (T.getD ((U3 x).length - 512+k) 0) hb G
   have k57:ZK H5 H7 []:=yl.trans kC (λc hc hl=>by rw[Zv] at hc;omega)
   have k7:=k5.trans' k57
   obtain⟨e1,H8,ed,dy,he1⟩:=sL E (K:=13) (n:=n+1) (by decide) (gK.keep0 k7) gb7.bv (λb hb=>(gb7.blk b hb).2) (by rw[Wx];omega) (by
    have:=bD (k:=k) (y:=T.getD ((U3 x).length - 512+k) 0^^^UInt8.ofNat b) hxo.1 hm hr0 hk hkn (by rw[<-hT];exact gE hb hb0)
    rwa [<-hT] at this)
   have k8:=k7.trans' dy
   have bw8:=(bw5.keep k57 (λ_ _ _ _ _=>by simp)).keep dy (λ_ _ _ _ _=>by simp)
   obtain⟨v9,H9,ap2,gb9,dA,_⟩:=JO (GB.nil H8 H8.nx) bw8 (Zz _) (by rw[k8.ro];have:=k8.nx;omega) (by show 0+_<=_;omega)
   have gb9:GB H9 v9 T H8.nx:=gb9
   have dA:ZK H8 H9 []:=dA
   obtain⟨b10,o10,H10,Ziw,g10,l10,s10,ZbB,Ziz,lo10,_⟩:=lC gb9 (i:=k) (by omega) (T.getD k 0^^^UInt8.ofNat b)
   have x10:=λG=>ZfA (T.getD k 0) hb G
   have Ziy:ZK H8 H10 []:=dA.trans Ziz (λc hc hl=>by rw[Zv] at hc;omega)
   have k10:=k8.trans' Ziy
   obtain⟨e2,H11,ee,ZeG,he2⟩:=sL E (K:=13) (n:=n+1) (by decide) (gK.keep0 k10) ZbB.bv (λb hb=>(ZbB.blk b hb).2) (by rw[Wx];omega) (by
    have:=nt (x:=x) (k:=k) (y:=T.getD k 0^^^UInt8.ofNat b) hr0 hk hkn (by rw[<-hT];exact gE hb hb0)
    rw[<-hT] at this
    exact .inl this)
   have Zjj:=λ{j}=>tl (j:=j) (k10.trans' ZeG)
   have f1:decide ((21:Nat)=21)=true:=rfl
   have f2:decide ((5:Nat)=21)=false:=rfl
   have f3:decide ((5:Nat)=5)=true:=rfl
   clear mc bv5 hV hE mB gK3 gK4 hok hM bw5 bw8 gb6 gb7 gb9 ZbB
   cases p<;>cases q<;>cases z<;>first|exact absurd hB (by decide)|skip
   all_goals
    rcases he1 with rfl|rfl<;>rcases he2 with rfl|rfl
    all_goals
     simp(maxSteps:=4000000) (disch:=first|assumption|omega|(simp -implicitDefEqProofs only[Xh,Xi]<;>first|assumption|omega)|decide) only[bx,hH1,g1,uj,bs,hH2,ea,eb,d1,eI,gR,ldR,ec,lnh,d2,iv,rm,hp,hq,hz,ap1,ix7,g7,l7,x7,s7,ed,ap2,Ziw,g10,l10,x10,s10,ee,f1,f2,f3,Zjj,Ol,Us,ZZ,ZV,NR,YA,Yl,ZR,ZO,Zu,ZM,YL,Y9,YM,Y7,YQ,YB,ZP,Yc,Yd,YT,Nat.reduceSub,Nat.reduceAdd,Nat.reduceLeDiff,ZA,ZT,Nat.reduceEqDiff,decide_true,decide_false,Yt,Zd,Zb,XV,X1,YO,Yq,Yj,YK,YJ,ZX,Zn,Zo,Y0,Z0,Zb,Zd,YV,Zr,ZL,Rg,ZJ,Zs,ZC,Zt,ZF,Zq,Zy,Zl,ZH,Xs,XC,Xz,Xy,ZN,ZI,ZZ,ZV,ZB,ZG,Yw,Yy,Zu,ZM,ZO,ZR,Zb,Zd,Zr,ZL,ZJ,Yx,Yp,Yv,YG,Yg,Z8,c3,Z9,Xg,ZY,Yu,Z3,Z6,Yf,Nat.reducePow,Nat.reduceDiv,Nat.reduceMod,Nat.reduceEqDiff,reduceCtorEq,Xe,U4,CK,Ca]
     exact⟨_,rfl⟩
end
end
end Go.AI
