/- Members as the law has them; the law: walked: proved without conditions but those that each names. -/
import Derived.Test.YtdogcjobgcckbaaGreatDoorPZ
import Derived.Test.YtdogcjobgcckbaaGreatDoorP6
import Derived.Test.YtdogcjobgcckbaaGreatDoorPA
set_option maxRecDepth 1000000
set_option maxHeartbeats 0
set_option linter.unusedVariables false
set_option linter.unusedSimpArgs false
namespace Go.AI
open Go
noncomputable section
def vX:List Sh:=[.str,.int .i64,.int .u32,.int .u32,.int .u32,.int .i64,.sl [.str,.str],.sl [.int .u8],.str]
def Zif(z:Int):Prop:= -9223372036854775808<=z∧z<=9223372036854775807
theorem jo{G:Heap}{v:AV}(h:Told G (.sl [.str,.str]) v): ∃l:List NP,Cut G 2 v (V8 l)∧l.length<=maxLen:=by
 obtain⟨ls,h1,hm,h2⟩:=wh h
 obtain⟨l,h3,_⟩:=Ei (α:=NP) (f:=λp=>[.str p.1,.str p.2]) (p:=λ_=>True) λi hi=>by
  obtain⟨e1,e2⟩:=h2 i hi
  obtain⟨a,ha⟩:=G1 (e2 0 _ rfl)
  obtain⟨b,hb⟩:=G1 (e2 1 _ rfl)
  exact⟨(a,b),by rw[Zis e1,ha,hb],trivial⟩
 exact⟨l,by rw[h3] at h1;exact h1,by rw[h3] at hm;simpa [V8] using hm⟩
theorem qN{G:Heap}{v:AV}(h:Told G (.sl [.int .u8]) v): ∃l:List UInt8,Cut G 1 v (OX l):=by
 obtain⟨ls,h1,_,h2⟩:=wh h
 obtain⟨l,h3,_⟩:=Ei (α:=UInt8) (f:=λx=>[Vd x]) (p:=λ_=>True) λi hi=>by
  obtain⟨e1,e2⟩:=h2 i hi
  obtain⟨a,ha⟩:=ZcF (e2 0 _ rfl)
  refine⟨a,?_,trivial⟩
  match hq:ls.getD i [],e1 with
  |[x],_=>rw[hq] at ha;have ha:x=Vd a:=ha;rw[ha]
 exact⟨l,by rw[h3] at h1;exact h1⟩
def ni(G:Heap)(cs:List AV)(m:Mem):Prop:= ∃av dv,cs=[.str m.path,.int .i64 m.kind,nI .u32 m.mode,nI .u32 m.uid,nI .u32 m.gid,.int .i64 m.time,av,dv,.str m.link]∧Cut G 2 av (V8 m.attrs)∧Cut G 1 dv (OX m.data)
structure Ax(m:Mem):Prop where
 kind:Zif m.kind
 time:Zif m.time
 mode:m.mode<4294967296
 uid:m.uid<4294967296
 gid:m.gid<4294967296
 attrs:m.attrs.length<=maxLen
theorem bY{G:Heap}{cs:List AV}(hl:cs.length=9)(h: ∀(j:Nat) e,vX[j]? =some e->Told G e (cs.getD j .unk)): ∃m,ni G cs m∧Ax m:=by
 obtain⟨p,hp⟩:=G1 (h 0 _ rfl)
 obtain⟨kd,hk,hk2⟩:=tE (h 1 _ rfl)
 obtain⟨mo,hm,hm2⟩:=B0 (h 2 _ rfl)
 obtain⟨u,hu,hu2⟩:=B0 (h 3 _ rfl)
 obtain⟨g,hg,hg2⟩:=B0 (h 4 _ rfl)
 obtain⟨ti,ht,ht2⟩:=tE (h 5 _ rfl)
 obtain⟨at_,hA,hA2⟩:=jo (h 6 _ rfl)
 obtain⟨d,hD⟩:=qN (h 7 _ rfl)
 obtain⟨lk,hK⟩:=G1 (h 8 _ rfl)
 match cs,hl with
 |[c0,c1,c2,c3,c4,c5,c6,c7,c8],_=>
  have hp:c0=_:=hp
  have hk:c1=_:=hk
  have hm:c2=_:=hm
  have hu:c3=_:=hu
  have hg:c4=_:=hg
  have ht:c5=_:=ht
  have hK:c8=_:=hK
  exact⟨⟨p,kd,mo,u,g,ti,at_,d,lk⟩,⟨c6,c7,by rw[hp,hk,hm,hu,hg,ht,hK],hA,hD⟩,hk2,ht2,hm2,hu2,hg2,hA2⟩
def qT(G:Heap)(v:AV)(L:List Mem):Prop:= ∃Ls,Sz G 9 v Ls∧Ls.length=L.length∧ ∀i,i<L.length->ni G (Ls.getD i []) (L.getD i default)
theorem su{ls:List (List AV)}{P:List AV->Mem->Prop}(h: ∀i,i<ls.length-> ∃m,P (ls.getD i []) m): ∃L:List Mem,ls.length=L.length∧ ∀i,i<L.length->P (ls.getD i []) (L.getD i default):=by
 induction ls with
 |nil=>exact⟨[],rfl,λi hi=>by cases hi⟩
 |cons a ls ih=>
  obtain⟨m,hm⟩:=h 0 (So _)
  obtain⟨L,h1,h2⟩:=ih λi hi=>h (i+1) (Nat.succ_lt_succ hi)
  refine⟨m::L,by rw[ZS,ZS,h1],λi hi=>?_⟩
  cases i with
  |zero=>exact hm
  |succ i=>exact h2 i (Nat.lt_of_succ_lt_succ hi)
theorem jn{G:Heap}{v:AV}(h:Told G (.sl vX) v): ∃L:List Mem,qT G v L∧(∀i,i<L.length->Ax (L.getD i default))∧L.length<=maxLen:=by
 obtain⟨ls,hc,hl,he⟩:=wh h
 obtain⟨L,h1,h2⟩:=su (P:=λcs m=>ni G cs m∧Ax m) λi hi=>bY (he i hi).1 (he i hi).2
 exact⟨L,⟨ls,hc.1,h1,λi hi=>(h2 i hi).1⟩,λi hi=>(h2 i hi).2,by rw[<-h1];exact hl⟩
def wN(x:NP):NP:=(x.1.take 250,x.2.take 700)
def Ir(l:List NP):List NP:=(l.take 20).map wN
theorem tQ(l:List NP):(Ir l).length<=20:=by unfold Ir;rw[Zx,ZC];omega
structure TAI(Hs:Heap)(g3 g4 g0 av:AV)(q:Nat)(R:Obj)(as_:List NP)(m:Nat)(tm:TM)(H:Heap):Prop where
 k:Zs Hs H []
 t0:Yb tm=g0
 t3:W8 tm=g3
 t4:Y4 tm=g4
 t5:YW tm=.ptr q 0
 i: ∃i w,XQ tm=nI .i64 i∧i+m=min 20 as_.length∧XI tm=w∧RM H w 45 2 (V8 ((as_.take i).map wN)) Hs.nx
def TAQ(Hs:Heap)(g3 g4 g0:AV)(q:Nat)(as_:List NP)(o:Out)(tm:TM)(H:Heap):Prop:=o=.exit 2∧Zs Hs H []∧Yb tm=g0∧W8 tm=g3∧Y4 tm=g4∧YW tm=.ptr q 0∧ ∃w,XI tm=w∧RM H w 45 2 (V8 (Ir as_)) Hs.nx
theorem ZcE{Hs:Heap}{g3 g4 g0 av:AV}{q:Nat}{R:Row}{as_:List NP}(hq:q<Hs.nx)(gR:Hs.t.get q=some (.row R))(l6: ∀G,ld1 (some (.row R)) 6 G=.val av G)(hA:Sz Hs 2 av (V8 as_))(hro:Hs.ro<=Hs.nx)(hal:as_.length<=maxLen)(cx:Ctx)(X0:X)(m:Nat)(tm:TM)(H:Heap)(hI:TAI Hs g3 g4 g0 av q (.row R) as_ m tm H):
  ∃o tm' H',AD cx tm H X0=.ok o tm' H' X0∧((o=.normal∧ ∃k,k<m∧TAI Hs g3 g4 g0 av q (.row R) as_ k tm' H')∨(o≠.normal∧TAQ Hs g3 g4 g0 q as_ o tm' H')):=by
 obtain⟨k0,t0,t3,t4,t5,i,w,t7,him,t6,rb⟩:=hI
 have t0':=t0;have GY:=t3;have Qk:=t4;have PE:=t5;have Dr:=t6
 simp only[QP,EU,LX] at t5 t6 t7
 have y2:=hA.keep0 k0
 have la:=y2.len
 rw[XK] at la
 have gq:=(k0.get q hq (by simp)).trans gR
 have hx0:=k0.nx
 cases m with
 |zero=>
  have hat:Ir as_=(as_.take i).map wN:=by
   unfold Ir
   congr 1
   by_cases h:20<=as_.length
   ·rw[show i=20 by omega]
   ·rw[Z9 (by omega),Z9 (by omega)]
  rw[<-hat] at rb
  by_cases h1:i<as_.length
  ·have d1:decide (i<as_.length)=true:=Ze h1
   have d2:decide (i<20)=false:=Zb (by omega)
   simp only[t5,t7,gq,l6,la,d1,d2,Zy,Nat.reduceAdd,Zd,Zd,Zy,Zd,AD,Zu,Ye,Z6,Vk]
   refine⟨_,_,_,rfl,?_⟩
   exact .inr ⟨by simp,rfl,k0,t0',GY,Qk,PE,w,Dr,rb⟩
  ·have d1:decide (i<as_.length)=false:=Zb h1
   simp only[t5,t7,gq,l6,la,d1,Zy,Nat.reduceAdd,Zd,Zd,Zy,Zd,AD,Zu,Ye,Z6,Vk]
   refine⟨_,_,_,rfl,?_⟩
   exact .inr ⟨by simp,rfl,k0,t0',GY,Qk,PE,w,Dr,rb⟩
 |succ m=>
  have hi:i<as_.length:=by omega
  have d1:decide (i<as_.length)=true:=Ze hi
  have d2:decide (i<20)=true:=Ze (by omega)
  obtain⟨bb,o,r,eI,hb,gb,eL,_⟩:=y2.at_ (i:=i) (by rw[XK];exact hi)
  rw[Sy hi] at eL
  have htk:(as_.take (i+1)).map wN=(as_.take i).map wN++[wN (as_.getD i ([],[]))]:=by
   rw[WR,Zf,Zl hi,Xv];rfl
  generalize as_.getD i ([],[])=a at*
  have hroN:H.ro<=H.nx:=by rw[k0.ro];omega
  obtain⟨H1,hH1⟩:=Sa (H.new (rH 45 [.str a.1,.str a.2]))
  have k1:Zs H H1 []:=by rw[<-hH1];exact Zs.new _ _ _
  have IY:H1.nx=H.nx+1:=by rw[<-hH1];rfl
  have g1:H1.t.get H.nx=some (rH 45 [.str a.1,.str a.2]):=by rw[<-hH1];exact ZW rfl _
  have sf:=Tn (n:=2) (b:=H.nx) (l:=[.str [],.str []]) (vs:=[.str a.1,.str a.2]) (H:=H.new (rH 45 [.str [],.str []])) rfl rfl (by decide) hroN 45 1 false true
  rw[Tm rfl,hH1] at sf
  have l0: ∀G,ld1 (some (rH 45 [.str a.1,.str a.2])) 0 G=.val (.str a.1) G:=λG=>rfl
  have l1: ∀G,ld1 (some (rH 45 [.str a.1,.str a.2])) 1 G=.val (.str a.2) G:=λG=>rfl
  have tk1:=Ds a.1 250
  have tk2:=Ds a.2 700
  have rb1:RM H1 w 45 2 (V8 ((as_.take i).map wN)) Hs.nx:=rb.below (λc _ hc=>k1.get c hc (by simp)) k1.ro k1.nx
  obtain⟨_,_,_,bw⟩:=Sx rb1
  obtain⟨w',H2,ea,w2,k2,hb2,n2⟩:=uq (bytes:=32) rb1 (by decide) (by decide) (by rw[XK,Zx,ZC];omega) (by rw[k1.ro];omega) (by omega) (x:=[.str (a.1.take 250),.str (a.2.take 700)]) rfl
  have lw0:=rb1.low (n:=H1.nx) (Zp _)
  have bs: ∀G,UU 45 2 1 [.str [],.str []] [(0,2,.agg [.str (a.1.take 250),.str (a.2.take 700)])] G=.val (.slice G.nx 0 1 none) (G.new (rG 45 2 [.str (a.1.take 250),.str (a.2.take 700)] 0 false true true)):=λ_=>rfl
  have b2: ∀G,Q1 [.str [],.str []] [(0,1,.str (a.1.take 250)),(1,1,.str (a.2.take 700))] G=.val (.agg [.str (a.1.take 250),.str (a.2.take 700)]) G:=λ_=>rfl
  have gg:=Nl (H:=H1) (o:=rG 45 2 [.str (a.1.take 250),.str (a.2.take 700)] 0 false true true) (c:=H.nx) (by omega)
  simp(disch:=first|assumption|omega|(simp -implicitDefEqProofs only[X3,X4]<;>first|assumption|omega)|decide) only[t5,t6,t7,gq,l6,la,d1,d2,eI,gb,eL,sf,g1,l0,l1,tk1,tk2,bs,b2,ea,lw0,gg,MM,S7,Ya,Ys,Up,ZD,ZM,Zy,YI,ZG,Nat.reduceAdd,decide_true,Zg,Zd,Zd,Zg,YD,Ys,Ya,ZD,ZM,Zy,Zd,Zg,YD,AD,Zu,Ye,Zw,Z8,Yp,Yv,Y6,Nat.reducePow,Nat.reduceDiv,Nat.reduceMod,Z6,Vk,QS]
  refine⟨_,_,_,rfl,.inl ⟨rfl,m,by omega,(k0.trans' k1).trans k2 (λc hc hlt=>by have:=(bw c hc).1;omega),t0',GY,Qk,PE,i+1,w',rfl,by omega,rfl,?_⟩⟩
  rw[htk,FZ];exact w2
section
variable {Zn:Lib} {fs:T CF} {fuel k n i h b:Nat} {H H0:Heap} {s:List UInt8} {cs:List AV}
def i6(e:Mem):Mem:=⟨e.path.take 4100,e.kind,e.mode,e.uid,e.gid,e.time,Ir e.attrs,e.data.take 1500,e.link.take 4100⟩
def MD(L:List Mem):List Mem:=(L.take 12).map i6
theorem ni.keep{H H':Heap}{m:Mem}(h:ni H cs m)(k:Zs H H' []):ni H' cs m:=by
 obtain⟨av,dv,e,h1,h2⟩:=h
 exact⟨av,dv,e,h1.keep k,h2.keep k⟩
def nj(H:Heap)(S:List Nat)(cs:List AV)(m:Mem):Prop:= ∃av dv,cs=[.str m.path,.int .i64 m.kind,nI .u32 m.mode,nI .u32 m.uid,nI .u32 m.gid,.int .i64 m.time,av,dv,.str m.link]∧Sz H 2 av (V8 m.attrs)∧BV H dv m.data∧(∀b∈XP av,b∉S∧b<H.nx)∧ ∀b∈XP dv,b∉S∧b<H.nx
theorem nj.keep{H H':Heap}{S S' T:List Nat}{m:Mem}(h:nj H S cs m)(k:Zs H H' T)(hT: ∀b∈T,b∈S∨H.nx<=b)(hS: ∀b∈S',b∈S∨H.nx<=b):nj H' S' cs m:=by
 obtain⟨av,dv,e,h1,h2,h3,h4⟩:=h
 have ok: ∀{v:AV},(∀b∈XP v,b∉S∧b<H.nx)->(∀b∈XP v,b∉T)∧ ∀b∈XP v,b∉S'∧b<H'.nx:=λhv=>⟨λb hb hm=>by
  rcases hT b hm with h|h
  ·exact(hv b hb).1 h
  ·have:=(hv b hb).2;omega,λb hb=>⟨λhm=>by
  rcases hS b hm with h|h
  ·exact(hv b hb).1 h
  ·have:=(hv b hb).2;omega,ZT (hv b hb).2 k.nx⟩⟩
 exact⟨av,dv,e,h1.move k (ok h3).1,h2.keep k (λb o n c hh hb=>(ok h4).1 b (by rw[hh];simp[XP]) hb),(ok h3).2,(ok h4).2⟩
theorem K6(L:List Mem):(MD L).length=min 12 L.length:=by unfold MD;rw[Zx,ZC]
theorem wV{L:List Mem}{j:Nat}(h:j<min 12 L.length):(MD L).getD j default=i6 (L.getD j default):=by
 unfold MD
 rw[Zf,YE,Xe (by omega),Zf,Zl (by omega)];rfl
theorem Zlo{x:List AV}(hx:x.length=9)(G:Heap):UU 36 9 1 [.str [],nI .i64 0,nI .u32 0,nI .u32 0,nI .u32 0,nI .i64 0,.nils,.nils,.str []] [(0,9,.agg x)] G=.val (.slice G.nx 0 1 none) (G.new (rG 36 9 x 0 false true true)):=by
 rw[DL (by decide) rfl,nY hx (by decide) (by decide),Fr]
 rw[xc _ _ _ (by rw[hx];decide),YN,ZY,TV (by rw[hx];decide),Yd]
 rfl
structure FTI(Hs:Heap)(ev:AV)(L:List Mem)(m:Nat)(tm:TM)(H:Heap):Prop where
 k:Zs Hs H []
 t0:Yb tm=ev
 i: ∃i w ls,Y4 tm=nI .i64 i∧i+m=min 12 L.length∧W8 tm=w∧RM H w 36 9 ls Hs.nx∧ls.length=i∧ ∀j,j<i->nj H (XP w) (ls.getD j []) (i6 (L.getD j default))
def FTQ(Hs:Heap)(L:List Mem)(o:Out)(tm:TM)(H:Heap):Prop:=o=.exit 0∧Zs Hs H []∧ ∃w ls,W8 tm=w∧RM H w 36 9 ls Hs.nx∧ls.length=(MD L).length∧ ∀j,j<(MD L).length->nj H (XP w) (ls.getD j []) ((MD L).getD j default)
theorem Zaw(E:Env Zn fs fuel){k0:Nat}{ev:AV}{L:List Mem}{Hs:Heap}(hat: ∀i,i<L.length->(L.getD i default).attrs.length<=maxLen)(hro:Hs.ro<=Hs.nx)(hE:qT Hs ev L)(y f q)(X0:X)(m:Nat)(tm:TM)(H:Heap)(hI:FTI Hs ev L m tm H):
  ∃o tm' H',AE ⟨ZE (LK Zn fs fuel k0) fs fuel n,y,f,fuel,q⟩ tm H X0=.ok o tm' H' X0∧((o=.normal∧ ∃k,k<m∧FTI Hs ev L k tm' H')∨(o≠.normal∧FTQ Hs L o tm' H')):=by
 obtain⟨kk0,t0,i,w,ls,t4,him,t3,hw,hll,hmem⟩:=hI
 have t0':=t0;have Qk:=t4;have GY:=t3
 simp only[Sb,Px,Tp] at t0 t3 t4
 have hf:=E.big
 obtain⟨Ls,hV,hVl,hVm⟩:=hE
 have ln:=hV.len
 rw[hVl] at ln
 cases m with
 |zero=>
  have hfl:(MD L).length=i:=by rw[K6];omega
  have fin:FTQ Hs L (.exit 0) tm H:=⟨rfl,kk0,w,ls,GY,hw,by rw[hfl];exact hll,λj hj=>by rw[wV (by rw[<-K6];exact hj)];exact hmem j (by omega)⟩
  obtain⟨_,f2,w_,ls_,f3,f4,f5,f6⟩:=fin
  by_cases h1:i<L.length
  ·have d1:decide (i<L.length)=true:=Ze h1
   have d2:decide (i<12)=false:=Zb (by omega)
   simp only[t0,t4,ln,d1,d2,Zy,Zy,AE,Zu,Ye,Z6,]
   refine⟨_,_,_,rfl,?_⟩
   exact .inr ⟨by simp,rfl,f2,w_,ls_,f3,f4,f5,f6⟩
  ·have d1:decide (i<L.length)=false:=Zb h1
   simp only[t0,t4,ln,d1,Zy,Zy,AE,Zu,Ye,Z6,]
   refine⟨_,_,_,rfl,?_⟩
   exact .inr ⟨by simp,rfl,f2,w_,ls_,f3,f4,f5,f6⟩
 |succ m=>
  have hi:i<L.length:=by omega
  have d1:decide (i<L.length)=true:=Ze hi
  have d2:decide (i<12)=true:=Ze (by omega)
  have ZaN:H.ro<=H.nx:=by rw[kk0.ro];exact Z5 hro kk0.nx
  have hx0:=kk0.nx
  obtain⟨bb,o,r,eI,hb,gb,eL,eE⟩:=(hV.keep0 kk0).at_ (i:=i) (by omega)
  have Zms:=hat i hi
  have hEi:=(hVm i hi).keep kk0
  generalize he:L.getD i default=e at*
  obtain⟨av,dv,ecs,hA,hD⟩:=hEi
  rw[ecs] at eL
  obtain⟨H1,hH1⟩:=Sa (H.new (rH 36 [.str e.path,.int .i64 e.kind,nI .u32 e.mode,nI .u32 e.uid,nI .u32 e.gid,.int .i64 e.time,av,dv,.str e.link]))
  have g5:H1.t.get H.nx=some (rH 36 [.str e.path,.int .i64 e.kind,nI .u32 e.mode,nI .u32 e.uid,nI .u32 e.gid,.int .i64 e.time,av,dv,.str e.link]):=by rw[<-hH1];exact ZW rfl _
  have MX:H1.ro<=H.nx:=by rw[<-hH1];exact ZaN
  have IY:H1.nx=H.nx+1:=by rw[<-hH1];rfl
  have sf:=Tn (n:=9) (b:=H.nx) (l:=[.str [],nI .i64 0,nI .u32 0,nI .u32 0,nI .u32 0,nI .i64 0,.nils,.nils,.str []]) (vs:=[.str e.path,.int .i64 e.kind,nI .u32 e.mode,nI .u32 e.uid,nI .u32 e.gid,.int .i64 e.time,av,dv,.str e.link]) (H:=H.new (rH 36 [.str [],nI .i64 0,nI .u32 0,nI .u32 0,nI .u32 0,nI .i64 0,.nils,.nils,.str []])) rfl rfl (by decide) (by show H.ro<=_;exact ZaN) 36 1 false true
  rw[Tm rfl,hH1] at sf
  obtain⟨Ha,an⟩:=Sa (H.new (rH 36 [.str (e.path.take 4100),.int .i64 e.kind,nI .u32 e.mode,nI .u32 e.uid,nI .u32 e.gid,.int .i64 e.time,av,dv,.str e.link]))
  have ga:Ha.t.get H.nx=some (rH 36 [.str (e.path.take 4100),.int .i64 e.kind,nI .u32 e.mode,nI .u32 e.uid,nI .u32 e.gid,.int .i64 e.time,av,dv,.str e.link]):=by rw[<-an];exact ZW rfl _
  have roa:Ha.ro<=H.nx:=by rw[<-an];exact ZaN
  have nxa:Ha.nx=H.nx+1:=by rw[<-an];rfl
  have sa:tp 1 (some (rH 36 [.str e.path,.int .i64 e.kind,nI .u32 e.mode,nI .u32 e.uid,nI .u32 e.gid,.int .i64 e.time,av,dv,.str e.link])) H.nx 0 (.str (e.path.take 4100)) H1=.val Xz Ha:=by
   rw[LH rfl (show 0<9 by decide) MX (ZZ _),<-hH1,Tm rfl,<-an];rfl
  obtain⟨Hb,hHb⟩:=Sa (H.new (rH 36 [.str (e.path.take 4100),.int .i64 e.kind,nI .u32 e.mode,nI .u32 e.uid,nI .u32 e.gid,.int .i64 e.time,av,dv,.str (e.link.take 4100)]))
  have gbb:Hb.t.get H.nx=some (rH 36 [.str (e.path.take 4100),.int .i64 e.kind,nI .u32 e.mode,nI .u32 e.uid,nI .u32 e.gid,.int .i64 e.time,av,dv,.str (e.link.take 4100)]):=by rw[<-hHb];exact ZW rfl _
  have sb:tp 1 (some (rH 36 [.str (e.path.take 4100),.int .i64 e.kind,nI .u32 e.mode,nI .u32 e.uid,nI .u32 e.gid,.int .i64 e.time,av,dv,.str e.link])) H.nx 8 (.str (e.link.take 4100)) Ha=.val Xz Hb:=by
   rw[LH rfl (show 8<9 by decide) roa (ZZ _),<-an,Tm rfl,<-hHb];rfl
  have kb:Zs H Hb []:=by rw[<-hHb];exact Zs.new _ _ _
  have nxb:Hb.nx=H.nx+1:=by rw[<-hHb];rfl
  have rob:Hb.ro<=H.nx:=by rw[<-hHb];exact ZaN
  have l0: ∀G,ld1 (some (rH 36 [.str e.path,.int .i64 e.kind,nI .u32 e.mode,nI .u32 e.uid,nI .u32 e.gid,.int .i64 e.time,av,dv,.str e.link])) 0 G=.val (.str e.path) G:=λG=>rfl
  have l8: ∀G,ld1 (some (rH 36 [.str e.path,.int .i64 e.kind,nI .u32 e.mode,nI .u32 e.uid,nI .u32 e.gid,.int .i64 e.time,av,dv,.str e.link])) 8 G=.val (.str e.link) G:=λG=>rfl
  have tk1:=Ds e.path 4100
  have tk2:=Ds e.link 4100
  have l7: ∀G,ld1 (some (rH 36 [.str (e.path.take 4100),.int .i64 e.kind,nI .u32 e.mode,nI .u32 e.uid,nI .u32 e.gid,.int .i64 e.time,av,dv,.str (e.link.take 4100)])) 7 G=.val dv G:=λG=>rfl
  obtain⟨dv2,sd,hd2⟩:=hD.2 (min e.data.length 1500) (by rw[TB];exact Nat.min_le_left _ _)
  rw[nK,bX] at hd2
  have sd1:Pq 1 dv none (some (nI .i64 (min e.data.length 1500))) Hb=.val dv2 Hb:=sd _ λc hc=>kb.get c hc (by simp)
  have ldd:=λG=>hD.1.len G
  rw[TB] at ldd
  have hdb:Sz Hb 1 dv2 (OX (e.data.take 1500)):=hd2.keep0 kb
  have hdl15:(e.data.take 1500).length<=1500:=by rw[ZC];omega
  obtain⟨AS,Hc,ec0,gc3,kbc,bk3⟩:=Cp (GB.nil Hb Hb.nx) (Zp _) (by omega) (e.data.take 1500) (by rw[SD];omega)
  have ec:UT 5 1 1 .nils dv2 Hb=.val AS Hc:=by
   rw[DD hdb (by decide) (by decide),TB,K4];exact ec0
  rw[ZY] at gc3
  have kbc:Zs Hb Hc []:=kbc
  have hxc:=kbc.nx
  have gc:Hc.t.get H.nx=some (rH 36 [.str (e.path.take 4100),.int .i64 e.kind,nI .u32 e.mode,nI .u32 e.uid,nI .u32 e.gid,.int .i64 e.time,av,dv,.str (e.link.take 4100)]):=by rw[kbc.get _ (by omega) (by simp)];exact gbb
  have roc:Hc.ro<=H.nx:=by rw[kbc.ro];exact rob
  have cv3:=gc3.cells
  obtain⟨Hd,hHd⟩:=Sa (Hc.put H.nx (rH 36 [.str (e.path.take 4100),.int .i64 e.kind,nI .u32 e.mode,nI .u32 e.uid,nI .u32 e.gid,.int .i64 e.time,av,AS,.str (e.link.take 4100)]))
  have sc:tp 1 (some (rH 36 [.str (e.path.take 4100),.int .i64 e.kind,nI .u32 e.mode,nI .u32 e.uid,nI .u32 e.gid,.int .i64 e.time,av,dv,.str (e.link.take 4100)])) H.nx 7 AS Hc=.val Xz Hd:=by
   rw[LH cv3 (show 7<9 by decide) roc (ZZ _),<-hHd];rfl
  have gd:Hd.t.get H.nx=some (rH 36 [.str (e.path.take 4100),.int .i64 e.kind,nI .u32 e.mode,nI .u32 e.uid,nI .u32 e.gid,.int .i64 e.time,av,AS,.str (e.link.take 4100)]):=by rw[<-hHd];exact Xw ..
  have kcd:Zs Hc Hd [H.nx]:=by rw[<-hHd];exact Zs.put λ_=>by simp
  have nxd:Hd.nx=Hc.nx:=by rw[<-hHd];rfl
  have rod:Hd.ro<=H.nx:=by rw[<-hHd];exact roc
  have kd:Zs H Hd []:=(kb.trans' kbc).trans kcd λc hc hlt=>by have:=Zq.1 hc;omega
  have hdb2:=hdb.low (n:=Hb.nx) (Zp _)
  have l66: ∀G,ld1 (some (rH 36 [.str (e.path.take 4100),.int .i64 e.kind,nI .u32 e.mode,nI .u32 e.uid,nI .u32 e.gid,.int .i64 e.time,av,AS,.str (e.link.take 4100)])) 6 G=.val av G:=λG=>rfl
  simp(disch:=omega) only[t0,t4,ln,d1,d2,eI,gb,eL,sf,g5,l0,l8,tk1,tk2,sa,ga,sb,gbb,l7,ldd,sd1,ec,gc,sc,MM,S7,Ya,Lv,XZ,UM,ZD,ZM,Zy,ZG,Nat.reduceAdd,decide_true,Zg,Zd,Zd,Zg,YD,Ya,ZD,ZM,Zy,Zd,Zg,YD,AE,Zu,Ye,Zw,Z8,Yp,Yv,Nat.reducePow,Nat.reduceDiv,Nat.reduceMod,Z6,Vk,]
  generalize hL:Wv (AD _) fuel _ _ _=Lp
  obtain⟨oc,Pu,H4,rfl,_,rfl,k4,s0,s3,s4,s5,w9,s6,hw9⟩:=YA (P:=λT=>TAI Hd w (nI .i64 i) ev av H.nx (rH 36 [.str (e.path.take 4100),.int .i64 e.kind,nI .u32 e.mode,nI .u32 e.uid,nI .u32 e.gid,.int .i64 e.time,av,AS,.str (e.link.take 4100)]) e.attrs (min 20 e.attrs.length) T Hd) (Q:=TAQ Hd w (nI .i64 i) ev H.nx e.attrs)
   (λT hi=>YP (TAI Hd w (nI .i64 i) ev av H.nx (rH 36 [.str (e.path.take 4100),.int .i64 e.kind,nI .u32 e.mode,nI .u32 e.uid,nI .u32 e.gid,.int .i64 e.time,av,AS,.str (e.link.take 4100)]) e.attrs) (TAQ Hd w (nI .i64 i) ev H.nx e.attrs) (λm tm H4 h=>ZcE (by omega) gd l66 (hA.1.keep0 kd) (by omega) Zms _ _ m tm H4 h) fuel (min 20 e.attrs.length) T Hd (by omega) hi) hL
   (by exact⟨Zs.refl _ _,t0',GY,Qk,rfl,0,.nils,rfl,by omega,rfl,.inl ⟨by rw[YN];rfl,rfl⟩⟩)
  have s0':=s0
  simp only[Px,Tp,QP,EU] at s3 s4 s5 s6
  have n4:=k4.nx
  have hxb:=hw9.low (n:=H4.nx) (Zp _)
  obtain⟨_,_,cw9,hab⟩:=Sx hw9
  have g4:H4.t.get H.nx=some (rH 36 [.str (e.path.take 4100),.int .i64 e.kind,nI .u32 e.mode,nI .u32 e.uid,nI .u32 e.gid,.int .i64 e.time,av,AS,.str (e.link.take 4100)]):=by rw[k4.get _ (by omega) (by simp)];exact gd
  have ro4:H4.ro<=H.nx:=by rw[k4.ro];exact rod
  obtain⟨He,hHe⟩:=Sa (H4.put H.nx (rH 36 [.str (e.path.take 4100),.int .i64 e.kind,nI .u32 e.mode,nI .u32 e.uid,nI .u32 e.gid,.int .i64 e.time,w9,AS,.str (e.link.take 4100)]))
  have se:tp 1 (some (rH 36 [.str (e.path.take 4100),.int .i64 e.kind,nI .u32 e.mode,nI .u32 e.uid,nI .u32 e.gid,.int .i64 e.time,av,AS,.str (e.link.take 4100)])) H.nx 6 w9 H4=.val Xz He:=by
   rw[LH cw9 (show 6<9 by decide) ro4 (ZZ _),<-hHe];rfl
  have ge:He.t.get H.nx=some (rH 36 [.str (e.path.take 4100),.int .i64 e.kind,nI .u32 e.mode,nI .u32 e.uid,nI .u32 e.gid,.int .i64 e.time,w9,AS,.str (e.link.take 4100)]):=by rw[<-hHe];exact Xw ..
  have k4e:Zs H4 He [H.nx]:=by rw[<-hHe];exact Zs.put λ_=>by simp
  have nxe:He.nx=H4.nx:=by rw[<-hHe];rfl
  have kHe:Zs H He []:=(kd.trans' k4).trans k4e λc hc hlt=>by have:=Zq.1 hc;omega
  have wm: ∀G,EW 9 (some (rH 36 [.str (e.path.take 4100),.int .i64 e.kind,nI .u32 e.mode,nI .u32 e.uid,nI .u32 e.gid,.int .i64 e.time,w9,AS,.str (e.link.take 4100)])) 0 G=.val (.agg [.str (e.path.take 4100),.int .i64 e.kind,nI .u32 e.mode,nI .u32 e.uid,nI .u32 e.gid,.int .i64 e.time,w9,AS,.str (e.link.take 4100)]) G:=λG=>Vr (show 0+9<=9 by decide) ..
  have bs:=λ(G:Heap)=>Zlo (x:=[.str (e.path.take 4100),.int .i64 e.kind,nI .u32 e.mode,nI .u32 e.uid,nI .u32 e.gid,.int .i64 e.time,w9,AS,.str (e.link.take 4100)]) rfl G
  have we:RM He w 36 9 ls Hs.nx:=hw.below (λc _ hc=>kHe.get c hc (by simp)) kHe.ro kHe.nx
  have hbw:=(Sx hw).2.2.2
  have Zmu:=(Sx we).2.2.2
  obtain⟨v',H5,ea,w5,k5,hb5,n5⟩:=uq (bytes:=112) we (by decide) (by decide) (by rw[hll];have:(i+1)*112<=12*112:=VD _ (by omega);omega) (by rw[kHe.ro];omega) (by omega) (x:=[.str (e.path.take 4100),.int .i64 e.kind,nI .u32 e.mode,nI .u32 e.uid,nI .u32 e.gid,.int .i64 e.time,w9,AS,.str (e.link.take 4100)]) rfl
  simp(disch:=omega) only[s3,s4,s5,s6,g4,se,ge,wm,bs,ea,Ys,Ya,ZD,ZM,YI,Nat.reduceAdd,Zd,Zd,Ys,Ya,ZD,ZM,Zd,Zu,Ye,Z6,QS,Lb]
  have hw9e:RM He w9 45 2 (V8 (Ir e.attrs)) Hd.nx:=hw9.below (λc hc hlt=>k4e.get c hlt λhm=>by have:=Zq.1 hm;omega) k4e.ro k4e.nx
  have ZaE: ∀b∈XP AS,Hb.nx<=b∧b<Hc.nx:=gc3.blk
  have bde:BV He AS (e.data.take 1500):=(((gc3.bv).move kcd λb hb hm=>by have:=(ZaE b hb).1;have:=Zq.1 hm;omega).move k4 λb hb hm=>by cases hm).move k4e λb hb hm=>by have:=(ZaE b hb).1;have:=Zq.1 hm;omega
  have ZhN:=(Sx hw9e).2.2.2
  have hS': ∀b∈XP v',b∈XP w∨He.nx<=b:=λb hb=>.inr (hb5 b hb)
  have hme:nj He (XP w) [.str (e.path.take 4100),.int .i64 e.kind,nI .u32 e.mode,nI .u32 e.uid,nI .u32 e.gid,.int .i64 e.time,w9,AS,.str (e.link.take 4100)] (i6 e):=⟨w9,AS,rfl,.inr (Sl.of_buf hw9e),bde,λb hb=>⟨λhm=>by have:=(ZhN b hb).1;have:=(hbw b hm).2;omega,(ZhN b hb).2⟩,λb hb=>⟨λhm=>by have:=(ZaE b hb).1;have:=(hbw b hm).2;omega,by have:=(ZaE b hb).2;omega⟩⟩
  refine⟨_,_,_,rfl,.inl ⟨rfl,m,by omega,(kk0.trans' kHe).trans k5 (λc hc hlt=>by have:=(Zmu c hc).1;omega),s0',i+1,v',ls++[[.str (e.path.take 4100),.int .i64 e.kind,nI .u32 e.mode,nI .u32 e.uid,nI .u32 e.gid,.int .i64 e.time,w9,AS,.str (e.link.take 4100)]],rfl,by omega,rfl,w5,by rw[Zj,hll];rfl,λj hj=>?_⟩⟩
  by_cases hji:j<i
  ·rw[Zf,Yh (by omega),<-Zf]
   exact((hmem j hji).keep kHe (λb hb=>by cases hb) (λb hb=>.inl hb)).keep k5 (λb hb=>.inl hb) hS'
  ·obtain rfl:j=i:=by omega
   rw[he,Zf,Yi (by omega),show j - ls.length=0 by omega]
   exact hme.keep k5 (λb hb=>.inl hb) hS'
theorem i7(E:Env Zn fs fuel){k0:Nat}{ev:AV}{L:List Mem}(hat: ∀i,i<L.length->(L.getD i default).attrs.length<=maxLen)(hro:H.ro<=H.nx)(hE:qT H ev L):
  ∃w H',ZE (LK Zn fs fuel k0) fs fuel (n+1) 4 [ev] H=.ret w H'∧Zs H H' []∧OT H' w (MD L):=by
 rw[ZI (ZA E.n4 (.inr rfl) _ _) E.f4]
 have hf:=E.big
 simp only[c4,Zu,Z6]
 generalize hL:Wv (AE _) fuel _ _ _=Lp
 obtain⟨oc,Pu,H1,rfl,_,rfl,k1,w,ls,t3,hw,hll,hm⟩:=YA (P:=λT=>FTI H ev L (min 12 L.length) T H) (Q:=FTQ H L)
  (λT hi=>YP (FTI H ev L) (FTQ H L) (λm tm H3 h=>Zaw E hat hro hE _ _ _ _ m tm H3 h) fuel (min 12 L.length) T H (by omega) hi) hL
  (by exact⟨Zs.refl _ _,rfl,0,.nils,[],rfl,by omega,rfl,.inl ⟨rfl,rfl⟩,rfl,λj hj=>by cases hj⟩)
 simp only[Px] at t3
 simp only[t3,Zu,Ye,Zw,Z6,Lb]
 refine⟨_,_,rfl,k1,ls,Sl.of_buf hw,hll,λi hi=>?_⟩
 obtain⟨av,dv,e,q1,q2,_,q3⟩:=hm i hi
 exact⟨av,dv,e,q1,q2,λb hb=>(q3 b hb).2⟩
def Zeh(H G:Heap):Prop:=H.nx<=G.nx∧G.ro=H.ro∧ ∀c,c<100->G.t.get c=H.t.get c
theorem Zs.kept{G:Heap}(k:Zs H G [])(h:100<=H.nx):Zeh H G:=⟨k.nx,k.ro,λc hc=>k.get c (by omega) (by simp)⟩
theorem yI{v:AV}{l:List UInt8}(h:BV H v l)(n m:Nat):BR v ⟨n,H.t,m⟩=.val (.str l) ⟨n,H.t,m⟩:=by
 rcases h with⟨rfl,rfl|⟨b,o,c,rfl⟩⟩|⟨_,b,o,c,r,rfl,hB,_⟩
 ·rfl
 ·rfl
 ·exact M5 (H:=⟨n,H.t,m⟩) hB.at_ rfl hB.fits λi hi=>hB.get i hi
theorem oP{m:Mem}(h:QN H cs m)(n:Nat)(t:T Obj):Ud (.val (.agg cs) ⟨n,t,n⟩) (.agg cs) n=true:=by
 obtain⟨av,dv,rfl,hA,hD⟩:=h
 refine IS (Jk _ λv hv=>?_) n t
 simp only[ZO,Ua,or_false] at hv
 rcases hv with rfl|rfl|rfl|rfl|rfl|rfl|rfl|rfl|rfl
 ·exact MY _
 ·exact Ou ..
 ·exact LD ..
 ·exact LD ..
 ·exact LD ..
 ·exact Ou ..
 ·exact Dq hA
 ·exact Dq hD
 ·exact MY _
theorem Zau{m:Mem}(h:Ax m):az (i6 m):=by
 refine⟨⟨?_,?_,?_,h.mode,h.uid,h.gid,h.time.1,h.time.2,?_⟩,?_⟩
 ·show(m.path.take 4100).length<=_;rw[ZC];omega
 ·show(m.link.take 4100).length<=_;rw[ZC];omega
 ·intro x hx
  have hx:x∈(m.attrs.take 20).map wN:=hx
  obtain⟨q,_,rfl⟩:=YQ.1 hx
  show(q.1.take 250).length+(q.2.take 700).length<=_
  rw[ZC,ZC];omega
 ·exact Z5 (tQ _) (by decide)
 ·show(m.data.take 1500).length<=_;rw[ZC];omega
theorem i9{L:List Mem}(h: ∀i,i<L.length->Ax (L.getD i default)): ∀x∈MD L,az x:=λx hx=>by
 obtain⟨i,hi,rfl⟩:=TW.1 hx
 have hl:=K6 L
 have e:(MD L).getD i default=(MD L)[i]:=by rw[Zf,Zl hi];rfl
 rw[<-e,wV (by omega)]
 exact Zau (h i (by omega))
theorem eB(b:Bool)(G:Heap):N6 sK true (.bool b) (.bool b) G=.val (.bool false) G:=by cases b<;>rfl
structure LWI(Hs:Heap)(w z:AV)(L:List Mem)(m:Nat)(tm:TM)(H:Heap):Prop where
 k:Zs Hs H []
 t0:Yb tm=w
 t1:Wc tm=z
 i: ∃i,WG tm=nI .i64 i∧i+m=L.length
def LWQ(Hs:Heap)(z:AV)(o:Out)(tm:TM)(H:Heap):Prop:=o=.exit 0∧Zs Hs H []∧Wc tm=z
theorem Zbp(E:Env Zn fs fuel)(hk:13<=k){w z:AV}{L:List Mem}{Hs:Heap}(gH:Sd Hs)(hV:OT Hs w L)(hl:L.length<=12)(hok: ∀x∈L,az x)(y f dd q)(X0:X)(m:Nat)(tm:TM)(H:Heap)(hI:LWI Hs w z L m tm H):
  ∃o tm' H',wD ⟨ZE (LK Zn fs fuel k) fs fuel (n+8),y,f,dd,q⟩ tm H X0=.ok o tm' H' X0∧((o=.normal∧ ∃k,k<m∧LWI Hs w z L k tm' H')∨(o≠.normal∧LWQ Hs z o tm' H')):=by
 obtain⟨k0,t0,t1,i,t9,him⟩:=hI
 have t0':=t0;have t1':=t1
 simp only[Sb,fj] at t0 t9
 have ln:=hV.len
 cases m with
 |zero=>
  have d1:decide (i<L.length)=false:=Zb (by omega)
  simp only[t0,t9,ln,d1,Zy,Zy,wD,Zu,Ye,Z6,Vk,]
  refine⟨_,_,_,rfl,?_⟩
  exact .inr ⟨by simp,rfl,k0,t1'⟩
 |succ m=>
  have d1:decide (i<L.length)=true:=Ze (by omega)
  have hi:i<L.length:=by omega
  have hi0:0<L.length:=by omega
  have hV0:=hV.keep k0
  have gy:=gH.keep0 k0
  have mH:=gy.p.ro
  obtain⟨bb,o,r,cs,eI,hb,gb,eL,_,hB⟩:=hV0.at_ hi
  obtain⟨b0,o0,r0,c0,eI0,hb0,gb0,eL0,_,hB0⟩:=hV0.at_ hi0
  have hok1:=hok _ (Kt hi)
  generalize L.getD i default=me at*
  generalize L.getD 0 default=m0 at*
  have hC:=hB.toC
  have hC0:=hB0.toC
  have lw: ∀n,H.nx<=n->Wx n w=true:=by
   obtain⟨ls,q1,_⟩:=hV0
   exact λn hn=>q1.low hn
  have heads: ∃v1 v2 c H1 H2,(∀{j},j=n+7->ZE (LK Zn fs fuel k) fs fuel (j+1) 7 [.agg cs] H=.ret (.tup [v1,nI .i64 c]) H1)∧(∀{j},j=n+7->ZE (LK Zn fs fuel k) fs fuel (j+1) 8 [.agg cs] H1=.ret (.tup [v2,nI .i64 c]) H2)∧Zs H H1 []∧Zs H1 H2 []∧ ∃l,BV H2 v1 l∧BV H2 v2 l∧(∀b∈XP v1,b<H2.nx)∧ ∀b∈XP v2,b<H2.nx:=by
   cases hm:YZ me with
   |true=>
    obtain⟨v1,H1,e1,bv1,k1,b1,c1,hv1,hl1,hl2⟩:=wn E (k:=k) (n:=n+1) (by omega) gy hC hok1.1 hm
    have MX:H1.ro<=H1.nx:=by rw[k1.ro];have:=k1.nx;omega
    obtain⟨v2,H2,e2,Ae,k2,hl3⟩:=AP E (k:=k) (n:=n+5) (by omega) MX (hC.keep k1) hok1.1 hm
    have hx:=k2.nx
    have hbv: ∀b∈XP v1,b<H2.nx:=λb hb=>by
     rw[hv1] at hb
     have:b=b1:=by simpa [XP] using hb
     omega
    exact⟨v1,v2,0,H1,H2,λhj=>by rw[hj];exact e1,λhj=>by rw[hj];exact e2,k1,k2,R0 me,bv1.keep k2 (λ_ _ _ _ _=>by simp),Ae,hbv,λb hb=>(hl3 b hb).2⟩
   |false=>
    obtain⟨H1,e1,k1⟩:=ay E (k:=k) (n:=n+6) (by omega) gy hC hok1.1 hm
    have MX:H1.ro<=H1.nx:=by rw[k1.ro];have:=k1.nx;omega
    obtain⟨H2,e2,k2⟩:=iA E (k:=k) (n:=n+6) (by omega) MX (hC.keep k1) hok1.1 hm
    exact⟨.nils,.nils,1,H1,H2,λhj=>by rw[hj];exact e1,λhj=>by rw[hj];exact e2,k1,k2,[],.inl ⟨rfl,.inl rfl⟩,.inl ⟨rfl,.inl rfl⟩,(λb hb=>by cases hb),λb hb=>by cases hb⟩
  obtain⟨v1,v2,cc,H1,H2,e1,e2,k1,k12,l,bv1,Ae,hb1,hb2⟩:=heads
  have e1:=e1 rfl
  have e2:=e2 rfl
  have k2:=k1.trans' k12
  have hx1:=k1.nx;have hx12:=k12.nx
  have gb1:H1.t.get bb=some (.row r):=(k1.get bb hb (by simp)).trans gb
  have ID:H2.t.get bb=some (.row r):=(k2.get bb hb (by simp)).trans gb
  have Zmj:H2.t.get b0=some (.row r0):=(k2.get b0 hb0 (by simp)).trans gb0
  have sS:=gy.keep0 k2
  have sY:=sS.p.ro
  have s1:=yI bv1
  have s2:=yI Ae
  have hC2:=hC.keep k2
  have Zfc:=hC0.keep k2
  have em:=λ{j}=>x9 E (k:=k) (n:=j) (by omega) hok1.1.short sS.p hC2
  have ed:=λ{j}=>Da E (k:=k) (n:=j) (by omega) hok1.1.short (by have:=hok1.1.link;omega) sY hC2
  have es:=λ{j}=>Zju E (k:=k) (n:=j) (by omega) sY hC2 Zfc (by have:=hok1.1.ats;omega)
  have et:=λ{j}=>Zhe E (k:=k) (n:=j) (by omega) sY hC2 Zfc (by have:=hok1.1.ats;omega)
  have lw2:=lw H2.nx (by omega)
  have lv1:=yH bv1 hb1
  have lv2:=yH Ae hb2
  have sm1:=oP hC2
  have sm0:=oP Zfc
  obtain⟨bm,hbm⟩:=Sa (YZ me)
  obtain⟨bs,hbs⟩:=Sa (Vy me m0)
  rw[hbm] at em ed
  rw[hbs] at es et
  simp(disch:=omega) only[t0,t9,ln,d1,eI,gb,gb1,ID,eL,eI0,Zmj,eL0,e1,e2,s1,s2,em,ed,es,et,eB,lw2,lv1,lv2,sm1,sm0,P5,ne_eq,not_true_eq_false,Zy,Vi,Wu,YI,decide_true,decide_false,Yq,ZD,ZM,Zy,wD,Zu,Ye,Z8,Yp,Yv,Nat.reducePow,Nat.reduceDiv,Nat.reduceMod,reduceCtorEq,Z6,Vk,QS,Lb]
  refine⟨_,_,_,rfl,?_⟩
  exact .inl ⟨rfl,m,by omega,k0.trans' k2,t0',t1',i+1,rfl,by omega⟩
theorem jp(E:Env Zn fs fuel){z:Int}(hz:z<((0:Nat):Int)):
  ∃H',ZE (LK Zn fs fuel 0) fs fuel (n+2) 13 [.int .i64 z] H=.ret (nI .i64 0) H'∧Zs H H' []:=by
 rw[ZI (ZA E.n13 (.inl (by decide)) _ _) E.f13]
 have e0:=λG:Heap=>Lo .i64 z 0 G
 have d1:decide (z<((0:Nat):Int))=true:=Ze hz
 rw[d1] at e0
 simp only[e0,c13,Zu,Ye,Zw,Z6]
 refine⟨_,rfl,?_⟩
 exact Zs.refl _ _
theorem Zjs(E:Env Zn fs fuel)(hk:1<=k){z:Int}(hz:z<((0:Nat):Int)):
  ZE (LK Zn fs fuel k) fs fuel (n+1) 13 [.int .i64 z] H=.ret (nI .i64 0) H:=by
 obtain⟨H',e,g⟩:=jp E (n:=898) (H:=H) hz
 exact Yl (r:=0) rfl rfl e g (rfl) hk
theorem Zck(z:Int)(G:Heap): ∃y:Int,kP (.int .i64 z) (nI .i64 5000) G=.val (.int .i64 y) G∧y<5000:=by
 refine⟨z.tmod 5000,?_,Int.tmod_lt_of_pos z (by decide)⟩
 show ZP (P3 .i64 .i64) (cond (Ge (.ofNat 5000) 0) .fail (PP (ZaV z (.ofNat 5000)) λn=>.val (.int .i64 n) G))=_
 rw[XG,pW,QB];rfl
structure PDI(Hs:Heap)(z:Int)(W:Nat)(m:Nat)(tm:TM)(H:Heap):Prop where
 h:H=Hs
 t1:Wc tm=.int .i64 z
 i: ∃i,Xo tm=nI .i64 i∧i+m=W
def PDQ(Hs:Heap)(z:Int)(W:Nat)(o:Out)(tm:TM)(H:Heap):Prop:=o=.exit 2∧H=Hs∧Wc tm=.int .i64 z∧Xo tm=nI .i64 W
theorem Zb4{Hs:Heap}{z:Int}{W:Nat}(hz:z<5000)(hW:W=if ((0:Nat):Int)<z then VJ z.toNat else 0)(cx:Ctx)(X0:X)(m:Nat)(tm:TM)(H:Heap)(hI:PDI Hs z W m tm H):
  ∃o tm' H',AC cx tm H X0=.ok o tm' H' X0∧((o=.normal∧ ∃k,k<m∧PDI Hs z W k tm' H')∨(o≠.normal∧PDQ Hs z W o tm' H')):=by
 obtain⟨rfl,t1,i,t14,him⟩:=hI
 have t1':=t1;have bV:=t14
 simp only[Kn,fh] at t1 t14
 have c1:=λG:Heap=>IM .i64 z 0 G
 by_cases h0:((0:Nat):Int)<z
 ·have d0:decide (((0:Nat):Int)<z)=true:=Ze h0
  rw[d0] at c1
  rw[if_pos h0] at hW
  obtain⟨u,rfl⟩: ∃u:Nat,z=(u:Int):=⟨z.toNat,by omega⟩
  rw[XX] at hW
  have hpl:VJ u<512:=Gv u
  have ad: ∀G,Ty (.int .i64 (u:Int)) (nI .i64 i) G=.val (nI .i64 (u+i)) G:=λG=>YI (a:=u) (b:=i) (by have:VJ u<512:=Gv u;omega) G
  have e1:=λG:Heap=>qo (a:=u+i) (b:=512) (by decide) G
  cases m with
  |zero=>
   have d1:decide (¬(u+i) % 512=0)=false:=Zb (by unfold VJ at hW;omega)
   have d2:decide ((u+i) % 512=0)=true:=Ze (by unfold VJ at hW;omega)
   simp only[t1,t14,c1,ad,e1,d1,Vi,AC,Zu,Ye,Z6,Lb]
   refine⟨_,_,_,rfl,?_⟩
   exact .inr ⟨by simp,rfl,rfl,t1',by rw[show W=i by omega];exact bV⟩
  |succ m=>
   have d1:decide (¬(u+i) % 512=0)=true:=Ze (by unfold VJ at hW;omega)
   simp(disch:=omega) only[t1,t14,c1,ad,e1,d1,Vi,YI,AC,Zu,Ye,Z6,Lb]
   refine⟨_,_,_,rfl,?_⟩
   exact .inl ⟨rfl,m,by omega,rfl,t1',i+1,rfl,by omega⟩
 ·have d0:decide (((0:Nat):Int)<z)=false:=Zb h0
  rw[d0] at c1
  rw[if_neg h0] at hW
  simp only[t1,c1,AC,Zu,Ye,Z6,Lb]
  refine⟨_,_,_,rfl,?_⟩
  exact .inr ⟨by simp,rfl,rfl,t1',by rw[show W=i by omega];exact bV⟩
theorem Za6(E:Env Zn fs fuel){ev:AV}{L:List Mem}{z:Int}(gH:Sd H)(hE:qT H ev L)(hok: ∀i,i<L.length->Ax (L.getD i default))
  (hwk: ∀G,Zeh H G->Zn 15 [] G=some (.ret (.bool true) G)):
  ∃H',ZE (LK Zn fs fuel 13) fs fuel (n+10) 3 [ev,.int .i64 z] H=.ret (.bool true) H':=by
 rw[ZI (ZA E.n3 (.inr rfl) _ _) E.f3]
 have hf:=E.big
 have vy:=gH.p.nx;have hro:=gH.p.ro
 obtain⟨w,H1,e1,k1,hM⟩:=i7 E (k0:=13) (n:=n+8) (λi hi=>(hok i hi).attrs) hro hE
 obtain⟨V,hV⟩:=Sa (MD L)
 have ZaA:=i9 hok
 have fo:=K6 L
 rw[hV] at hM ZaA fo
 have fo:V.length<=12:=by omega
 have gH1:=gH.keep0 k1
 obtain⟨v2,H2,e2,Ae,k12,hb2⟩:=aa E (k:=13) (n:=n+1) (by decide) gH1 hM fo ZaA
 have k2:=k1.trans' k12
 have sS:=gH.keep0 k2
 obtain⟨v3,H3,e3,bv3,k23,hb3⟩:=nS E (k:=13) (n:=n+5) (by decide) sS.p.ro (hM.keep k12) fo ZaA
 have k3:=k2.trans' k23
 have k13:=k12.trans' k23
 have Zg0:=Ae.keep k23 (λ_ _ _ _ _=>by simp)
 obtain⟨X,hX⟩:=Sa ((if V.all YZ then Zgv V else []))
 obtain⟨cc,hcc⟩: ∃c:Nat,(if V.all YZ then 0 else 1)=c:=⟨_,rfl⟩
 rw[hX] at Zg0 bv3
 rw[hcc] at e2 e3
 have s2:BR v2 H3=.val (.str X) H3:=yI Zg0 H3.nx H3.ro
 have s3:BR v3 H3=.val (.str X) H3:=yI bv3 H3.nx H3.ro
 have gA:=gH.keep0 k3
 have hM3:=hM.keep k13
 simp only[e1,e2,e3,s2,s3,P5,ne_eq,not_true_eq_false,Vi,Wu,decide_true,decide_false,Yq,c3,Zu,Ye,Z6,Vk]
 generalize hL0:Wv (wD _) fuel _ _ _=LL
 obtain⟨o1,Pu,H4,rfl,_,rfl,Hj,t1⟩:=YA (P:=λT=>LWI H3 w (.int .i64 z) V V.length T H3) (Q:=LWQ H3 (.int .i64 z))
  (λT hi=>YP (LWI H3 w (.int .i64 z) V) (LWQ H3 (.int .i64 z)) (λm tm H' h=>Zbp E (k:=13) (n:=n+1) (by decide) gA hM3 fo ZaA _ _ _ _ _ m tm H' h) fuel V.length T H3 (by omega) hi) hL0
  (by exact⟨Zs.refl _ _,rfl,rfl,0,rfl,by omega⟩)
 simp only[Kn] at t1
 obtain⟨y,ey,hy⟩:=Zck z H4
 simp only[t1,ey,Zu,Ye,Z6,Lb]
 obtain⟨W,hW⟩:=Sa ((if ((0:Nat):Int)<y then VJ y.toNat else 0))
 have hWl:W<512:=by
  rw[<-hW]
  split
  ·exact Gv _
  ·decide
 generalize hL1:Wv (AC _) fuel _ _ _=LL
 obtain⟨o2,tm2,H5,rfl,_,rfl,h5,t1,t14⟩:=YA (P:=λT=>PDI H4 y W W T H4) (Q:=PDQ H4 y W)
  (λT hi=>YP (PDI H4 y W) (PDQ H4 y W) (λm tm H' h=>Zb4 hy hW.symm _ _ m tm H' h) fuel W T H4 (by omega) hi) hL1
  (by exact⟨rfl,rfl,0,rfl,by omega⟩)
 subst h5
 simp only[Kn,fh] at t1 t14
 have ep: ∀{j},ZE (LK Zn fs fuel 13) fs fuel (j+1) 13 [.int .i64 y] H5=.ret (nI .i64 W) H5:=λ{j}=>by
  by_cases h0:((0:Nat):Int)<y
  ·rw[if_pos h0] at hW
   obtain⟨u,rfl⟩: ∃u:Nat,y=(u:Int):=⟨y.toNat,by omega⟩
   rw[XX] at hW
   rw[<-hW]
   exact ZcG E (k:=13) (n:=j) (by decide) (m:=u) (H:=H5) (by omega)
  ·rw[if_neg h0] at hW
   rw[<-hW]
   by_cases h1:y<((0:Nat):Int)
   ·exact Zjs E (k:=13) (n:=j) (by decide) (H:=H5) h1
   ·obtain rfl:y=((0:Nat):Int):=by omega
    exact ZcG E (k:=13) (n:=j) (by decide) (m:=0) (H:=H5) (by decide)
 have ee:=λ{j}=>pv E (k:=13) (n:=j) (H:=H5)
 obtain⟨H6,hH6⟩:=Sa (H5.new (.row ⟨5,1,1024,.leaf,nI .u8 0,0,false,true,true⟩))
 have CM:Zs H5 H6 []:=by rw[<-hH6];exact Zs.new _ _ _
 have k6:Zs H H6 []:=(k3.trans' Hj).trans' CM
 have wk: ∀{j},ZE (LK Zn fs fuel 13) fs fuel (j+1) 15 [] H6=.ret (.bool true) H6:=λ{j}=>MA rfl (hwk H6 (k6.kept vy))
 simp only[t1,t14,ep,ee,hH6,wk,Sr,YL,decide_true,Zu,Ye,Zw,Z6,Lb]
 exact⟨_,rfl⟩
end
end
end Go.AI
