/- Members as the law has them: walked: proved without conditions but those that each names. -/
import Derived.Test.YtbmdhpdcgbgcnaaGreatDoorPT
import Derived.Test.YtbmdhpdcgbgcnaaGreatDoorP6
import Derived.Test.YtbmdhpdcgbgcnaaGreatDoorPA
set_option maxRecDepth 1000000
set_option maxHeartbeats 0
set_option linter.unusedVariables false
set_option linter.unusedSimpArgs false
namespace Go.AI
open Go
noncomputable section
def xF:List Sh:=[.str,.int .i64,.int .u32,.int .u32,.int .u32,.int .i64,.sl [.str,.str],.sl [.int .u8],.str]
def ZeA(z:Int):Prop:= -9223372036854775808<=z∧z<=9223372036854775807
theorem ny{G:Heap}{v:AV}(h:Told G (.sl [.str,.str]) v): ∃l:List NP,Cut G 2 v (S2 l)∧l.length<=maxLen:=by
 obtain⟨ls,h1,hm,h2⟩:=qb h
 obtain⟨l,h3,_⟩:=Gz (α:=NP) (f:=λp=>[.str p.1,.str p.2]) (p:=λ_=>True) λi hi=>by
  obtain⟨e1,e2⟩:=h2 i hi
  obtain⟨a,ha⟩:=IS (e2 0 _ rfl)
  obtain⟨b,hb⟩:=IS (e2 1 _ rfl)
  exact⟨(a,b),by rw[ZeM e1,ha,hb],trivial⟩
 exact⟨l,by rw[h3] at h1;exact h1,by rw[h3] at hm;simpa [S2] using hm⟩
theorem tN{G:Heap}{v:AV}(h:Told G (.sl [.int .u8]) v): ∃l:List UInt8,Cut G 1 v (MI l):=by
 obtain⟨ls,h1,_,h2⟩:=qb h
 obtain⟨l,h3,_⟩:=Gz (α:=UInt8) (f:=λx=>[Vf x]) (p:=λ_=>True) λi hi=>by
  obtain⟨e1,e2⟩:=h2 i hi
  obtain⟨a,ha⟩:=bG (e2 0 _ rfl)
  refine⟨a,?_,trivial⟩
  match hq:ls.getD i [],e1 with
  |[x],_=>rw[hq] at ha;have ha:x=Vf a:=ha;rw[ha]
 exact⟨l,by rw[h3] at h1;exact h1⟩
def qg(G:Heap)(cs:List AV)(m:Mem):Prop:= ∃av dv,cs=[.str m.path,.int .i64 m.kind,nI .u32 m.mode,nI .u32 m.uid,nI .u32 m.gid,.int .i64 m.time,av,dv,.str m.link]∧Cut G 2 av (S2 m.attrs)∧Cut G 1 dv (MI m.data)
structure nS(m:Mem):Prop where
 kind:ZeA m.kind
 time:ZeA m.time
 mode:m.mode<4294967296
 uid:m.uid<4294967296
 gid:m.gid<4294967296
 attrs:m.attrs.length<=maxLen
theorem gj{G:Heap}{cs:List AV}(hl:cs.length=9)(h: ∀(j:Nat) e,xF[j]? =some e->Told G e (cs.getD j .unk)): ∃m,qg G cs m∧nS m:=by
 obtain⟨p,hp⟩:=IS (h 0 _ rfl)
 obtain⟨kd,hk,hk2⟩:=vd (h 1 _ rfl)
 obtain⟨mo,hm,hm2⟩:=D1 (h 2 _ rfl)
 obtain⟨u,hu,hu2⟩:=D1 (h 3 _ rfl)
 obtain⟨g,hg,hg2⟩:=D1 (h 4 _ rfl)
 obtain⟨ti,ht,ht2⟩:=vd (h 5 _ rfl)
 obtain⟨at_,hA,hA2⟩:=ny (h 6 _ rfl)
 obtain⟨d,hD⟩:=tN (h 7 _ rfl)
 obtain⟨lk,hK⟩:=IS (h 8 _ rfl)
 match cs,hl with
 |[c0,c1,c2,c3,c4,c5,c6,c7,c8],_=>
  have hp:c0=_:=hp
  have hk:c1=_:=hk
  have hm:c2=_:=hm
  have hu:c3=_:=hu
  have hg:c4=_:=hg
  have ht:c5=_:=ht
  have hK:c8=_:=hK
  exact⟨⟨p,kd,mo,u,g,ti,at_,d,lk⟩,⟨c6,c7,by rw[hp,hk,hm,hu,hg,ht,hK],hA,hD⟩,hk2,ht2,hm2,hu2,hg2,hA2⟩
def nT(G:Heap)(v:AV)(L:List Mem):Prop:= ∃Ls,Sz G 9 v Ls∧Ls.length=L.length∧ ∀i,i<L.length->qg G (Ls.getD i []) (L.getD i default)
def yP(x:NP):NP:=(x.1.take 250,x.2.take 700)
def KL(l:List NP):List NP:=(l.take 20).map yP
theorem vu(l:List NP):(KL l).length<=20:=by unfold KL;rw[ZW,Z2];omega
structure TAI(Hs:Heap)(g3 g4 g0 av:AV)(q:Nat)(R:Obj)(as_:List NP)(m:Nat)(tm:TM)(H:Heap):Prop where
 k:ZK Hs H []
 t0:YX tm=g0
 t3:V5 tm=g3
 t4:XY tm=g4
 t5:X2 tm=.ptr q 0
 i: ∃i w,Wt tm=nI .i64 i∧i+m=min 20 as_.length∧WA tm=w∧RP H w 41 2 (S2 ((as_.take i).map yP)) Hs.nx
def TAQ(Hs:Heap)(g3 g4 g0:AV)(q:Nat)(as_:List NP)(o:Out)(tm:TM)(H:Heap):Prop:=o=.exit 2∧ZK Hs H []∧YX tm=g0∧V5 tm=g3∧XY tm=g4∧X2 tm=.ptr q 0∧ ∃w,WA tm=w∧RP H w 41 2 (S2 (KL as_)) Hs.nx
theorem bC{Hs:Heap}{g3 g4 g0 av:AV}{q:Nat}{R:Row}{as_:List NP}(hq:q<Hs.nx)(gR:Hs.t.get q=some (.row R))(l6: ∀G,ld1 (some (.row R)) 6 G=.val av G)(hA:Sz Hs 2 av (S2 as_))(hro:Hs.ro<=Hs.nx)(hal:as_.length<=maxLen)(cx:Ctx)(X0:X)(m:Nat)(tm:TM)(H:Heap)(hI:TAI Hs g3 g4 g0 av q (.row R) as_ m tm H):
  ∃o tm' H',CT cx tm H X0=.ok o tm' H' X0∧((o=.normal∧ ∃k,k<m∧TAI Hs g3 g4 g0 av q (.row R) as_ k tm' H')∨(o≠.normal∧TAQ Hs g3 g4 g0 q as_ o tm' H')):=by
 obtain⟨k0,t0,t3,t4,t5,i,w,t7,him,t6,rb⟩:=hI
 have t0':=t0;have tJ:=t3;have Jp:=t4;have AC:=t5;have CG:=t6
 simp only[A8,lX,A9] at t5 t6 t7
 have hA0:=hA.keep0 k0
 have la:=hA0.len
 rw[Tg] at la
 have gq:=(k0.get q hq (by simp)).trans gR
 have hx0:=k0.nx
 cases m with
 |zero=>
  have hat:KL as_=(as_.take i).map yP:=by
   unfold KL
   congr 1
   by_cases h:20<=as_.length
   ·rw[show i=20 by omega]
   ·rw[Y1 (by omega),Y1 (by omega)]
  rw[<-hat] at rb
  by_cases h1:i<as_.length
  ·have d1:decide (i<as_.length)=true:=Zi h1
   have d2:decide (i<20)=false:=Ze (by omega)
   simp only[t5,t7,gq,l6,la,d1,d2,Zu,Nat.reduceAdd,Zb,Zb,Zu,Zb,CT,Z9,Xg,Xe,U4]
   refine⟨_,_,_,rfl,?_⟩
   exact .inr ⟨by simp,rfl,k0,t0',tJ,Jp,AC,w,CG,rb⟩
  ·have d1:decide (i<as_.length)=false:=Ze h1
   simp only[t5,t7,gq,l6,la,d1,Zu,Nat.reduceAdd,Zb,Zb,Zu,Zb,CT,Z9,Xg,Xe,U4]
   refine⟨_,_,_,rfl,?_⟩
   exact .inr ⟨by simp,rfl,k0,t0',tJ,Jp,AC,w,CG,rb⟩
 |succ m=>
  have hi:i<as_.length:=by omega
  have d1:decide (i<as_.length)=true:=Zi hi
  have d2:decide (i<20)=true:=Zi (by omega)
  obtain⟨bb,o,r,eI,hb,gb,eL,_⟩:=hA0.at_ (i:=i) (by rw[Tg];exact hi)
  rw[Ka hi] at eL
  have htk:(as_.take (i+1)).map yP=(as_.take i).map yP++[yP (as_.getD i ([],[]))]:=by
   rw[Uj,Zh,Zp hi,Wn];rfl
  generalize as_.getD i ([],[])=a at*
  have hroN:H.ro<=H.nx:=by rw[k0.ro];omega
  obtain⟨H1,hH1⟩:=SK (H.new (rH 41 [.str a.1,.str a.2]))
  have k1:ZK H H1 []:=by rw[<-hH1];exact ZK.new _ _ _
  have Kn:H1.nx=H.nx+1:=by rw[<-hH1];rfl
  have g1:H1.t.get H.nx=some (rH 41 [.str a.1,.str a.2]):=by rw[<-hH1];exact YD rfl _
  have sf:=SD (n:=2) (b:=H.nx) (l:=[.str [],.str []]) (vs:=[.str a.1,.str a.2]) (H:=H.new (rH 41 [.str [],.str []])) rfl rfl (by decide) hroN 41 1 false true
  rw[SC rfl,hH1] at sf
  have l0: ∀G,ld1 (some (rH 41 [.str a.1,.str a.2])) 0 G=.val (.str a.1) G:=λG=>rfl
  have l1: ∀G,ld1 (some (rH 41 [.str a.1,.str a.2])) 1 G=.val (.str a.2) G:=λG=>rfl
  have tk1:=F7 a.1 250
  have tk2:=F7 a.2 700
  have rb1:RP H1 w 41 2 (S2 ((as_.take i).map yP)) Hs.nx:=rb.below (λc _ hc=>k1.get c hc (by simp)) k1.ro k1.nx
  obtain⟨_,_,_,bw⟩:=Tf rb1
  obtain⟨w',H2,ea,w2,k2,hb2,n2⟩:=rS (bytes:=32) rb1 (by decide) (by decide) (by rw[Tg,ZW,Z2];omega) (by rw[k1.ro];omega) (by omega) (x:=[.str (a.1.take 250),.str (a.2.take 700)]) rfl
  have lw0:=rb1.low (n:=H1.nx) (Zz _)
  have bs: ∀G,TQ 41 2 1 [.str [],.str []] [(0,2,.agg [.str (a.1.take 250),.str (a.2.take 700)])] G=.val (.slice G.nx 0 1 none) (G.new (rG 41 2 [.str (a.1.take 250),.str (a.2.take 700)] 0 false true true)):=λ_=>rfl
  have b2: ∀G,SA [.str [],.str []] [(0,1,.str (a.1.take 250)),(1,1,.str (a.2.take 700))] G=.val (.agg [.str (a.1.take 250),.str (a.2.take 700)]) G:=λ_=>rfl
  have gg:=Pb (H:=H1) (o:=rG 41 2 [.str (a.1.take 250),.str (a.2.take 700)] 0 false true true) (c:=H.nx) (by omega)
  simp(disch:=first|assumption|omega|(simp -implicitDefEqProofs only[Xh,Xi]<;>first|assumption|omega)|decide) only[t5,t6,t7,gq,l6,la,d1,d2,eI,gb,eL,sf,g1,l0,l1,tk1,tk2,bs,b2,ea,lw0,gg,NN,SY,ZV,ZZ,Te,ZB,ZG,Zu,YB,ZP,Nat.reduceAdd,decide_true,Zd,Zb,Zb,Zd,ZJ,ZZ,ZV,ZB,ZG,Zu,Zb,Zd,ZJ,CT,Z9,Xg,ZY,Yu,Z3,Z6,Yf,Nat.reducePow,Nat.reduceDiv,Nat.reduceMod,Xe,U4,CK]
  refine⟨_,_,_,rfl,.inl ⟨rfl,m,by omega,(k0.trans' k1).trans k2 (λc hc hlt=>by have:=(bw c hc).1;omega),t0',tJ,Jp,AC,i+1,w',rfl,by omega,rfl,?_⟩⟩
  rw[htk,HX];exact w2
section
variable {Zx:Lib} {fs:T CF} {fuel k n i h b:Nat} {H H0:Heap} {s:List UInt8} {cs:List AV}
def qJ(e:Mem):Mem:=⟨e.path.take 4100,e.kind,e.mode,e.uid,e.gid,e.time,KL e.attrs,e.data.take 1500,e.link.take 4100⟩
def Ku(L:List Mem):List Mem:=(L.take 12).map qJ
theorem qg.keep{H H':Heap}{m:Mem}(h:qg H cs m)(k:ZK H H' []):qg H' cs m:=by
 obtain⟨av,dv,e,h1,h2⟩:=h
 exact⟨av,dv,e,h1.keep k,h2.keep k⟩
def qh(H:Heap)(S:List Nat)(cs:List AV)(m:Mem):Prop:= ∃av dv,cs=[.str m.path,.int .i64 m.kind,nI .u32 m.mode,nI .u32 m.uid,nI .u32 m.gid,.int .i64 m.time,av,dv,.str m.link]∧Sz H 2 av (S2 m.attrs)∧BV H dv m.data∧(∀b∈Wo av,b∉S∧b<H.nx)∧ ∀b∈Wo dv,b∉S∧b<H.nx
theorem qh.keep{H H':Heap}{S S' T:List Nat}{m:Mem}(h:qh H S cs m)(k:ZK H H' T)(hT: ∀b∈T,b∈S∨H.nx<=b)(hS: ∀b∈S',b∈S∨H.nx<=b):qh H' S' cs m:=by
 obtain⟨av,dv,e,h1,h2,h3,h4⟩:=h
 have ok: ∀{v:AV},(∀b∈Wo v,b∉S∧b<H.nx)->(∀b∈Wo v,b∉T)∧ ∀b∈Wo v,b∉S'∧b<H'.nx:=λhv=>⟨λb hb hm=>by
  rcases hT b hm with h|h
  ·exact(hv b hb).1 h
  ·have:=(hv b hb).2;omega,λb hb=>⟨λhm=>by
  rcases hS b hm with h|h
  ·exact(hv b hb).1 h
  ·have:=(hv b hb).2;omega,Yk (hv b hb).2 k.nx⟩⟩
 exact⟨av,dv,e,h1.move k (ok h3).1,h2.keep k (λb o n c hh hb=>(ok h4).1 b (by rw[hh];simp[Wo]) hb),(ok h3).2,(ok h4).2⟩
theorem Ba(L:List Mem):(Ku L).length=min 12 L.length:=by unfold Ku;rw[ZW,Z2]
theorem li{L:List Mem}{j:Nat}(h:j<min 12 L.length):(Ku L).getD j default=qJ (L.getD j default):=by
 unfold Ku
 rw[Zh,Xb,XE (by omega),Zh,Zp (by omega)];rfl
theorem Zdw{x:List AV}(hx:x.length=9)(G:Heap):TQ 28 9 1 [.str [],nI .i64 0,nI .u32 0,nI .u32 0,nI .u32 0,nI .i64 0,.nils,.nils,.str []] [(0,9,.agg x)] G=.val (.slice G.nx 0 1 none) (G.new (rG 28 9 x 0 false true true)):=by
 rw[En (by decide) rfl,qK hx (by decide) (by decide),Hi]
 rw[zn _ _ _ (by rw[hx];decide),ZF,Zn,UP (by rw[hx];decide),Zo]
 rfl
structure FTI(Hs:Heap)(ev:AV)(L:List Mem)(m:Nat)(tm:TM)(H:Heap):Prop where
 k:ZK Hs H []
 t0:YX tm=ev
 i: ∃i w ls,XY tm=nI .i64 i∧i+m=min 12 L.length∧V5 tm=w∧RP H w 28 9 ls Hs.nx∧ls.length=i∧ ∀j,j<i->qh H (Wo w) (ls.getD j []) (qJ (L.getD j default))
def FTQ(Hs:Heap)(L:List Mem)(o:Out)(tm:TM)(H:Heap):Prop:=o=.exit 0∧ZK Hs H []∧ ∃w ls,V5 tm=w∧RP H w 28 9 ls Hs.nx∧ls.length=(Ku L).length∧ ∀j,j<(Ku L).length->qh H (Wo w) (ls.getD j []) ((Ku L).getD j default)
theorem eB(E:Env Zx fs fuel){k0:Nat}{ev:AV}{L:List Mem}{Hs:Heap}(hat: ∀i,i<L.length->(L.getD i default).attrs.length<=maxLen)(hro:Hs.ro<=Hs.nx)(hE:nT Hs ev L)(y f q)(X0:X)(m:Nat)(tm:TM)(H:Heap)(hI:FTI Hs ev L m tm H):
  ∃o tm' H',CU ⟨Z7 (LK Zx fs fuel k0) fs fuel n,y,f,fuel,q⟩ tm H X0=.ok o tm' H' X0∧((o=.normal∧ ∃k,k<m∧FTI Hs ev L k tm' H')∨(o≠.normal∧FTQ Hs L o tm' H')):=by
 obtain⟨kk0,t0,i,w,ls,t4,him,t3,hw,hll,hmem⟩:=hI
 have t0':=t0;have Jp:=t4;have tJ:=t3
 simp only[Mc,FC,PD] at t0 t3 t4
 have hf:=E.big
 obtain⟨Ls,hV,hVl,hVm⟩:=hE
 have ln:=hV.len
 rw[hVl] at ln
 cases m with
 |zero=>
  have hfl:(Ku L).length=i:=by rw[Ba];omega
  have fin:FTQ Hs L (.exit 0) tm H:=⟨rfl,kk0,w,ls,tJ,hw,by rw[hfl];exact hll,λj hj=>by rw[li (by rw[<-Ba];exact hj)];exact hmem j (by omega)⟩
  obtain⟨_,f2,w_,ls_,f3,f4,f5,f6⟩:=fin
  by_cases h1:i<L.length
  ·have d1:decide (i<L.length)=true:=Zi h1
   have d2:decide (i<12)=false:=Ze (by omega)
   simp only[t0,t4,ln,d1,d2,Zu,Zu,CU,Z9,Xg,Xe,]
   refine⟨_,_,_,rfl,?_⟩
   exact .inr ⟨by simp,rfl,f2,w_,ls_,f3,f4,f5,f6⟩
  ·have d1:decide (i<L.length)=false:=Ze h1
   simp only[t0,t4,ln,d1,Zu,Zu,CU,Z9,Xg,Xe,]
   refine⟨_,_,_,rfl,?_⟩
   exact .inr ⟨by simp,rfl,f2,w_,ls_,f3,f4,f5,f6⟩
 |succ m=>
  have hi:i<L.length:=by omega
  have d1:decide (i<L.length)=true:=Zi hi
  have d2:decide (i<12)=true:=Zi (by omega)
  have eW:H.ro<=H.nx:=by rw[kk0.ro];exact YR hro kk0.nx
  have hx0:=kk0.nx
  obtain⟨bb,o,r,eI,hb,gb,eL,eE⟩:=(hV.keep0 kk0).at_ (i:=i) (by omega)
  have ZhW:=hat i hi
  have hEi:=(hVm i hi).keep kk0
  generalize he:L.getD i default=e at*
  obtain⟨av,dv,ecs,hA,hD⟩:=hEi
  rw[ecs] at eL
  obtain⟨H1,hH1⟩:=SK (H.new (rH 28 [.str e.path,.int .i64 e.kind,nI .u32 e.mode,nI .u32 e.uid,nI .u32 e.gid,.int .i64 e.time,av,dv,.str e.link]))
  have g5:H1.t.get H.nx=some (rH 28 [.str e.path,.int .i64 e.kind,nI .u32 e.mode,nI .u32 e.uid,nI .u32 e.gid,.int .i64 e.time,av,dv,.str e.link]):=by rw[<-hH1];exact YD rfl _
  have FF:H1.ro<=H.nx:=by rw[<-hH1];exact eW
  have Kn:H1.nx=H.nx+1:=by rw[<-hH1];rfl
  have sf:=SD (n:=9) (b:=H.nx) (l:=[.str [],nI .i64 0,nI .u32 0,nI .u32 0,nI .u32 0,nI .i64 0,.nils,.nils,.str []]) (vs:=[.str e.path,.int .i64 e.kind,nI .u32 e.mode,nI .u32 e.uid,nI .u32 e.gid,.int .i64 e.time,av,dv,.str e.link]) (H:=H.new (rH 28 [.str [],nI .i64 0,nI .u32 0,nI .u32 0,nI .u32 0,nI .i64 0,.nils,.nils,.str []])) rfl rfl (by decide) (by show H.ro<=_;exact eW) 28 1 false true
  rw[SC rfl,hH1] at sf
  obtain⟨Ha,gJ⟩:=SK (H.new (rH 28 [.str (e.path.take 4100),.int .i64 e.kind,nI .u32 e.mode,nI .u32 e.uid,nI .u32 e.gid,.int .i64 e.time,av,dv,.str e.link]))
  have ga:Ha.t.get H.nx=some (rH 28 [.str (e.path.take 4100),.int .i64 e.kind,nI .u32 e.mode,nI .u32 e.uid,nI .u32 e.gid,.int .i64 e.time,av,dv,.str e.link]):=by rw[<-gJ];exact YD rfl _
  have roa:Ha.ro<=H.nx:=by rw[<-gJ];exact eW
  have nxa:Ha.nx=H.nx+1:=by rw[<-gJ];rfl
  have sa:CC 1 (some (rH 28 [.str e.path,.int .i64 e.kind,nI .u32 e.mode,nI .u32 e.uid,nI .u32 e.gid,.int .i64 e.time,av,dv,.str e.link])) H.nx 0 (.str (e.path.take 4100)) H1=.val XL Ha:=by
   rw[SE rfl (show 0<9 by decide) FF (ZA _),<-hH1,SC rfl,<-gJ];rfl
  obtain⟨Hb,hHb⟩:=SK (H.new (rH 28 [.str (e.path.take 4100),.int .i64 e.kind,nI .u32 e.mode,nI .u32 e.uid,nI .u32 e.gid,.int .i64 e.time,av,dv,.str (e.link.take 4100)]))
  have gbb:Hb.t.get H.nx=some (rH 28 [.str (e.path.take 4100),.int .i64 e.kind,nI .u32 e.mode,nI .u32 e.uid,nI .u32 e.gid,.int .i64 e.time,av,dv,.str (e.link.take 4100)]):=by rw[<-hHb];exact YD rfl _
  have sb:CC 1 (some (rH 28 [.str (e.path.take 4100),.int .i64 e.kind,nI .u32 e.mode,nI .u32 e.uid,nI .u32 e.gid,.int .i64 e.time,av,dv,.str e.link])) H.nx 8 (.str (e.link.take 4100)) Ha=.val XL Hb:=by
   rw[SE rfl (show 8<9 by decide) roa (ZA _),<-gJ,SC rfl,<-hHb];rfl
  have kb:ZK H Hb []:=by rw[<-hHb];exact ZK.new _ _ _
  have nxb:Hb.nx=H.nx+1:=by rw[<-hHb];rfl
  have rob:Hb.ro<=H.nx:=by rw[<-hHb];exact eW
  have l0: ∀G,ld1 (some (rH 28 [.str e.path,.int .i64 e.kind,nI .u32 e.mode,nI .u32 e.uid,nI .u32 e.gid,.int .i64 e.time,av,dv,.str e.link])) 0 G=.val (.str e.path) G:=λG=>rfl
  have l8: ∀G,ld1 (some (rH 28 [.str e.path,.int .i64 e.kind,nI .u32 e.mode,nI .u32 e.uid,nI .u32 e.gid,.int .i64 e.time,av,dv,.str e.link])) 8 G=.val (.str e.link) G:=λG=>rfl
  have tk1:=F7 e.path 4100
  have tk2:=F7 e.link 4100
  have l7: ∀G,ld1 (some (rH 28 [.str (e.path.take 4100),.int .i64 e.kind,nI .u32 e.mode,nI .u32 e.uid,nI .u32 e.gid,.int .i64 e.time,av,dv,.str (e.link.take 4100)])) 7 G=.val dv G:=λG=>rfl
  obtain⟨dv2,sd,hd2⟩:=hD.2 (min e.data.length 1500) (by rw[Sq];exact Nat.min_le_left _ _)
  rw[qB,hZ] at hd2
  have sd1:Th 1 dv none (some (nI .i64 (min e.data.length 1500))) Hb=.val dv2 Hb:=sd _ λc hc=>kb.get c hc (by simp)
  have ldd:=λG=>hD.1.len G
  rw[Sq] at ldd
  have hdb:Sz Hb 1 dv2 (MI (e.data.take 1500)):=hd2.keep0 kb
  have hdl15:(e.data.take 1500).length<=1500:=by rw[Z2];omega
  obtain⟨C9,Hc,ec0,gc3,kbc,bk3⟩:=EQ (GB.nil Hb Hb.nx) (Zz _) (by omega) (e.data.take 1500) (by rw[ZH];omega)
  have ec:TP 5 1 1 .nils dv2 Hb=.val C9 Hc:=by
   rw[Eg hdb (by decide) (by decide),Sq,Hg];exact ec0
  rw[Zn] at gc3
  have kbc:ZK Hb Hc []:=kbc
  have hxc:=kbc.nx
  have gc:Hc.t.get H.nx=some (rH 28 [.str (e.path.take 4100),.int .i64 e.kind,nI .u32 e.mode,nI .u32 e.uid,nI .u32 e.gid,.int .i64 e.time,av,dv,.str (e.link.take 4100)]):=by rw[kbc.get _ (by omega) (by simp)];exact gbb
  have roc:Hc.ro<=H.nx:=by rw[kbc.ro];exact rob
  have cv3:=gc3.cells
  obtain⟨Hd,hHd⟩:=SK (Hc.put H.nx (rH 28 [.str (e.path.take 4100),.int .i64 e.kind,nI .u32 e.mode,nI .u32 e.uid,nI .u32 e.gid,.int .i64 e.time,av,C9,.str (e.link.take 4100)]))
  have sc:CC 1 (some (rH 28 [.str (e.path.take 4100),.int .i64 e.kind,nI .u32 e.mode,nI .u32 e.uid,nI .u32 e.gid,.int .i64 e.time,av,dv,.str (e.link.take 4100)])) H.nx 7 C9 Hc=.val XL Hd:=by
   rw[SE cv3 (show 7<9 by decide) roc (ZA _),<-hHd];rfl
  have gd:Hd.t.get H.nx=some (rH 28 [.str (e.path.take 4100),.int .i64 e.kind,nI .u32 e.mode,nI .u32 e.uid,nI .u32 e.gid,.int .i64 e.time,av,C9,.str (e.link.take 4100)]):=by rw[<-hHd];exact Xv ..
  have kcd:ZK Hc Hd [H.nx]:=by rw[<-hHd];exact ZK.put λ_=>by simp
  have nxd:Hd.nx=Hc.nx:=by rw[<-hHd];rfl
  have rod:Hd.ro<=H.nx:=by rw[<-hHd];exact roc
  have kd:ZK H Hd []:=(kb.trans' kbc).trans kcd λc hc hlt=>by have:=Zv.1 hc;omega
  have hdb2:=hdb.low (n:=Hb.nx) (Zz _)
  have l66: ∀G,ld1 (some (rH 28 [.str (e.path.take 4100),.int .i64 e.kind,nI .u32 e.mode,nI .u32 e.uid,nI .u32 e.gid,.int .i64 e.time,av,C9,.str (e.link.take 4100)])) 6 G=.val av G:=λG=>rfl
  simp(disch:=omega) only[t0,t4,ln,d1,d2,eI,gb,eL,sf,g5,l0,l8,tk1,tk2,sa,ga,sb,gbb,l7,ldd,sd1,ec,gc,sc,NN,SY,ZV,SZ,XI,Wy,ZB,ZG,Zu,ZP,Nat.reduceAdd,decide_true,Zd,Zb,Zb,Zd,ZJ,ZV,ZB,ZG,Zu,Zb,Zd,ZJ,CU,Z9,Xg,ZY,Yu,Z3,Z6,Nat.reducePow,Nat.reduceDiv,Nat.reduceMod,Xe,U4,]
  generalize hL:Ue (CT _) fuel _ _ _=Lp
  obtain⟨oc,Ny,H4,rfl,_,rfl,k4,s0,s3,s4,s5,w9,s6,hw9⟩:=XZ (P:=λT=>TAI Hd w (nI .i64 i) ev av H.nx (rH 28 [.str (e.path.take 4100),.int .i64 e.kind,nI .u32 e.mode,nI .u32 e.uid,nI .u32 e.gid,.int .i64 e.time,av,C9,.str (e.link.take 4100)]) e.attrs (min 20 e.attrs.length) T Hd) (Q:=TAQ Hd w (nI .i64 i) ev H.nx e.attrs)
   (λT hi=>We (TAI Hd w (nI .i64 i) ev av H.nx (rH 28 [.str (e.path.take 4100),.int .i64 e.kind,nI .u32 e.mode,nI .u32 e.uid,nI .u32 e.gid,.int .i64 e.time,av,C9,.str (e.link.take 4100)]) e.attrs) (TAQ Hd w (nI .i64 i) ev H.nx e.attrs) (λm tm H4 h=>bC (by omega) gd l66 (hA.1.keep0 kd) (by omega) ZhW _ _ m tm H4 h) fuel (min 20 e.attrs.length) T Hd (by omega) hi) hL
   (by exact⟨ZK.refl _ _,t0',tJ,Jp,rfl,0,.nils,rfl,by omega,rfl,.inl ⟨by rw[ZF];rfl,rfl⟩⟩)
  have s0':=s0
  simp only[FC,PD,A8,lX] at s3 s4 s5 s6
  have n4:=k4.nx
  have hxb:=hw9.low (n:=H4.nx) (Zz _)
  obtain⟨_,_,cw9,hab⟩:=Tf hw9
  have g4:H4.t.get H.nx=some (rH 28 [.str (e.path.take 4100),.int .i64 e.kind,nI .u32 e.mode,nI .u32 e.uid,nI .u32 e.gid,.int .i64 e.time,av,C9,.str (e.link.take 4100)]):=by rw[k4.get _ (by omega) (by simp)];exact gd
  have ro4:H4.ro<=H.nx:=by rw[k4.ro];exact rod
  obtain⟨He,hHe⟩:=SK (H4.put H.nx (rH 28 [.str (e.path.take 4100),.int .i64 e.kind,nI .u32 e.mode,nI .u32 e.uid,nI .u32 e.gid,.int .i64 e.time,w9,C9,.str (e.link.take 4100)]))
  have se:CC 1 (some (rH 28 [.str (e.path.take 4100),.int .i64 e.kind,nI .u32 e.mode,nI .u32 e.uid,nI .u32 e.gid,.int .i64 e.time,av,C9,.str (e.link.take 4100)])) H.nx 6 w9 H4=.val XL He:=by
   rw[SE cw9 (show 6<9 by decide) ro4 (ZA _),<-hHe];rfl
  have ge:He.t.get H.nx=some (rH 28 [.str (e.path.take 4100),.int .i64 e.kind,nI .u32 e.mode,nI .u32 e.uid,nI .u32 e.gid,.int .i64 e.time,w9,C9,.str (e.link.take 4100)]):=by rw[<-hHe];exact Xv ..
  have k4e:ZK H4 He [H.nx]:=by rw[<-hHe];exact ZK.put λ_=>by simp
  have nxe:He.nx=H4.nx:=by rw[<-hHe];rfl
  have kHe:ZK H He []:=(kd.trans' k4).trans k4e λc hc hlt=>by have:=Zv.1 hc;omega
  have uj: ∀G,zq 9 (some (rH 28 [.str (e.path.take 4100),.int .i64 e.kind,nI .u32 e.mode,nI .u32 e.uid,nI .u32 e.gid,.int .i64 e.time,w9,C9,.str (e.link.take 4100)])) 0 G=.val (.agg [.str (e.path.take 4100),.int .i64 e.kind,nI .u32 e.mode,nI .u32 e.uid,nI .u32 e.gid,.int .i64 e.time,w9,C9,.str (e.link.take 4100)]) G:=λG=>TJ (show 0+9<=9 by decide) ..
  have bs:=λ(G:Heap)=>Zdw (x:=[.str (e.path.take 4100),.int .i64 e.kind,nI .u32 e.mode,nI .u32 e.uid,nI .u32 e.gid,.int .i64 e.time,w9,C9,.str (e.link.take 4100)]) rfl G
  have we:RP He w 28 9 ls Hs.nx:=hw.below (λc _ hc=>kHe.get c hc (by simp)) kHe.ro kHe.nx
  have hbw:=(Tf hw).2.2.2
  have ZhX:=(Tf we).2.2.2
  obtain⟨v',H5,ea,w5,k5,hb5,n5⟩:=rS (bytes:=112) we (by decide) (by decide) (by rw[hll];have:(i+1)*112<=12*112:=W7 _ (by omega);omega) (by rw[kHe.ro];omega) (by omega) (x:=[.str (e.path.take 4100),.int .i64 e.kind,nI .u32 e.mode,nI .u32 e.uid,nI .u32 e.gid,.int .i64 e.time,w9,C9,.str (e.link.take 4100)]) rfl
  simp(disch:=omega) only[s3,s4,s5,s6,g4,se,ge,uj,bs,ea,ZZ,ZV,ZB,ZG,YB,Nat.reduceAdd,Zb,Zb,ZZ,ZV,ZB,ZG,Zb,Z9,Xg,Xe,CK,Ca]
  have hw9e:RP He w9 41 2 (S2 (KL e.attrs)) Hd.nx:=hw9.below (λc hc hlt=>k4e.get c hlt λhm=>by have:=Zv.1 hm;omega) k4e.ro k4e.nx
  have eN: ∀b∈Wo C9,Hb.nx<=b∧b<Hc.nx:=gc3.blk
  have bde:BV He C9 (e.data.take 1500):=(((gc3.bv).move kcd λb hb hm=>by have:=(eN b hb).1;have:=Zv.1 hm;omega).move k4 λb hb hm=>by cases hm).move k4e λb hb hm=>by have:=(eN b hb).1;have:=Zv.1 hm;omega
  have Zd6:=(Tf hw9e).2.2.2
  have hS': ∀b∈Wo v',b∈Wo w∨He.nx<=b:=λb hb=>.inr (hb5 b hb)
  have hme:qh He (Wo w) [.str (e.path.take 4100),.int .i64 e.kind,nI .u32 e.mode,nI .u32 e.uid,nI .u32 e.gid,.int .i64 e.time,w9,C9,.str (e.link.take 4100)] (qJ e):=⟨w9,C9,rfl,.inr (Sl.of_buf hw9e),bde,λb hb=>⟨λhm=>by have:=(Zd6 b hb).1;have:=(hbw b hm).2;omega,(Zd6 b hb).2⟩,λb hb=>⟨λhm=>by have:=(eN b hb).1;have:=(hbw b hm).2;omega,by have:=(eN b hb).2;omega⟩⟩
  refine⟨_,_,_,rfl,.inl ⟨rfl,m,by omega,(kk0.trans' kHe).trans k5 (λc hc hlt=>by have:=(ZhX c hc).1;omega),s0',i+1,v',ls++[[.str (e.path.take 4100),.int .i64 e.kind,nI .u32 e.mode,nI .u32 e.uid,nI .u32 e.gid,.int .i64 e.time,w9,C9,.str (e.link.take 4100)]],rfl,by omega,rfl,w5,by rw[Zk,hll];rfl,λj hj=>?_⟩⟩
  by_cases hji:j<i
  ·rw[Zh,YN (by omega),<-Zh]
   exact((hmem j hji).keep kHe (λb hb=>by cases hb) (λb hb=>.inl hb)).keep k5 (λb hb=>.inl hb) hS'
  ·obtain rfl:j=i:=by omega
   rw[he,Zh,YY (by omega),show j - ls.length=0 by omega]
   exact hme.keep k5 (λb hb=>.inl hb) hS'
theorem lh(E:Env Zx fs fuel){k0:Nat}{ev:AV}{L:List Mem}(hat: ∀i,i<L.length->(L.getD i default).attrs.length<=maxLen)(hro:H.ro<=H.nx)(hE:nT H ev L):
  ∃w H',Z7 (LK Zx fs fuel k0) fs fuel (n+1) 4 [ev] H=.ret w H'∧ZK H H' []∧Mv H' w (Ku L):=by
 rw[Z1 (ZU E.n4 (.inr rfl) _ _) E.f4]
 have hf:=E.big
 simp only[c4,Z9,Xe]
 generalize hL:Ue (CU _) fuel _ _ _=Lp
 obtain⟨oc,Ny,H1,rfl,_,rfl,k1,w,ls,t3,hw,hll,hm⟩:=XZ (P:=λT=>FTI H ev L (min 12 L.length) T H) (Q:=FTQ H L)
  (λT hi=>We (FTI H ev L) (FTQ H L) (λm tm H3 h=>eB E hat hro hE _ _ _ _ m tm H3 h) fuel (min 12 L.length) T H (by omega) hi) hL
  (by exact⟨ZK.refl _ _,rfl,0,.nils,[],rfl,by omega,rfl,.inl ⟨rfl,rfl⟩,rfl,λj hj=>by cases hj⟩)
 simp only[FC] at t3
 simp only[t3,Z9,Xg,ZY,Xe,Ca]
 refine⟨_,_,rfl,k1,ls,Sl.of_buf hw,hll,λi hi=>?_⟩
 obtain⟨av,dv,e,q1,q2,_,q3⟩:=hm i hi
 exact⟨av,dv,e,q1,q2,λb hb=>(q3 b hb).2⟩
end
end
end Go.AI
