/- Members as the law has them: walked; proved, conditions as named. -/
import Derived.Test.YtfkkljjgkopkfaaGreatDoorPT
import Derived.Test.YtfkkljjgkopkfaaGreatDoorP6
import Derived.Test.YtfkkljjgkopkfaaGreatDoorPA
set_option maxRecDepth 1000000
set_option maxHeartbeats 0
set_option linter.all false
namespace Go.AI
open Go
noncomputable section
def qn:List Sh:=[.str,.int .i64,.int .u32,.int .u32,.int .u32,.int .i64,.sl [.str,.str],.sl [.int .u8],.str]
def Zlp(z:Int):Prop:= -9223372036854775808<=z∧z<=9223372036854775807
def ck{G:Heap}{v:AV}(h:Told G (.sl [.str,.str]) v): ∃l:List NP,Cut G 2 v (TN l)∧l.length<=maxLen:=by
 obtain⟨ls,h1,hm,h2⟩:=uT h;obtain⟨l,h3,_⟩:=E9 (α:=NP) (f:=λp=>[.str p.1,.str p.2]) (p:=λ_=>True) λi hi=>by
  obtain⟨e1,e2⟩:=h2 i hi;obtain⟨a,ha⟩:=FZ (e2 0 _ rfl);obtain⟨b,hb⟩:=FZ (e2 1 _ rfl);exact⟨(a,b),by rw[ZlB e1,ha,hb],trivial⟩
 exact⟨l,by rw[h3] at h1;exact h1,by rw[h3] at hm;simpa [TN] using hm⟩
def lN{G:Heap}{v:AV}(h:Told G (.sl [.int .u8]) v): ∃l:Zd,Cut G 1 v (ML l):=by
 obtain⟨ls,h1,_,h2⟩:=uT h;obtain⟨l,h3,_⟩:=E9 (α:=UInt8) (f:=λx=>[Vk x]) (p:=λ_=>True) λi hi=>by
  obtain⟨e1,e2⟩:=h2 i hi;obtain⟨a,ha⟩:=iO (e2 0 _ rfl);refine⟨a,?_,trivial⟩
  match hq:ls.getD i [],e1 with
  |[x],_=>rw[hq] at ha;have ha:x=Vk a:=ha;rw[ha]
 exact⟨l,by rw[h3] at h1;exact h1⟩
def iX(G:Heap)(cs:List AV)(m:Mem):Prop:= ∃av dv,cs=[.str m.path,.int .i64 m.kind,nI .u32 m.mode,nI .u32 m.uid,nI .u32 m.gid,.int .i64 m.time,av,dv,.str m.link]∧Cut G 2 av (TN m.attrs)∧Cut G 1 dv (ML m.data)
structure yi(m:Mem):Prop where
 kind:Zlp m.kind
 time:Zlp m.time
 mode:m.mode<4294967296
 uid:m.uid<4294967296
 gid:m.gid<4294967296
 attrs:m.attrs.length<=maxLen
def Zco{G:Heap}{cs:List AV}(hl:cs.length=9)(h: ∀(j:Nat) e,qn[j]? =some e->Told G e (cs.getD j .unk)): ∃m,iX G cs m∧yi m:=by
 obtain⟨p,hp⟩:=FZ (h 0 _ rfl);obtain⟨kd,hk,hk2⟩:=ow (h 1 _ rfl);obtain⟨mo,hm,hm2⟩:=zC (h 2 _ rfl);obtain⟨u,hu,hu2⟩:=zC (h 3 _ rfl);obtain⟨g,hg,hg2⟩:=zC (h 4 _ rfl);obtain⟨ti,ht,ht2⟩:=ow (h 5 _ rfl);obtain⟨at_,hA,hA2⟩:=ck (h 6 _ rfl);obtain⟨d,hD⟩:=lN (h 7 _ rfl);obtain⟨lk,hK⟩:=FZ (h 8 _ rfl)
 match cs,hl with
 |[c0,c1,c2,c3,c4,c5,c6,c7,c8],_=>
  have hp:c0=_:=hp;have hk:c1=_:=hk;have hm:c2=_:=hm;have hu:c3=_:=hu;have hg:c4=_:=hg;have ht:c5=_:=ht;have hK:c8=_:=hK;exact⟨⟨p,kd,mo,u,g,ti,at_,d,lk⟩,⟨c6,c7,by rw[hp,hk,hm,hu,hg,ht,hK],hA,hD⟩,hk2,ht2,hm2,hu2,hg2,hA2⟩
def lW(G:Heap)(v:AV)(L:List Mem):Prop:= ∃Ls,Sz G 9 v Ls∧Ls.length=L.length∧ ∀i,i<L.length->iX G (Ls.getD i []) (L.getD i default)
def oY{ls:List (List AV)}{P:List AV->Mem->Prop}(h: ∀i,i<ls.length-> ∃m,P (ls.getD i []) m): ∃L:List Mem,ls.length=L.length∧ ∀i,i<L.length->P (ls.getD i []) (L.getD i default):=by
 induction ls with
 |nil=>exact⟨[],rfl,λi hi=>by cases hi⟩
 |cons a ls ih=>
  obtain⟨m,hm⟩:=h 0 (RL _);obtain⟨L,h1,h2⟩:=ih λi hi=>h (i+1) (Nat.succ_lt_succ hi);refine⟨m::L,by rw[ZL,ZL,h1],λi hi=>?_⟩;cases i with
  |zero=>exact hm
  |succ i=>exact h2 i (Nat.lt_of_succ_lt_succ hi)
def cj{G:Heap}{v:AV}(h:Told G (.sl qn) v): ∃L:List Mem,lW G v L∧(∀i,i<L.length->yi (L.getD i default))∧L.length<=maxLen:=by
 obtain⟨ls,hc,hl,he⟩:=uT h;obtain⟨L,h1,h2⟩:=oY (P:=λcs m=>iX G cs m∧yi m) λi hi=>Zco (he i hi).1 (he i hi).2;exact⟨L,⟨ls,hc.1,h1,λi hi=>(h2 i hi).1⟩,λi hi=>(h2 i hi).2,by rw[<-h1];exact hl⟩
def sk(x:NP):NP:=(x.1.take 250,x.2.take 700)
def Hg(l:List NP):List NP:=(l.take 20).map sk
def oN(l:List NP):(Hg l).length<=20:=by unfold Hg;rw[Zx,Zy];omega
structure TAI(Hs:Heap)(g3 g4 g0 av:AV)(q:Nat)(R:Obj)(as_:List NP)(m:Nat)(tm:TM)(H:Heap):Prop where
 k:Zu Hs H []
 t0:Z6 tm=g0
 t3:V0 tm=g3
 t4:Xo tm=g4
 t5:Xi tm=.ptr q 0
 i: ∃i w,XE tm=nI .i64 i∧i+m=min 20 as_.length∧XL tm=w∧TZ H w 44 2 (TN ((as_.take i).map sk)) Hs.nx
def TAQ(Hs:Heap)(g3 g4 g0:AV)(q:Nat)(as_:List NP)(o:Out)(tm:TM)(H:Heap):Prop:=o=.exit 2∧Zu Hs H []∧Z6 tm=g0∧V0 tm=g3∧Xo tm=g4∧Xi tm=.ptr q 0∧ ∃w,XL tm=w∧TZ H w 44 2 (TN (Hg as_)) Hs.nx
def Zff{Hs:Heap}{g3 g4 g0 av:AV}{q:Nat}{R:Row}{as_:List NP}(hq:q<Hs.nx)(gR:Hs.t.get q=some (.row R))(l6: ∀G,ld1 (some (.row R)) 6 G=.val av G)(hA:Sz Hs 2 av (TN as_))(hro:Hs.ro<=Hs.nx)(hal:as_.length<=maxLen)(cx:Ctx)(X0:X)(m:Nat)(tm:TM)(H:Heap)(hI:TAI Hs g3 g4 g0 av q (.row R) as_ m tm H):
  ∃o tm' H',yt cx tm H X0=.ok o tm' H' X0∧((o=.normal∧ ∃k,k<m∧TAI Hs g3 g4 g0 av q (.row R) as_ k tm' H')∨(o≠.normal∧TAQ Hs g3 g4 g0 q as_ o tm' H')):=by
 obtain⟨k0,t0,t3,t4,t5,i,w,t7,him,t6,rb⟩:=hI;have t0':=t0;have D7:=t3;have Gk:=t4;have D8:=t5;have Cl:=t6;simp only[G7,re,G8] at t5 t6 t7;have hA0:=hA.keep0 k0;have la:=hA0.len;rw[Vm] at la;have gq:=(k0.get q hq (by simp)).trans gR;have hx0:=k0.nx;cases m with
 |zero=>
  have hat:Hg as_=(as_.take i).map sk:=by
   unfold Hg
   congr 1
   by_cases h:20<=as_.length
   ·rw[show i=20 by omega]
   ·rw[Z1 (by omega),Z1 (by omega)]
  rw[<-hat] at rb
  by_cases h1:i<as_.length
  ·have d1:decide (i<as_.length)=true:=Zi h1
   have d2:decide (i<20)=false:=Zc (by omega);simp only[t5,t7,gq,l6,la,d1,d2,ZE,Nat.reduceAdd,Zl,Zl,ZE,Zl,yt,ZG,Yj,Yg,UH];refine⟨_,_,_,rfl,?_⟩;exact .inr ⟨by simp,rfl,k0,t0',D7,Gk,D8,w,Cl,rb⟩
  ·have d1:decide (i<as_.length)=false:=Zc h1
   simp only[t5,t7,gq,l6,la,d1,ZE,Nat.reduceAdd,Zl,Zl,ZE,Zl,yt,ZG,Yj,Yg,UH];refine⟨_,_,_,rfl,?_⟩;exact .inr ⟨by simp,rfl,k0,t0',D7,Gk,D8,w,Cl,rb⟩
 |succ m=>
  have hi:i<as_.length:=by omega
  have d1:decide (i<as_.length)=true:=Zi hi;have d2:decide (i<20)=true:=Zi (by omega);obtain⟨bb,o,r,eI,hb,gb,eL,_⟩:=hA0.at_ (i:=i) (by rw[Vm];exact hi);rw[Np hi] at eL;have htk:(as_.take (i+1)).map sk=(as_.take i).map sk++[sk (as_.getD i ([],[]))]:=by
   rw[WF,Ze,Zm hi,Xg];rfl
  generalize as_.getD i ([],[])=a at*;have hroN:H.ro<=H.nx:=by rw[k0.ro];omega
  obtain⟨H1,hH1⟩:=TO (H.new (rH 44 [.str a.1,.str a.2]));have k1:Zu H H1 []:=by rw[<-hH1];exact Zu.new _ _ _
  have NB:H1.nx=H.nx+1:=by rw[<-hH1];rfl
  have g1:H1.t.get H.nx=some (rH 44 [.str a.1,.str a.2]):=by rw[<-hH1];exact ZR rfl _
  have sf:=TL (n:=2) (b:=H.nx) (l:=[.str [],.str []]) (vs:=[.str a.1,.str a.2]) (H:=H.new (rH 44 [.str [],.str []])) rfl rfl (by decide) hroN 44 1 false true;rw[TJ rfl,hH1] at sf;have l0: ∀G,ld1 (some (rH 44 [.str a.1,.str a.2])) 0 G=.val (.str a.1) G:=λG=>rfl;have l1: ∀G,ld1 (some (rH 44 [.str a.1,.str a.2])) 1 G=.val (.str a.2) G:=λG=>rfl;have tk1:=CM a.1 250;have tk2:=CM a.2 700;have rb1:TZ H1 w 44 2 (TN ((as_.take i).map sk)) Hs.nx:=rb.below (λc _ hc=>k1.get c hc (by simp)) k1.ro k1.nx;obtain⟨_,_,_,bw⟩:=Wb rb1;obtain⟨w',H2,ea,w2,k2,hb2,n2⟩:=wj (bytes:=32) rb1 (by decide) (by decide) (by rw[Vm,Zx,Zy];omega) (by rw[k1.ro];omega) (by omega) (x:=[.str (a.1.take 250),.str (a.2.take 700)]) rfl;have lw0:=rb1.low (n:=H1.nx) (Zs _);have bs: ∀G,US 44 2 1 [.str [],.str []] [(0,2,.agg [.str (a.1.take 250),.str (a.2.take 700)])] G=.val (.slice G.nx 0 1 none) (G.new (rG 44 2 [.str (a.1.take 250),.str (a.2.take 700)] 0 false true true)):=λ_=>rfl;have b2: ∀G,TS [.str [],.str []] [(0,1,.str (a.1.take 250)),(1,1,.str (a.2.take 700))] G=.val (.agg [.str (a.1.take 250),.str (a.2.take 700)]) G:=λ_=>rfl;have gg:=SF (H:=H1) (o:=rG 44 2 [.str (a.1.take 250),.str (a.2.take 700)] 0 false true true) (c:=H.nx) (by omega);simp(disch:=first|assumption|omega|(simp -implicitDefEqProofs only[VV,VW]<;>first|assumption|omega)|decide) only[t5,t6,t7,gq,l6,la,d1,d2,eI,gb,eL,sf,g1,l0,l1,tk1,tk2,bs,b2,ea,lw0,gg,N3,T5,Ys,YO,Ud,ZD,ZO,ZE,Y0,ZZ,Nat.reduceAdd,decide_true,Zo,Zl,Zl,Zo,YW,YO,Ys,ZD,ZO,ZE,Zl,Zo,YW,yt,ZG,Yj,Zz,Yc,Xc,XZ,M0,Nat.reducePow,Nat.reduceDiv,Nat.reduceMod,Yg,UH,KA]
  refine⟨_,_,_,rfl,.inl ⟨rfl,m,by omega,(k0.trans' k1).trans k2 (λc hc hlt=>by have:=(bw c hc).1;omega),t0',D7,Gk,D8,i+1,w',rfl,by omega,rfl,?_⟩⟩;rw[htk,J4];exact w2
section
variable {Zq:Lib} {fs:T CF} {Zk k n i h b:Nat} {H H0:Heap} {s:Zd} {cs:List AV}
def ay(e:Mem):Mem:=⟨e.path.take 4100,e.kind,e.mode,e.uid,e.gid,e.time,Hg e.attrs,e.data.take 1500,e.link.take 4100⟩
def NM(L:List Mem):List Mem:=(L.take 12).map ay
def iX.keep{H H':Heap}{m:Mem}(h:iX H cs m)(k:Zu H H' []):iX H' cs m:=by
 obtain⟨av,dv,e,h1,h2⟩:=h;exact⟨av,dv,e,h1.keep k,h2.keep k⟩
def tq(H:Heap)(S:List Nat)(cs:List AV)(m:Mem):Prop:= ∃av dv,cs=[.str m.path,.int .i64 m.kind,nI .u32 m.mode,nI .u32 m.uid,nI .u32 m.gid,.int .i64 m.time,av,dv,.str m.link]∧Sz H 2 av (TN m.attrs)∧BV H dv m.data∧(∀b∈Xk av,b∉S∧b<H.nx)∧ ∀b∈Xk dv,b∉S∧b<H.nx
def tq.keep{H H':Heap}{S S' T:List Nat}{m:Mem}(h:tq H S cs m)(k:Zu H H' T)(hT: ∀b∈T,b∈S∨H.nx<=b)(hS: ∀b∈S',b∈S∨H.nx<=b):tq H' S' cs m:=by
 obtain⟨av,dv,e,h1,h2,h3,h4⟩:=h;have ok: ∀{v:AV},(∀b∈Xk v,b∉S∧b<H.nx)->(∀b∈Xk v,b∉T)∧ ∀b∈Xk v,b∉S'∧b<H'.nx:=λhv=>⟨λb hb hm=>by
  rcases hT b hm with h|h
  ·exact(hv b hb).1 h
  ·have:=(hv b hb).2;omega,λb hb=>⟨λhm=>by
  rcases hS b hm with h|h
  ·exact(hv b hb).1 h
  ·have:=(hv b hb).2;omega,ZK (hv b hb).2 k.nx⟩⟩
 exact⟨av,dv,e,h1.move k (ok h3).1,h2.keep k (λb o n c hh hb=>(ok h4).1 b (by rw[hh];simp[Xk]) hb),(ok h3).2,(ok h4).2⟩
def JP(L:List Mem):(NM L).length=min 12 L.length:=by unfold NM;rw[Zx,Zy]
def sJ{L:List Mem}{j:Nat}(h:j<min 12 L.length):(NM L).getD j default=ay (L.getD j default):=by
 unfold NM;rw[Ze,Z3,Yu (by omega),Ze,Zm (by omega)];rfl
def Zog{x:List AV}(hx:x.length=9)(G:Heap):US 34 9 1 [.str [],nI .i64 0,nI .u32 0,nI .u32 0,nI .u32 0,nI .i64 0,.nils,.nils,.str []] [(0,9,.agg x)] G=.val (.slice G.nx 0 1 none) (G.new (rG 34 9 x 0 false true true)):=by
 rw[Bc (by decide) rfl,gZ hx (by decide) (by decide),JQ];rw[Ad _ _ _ (by rw[hx];decide),Xd,ZQ,Uz (by rw[hx];decide),ZM];rfl
structure FTI(Hs:Heap)(ev:AV)(L:List Mem)(m:Nat)(tm:TM)(H:Heap):Prop where
 k:Zu Hs H []
 t0:Z6 tm=ev
 i: ∃i w ls,Xo tm=nI .i64 i∧i+m=min 12 L.length∧V0 tm=w∧TZ H w 34 9 ls Hs.nx∧ls.length=i∧ ∀j,j<i->tq H (Xk w) (ls.getD j []) (ay (L.getD j default))
def FTQ(Hs:Heap)(L:List Mem)(o:Out)(tm:TM)(H:Heap):Prop:=o=.exit 0∧Zu Hs H []∧ ∃w ls,V0 tm=w∧TZ H w 34 9 ls Hs.nx∧ls.length=(NM L).length∧ ∀j,j<(NM L).length->tq H (Xk w) (ls.getD j []) ((NM L).getD j default)
def Zdy(E:Env Zq fs Zk){k0:Nat}{ev:AV}{L:List Mem}{Hs:Heap}(hat: ∀i,i<L.length->(L.getD i default).attrs.length<=maxLen)(hro:Hs.ro<=Hs.nx)(hE:lW Hs ev L)(y f q)(X0:X)(m:Nat)(tm:TM)(H:Heap)(hI:FTI Hs ev L m tm H):
  ∃o tm' H',yu ⟨ZA (LK Zq fs Zk k0) fs Zk n,y,f,Zk,q⟩ tm H X0=.ok o tm' H' X0∧((o=.normal∧ ∃k,k<m∧FTI Hs ev L k tm' H')∨(o≠.normal∧FTQ Hs L o tm' H')):=by
 obtain⟨kk0,t0,i,w,ls,t4,him,t3,hw,hll,hmem⟩:=hI;have t0':=t0;have Gk:=t4;have D7:=t3;simp only[Pa,Il,Pt] at t0 t3 t4;have hf:=E.big;obtain⟨Ls,hV,hVl,hVm⟩:=hE;have ln:=hV.len;rw[hVl] at ln;cases m with
 |zero=>
  have hfl:(NM L).length=i:=by rw[JP];omega
  have fin:FTQ Hs L (.exit 0) tm H:=⟨rfl,kk0,w,ls,D7,hw,by rw[hfl];exact hll,λj hj=>by rw[sJ (by rw[<-JP];exact hj)];exact hmem j (by omega)⟩;obtain⟨_,f2,w_,ls_,f3,f4,f5,f6⟩:=fin
  by_cases h1:i<L.length
  ·have d1:decide (i<L.length)=true:=Zi h1
   have d2:decide (i<12)=false:=Zc (by omega);simp only[t0,t4,ln,d1,d2,ZE,ZE,yu,ZG,Yj,Yg,];refine⟨_,_,_,rfl,?_⟩;exact .inr ⟨by simp,rfl,f2,w_,ls_,f3,f4,f5,f6⟩
  ·have d1:decide (i<L.length)=false:=Zc h1
   simp only[t0,t4,ln,d1,ZE,ZE,yu,ZG,Yj,Yg,];refine⟨_,_,_,rfl,?_⟩;exact .inr ⟨by simp,rfl,f2,w_,ls_,f3,f4,f5,f6⟩
 |succ m=>
  have hi:i<L.length:=by omega
  have d1:decide (i<L.length)=true:=Zi hi;have d2:decide (i<12)=true:=Zi (by omega);have ZdO:H.ro<=H.nx:=by rw[kk0.ro];exact Yb hro kk0.nx
  have hx0:=kk0.nx;obtain⟨bb,o,r,eI,hb,gb,eL,eE⟩:=(hV.keep0 kk0).at_ (i:=i) (by omega);have Zpk:=hat i hi;have hEi:=(hVm i hi).keep kk0;generalize he:L.getD i default=e at*;obtain⟨av,dv,ecs,hA,hD⟩:=hEi;rw[ecs] at eL;obtain⟨H1,hH1⟩:=TO (H.new (rH 34 [.str e.path,.int .i64 e.kind,nI .u32 e.mode,nI .u32 e.uid,nI .u32 e.gid,.int .i64 e.time,av,dv,.str e.link]));have g5:H1.t.get H.nx=some (rH 34 [.str e.path,.int .i64 e.kind,nI .u32 e.mode,nI .u32 e.uid,nI .u32 e.gid,.int .i64 e.time,av,dv,.str e.link]):=by rw[<-hH1];exact ZR rfl _
  have FI:H1.ro<=H.nx:=by rw[<-hH1];exact ZdO
  have NB:H1.nx=H.nx+1:=by rw[<-hH1];rfl
  have sf:=TL (n:=9) (b:=H.nx) (l:=[.str [],nI .i64 0,nI .u32 0,nI .u32 0,nI .u32 0,nI .i64 0,.nils,.nils,.str []]) (vs:=[.str e.path,.int .i64 e.kind,nI .u32 e.mode,nI .u32 e.uid,nI .u32 e.gid,.int .i64 e.time,av,dv,.str e.link]) (H:=H.new (rH 34 [.str [],nI .i64 0,nI .u32 0,nI .u32 0,nI .u32 0,nI .i64 0,.nils,.nils,.str []])) rfl rfl (by decide) (by show H.ro<=_;exact ZdO) 34 1 false true;rw[TJ rfl,hH1] at sf;obtain⟨Ha,hHa⟩:=TO (H.new (rH 34 [.str (e.path.take 4100),.int .i64 e.kind,nI .u32 e.mode,nI .u32 e.uid,nI .u32 e.gid,.int .i64 e.time,av,dv,.str e.link]));have ga:Ha.t.get H.nx=some (rH 34 [.str (e.path.take 4100),.int .i64 e.kind,nI .u32 e.mode,nI .u32 e.uid,nI .u32 e.gid,.int .i64 e.time,av,dv,.str e.link]):=by rw[<-hHa];exact ZR rfl _
  have roa:Ha.ro<=H.nx:=by rw[<-hHa];exact ZdO
  have nxa:Ha.nx=H.nx+1:=by rw[<-hHa];rfl
  have sa:F3 1 (some (rH 34 [.str e.path,.int .i64 e.kind,nI .u32 e.mode,nI .u32 e.uid,nI .u32 e.gid,.int .i64 e.time,av,dv,.str e.link])) H.nx 0 (.str (e.path.take 4100)) H1=.val Y9 Ha:=by
   rw[Te rfl (show 0<9 by decide) FI (ZN _),<-hH1,TJ rfl,<-hHa];rfl
  obtain⟨Hb,hHb⟩:=TO (H.new (rH 34 [.str (e.path.take 4100),.int .i64 e.kind,nI .u32 e.mode,nI .u32 e.uid,nI .u32 e.gid,.int .i64 e.time,av,dv,.str (e.link.take 4100)]));have gbb:Hb.t.get H.nx=some (rH 34 [.str (e.path.take 4100),.int .i64 e.kind,nI .u32 e.mode,nI .u32 e.uid,nI .u32 e.gid,.int .i64 e.time,av,dv,.str (e.link.take 4100)]):=by rw[<-hHb];exact ZR rfl _
  have sb:F3 1 (some (rH 34 [.str (e.path.take 4100),.int .i64 e.kind,nI .u32 e.mode,nI .u32 e.uid,nI .u32 e.gid,.int .i64 e.time,av,dv,.str e.link])) H.nx 8 (.str (e.link.take 4100)) Ha=.val Y9 Hb:=by
   rw[Te rfl (show 8<9 by decide) roa (ZN _),<-hHa,TJ rfl,<-hHb];rfl
  have kb:Zu H Hb []:=by rw[<-hHb];exact Zu.new _ _ _
  have nxb:Hb.nx=H.nx+1:=by rw[<-hHb];rfl
  have rob:Hb.ro<=H.nx:=by rw[<-hHb];exact ZdO
  have l0: ∀G,ld1 (some (rH 34 [.str e.path,.int .i64 e.kind,nI .u32 e.mode,nI .u32 e.uid,nI .u32 e.gid,.int .i64 e.time,av,dv,.str e.link])) 0 G=.val (.str e.path) G:=λG=>rfl;have l8: ∀G,ld1 (some (rH 34 [.str e.path,.int .i64 e.kind,nI .u32 e.mode,nI .u32 e.uid,nI .u32 e.gid,.int .i64 e.time,av,dv,.str e.link])) 8 G=.val (.str e.link) G:=λG=>rfl;have tk1:=CM e.path 4100;have tk2:=CM e.link 4100;have l7: ∀G,ld1 (some (rH 34 [.str (e.path.take 4100),.int .i64 e.kind,nI .u32 e.mode,nI .u32 e.uid,nI .u32 e.gid,.int .i64 e.time,av,dv,.str (e.link.take 4100)])) 7 G=.val dv G:=λG=>rfl;obtain⟨dv2,sd,hd2⟩:=hD.2 (min e.data.length 1500) (by rw[U2];exact Nat.min_le_left _ _);rw[gQ,oi] at hd2;have sd1:Uo 1 dv none (some (nI .i64 (min e.data.length 1500))) Hb=.val dv2 Hb:=sd _ λc hc=>kb.get c hc (by simp);have ldd:=λG=>hD.1.len G;rw[U2] at ldd;have hdb:Sz Hb 1 dv2 (ML (e.data.take 1500)):=hd2.keep0 kb;have hdl15:(e.data.take 1500).length<=1500:=by rw[Zy];omega
  obtain⟨yG,Hc,ec0,gc3,kbc,bk3⟩:=Ei (GB.nil Hb Hb.nx) (Zs _) (by omega) (e.data.take 1500) (by rw[XU];omega);have ec:TH 5 1 1 .nils dv2 Hb=.val yG Hc:=by
   rw[Hf hdb (by decide) (by decide),U2,Nu];exact ec0
  rw[ZQ] at gc3;have kbc:Zu Hb Hc []:=kbc;have hxc:=kbc.nx;have gc:Hc.t.get H.nx=some (rH 34 [.str (e.path.take 4100),.int .i64 e.kind,nI .u32 e.mode,nI .u32 e.uid,nI .u32 e.gid,.int .i64 e.time,av,dv,.str (e.link.take 4100)]):=by rw[kbc.get _ (by omega) (by simp)];exact gbb
  have roc:Hc.ro<=H.nx:=by rw[kbc.ro];exact rob
  have cv3:=gc3.cells;obtain⟨Hd,hHd⟩:=TO (Hc.put H.nx (rH 34 [.str (e.path.take 4100),.int .i64 e.kind,nI .u32 e.mode,nI .u32 e.uid,nI .u32 e.gid,.int .i64 e.time,av,yG,.str (e.link.take 4100)]));have sc:F3 1 (some (rH 34 [.str (e.path.take 4100),.int .i64 e.kind,nI .u32 e.mode,nI .u32 e.uid,nI .u32 e.gid,.int .i64 e.time,av,dv,.str (e.link.take 4100)])) H.nx 7 yG Hc=.val Y9 Hd:=by
   rw[Te cv3 (show 7<9 by decide) roc (ZN _),<-hHd];rfl
  have gd:Hd.t.get H.nx=some (rH 34 [.str (e.path.take 4100),.int .i64 e.kind,nI .u32 e.mode,nI .u32 e.uid,nI .u32 e.gid,.int .i64 e.time,av,yG,.str (e.link.take 4100)]):=by rw[<-hHd];exact Yp ..
  have kcd:Zu Hc Hd [H.nx]:=by rw[<-hHd];exact Zu.put λ_=>by simp
  have nxd:Hd.nx=Hc.nx:=by rw[<-hHd];rfl
  have rod:Hd.ro<=H.nx:=by rw[<-hHd];exact roc
  have kd:Zu H Hd []:=(kb.trans' kbc).trans kcd λc hc hlt=>by have:=Zn.1 hc;omega
  have hdb2:=hdb.low (n:=Hb.nx) (Zs _);have l66: ∀G,ld1 (some (rH 34 [.str (e.path.take 4100),.int .i64 e.kind,nI .u32 e.mode,nI .u32 e.uid,nI .u32 e.gid,.int .i64 e.time,av,yG,.str (e.link.take 4100)])) 6 G=.val av G:=λG=>rfl;simp(disch:=omega) only[t0,t4,ln,d1,d2,eI,gb,eL,sf,g5,l0,l8,tk1,tk2,sa,ga,sb,gbb,l7,ldd,sd1,ec,gc,sc,N3,T5,Ys,Th,YY,XH,ZD,ZO,ZE,ZZ,Nat.reduceAdd,decide_true,Zo,Zl,Zl,Zo,YW,Ys,ZD,ZO,ZE,Zl,Zo,YW,yu,ZG,Yj,Zz,Yc,Xc,XZ,Nat.reducePow,Nat.reduceDiv,Nat.reduceMod,Yg,UH,];generalize hL:Vq (yt _) Zk _ _ _=Lp;obtain⟨oc,OS,H4,rfl,_,rfl,k4,s0,s3,s4,s5,w9,s6,hw9⟩:=YP (P:=λT=>TAI Hd w (nI .i64 i) ev av H.nx (rH 34 [.str (e.path.take 4100),.int .i64 e.kind,nI .u32 e.mode,nI .u32 e.uid,nI .u32 e.gid,.int .i64 e.time,av,yG,.str (e.link.take 4100)]) e.attrs (min 20 e.attrs.length) T Hd) (Q:=TAQ Hd w (nI .i64 i) ev H.nx e.attrs)
   (λT hi=>Y5 (TAI Hd w (nI .i64 i) ev av H.nx (rH 34 [.str (e.path.take 4100),.int .i64 e.kind,nI .u32 e.mode,nI .u32 e.uid,nI .u32 e.gid,.int .i64 e.time,av,yG,.str (e.link.take 4100)]) e.attrs) (TAQ Hd w (nI .i64 i) ev H.nx e.attrs) (λm tm H4 h=>Zff (by omega) gd l66 (hA.1.keep0 kd) (by omega) Zpk _ _ m tm H4 h) Zk (min 20 e.attrs.length) T Hd (by omega) hi) hL
   (by exact⟨Zu.refl _ _,t0',D7,Gk,rfl,0,.nils,rfl,by omega,rfl,.inl ⟨by rw[Xd];rfl,rfl⟩⟩)
  have s0':=s0;simp only[Il,Pt,G7,re] at s3 s4 s5 s6;have n4:=k4.nx;have hxb:=hw9.low (n:=H4.nx) (Zs _);obtain⟨_,_,cw9,hab⟩:=Wb hw9;have g4:H4.t.get H.nx=some (rH 34 [.str (e.path.take 4100),.int .i64 e.kind,nI .u32 e.mode,nI .u32 e.uid,nI .u32 e.gid,.int .i64 e.time,av,yG,.str (e.link.take 4100)]):=by rw[k4.get _ (by omega) (by simp)];exact gd
  have ro4:H4.ro<=H.nx:=by rw[k4.ro];exact rod
  obtain⟨He,hHe⟩:=TO (H4.put H.nx (rH 34 [.str (e.path.take 4100),.int .i64 e.kind,nI .u32 e.mode,nI .u32 e.uid,nI .u32 e.gid,.int .i64 e.time,w9,yG,.str (e.link.take 4100)]));have se:F3 1 (some (rH 34 [.str (e.path.take 4100),.int .i64 e.kind,nI .u32 e.mode,nI .u32 e.uid,nI .u32 e.gid,.int .i64 e.time,av,yG,.str (e.link.take 4100)])) H.nx 6 w9 H4=.val Y9 He:=by
   rw[Te cw9 (show 6<9 by decide) ro4 (ZN _),<-hHe];rfl
  have ge:He.t.get H.nx=some (rH 34 [.str (e.path.take 4100),.int .i64 e.kind,nI .u32 e.mode,nI .u32 e.uid,nI .u32 e.gid,.int .i64 e.time,w9,yG,.str (e.link.take 4100)]):=by rw[<-hHe];exact Yp ..
  have k4e:Zu H4 He [H.nx]:=by rw[<-hHe];exact Zu.put λ_=>by simp
  have nxe:He.nx=H4.nx:=by rw[<-hHe];rfl
  have kHe:Zu H He []:=(kd.trans' k4).trans k4e λc hc hlt=>by have:=Zn.1 hc;omega
  have n7: ∀G,zI 9 (some (rH 34 [.str (e.path.take 4100),.int .i64 e.kind,nI .u32 e.mode,nI .u32 e.uid,nI .u32 e.gid,.int .i64 e.time,w9,yG,.str (e.link.take 4100)])) 0 G=.val (.agg [.str (e.path.take 4100),.int .i64 e.kind,nI .u32 e.mode,nI .u32 e.uid,nI .u32 e.gid,.int .i64 e.time,w9,yG,.str (e.link.take 4100)]) G:=λG=>Tg (show 0+9<=9 by decide) ..;have bs:=λ(G:Heap)=>Zog (x:=[.str (e.path.take 4100),.int .i64 e.kind,nI .u32 e.mode,nI .u32 e.uid,nI .u32 e.gid,.int .i64 e.time,w9,yG,.str (e.link.take 4100)]) rfl G;have we:TZ He w 34 9 ls Hs.nx:=hw.below (λc _ hc=>kHe.get c hc (by simp)) kHe.ro kHe.nx;have hbw:=(Wb hw).2.2.2;have Zpo:=(Wb we).2.2.2;obtain⟨v',H5,ea,w5,k5,hb5,n5⟩:=wj (bytes:=112) we (by decide) (by decide) (by rw[hll];have:(i+1)*112<=12*112:=Ub _ (by omega);omega) (by rw[kHe.ro];omega) (by omega) (x:=[.str (e.path.take 4100),.int .i64 e.kind,nI .u32 e.mode,nI .u32 e.uid,nI .u32 e.gid,.int .i64 e.time,w9,yG,.str (e.link.take 4100)]) rfl;simp(disch:=omega) only[s3,s4,s5,s6,g4,se,ge,n7,bs,ea,YO,Ys,ZD,ZO,Y0,Nat.reduceAdd,Zl,Zl,YO,Ys,ZD,ZO,Zl,ZG,Yj,Yg,KA,Ca];have hw9e:TZ He w9 44 2 (TN (Hg e.attrs)) Hd.nx:=hw9.below (λc hc hlt=>k4e.get c hlt λhm=>by have:=Zn.1 hm;omega) k4e.ro k4e.nx;have ZdI: ∀b∈Xk yG,Hb.nx<=b∧b<Hc.nx:=gc3.blk;have bde:BV He yG (e.data.take 1500):=(((gc3.bv).move kcd λb hb hm=>by have:=(ZdI b hb).1;have:=Zn.1 hm;omega).move k4 λb hb hm=>by cases hm).move k4e λb hb hm=>by have:=(ZdI b hb).1;have:=Zn.1 hm;omega
  have Zk8:=(Wb hw9e).2.2.2;have hS': ∀b∈Xk v',b∈Xk w∨He.nx<=b:=λb hb=>.inr (hb5 b hb);have hme:tq He (Xk w) [.str (e.path.take 4100),.int .i64 e.kind,nI .u32 e.mode,nI .u32 e.uid,nI .u32 e.gid,.int .i64 e.time,w9,yG,.str (e.link.take 4100)] (ay e):=⟨w9,yG,rfl,.inr (Sl.of_buf hw9e),bde,λb hb=>⟨λhm=>by have:=(Zk8 b hb).1;have:=(hbw b hm).2;omega,(Zk8 b hb).2⟩,λb hb=>⟨λhm=>by have:=(ZdI b hb).1;have:=(hbw b hm).2;omega,by have:=(ZdI b hb).2;omega⟩⟩;refine⟨_,_,_,rfl,.inl ⟨rfl,m,by omega,(kk0.trans' kHe).trans k5 (λc hc hlt=>by have:=(Zpo c hc).1;omega),s0',i+1,v',ls++[[.str (e.path.take 4100),.int .i64 e.kind,nI .u32 e.mode,nI .u32 e.uid,nI .u32 e.gid,.int .i64 e.time,w9,yG,.str (e.link.take 4100)]],rfl,by omega,rfl,w5,by rw[Zh,hll];rfl,λj hj=>?_⟩⟩
  by_cases hji:j<i
  ·rw[Ze,ZW (by omega),<-Ze]
   exact((hmem j hji).keep kHe (λb hb=>by cases hb) (λb hb=>.inl hb)).keep k5 (λb hb=>.inl hb) hS'
  ·obtain rfl:j=i:=by omega
   rw[he,Ze,Z0 (by omega),show j - ls.length=0 by omega];exact hme.keep k5 (λb hb=>.inl hb) hS'
def az(E:Env Zq fs Zk){k0:Nat}{ev:AV}{L:List Mem}(hat: ∀i,i<L.length->(L.getD i default).attrs.length<=maxLen)(hro:H.ro<=H.nx)(hE:lW H ev L):
  ∃w H',ZA (LK Zq fs Zk k0) fs Zk (n+1) 4 [ev] H=.ret w H'∧Zu H H' []∧Qe H' w (NM L):=by
 rw[Z5 E.f4 (.inr rfl)];have hf:=E.big;simp only[c4,ZG,Yg];generalize hL:Vq (yu _) Zk _ _ _=Lp;obtain⟨oc,OS,H1,rfl,_,rfl,k1,w,ls,t3,hw,hll,hm⟩:=YP (P:=λT=>FTI H ev L (min 12 L.length) T H) (Q:=FTQ H L)
  (λT hi=>Y5 (FTI H ev L) (FTQ H L) (λm tm H3 h=>Zdy E hat hro hE _ _ _ _ m tm H3 h) Zk (min 12 L.length) T H (by omega) hi) hL
  (by exact⟨Zu.refl _ _,rfl,0,.nils,[],rfl,by omega,rfl,.inl ⟨rfl,rfl⟩,rfl,λj hj=>by cases hj⟩)
 simp only[Il] at t3;simp only[t3,ZG,Yj,Zz,Yg,Ca];refine⟨_,_,rfl,k1,ls,Sl.of_buf hw,hll,λi hi=>?_⟩;obtain⟨av,dv,e,q1,q2,_,q3⟩:=hm i hi;exact⟨av,dv,e,q1,q2,λb hb=>(q3 b hb).2⟩
end
end
end Go.AI
