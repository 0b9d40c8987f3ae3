/- The document's tables: walked: proved without conditions but those that each names. -/
import Derived.Test.YtlaambpobnkkbaaGreatDoorPC
import Derived.Test.YtlaambpobnkkbaaGreatDoorPA
import Derived.Test.YtlaambpobnkkbaaGreatDoorP8
set_option maxRecDepth 1000000
set_option maxHeartbeats 0
set_option linter.unusedVariables false
set_option linter.unusedSimpArgs false
namespace Go.AI
open Go
noncomputable section
def oh(l:List Int):List (List AV):=l.map λz=>[.int .i64 z]
theorem eR(l:List Int)(z:Int):oh (l++[z])=oh l++[[.int .i64 z]]:=by unfold oh;rw[YA];rfl
theorem Gu(l:List Int):(oh l).length=l.length:=by unfold oh;rw[Zp]
theorem eQ{l:List Int}{i:Nat}(h:i<l.length):(oh l).getD i []=[.int .i64 (l.getD i 0)]:=by
 unfold oh
 rw[Ze,ZZ,Ze,Zk h];rfl
abbrev enO(e:V0)(av dv cv:AV):Obj:=rG 42 1 [.str e.mem.path,.int .i64 e.mem.kind,nI .u32 e.mem.mode,nI .u32 e.mem.uid,nI .u32 e.mem.gid,.int .i64 e.mem.time,av,dv,.str e.mem.link,.int .i64 e.size,.int .i64 e.head,cv] 0 false true true
def P2(e:V0)(i:Nat):List Int:=e.head::(e.chunks.take i).map I3.place
theorem rR{e:V0}{i:Nat}(h:i<e.chunks.length):P2 e (i+1)=P2 e i++[(e.chunks.getD i default).place]:=by
 unfold P2
 have ht:e.chunks.take (i+1)=e.chunks.take i++[e.chunks.getD i default]:=by
  rw[UB,Ze,Zk h];rfl
 rw[ht,YA];rfl
theorem zL(e:V0)(i:Nat):(P2 e i).length<=i+1:=by
 unfold P2
 rw[Ye,Zp,ZW];omega
structure PCI(Hs:Heap)(q:Nat)(ev:AV)(e:V0)(av dv cv:AV)(m:Nat)(tm:TM)(H:Heap):Prop where
 t0:Yu tm=ev
 t4:Xu tm=nI .i64 0
 t5:YT tm=.ptr q 0
 i: ∃i a pv,WO tm=nI .i64 i∧Xt tm=nI .i64 a∧Xx tm=pv∧i+m=e.chunks.length∧a<=65536*i∧O9 0 e.chunks=O9 a (e.chunks.drop i)∧RG H pv 2 1 (oh (P2 e i)) Hs.nx∧ ∀b∈MC pv,q<b
 g:H.t.get q=some (enO e av dv cv)
 qn:q<H.nx
 k:Zw Hs H []
def PCQ(Hs:Heap)(q:Nat)(ev:AV)(e:V0)(av dv cv:AV)(o:Out)(tm:TM)(H:Heap):Prop:=Zw Hs H []∧((o=.ret∧Vt tm=.bool false∧O9 0 e.chunks=none)∨(o=.exit 2∧Yu tm=ev∧Xu tm=nI .i64 0∧YT tm=.ptr q 0∧H.t.get q=some (enO e av dv cv)∧ ∃(a:Nat) (pv:AV),Xt tm=nI .i64 a∧Xx tm=pv∧O9 0 e.chunks=some a∧RG H pv 2 1 (oh (P2 e e.chunks.length)) Hs.nx))
theorem og{ev:AV}{e:V0}{av dv cv:AV}(hl:e.chunks.length<=90000)(hs: ∀x∈e.chunks,x.sum.length=32){Hs:Heap}{q:Nat}(hq:Hs.nx<=q)(hro:Hs.ro<=Hs.nx)(hN: ∀G,Zw Hs G []->Sz G 35 cv (MF e.chunks))(cx:Ctx)(X0:X)(m:Nat)(tm:TM)(H:Heap)(hI:PCI Hs q ev e av dv cv m tm H):
  ∃o tm' H',LB cx tm H X0=.ok o tm' H' X0∧((o=.normal∧ ∃k,k<m∧PCI Hs q ev e av dv cv k tm' H')∨(o≠.normal∧PCQ Hs q ev e av dv cv o tm' H')):=by
 obtain⟨t0,t4,t5,⟨i,a,pv,t9,t8,t3,him,ha,hr,hw,hbl⟩,gq,hqn,k0⟩:=hI
 have t0':=t0;have tz:=t4;have Dj:=t5;have kr:=t8;have My:=t3
 simp only[UN] at t3
 simp only[Ss] at t5
 simp only[MI] at t8
 simp only[FF] at t9
 have hN:=hN H k0
 have ln:=hN.len
 rw[TG] at ln
 have l11: ∀G,ld1 (some (enO e av dv cv)) 11 G=.val cv G:=λG=>by rw[Yf (show 11<12 by decide)];rfl
 cases m with
 |zero=>
  have d1:decide (i<e.chunks.length)=false:=Zb (by omega)
  have hi:i=e.chunks.length:=by omega
  simp only[t5,t9,gq,l11,ln,d1,Zv,Zf,Zf,LB,ZI,Yw,Yt,PE,DN]
  subst hi
  refine⟨_,_,_,rfl,?_⟩
  exact .inr ⟨by simp,k0,.inr ⟨rfl,t0',tz,Dj,gq,a,pv,kr,My,by rw[hr,List.drop_length];rfl,hw⟩⟩
 |succ m=>
  have d1:decide (i<e.chunks.length)=true:=Zd (by omega)
  have hi:i<e.chunks.length:=by omega
  obtain⟨bb,o,r,eI,hb,gb,eL,eE⟩:=hN.at_ (i:=i) (by rw[TG];omega)
  rw[Jy hi] at eL
  have hsum:(e.chunks.getD i default).sum.length=32:=hs _ (by rw[Ze,Zk hi];exact Xp hi)
  have hdr:e.chunks.drop i=e.chunks.getD i default::e.chunks.drop (i+1):=by
   rw[Ws hi,Ze,Zk hi];rfl
  rw[hdr] at hr
  have hpn:=rR hi
  generalize hx:e.chunks.getD i default=x at*
  have xl:(Ta x).length=35:=by unfold Ta;simp[hsum]
  obtain⟨H1,hH1⟩: ∃G,H.new (rG 63 1 (Ta x) 0 false true true)=G:=⟨_,rfl⟩
  have kH:Zw H H1 []:=by rw[<-hH1];exact Zw.new _ _ _
  have k1:Zw Hs H1 []:=by rw[<-hH1];exact k0.then_new _
  have Lb:H1.nx=H.nx+1:=by rw[<-hH1];rfl
  have g1:H1.t.get H.nx=some (rG 63 1 (Ta x) 0 false true true):=by rw[<-hH1];exact Yi rfl _
  have sf:=U4 (n:=35) (b:=H.nx) (l:=z35) (vs:=Ta x) (H:=H.new (rG 63 1 z35 0 false true true)) Kh xl (by decide) (by show H.ro<=_;rw[k0.ro];omega) 63 1 false true
  rw[Us rfl,hH1] at sf
  have l0: ∀G,ld1 (some (rG 63 1 (Ta x) 0 false true true)) 0 G=.val (.int .i64 x.at_) G:=λG=>by rw[Yf (by rw[xl];decide)];rfl
  have l1: ∀G,ld1 (some (rG 63 1 (Ta x) 0 false true true)) 1 G=.val (.int .i64 x.size) G:=λG=>by rw[Yf (by rw[xl];decide)];rfl
  have l2: ∀G,ld1 (some (rG 63 1 (Ta x) 0 false true true)) 2 G=.val (.int .i64 x.place) G:=λG=>by rw[Yf (by rw[xl];decide)];rfl
  have w1:RG H1 pv 2 1 (oh (P2 e i)) Hs.nx:=hw.below (λc _ hc=>kH.get c hc (by simp)) kH.ro kH.nx
  have hpl:=zL e i
  obtain⟨v',H2,ea,w2,k2,hb2,n2⟩:=Br (bytes:=8) w1 (by decide) (by decide) (by rw[Gu];omega) (by rw[k1.ro];omega) (by omega) (x:=[.int .i64 x.place]) rfl
  have bs:=λ(z:Int) (G:Heap)=>Sg 2 (nI .i64 0) (.int .i64 z) rfl G
  have kV:Zw Hs H2 []:=k1.trans k2 λy hy hlt=>by have:=hbl y hy;omega
  have gq2:H2.t.get q=some (enO e av dv cv):=by
   rw[k2.get q (by omega) (λh=>by have:=hbl q h;omega),kH.get q hqn (by simp)];exact gq
  by_cases h1:x.at_=(a:Int)
  ·have d2:decide (x.at_=(a:Int))=true:=Zd h1
   by_cases h2:x.size<=((0:Nat):Int)
   ·have d3:decide (x.size<=((0:Nat):Int))=true:=Zd h2
    simp only[t5,t8,t9,gq,l11,ln,d1,eI,gb,eL,sf,g1,l0,l1,X4,d2,d3,Zv,Zj,Zf,Zf,Zj,SP,YJ,sY,LB,ZI,Yw,ZG,Yt,PE,DN]
    refine⟨_,_,_,rfl,?_⟩
    exact .inr ⟨by simp,k1,.inl ⟨rfl,rfl,by rw[hr,O9,if_neg (by omega)]⟩⟩
   have d3:decide (x.size<=((0:Nat):Int))=false:=Zb h2
   by_cases h3:((65536:Nat):Int)<x.size
   ·have d4:decide (((65536:Nat):Int)<x.size)=true:=Zd h3
    simp only[t5,t8,t9,gq,l11,ln,d1,eI,gb,eL,sf,g1,l0,l1,X4,d2,d3,d4,Zv,Zj,Zf,Zf,Zj,SP,Ry,YJ,sY,LB,ZI,Yw,ZG,Yt,PE,DN]
    refine⟨_,_,_,rfl,?_⟩
    exact .inr ⟨by simp,k1,.inl ⟨rfl,rfl,by rw[hr,O9,if_neg (by omega)]⟩⟩
   have d4:decide (((65536:Nat):Int)<x.size)=false:=Zb h3
   obtain⟨w,hw_⟩: ∃w:Nat,x.size=(w:Int):=⟨x.size.toNat,by omega⟩
   have l1: ∀G,ld1 (some (rG 63 1 (Ta x) 0 false true true)) 1 G=.val (nI .i64 w) G:=λG=>by rw[l1,hw_];rfl
   have d3:decide (w<=0)=false:=Zb (by omega)
   have d4:decide (65536<w)=false:=Zb (by omega)
   simp(disch:=omega) only[t3,t5,t8,t9,gq,l11,ln,d1,eI,gb,eL,sf,g1,l0,l1,X4,l2,bs,ea,d2,d3,d4,Xh,Zv,Yy,YU,Zj,Zf,Zf,Zj,SP,YJ,Z9,Wn,Zy,ZH,Qr,LB,ZI,Yw,ZG,Yt,PE,DN]
   refine⟨_,_,_,rfl,.inl ⟨rfl,m,by omega,t0',tz,Dj,⟨i+1,a+w,v',rfl,rfl,rfl,by omega,by omega,by rw[hr,O9,if_pos (by omega),hw_];rfl,?_,λb hb=>by have:=hb2 b hb;omega⟩,gq2,by omega,kV⟩⟩
   rw[hpn,eR];exact w2
  ·have d2:decide (x.at_=(a:Int))=false:=Zb h1
   simp only[t5,t8,t9,gq,l11,ln,d1,eI,gb,eL,sf,g1,l0,X4,d2,Zv,Zj,Zf,Zf,Zj,SP,Y7,LB,ZI,Yw,ZG,Yt,PE,DN]
   refine⟨_,_,_,rfl,?_⟩
   exact .inr ⟨by simp,k1,.inl ⟨rfl,rfl,by rw[hr,O9,if_neg (λe=>h1 e.1)]⟩⟩
def v8(P:List Int)(i:Nat):Bool:=decide (0<=P.getD i 0)&&decide (P.getD i 0<=1099511627776)&&(decide (i=0)||decide (P.getD (i - 1) 0<P.getD i 0))
def od:Int->List Int->Bool
 |_,[]=>true
 |p,z::l=>IV p z&&od z l
theorem Dz: ∀(l:List Int) (p:Int), -1<=p->(od p l=true↔ ∀i,i<l.length->0<=l.getD i 0∧l.getD i 0<=1099511627776∧(i=0->p<l.getD 0 0)∧(1<=i->l.getD (i - 1) 0<l.getD i 0))
 |[],p,_=>⟨λ_ i hi=>by simp at hi,λ_=>rfl⟩
 |z::l,p,hp=>by
  have key:od p (z::l)=true↔(p<z∧z<=1099511627776)∧od z l=true:=by
   show(IV p z&&od z l)=true↔_
   unfold IV
   rw[Yv,Yv,decide_eq_true_iff,decide_eq_true_iff]
  rw[key]
  constructor
  ·rintro ⟨⟨h1,h2⟩,h3⟩ i hi
   have ih:=(Dz l z (by omega)).1 h3
   cases i with
   |zero=>exact⟨by show 0<=z;omega,h2,λ_=>h1,λh=>by omega⟩
   |succ i=>
    have hi:i<l.length:=by simpa using hi
    obtain⟨a,b,c,d⟩:=ih i hi
    refine⟨a,b,λh=>by omega,λ_=>?_⟩
    cases i with
    |zero=>exact c rfl
    |succ i=>exact d (by omega)
  ·intro h
   obtain⟨a,b,c,_⟩:=h 0 (by simp)
   have a:0<=z:=a
   refine⟨⟨c rfl,b⟩,(Dz l z (by omega)).2 λi hi=>?_⟩
   obtain⟨a1,b1,_,d1⟩:=h (i+1) (by simpa using hi)
   refine⟨a1,b1,λh0=>?_,λh1=>?_⟩
   ·subst h0
    exact d1 (by omega)
   ·obtain⟨i,rfl⟩: ∃j,i=j+1:=⟨i - 1,by omega⟩
    exact d1 (by omega)
theorem Bh{P:List Int}{i:Nat}:v8 P i=true↔0<=P.getD i 0∧P.getD i 0<=1099511627776∧(1<=i->P.getD (i - 1) 0<P.getD i 0):=by
 unfold v8
 rw[Yv,Yv,V7,decide_eq_true_iff,decide_eq_true_iff,decide_eq_true_iff,decide_eq_true_iff]
 constructor
 ·rintro ⟨⟨a,b⟩,c⟩
  exact⟨a,b,λh=>by rcases c with c|c;omega;exact c⟩
 ·rintro ⟨a,b,c⟩
  refine⟨⟨a,b⟩,?_⟩
  by_cases h:i=0
  ·exact .inl h
  ·exact .inr (c (by omega))
theorem Zbz{P:List Int}(h: ∀i,i<P.length->v8 P i=true):od (-1) P=true:=by
 rw[Dz _ _ (by omega)]
 intro i hi
 obtain⟨a,b,c⟩:=Bh.1 (h i hi)
 exact⟨a,b,λh0=>by subst h0;omega,c⟩
theorem rA{P:List Int}{i:Nat}(hi:i<P.length)(h:v8 P i=false):od (-1) P=false:=by
 rw[Ty]
 intro e
 obtain⟨a,b,_,d⟩:=(Dz _ _ (by omega)).1 e i hi
 rw[Bh.2 ⟨a,b,d⟩] at h;cases h
structure PLI(H0:Heap)(pv:AV)(P:List Int)(m:Nat)(tm:TM)(H:Heap):Prop where
 heap:H=H0
 t3:Xx tm=pv
 i: ∃i,YN tm=nI .i64 i∧i+m=P.length∧ ∀j,j<i->v8 P j=true
def PLQ(H0:Heap)(P:List Int)(o:Out)(tm:TM)(H:Heap):Prop:=H=H0∧((o=.ret∧Vt tm=.bool false∧od (-1) P=false)∨(o=.exit 4∧od (-1) P=true))
theorem ZbQ{pv:AV}{P:List Int}(hl:P.length<=100000){H0:Heap}(hN:Sl H0 1 pv (oh P))(cx:Ctx)(X0:X)(m:Nat)(tm:TM)(H:Heap)(hI:PLI H0 pv P m tm H):
  ∃o tm' H',LC cx tm H X0=.ok o tm' H' X0∧((o=.normal∧ ∃k,k<m∧PLI H0 pv P k tm' H')∨(o≠.normal∧PLQ H0 P o tm' H')):=by
 obtain⟨rfl,t3,i,t11,him,hn⟩:=hI
 have My:=t3
 simp only[UN] at t3
 simp only[Sy] at t11
 have ln:=hN.len
 rw[Gu] at ln
 have hlo:=hN.low (n:=H.nx) (Zo _)
 cases m with
 |zero=>
  have d1:decide (i<P.length)=false:=Zb (by omega)
  simp only[t3,t11,ln,d1,Zv,LC,ZI,Yw,Yt,jd]
  refine⟨_,_,_,rfl,?_⟩
  exact .inr ⟨by simp,rfl,.inr ⟨rfl,Zbz λj hj=>hn j (by omega)⟩⟩
 |succ m=>
  have d1:decide (i<P.length)=true:=Zd (by omega)
  have hi:i<P.length:=by omega
  obtain⟨b,o,r,eI,hb,gb,_,eE⟩:=hN.at_ (i:=i) (by rw[Gu];omega)
  have e0: ∀G,ld1 (some (.row r)) o G=.val (.int .i64 (P.getD i 0)) G:=λG=>by
   have:=eE 0 G (by decide)
   rw[eQ hi] at this;exact this
  have zH:v8 P i=true↔0<=P.getD i 0∧P.getD i 0<=1099511627776∧(1<=i->P.getD (i - 1) 0<P.getD i 0):=Bh
  have bad: ∀h: ¬(0<=P.getD i 0∧P.getD i 0<=1099511627776∧(1<=i->P.getD (i - 1) 0<P.getD i 0)),v8 P i=false:=λh=>by
   cases hk:v8 P i with
   |false=>rfl
   |true=>exact absurd (zH.1 hk) h
  generalize hz:P.getD i 0=z at*
  by_cases h1:z<((0:Nat):Int)
  ·have d2:decide (z<((0:Nat):Int))=true:=Zd h1
   simp only[t3,t11,ln,d1,eI,gb,e0,hlo,Rc,d2,Wi,Zv,Up,Zy,ZH,LC,ZI,Yw,ZG,Yl,Xm,XX,Yt,jd,qF]
   refine⟨_,_,_,rfl,?_⟩
   exact .inr ⟨by simp,rfl,.inl ⟨rfl,rfl,rA hi (bad λh=>by omega)⟩⟩
  have d2:decide (z<((0:Nat):Int))=false:=Zb h1
  by_cases h2:((1099511627776:Nat):Int)<z
  ·have d3:decide (((1099511627776:Nat):Int)<z)=true:=Zd h2
   simp only[t3,t11,ln,d1,eI,gb,e0,hlo,Rc,d2,d3,Wi,Zv,Up,Ry,Zy,ZH,LC,ZI,Yw,ZG,Yl,Xm,XX,Yt,jd,qF]
   refine⟨_,_,_,rfl,?_⟩
   exact .inr ⟨by simp,rfl,.inl ⟨rfl,rfl,rA hi (bad λh=>by omega)⟩⟩
  have d3:decide (((1099511627776:Nat):Int)<z)=false:=Zb h2
  by_cases h0:i=0
  ·have d4:decide (0<i)=false:=Zb (by omega)
   simp(disch:=omega) only[t3,t11,ln,d1,eI,gb,e0,hlo,Rc,d2,d3,d4,Zv,Yy,YU,Up,Ry,Zy,ZH,LC,ZI,Yw,ZG,Yl,Xm,XX,Yt,jd,qF]
   refine⟨_,_,_,rfl,.inl ⟨rfl,m,by omega,rfl,My,i+1,rfl,by omega,λj hj=>?_⟩⟩
   obtain rfl:j=i:=by omega
   exact zH.2 ⟨by omega,by omega,λh=>by omega⟩
  have d4:decide (0<i)=true:=Zd (by omega)
  obtain⟨b2,o2,r2,qY,hb2,nM,_,eE2⟩:=hN.at_ (i:=i - 1) (by rw[Gu];omega)
  have e2: ∀G,ld1 (some (.row r2)) o2 G=.val (.int .i64 (P.getD (i - 1) 0)) G:=λG=>by
   have:=eE2 0 G (by decide)
   rw[eQ (by omega)] at this;exact this
  by_cases h3:z<=P.getD (i - 1) 0
  ·have d5:decide (z<=P.getD (i - 1) 0)=true:=Zd h3
   simp(disch:=omega) only[t3,t11,ln,d1,eI,gb,e0,hlo,Rc,d2,d3,d4,d5,qY,nM,e2,Zv,Yy,Vp,Up,Ry,Zy,ZH,xk,LC,ZI,Yw,ZG,Yl,Xm,XX,Yt,jd,qF]
   refine⟨_,_,_,rfl,?_⟩
   exact .inr ⟨by simp,rfl,.inl ⟨rfl,rfl,rA hi (bad λh=>by have:=h.2.2 (by omega);omega)⟩⟩
  have d5:decide (z<=P.getD (i - 1) 0)=false:=Zb h3
  simp(disch:=omega) only[t3,t11,ln,d1,eI,gb,e0,hlo,Rc,d2,d3,d4,d5,qY,nM,e2,Zv,Yy,Vp,YU,Up,Ry,Zy,ZH,xk,LC,ZI,Yw,ZG,Yl,Xm,XX,Yt,jd,qF]
  refine⟨_,_,_,rfl,.inl ⟨rfl,m,by omega,rfl,My,i+1,rfl,by omega,λj hj=>?_⟩⟩
  by_cases e:j=i
  ·rw[e];exact zH.2 ⟨by omega,by omega,λ_=>by omega⟩
  ·exact hn j (by omega)
theorem um: ∀(l:List I3) (p:Int),(match Kp p l with|some _=>true|none=>false)=od p (l.map I3.place)
 |[],p=>rfl
 |x::l,p=>by
  show(match(if IV p x.place=true then Kp x.place l else none) with|some _=>true|none=>false)=(IV p x.place&&od x.place (l.map I3.place))
  cases IV p x.place with
  |true=>rw[if_pos rfl,Xf];exact um l x.place
  |false=>rfl
theorem C5(e:V0):P0 [e]=(Vs e&&od (-1) (P2 e e.chunks.length)):=by
 unfold P0
 rw[yw]
 have h1:vq none e=true:=rfl
 have h2:decide (([e]:List V0).length<=4096)=true:=rfl
 rw[h1,h2,Sp,Sp]
 have h3:od (-1) (P2 e e.chunks.length)=(IV (-1) e.head&&od e.head (e.chunks.map I3.place)):=by
  unfold P2;rw[Xg];rfl
 rw[h3,<-um,Bool.and_assoc]
 cases Kp e.head e.chunks with
 |none=>rfl
 |some p=>rfl
theorem xy(k:IntKind)(a:Nat)(b:Int)(H:Heap):Iz Uk true (nI k a) (.int k b) H=.val (.bool (!decide ((a:Int)=b))) H:=by
 show UU (cond (Nl k k) (some (Fc (Int.ofNat a) b)) none) _=_
 rw[X3,Pj]
 show So (cond ((a:Int)==b) false true) H=_
 rw[Dq]
 cases decide ((a:Int)=b)<;>rfl
def TLI(Hs:Heap)(ev:AV)(e:V0)(m:Nat)(tm:TM)(H:Heap):Prop:=Yu tm=ev∧((m=1∧H=Hs∧Xu tm=nI .i64 0∧Xx tm=.nils)∨(m=0∧Xu tm=nI .i64 1∧Zw Hs H []∧Vs e=true∧ ∃pv,Xx tm=pv∧RG H pv 2 1 (oh (P2 e e.chunks.length)) Hs.nx))
def TLQ(Hs:Heap)(e:V0)(o:Out)(tm:TM)(H:Heap):Prop:=Zw Hs H []∧((o=.ret∧Vt tm=.bool false∧Vs e=false)∨(o=.exit 0∧Vs e=true∧ ∃pv,Xx tm=pv∧RG H pv 2 1 (oh (P2 e e.chunks.length)) Hs.nx))
theorem Zb6{Zr:Lib}{fs:T CF}{fuel:Nat}(E:Env Zr fs fuel){n:Nat}{ev:AV}{cs:List AV}{e:V0}(hs:Oi e)(hk:e.mem.link.length<=90000){Hs:Heap}(hro:Hs.ro<=Hs.nx)(hV:Sl Hs 12 ev [cs])(hE:JR Hs cs e)(y f dd qq)(hdd:fuel=dd)(X0:X)(m:Nat)(tm:TM)(H:Heap)(hI:TLI Hs ev e m tm H):
  ∃o tm' H',Oj ⟨ZU (LK Zr fs fuel 6) fs fuel (n+1),y,f,dd,qq⟩ tm H X0=.ok o tm' H' X0∧((o=.normal∧ ∃k,k<m∧TLI Hs ev e k tm' H')∨(o≠.normal∧TLQ Hs e o tm' H')):=by
 subst hdd
 have hf:=E.big
 obtain⟨t0,z⟩:=hI
 have t0':=t0
 simp only[VF] at t0
 have ln: ∀G,Oy ev G=.val (nI .i64 1) G:=λG=>hV.len G
 rcases z with⟨rfl,rfl,t4,t3⟩|⟨rfl,t4,k0,hsh,pv,t3,hw⟩
 ·have tz:=t4
  simp only[Tb] at t4
  simp only[UN] at t3
  have d1:decide (0<1)=true:=rfl
  obtain⟨bb,o,r,eI,hb,gb,eL,eE⟩:=hV.at_ (i:=0) (Yo 0)
  have eL: ∀G,wh 12 (some (.row r)) o G=.val (.agg cs) G:=eL
  obtain⟨av,dv,cv,ecs,hA,hD,hC0⟩:=hE
  rw[ecs] at eL
  obtain⟨H1,hH1⟩: ∃G,H.new (rG 42 1 [.str e.mem.path,.int .i64 e.mem.kind,nI .u32 e.mem.mode,nI .u32 e.mem.uid,nI .u32 e.mem.gid,.int .i64 e.mem.time,av,dv,.str e.mem.link,.int .i64 e.size,.int .i64 e.head,cv] 0 false true true)=G:=⟨_,rfl⟩
  have k1:Zw H H1 []:=by rw[<-hH1];exact Zw.new _ _ _
  have Lb:H1.nx=H.nx+1:=by rw[<-hH1];rfl
  have qa:H1.ro<=H1.nx:=by rw[k1.ro];exact ZX hro k1.nx
  have gE:H1.t.get H.nx=some (enO e av dv cv):=by rw[<-hH1];exact Yi rfl _
  have g1:H1.t.get H.nx=some (rG 42 1 [.str e.mem.path,.int .i64 e.mem.kind,nI .u32 e.mem.mode,nI .u32 e.mem.uid,nI .u32 e.mem.gid,.int .i64 e.mem.time,av,dv,.str e.mem.link,.int .i64 e.size,.int .i64 e.head,cv] 0 false true true):=gE
  have sf:=U4 (n:=12) (b:=H.nx) (l:=[.str [],nI .i64 0,nI .u32 0,nI .u32 0,nI .u32 0,nI .i64 0,.nils,.nils,.str [],nI .i64 0,nI .i64 0,.nils]) (vs:=[.str e.mem.path,.int .i64 e.mem.kind,nI .u32 e.mem.mode,nI .u32 e.mem.uid,nI .u32 e.mem.gid,.int .i64 e.mem.time,av,dv,.str e.mem.link,.int .i64 e.size,.int .i64 e.head,cv]) (H:=H.new (rG 42 1 [.str [],nI .i64 0,nI .u32 0,nI .u32 0,nI .u32 0,nI .i64 0,.nils,.nils,.str [],nI .i64 0,nI .i64 0,.nils] 0 false true true)) rfl rfl (by decide) (by show H.ro<=_;exact hro) 42 1 false true
  rw[Us rfl,hH1] at sf
  have ec:=λ{j}=>jL E (k:=6) (n:=j) (by decide) (s:=e.mem.path) (H:=H1) hs.mem.path qa
  rw[AK] at ec
  have em:=λ{j}=>aY E (k:=6) (n:=j) (by decide) (cs:=[.str e.mem.path,.int .i64 e.mem.kind,nI .u32 e.mem.mode,nI .u32 e.mem.uid,nI .u32 e.mem.gid,.int .i64 e.mem.time,av,dv,.str e.mem.link]) (m:=e.mem) (H:=H1) hs.mem hk qa ⟨av,dv,rfl,hA.keep0 k1,hD.keep0 k1⟩
  have lnd:=hD.len
  rw[TI] at lnd
  obtain⟨v',H2,ea,w2,k2,hb2,n2⟩:=Br (bytes:=8) (e:=2) (sz:=1) (lo:=H.nx) (ls:=oh []) (v:=.nils) (H:=H1) (.inl ⟨rfl,rfl⟩) (by decide) (by decide) (by rw[Gu];decide) qa (by omega) (x:=[.int .i64 e.head]) rfl
  have bs:=λ(z:Int) (G:Heap)=>Sg 2 (nI .i64 0) (.int .i64 z) rfl G
  have kV:Zw H H2 []:=k1.trans k2 λy hy hlt=>by cases hy
  have gE2:H2.t.get H.nx=some (enO e av dv cv):=by rw[k2.get _ (by omega) (by intro h;cases h)];exact gE
  by_cases h1:(Y8 e.mem.path).1<1
  ·have d2:decide ((Y8 e.mem.path).1<1)=true:=Zd h1
   simp(disch:=first|assumption|omega|(simp -implicitDefEqProofs only[Y3,Y4]<;>first|assumption|omega)|decide) only[t0,t4,ln,eI,gb,eL,sf,g1,ec,Yf,d1,d2,Zv,Zj,Zj,Zn,Zv,Oj,ZI,Yw,ZG,Yt,Vf,]
   refine⟨_,_,_,rfl,?_⟩
   exact .inr ⟨by simp,k1,.inl ⟨rfl,rfl,by unfold Vs;rw[Zb (show ¬1<=(Y8 e.mem.path).1 by omega)];simp⟩⟩
  have d2:decide ((Y8 e.mem.path).1<1)=false:=Zb h1
  by_cases h2:3<(Y8 e.mem.path).1
  ·have d3:decide (3<(Y8 e.mem.path).1)=true:=Zd h2
   simp(disch:=first|assumption|omega|(simp -implicitDefEqProofs only[Y3,Y4]<;>first|assumption|omega)|decide) only[t0,t4,ln,eI,gb,eL,sf,g1,ec,Yf,d1,d2,d3,Zv,Yy,Zj,Zj,Zn,Zv,Yy,Oj,ZI,Yw,ZG,Yt,Vf,]
   refine⟨_,_,_,rfl,?_⟩
   exact .inr ⟨by simp,k1,.inl ⟨rfl,rfl,by unfold Vs;rw[Zb (show ¬(Y8 e.mem.path).1<=3 by omega)];simp⟩⟩
  have d3:decide (3<(Y8 e.mem.path).1)=false:=Zb h2
  cases hm:Wu e.mem with
  |false=>
   rw[hm] at em
   simp(disch:=first|assumption|omega|(simp -implicitDefEqProofs only[Y3,Y4]<;>first|assumption|omega)|decide) only[t0,t4,ln,eI,gb,eL,sf,g1,ec,em,Yf,Xo,d1,d2,d3,Zv,Yy,Zj,Zj,Zz,ZA,ZJ,Zn,Zv,Yy,Oj,ZI,Yw,ZG,Yl,Yt,Vf,]
   refine⟨_,_,_,rfl,?_⟩
   exact .inr ⟨by simp,k1,.inl ⟨rfl,rfl,by unfold Vs;rw[hm];simp⟩⟩
  |true=>
   rw[hm] at em
   by_cases h3:0<e.mem.data.length
   ·have d4:decide (0<e.mem.data.length)=true:=Zd h3
    simp(disch:=first|assumption|omega|(simp -implicitDefEqProofs only[Y3,Y4]<;>first|assumption|omega)|decide) only[t0,t4,ln,eI,gb,eL,sf,g1,ec,em,lnd,Yf,Xo,d1,d2,d3,d4,Zv,Yy,Nat.reduceAdd,Zj,Zf,Zf,Zj,Zz,ZA,ZJ,Zn,Zq,Zv,Yy,Oj,ZI,Yw,ZG,Yl,Yt,Vf,]
    refine⟨_,_,_,rfl,?_⟩
    exact .inr ⟨by simp,k1,.inl ⟨rfl,rfl,by unfold Vs;rw[Zb (show ¬e.mem.data.length=0 by omega)];simp⟩⟩
   have d4:decide (0<e.mem.data.length)=false:=Zb h3
   by_cases h4:e.size<((0:Nat):Int)
   ·have d5:decide (e.size<((0:Nat):Int))=true:=Zd h4
    simp(disch:=first|assumption|omega|(simp -implicitDefEqProofs only[Y3,Y4]<;>first|assumption|omega)|decide) only[t0,t4,ln,eI,gb,eL,sf,g1,ec,em,lnd,Yf,Xo,d1,d2,d3,d4,d5,Wi,Zv,Yy,Nat.reduceAdd,XT,decide_false,Zj,Zf,Zf,Zj,Zz,ZA,ZJ,Zn,Zq,Up,Zy,ZH,Zv,Yy,Oj,ZI,Yw,ZG,Yl,Xm,Yt,Vf,PE,]
    refine⟨_,_,_,rfl,?_⟩
    exact .inr ⟨by simp,k1,.inl ⟨rfl,rfl,by unfold Vs;rw[Zb (show ¬0<=e.size by omega)];simp⟩⟩
   have d5:decide (e.size<((0:Nat):Int))=false:=Zb h4
   by_cases h5:((16777216:Nat):Int)<e.size
   ·have d6:decide (((16777216:Nat):Int)<e.size)=true:=Zd h5
    simp(disch:=first|assumption|omega|(simp -implicitDefEqProofs only[Y3,Y4]<;>first|assumption|omega)|decide) only[t0,t4,ln,eI,gb,eL,sf,g1,ec,em,lnd,Yf,Xo,d1,d2,d3,d4,d5,d6,Wi,Zv,Yy,Nat.reduceAdd,XT,decide_false,Zj,Zf,Zf,Zj,Zz,ZA,ZJ,Zn,Zq,Up,Ry,Zy,ZH,Zv,Yy,Oj,ZI,Yw,ZG,Yl,Xm,Yt,Vf,PE,]
    refine⟨_,_,_,rfl,?_⟩
    exact .inr ⟨by simp,k1,.inl ⟨rfl,rfl,by unfold Vs;rw[Zb (show ¬e.size<=16777216 by omega)];simp⟩⟩
   have d6:decide (((16777216:Nat):Int)<e.size)=false:=Zb h5
   by_cases h6:e.size=((0:Nat):Int)
   ·have d7:decide (e.size=((0:Nat):Int))=true:=Zd h6
    have hor:(decide (e.size<=0)||decide (e.mem.kind=2))=true:=by rw[Zd (show e.size<=0 by omega)];rfl
    have hS:Vs e=(match O9 0 e.chunks with|some a=>decide ((a:Int)=e.size)|none=>false):=by
     unfold Vs
     rw[hm,Zd (show e.mem.data.length=0 by omega),Zd (show 1<=(Y8 e.mem.path).1 by omega),Zd (show(Y8 e.mem.path).1<=3 by omega),Zd (show 0<=e.size by omega),Zd (show e.size<=16777216 by omega),hor];rfl
    simp(disch:=first|assumption|omega|(simp -implicitDefEqProofs only[Y3,Y4]<;>first|assumption|omega)|decide) only[t0,t4,ln,eI,gb,eL,sf,g1,ec,em,lnd,Yf,Xo,d1,d2,d3,d4,d5,d6,d7,t3,bs,ea,Zv,Yy,Nat.reduceAdd,XT,decide_false,Zj,Zf,Zf,Zj,Zz,ZA,ZJ,Zn,Zq,SP,Up,Ry,YJ,Z9,Wn,Zy,ZH,Qr,Zv,Yy,Oj,ZI,Yw,ZG,Yl,Xm,Yt,Vf,PE,]
    generalize hL:XD (LB _) fuel _ _ _=Lp
    obtain⟨oc,Nb,H3,rfl,_,k3,z⟩:=YG (P:=λT=>PCI H H.nx ev e av dv cv e.chunks.length T H2) (Q:=PCQ H H.nx ev e av dv cv)
     (λT hi=>YX (PCI H H.nx ev e av dv cv) (PCQ H H.nx ev e av dv cv) (λm tm H3 h=>og hs.chunks hs.sums (Zo _) hro (λG k=>hC0.keep0 k) _ _ m tm H3 h) fuel e.chunks.length T H2 (by have:=hs.chunks;omega) hi) hL
     (by exact⟨t0',tz,rfl,⟨0,0,v',rfl,rfl,rfl,by omega,by omega,rfl,w2,λb hb=>by have:=hb2 b hb;omega⟩,gE2,by omega,kV⟩)
    rcases z with⟨rfl,t2,er⟩|⟨rfl,t0,t4,t5,g3,a,pv,t8,t3,er,hw⟩
    ·refine⟨_,_,_,rfl,?_⟩
     exact .inr ⟨by simp,k3,.inl ⟨rfl,t2,by rw[hS,er]⟩⟩
    ·have t0'':=t0;have t3'':=t3
     simp only[VF] at t0
     simp only[Tb] at t4
     simp only[Ss] at t5
     simp only[MI] at t8
     have g3':H3.t.get H.nx=some (rG 42 1 [.str e.mem.path,.int .i64 e.mem.kind,nI .u32 e.mem.mode,nI .u32 e.mem.uid,nI .u32 e.mem.gid,.int .i64 e.mem.time,av,dv,.str e.mem.link,.int .i64 e.size,.int .i64 e.head,cv] 0 false true true):=g3
     rw[er] at hS
     have hS:Vs e=decide ((a:Int)=e.size):=hS
     by_cases h9:(a:Int)=e.size
     ·have d9:decide ((a:Int)=e.size)=true:=Zd h9
      rw[d9] at hS
      simp(disch:=first|assumption|omega|(simp -implicitDefEqProofs only[Y3,Y4]<;>first|assumption|omega)|decide) only[t4,t5,t8,g3',d9,Yf,YU,Zf,Zf,Zn,Zq,YJ,xy,ZI,Yw,Yt,DN,jd]
      refine⟨_,_,_,rfl,?_⟩
      exact .inl ⟨rfl,0,by omega,t0'',.inr ⟨rfl,rfl,k3,hS,pv,t3'',hw⟩⟩
     ·have d9:decide ((a:Int)=e.size)=false:=Zb h9
      rw[d9] at hS
      simp(disch:=first|assumption|omega|(simp -implicitDefEqProofs only[Y3,Y4]<;>first|assumption|omega)|decide) only[t5,t8,g3',d9,Yf,Zf,Zf,Zn,Zq,Y7,xy,ZI,Yw,Yt,DN,jd]
      refine⟨_,_,_,rfl,?_⟩
      exact .inr ⟨by simp,k3,.inl ⟨rfl,rfl,hS⟩⟩
   have d7:decide (e.size=((0:Nat):Int))=false:=Zb h6
   by_cases h7:e.mem.kind=((2:Nat):Int)
   ·have d8:decide (e.mem.kind=((2:Nat):Int))=true:=Zd h7
    have hor:(decide (e.size<=0)||decide (e.mem.kind=2))=true:=by rw[show decide (e.mem.kind=2)=true from d8,Bool.or_true]
    have hS:Vs e=(match O9 0 e.chunks with|some a=>decide ((a:Int)=e.size)|none=>false):=by
     unfold Vs
     rw[hm,Zd (show e.mem.data.length=0 by omega),Zd (show 1<=(Y8 e.mem.path).1 by omega),Zd (show(Y8 e.mem.path).1<=3 by omega),Zd (show 0<=e.size by omega),Zd (show e.size<=16777216 by omega),hor];rfl
    simp(maxSteps:=4000000) (disch:=first|assumption|omega|(simp -implicitDefEqProofs only[Y3,Y4]<;>first|assumption|omega)|decide) only[t0,t4,ln,eI,gb,eL,sf,g1,ec,em,lnd,Yf,Xo,d1,d2,d3,d4,d5,d6,d7,d8,t3,bs,ea,Zv,Yy,Nat.reduceAdd,XT,decide_false,Zj,Zf,Zf,Zj,Zz,ZA,ZJ,Zn,Zq,SP,Up,Ry,YJ,Y7,Z9,Wn,Zy,ZH,Qr,Zv,Yy,Oj,ZI,Yw,ZG,Yl,Xm,Yt,Vf,PE,]
    generalize hL:XD (LB _) fuel _ _ _=Lp
    obtain⟨oc,Nb,H3,rfl,_,k3,z⟩:=YG (P:=λT=>PCI H H.nx ev e av dv cv e.chunks.length T H2) (Q:=PCQ H H.nx ev e av dv cv)
     (λT hi=>YX (PCI H H.nx ev e av dv cv) (PCQ H H.nx ev e av dv cv) (λm tm H3 h=>og hs.chunks hs.sums (Zo _) hro (λG k=>hC0.keep0 k) _ _ m tm H3 h) fuel e.chunks.length T H2 (by have:=hs.chunks;omega) hi) hL
     (by exact⟨t0',tz,rfl,⟨0,0,v',rfl,rfl,rfl,by omega,by omega,rfl,w2,λb hb=>by have:=hb2 b hb;omega⟩,gE2,by omega,kV⟩)
    rcases z with⟨rfl,t2,er⟩|⟨rfl,t0,t4,t5,g3,a,pv,t8,t3,er,hw⟩
    ·refine⟨_,_,_,rfl,?_⟩
     exact .inr ⟨by simp,k3,.inl ⟨rfl,t2,by rw[hS,er]⟩⟩
    ·have t0'':=t0;have t3'':=t3
     simp only[VF] at t0
     simp only[Tb] at t4
     simp only[Ss] at t5
     simp only[MI] at t8
     have g3':H3.t.get H.nx=some (rG 42 1 [.str e.mem.path,.int .i64 e.mem.kind,nI .u32 e.mem.mode,nI .u32 e.mem.uid,nI .u32 e.mem.gid,.int .i64 e.mem.time,av,dv,.str e.mem.link,.int .i64 e.size,.int .i64 e.head,cv] 0 false true true):=g3
     rw[er] at hS
     have hS:Vs e=decide ((a:Int)=e.size):=hS
     by_cases h9:(a:Int)=e.size
     ·have d9:decide ((a:Int)=e.size)=true:=Zd h9
      rw[d9] at hS
      simp(disch:=first|assumption|omega|(simp -implicitDefEqProofs only[Y3,Y4]<;>first|assumption|omega)|decide) only[t4,t5,t8,g3',d9,Yf,YU,Zf,Zf,Zn,Zq,YJ,xy,ZI,Yw,Yt,DN,jd]
      refine⟨_,_,_,rfl,?_⟩
      exact .inl ⟨rfl,0,by omega,t0'',.inr ⟨rfl,rfl,k3,hS,pv,t3'',hw⟩⟩
     ·have d9:decide ((a:Int)=e.size)=false:=Zb h9
      rw[d9] at hS
      simp(disch:=first|assumption|omega|(simp -implicitDefEqProofs only[Y3,Y4]<;>first|assumption|omega)|decide) only[t5,t8,g3',d9,Yf,Zf,Zf,Zn,Zq,Y7,xy,ZI,Yw,Yt,DN,jd]
      refine⟨_,_,_,rfl,?_⟩
      exact .inr ⟨by simp,k3,.inl ⟨rfl,rfl,hS⟩⟩
   have d8:decide (e.mem.kind=((2:Nat):Int))=false:=Zb h7
   simp(disch:=first|assumption|omega|(simp -implicitDefEqProofs only[Y3,Y4]<;>first|assumption|omega)|decide) only[t0,t4,ln,eI,gb,eL,sf,g1,ec,em,lnd,Yf,Xo,d1,d2,d3,d4,d5,d6,d7,d8,Zv,Yy,Nat.reduceAdd,XT,decide_false,Zj,Zf,Zf,Zj,Zz,ZA,ZJ,Zn,Zq,SP,Up,Ry,Y7,Zy,ZH,Zv,Yy,Oj,ZI,Yw,ZG,Yl,Xm,Yt,Vf,PE,]
   refine⟨_,_,_,rfl,?_⟩
   exact .inr ⟨by simp,k1,.inl ⟨rfl,rfl,by unfold Vs;rw[Zb (show ¬e.size<=0 by omega),show decide (e.mem.kind=2)=false from d8];simp⟩⟩
 ·have My:=t3
  simp only[Tb] at t4
  simp(disch:=first|assumption|omega|(simp -implicitDefEqProofs only[Y3,Y4]<;>first|assumption|omega)|decide) only[t0,t4,ln,Zv,XT,decide_false,Zv,Oj,ZI,Yw,Yt,]
  refine⟨_,_,_,rfl,?_⟩
  exact .inr ⟨by simp,k0,.inr ⟨rfl,hsh,pv,My,hw⟩⟩
theorem wO{Zr:Lib}{fs:T CF}{fuel:Nat}(E:Env Zr fs fuel){n:Nat}{ev:AV}{cs:List AV}{e:V0}{H:Heap}(hs:Oi e)(hk:e.mem.link.length<=90000)(hro:H.ro<=H.nx)(hV:Sl H 12 ev [cs])(hE:JR H cs e):
  ∃H',ZU (LK Zr fs fuel 6) fs fuel (n+2) 16 [ev] H=.ret (.bool (P0 [e])) H'∧Zw H H' []:=by
 rw[Z4 (Z3 E.n16 (.inl (by decide)) _ _) E.f16]
 have hf:=E.big
 have ln: ∀G,Oy ev G=.val (nI .i64 1) G:=λG=>hV.len G
 have d0:decide (4096<1)=false:=rfl
 simp only[ln,d0,Yy,Yy,c16,ZI,Yw,Yt]
 generalize hL:XD (Oj _) fuel _ _ _=Lp
 obtain⟨oc,Nb,H1,rfl,_,k1,z⟩:=YG (P:=λT=>TLI H ev e 1 T H) (Q:=TLQ H e)
  (λT hi=>YX (TLI H ev e) (TLQ H e) (λm tm H3 h=>Zb6 E hs hk hro hV hE _ _ _ _ rfl _ m tm H3 h) fuel 1 T H (by omega) hi) hL
  (by exact⟨rfl,.inl ⟨rfl,rfl,rfl,rfl⟩⟩)
 rw[C5]
 rcases z with⟨rfl,t2,e1⟩|⟨rfl,e1,pv,t3,hw⟩
 ·simp only[Sk] at t2
  rw[e1]
  simp only[t2,ZI,ZG,Yt]
  refine⟨_,rfl,?_⟩
  exact k1
 ·rw[e1,Xf]
  have My:=t3
  simp only[UN] at t3
  have hN:=Sl.of_buf hw
  have hpl:=zL e e.chunks.length
  have hc:=hs.chunks
  simp only[ZI,Yt]
  generalize hL:XD (LC _) fuel _ _ _=Lp
  obtain⟨oc,tC,H2,rfl,_,rfl,z⟩:=YG (P:=λT=>PLI H1 pv (P2 e e.chunks.length) (P2 e e.chunks.length).length T H1) (Q:=PLQ H1 (P2 e e.chunks.length))
   (λT hi=>YX (PLI H1 pv (P2 e e.chunks.length)) (PLQ H1 (P2 e e.chunks.length)) (λm tm H3 h=>ZbQ (by omega) hN _ _ m tm H3 h) fuel (P2 e e.chunks.length).length T H1 (by omega) hi) hL
   (by exact⟨rfl,My,0,rfl,by omega,λj hj=>by omega⟩)
  rcases z with⟨rfl,t2,e2⟩|⟨rfl,e2⟩
  ·simp only[Sk] at t2
   rw[e2]
   simp only[t2,ZI,ZG,Yt]
   refine⟨_,rfl,?_⟩
   exact k1
  ·rw[e2]
   simp only[ZI,Yw,ZG,Yt]
   refine⟨_,rfl,?_⟩
   exact k1
theorem Zac{Zr:Lib}{fs:T CF}{fuel:Nat}(E:Env Zr fs fuel){k n:Nat}(hk7:7<=k){ev:AV}{cs:List AV}{e:V0}{H:Heap}(hs:Oi e)(hk:e.mem.link.length<=90000)(hro:H.ro<=H.nx)(hV:Sl H 12 ev [cs])(hE:JR H cs e):
  ZU (LK Zr fs fuel k) fs fuel (n+1) 16 [ev] H=.ret (.bool (P0 [e])) H:=by
 obtain⟨H',e,g⟩:=wO E (n:=898) (H:=H) hs hk hro hV hE
 exact YI (r:=6) rfl rfl e g (rfl) hk7
theorem Sz.src{H:Heap}{sz:Nat}{v:AV}{ls:List (List AV)}(h:Sz H sz v ls)(hsz:1<=sz)(k:Nat->List AV->OR):(xm v λn=>VV H sz v n λnew=>k n new)=k ls.length ls.flatten:=by
 rcases h with⟨rfl,rfl⟩|⟨he,⟨rfl,rfl⟩|⟨b,o,c,rfl,hb,h2⟩⟩
 ·rfl
 ·rfl
 ·show(VV H sz (.slice b o ls.length c) ls.length λnew=>k ls.length new)=_
  unfold VV
  rw[Yp]
  by_cases h0:ls.length=0
  ·have:ls=[]:=YR.1 h0
   subst this;rfl
  ·rw[Zb h0]
   have hne:ls≠[]:=λe=>h0 (by rw[e];rfl)
   obtain⟨r,h3,h4,h5⟩:=h2 hne
   have hf:=AI.flat_len he
   show XB H b (λr=>ZP (Nat.ble (o+ls.length*sz) r.size) (k ls.length (VB r o (ls.length*sz))))=_
   unfold XB
   rw[h3]
   show ZP (Nat.ble (o+ls.length*sz) r.size) (k ls.length (VB r o (ls.length*sz)))=_
   rw[Zl h4]
   have:VB r o (ls.length*sz)=ls.flatten:=by
    refine WS λj=>?_
    by_cases hj:j<ls.length*sz
    ·rw[Qp r _ o j hj,h5 j hj,Ze,Zk (by omega)];rfl
    ·rw[YP (by rw[Qq];omega),YP (by omega)]
   rw[this];rfl
theorem tN{H:Heap}{e sz bytes:Nat}{a v:AV}{ls:List (List AV)}(h:Sz H sz v ls)(hsz:1<=sz)(hb:1<=bytes):U0 e sz bytes a v H=MW a e sz bytes H ls.length ls.flatten:=by
 show ZP (Nat.ble 1 sz) (ZP (Nat.ble 1 bytes) _)=_
 rw[Zl hsz,Zl hb]
 exact h.src hsz λn new=>MW a e sz bytes H n new
theorem aS{H:Heap}{e sz bytes:Nat}{v:AV}{ls:List (List AV)}(h:Sz H sz v ls)(hsz:1<=sz)(hb:1<=bytes)(hl:ls.length*bytes<=140737488355328):
  (U0 e sz bytes (.slice H.nx 0 0 none) v (H.new (rG e sz [] 0 false true true))=.val (.slice H.nx 0 0 none) (H.new (rG e sz [] 0 false true true))∧ls=[])∨
  (U0 e sz bytes (.slice H.nx 0 0 none) v (H.new (rG e sz [] 0 false true true))=.val (.slice (H.nx+1) 0 ls.length none) ((H.new (rG e sz [] 0 false true true)).new (rG e sz ls.flatten 0 false true false))∧ls≠[]):=by
 have hk:Zw H (H.new (rG e sz [] 0 false true true)) []:=Zw.new _ _ _
 rw[tN (h.keep0 hk) hsz hb]
 have gn:(H.new (rG e sz [] 0 false true true)).t.get H.nx=some (rG e sz [] 0 false true true):=Yi rfl _
 by_cases h0:ls.length=0
 ·have:ls=[]:=YR.1 h0
  subst this
  refine .inl ⟨?_,rfl⟩
  show XB _ H.nx _=_
  unfold XB
  rw[gn]
  show ZP (Nat.beq sz sz) (cond (Nat.ble (0+0) (VI ⟨e,sz,YL ([]:List AV),T.ofList [],.unk,0,false,true,true⟩ 0 none)) (DX _ _ _ _ _ _ _ _ _ _) _)=_
  rw[Ys,Zf,Zl (Ym _)]
  rfl
 ·refine .inr ⟨?_,λe=>h0 (by rw[e];rfl)⟩
  show XB _ H.nx _=_
  unfold XB
  rw[gn]
  have hcap:VI ⟨e,sz,YL ([]:List AV),T.ofList [],.unk,0,false,true,true⟩ 0 none=0:=by
   show cond (Nat.beq sz 1) (0 - 0) ((0 - 0)/sz)=0
   cases Nat.beq sz 1
   ·exact Nat.zero_div _
   ·rfl
  show ZP (Nat.beq sz sz) (cond (Nat.ble (0+ls.length) (VI ⟨e,sz,YL ([]:List AV),T.ofList [],.unk,0,false,true,true⟩ 0 none)) _ (Lz _ e H.nx 0 0 ls.length sz bytes none ⟨e,sz,YL ([]:List AV),T.ofList [],.unk,0,false,true,true⟩ ls.flatten))=_
  rw[Ys,hcap,show Nat.ble (0+ls.length) 0=false by
   cases hq:Nat.ble (0+ls.length) 0 with
   |false=>rfl
   |true=>have:=ZT hq;omega]
  show ZP (Nat.ble ((0+ls.length)*bytes) 140737488355328) (ZP (Nat.ble (0+0*sz) 0) (ZP (Nat.beq (0 % sz) 0) (OR.val (.slice (H.nx+1) 0 (0+ls.length) none) (Heap.newRow (H.new (rG e sz [] 0 false true true)) e sz (VB _ 0 (0*sz)++ls.flatten) false))))=_
  rw[Zf,Zl hl,W4,Nat.zero_mod]
  rfl
end
end Go.AI
