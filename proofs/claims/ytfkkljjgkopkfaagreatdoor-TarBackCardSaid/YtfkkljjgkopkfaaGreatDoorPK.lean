/- Paths made clean: walked; proved, conditions as named. -/
import Derived.Test.YtfkkljjgkopkfaaGreatDoorPR
import Derived.Test.YtfkkljjgkopkfaaGreatDoorPB
set_option maxRecDepth 1000000
set_option maxHeartbeats 0
set_option linter.all false
namespace Go.AI
open Go
noncomputable section
section
variable {Zq:Lib} {fs:T CF} {Zk k n i h b:Nat} {H H0:Heap} {s:Zd} {cs:List AV}
def Zaw(H:Heap)(m:Zd):Src H (.str m) (m.map Vk):=by
 intro k;show Ww H 1 (.str m) (YN m) (λnew=>k (YN m) new)=_;rw[Yw,Zx];have e:Hz m=m.map Vk:=by rw[Fj];rfl
 unfold Ww;cases m with
 |nil=>rfl
 |cons x m=>
  rw[ZL,Yl,Zc (by omega)];show ZJ (Nat.beq 1 1) (k (m.length+1) (Hz (Lj (m.length+1) (x::m))))=_;rw[OP,Z1 (by simp),e];rfl
structure Bld(H:Heap)(sb:Nat)(l:Zd):Prop where
 low:sb<H.nx
 ro:H.ro<=sb
 ok: ∃a buf,H.t.get sb=some (rH 141 [a,buf])∧Buf H buf l (sb+1)∧(a=.nilp∨a=.ptr sb 0)
def Bld.new(hro:H.ro<=H.nx):Bld (H.new (rH 141 [.nilp,.nils])) H.nx []:=⟨ZU _,hro,.nilp,.nils,ZR rfl _,.inl ⟨rfl,rfl⟩,.inl rfl⟩
def Bld.keep{H H':Heap}{sb:Nat}{l:Zd}(b:Bld H sb l)(k:Zu H H' []):Bld H' sb l:=by
 obtain⟨a,buf,g,h,ha⟩:=b.ok;exact⟨ZK b.low k.nx,by rw[k.ro];exact b.ro,a,buf,by rw[k.get _ b.low (by simp)];exact g,h.below (λc _ hc=>k.get c hc (by simp)) k.ro k.nx,ha⟩
def Below.keep{H0 H H':Heap}(k:Zu H0 H [])(b:Below n H H')(h:H0.nx<=n):Zu H0 H' []:=Zu.below k b h
def yz(E:Env Zq fs Zk){sb:Nat}{a buf:AV}(g:H.t.get sb=some (rH 141 [a,buf]))(hro:H.ro<=sb)(ha:a=.nilp∨a=.ptr sb 0):
  ZA (LK Zq fs Zk k) fs Zk (n+2) 127 [.ptr sb 0] H=.ret (.tup []) (H.put sb (rH 141 [.ptr sb 0,buf])):=by
 rw[Z5 E.f127 (.inr rfl)];have p1:Zgo (.ptr sb 0) H=.val (.ptr sb 0) H:=by
  show Yx H sb _=_;unfold Yx;rw[g];rfl
 have p2:Zgn 141 2 (.ptr sb 0) H=.val (.ptr sb 0) H:=by
  show Yx H sb _=_;unfold Yx;rw[g];show ZJ (Nat.beq 141 141) _=_;rw[YD];rfl
 have en:=λ{j}=>Qh (Zq:=Zq) (fs:=fs) (Zk:=Zk) (Ta:=Ta) (Se:=Se) (k:=k) (n:=j) (f:=155) rfl (E.nesc (.ptr sb 0) H);rcases ha with rfl|rfl
 ·simp(disch:=first|assumption|omega|(simp -implicitDefEqProofs only[VV,VW]<;>first|assumption|omega)|decide) only[g,nv,EF,p1,en,EE,p2,XQ,Te,Zc8,ZG,Yj,Zz,Yc,Yg]
 ·rw[FE g]
  simp(disch:=first|assumption|omega|(simp -implicitDefEqProofs only[VV,VW]<;>first|assumption|omega)|decide) only[g,Zds,an,XQ,Zc8,ZG,Yj,Zz,Yc,Yg]
def tw(H:Heap)(v:AV)(N:Nat)(l:Zd)(lo:Nat):Prop:=
 ∃b r,v=.slice b 0 l.length none∧lo<=b∧b<H.nx∧H.ro<=b∧H.t.get b=some (.row r)∧r.elem=5∧r.sz=1∧r.size=N∧r.own=true∧r.sm=false∧r.fz=0∧ ∀i,i<l.length->r.get i=(l.map Vk).getD i .unk
def tw.below{H H':Heap}{v:AV}{N:Nat}{l:Zd}{lo:Nat}(h:tw H v N l lo)(hg: ∀c,lo<=c->c<H.nx->H'.t.get c=H.t.get c)(hr:H'.ro=H.ro)(hn:H.nx<=H'.nx):tw H' v N l lo:=by
 obtain⟨b,r,e,h1,h2,h3,h4,h5⟩:=h;exact⟨b,r,e,h1,ZK h2 hn,by rw[hr];exact h3,by rw[hg b h1 h2];exact h4,h5⟩
def mR{v:AV}{N:Nat}{l:Zd}{lo:Nat}(h:tw H v N l lo):v.cells=[v]:=by
 obtain⟨b,r,rfl,_⟩:=h;rfl
def ZbC{v:AV}{N:Nat}{l m:Zd}{lo:Nat}(h:tw H v N l lo)(hl:l.length+m.length<=N):
  ∃v' H',TH 5 1 1 v (.str m) H=.val v' H'∧tw H' v' N (l++m) lo∧Below lo H H':=by
 rw[Oi (Zs 1) (Zaw H m),Zx];obtain⟨b,r,rfl,h1,h2,h3,h4,h5,h6,h7,h8,h9,h10,h11⟩:=h;have S5:H.may r b=true:=by unfold Heap.may;rw[h8,Zj h3];rfl
 have hs:Oa r 1 none=true:=by show Nat.beq r.sz 1=true;rw[h6];rfl
 have hc:Wa r 0 none=N:=by show cond (Nat.beq r.sz 1) (r.size - 0) _=_;rw[h6,h7];rfl
 have e1:Oh (.slice b 0 l.length none) 5 1 1 H m.length (m.map Vk)=KG H (.slice b 0 l.length none) b 0 l.length m.length 1 none r (m.map Vk):=by
  show Yx H b _=_;unfold Yx;rw[h4];show ZJ (Oa r 1 none) (cond (Nat.ble (l.length+m.length) (Wa r 0 none)) _ _)=_;rw[hs,hc,Zj hl];rfl
 rw[e1]
 by_cases hm:m.length=0
 ·have:m=[]:=YF.1 hm
  subst this;rw[ZM];exact⟨_,_,rfl,⟨b,r,rfl,h1,h2,h3,h4,h5,h6,h7,h8,h9,h10,h11⟩,Below.refl _ _⟩
 ·refine⟨.slice b 0 (l.length+m.length) none,H.put b (.row (r.setCells (XV r.cells l.length (m.map Vk)))),?_,⟨b,_,by rw[Zh],h1,h2,h3,Yp ..,h5,h6,h7,h8,h9,h10,λi hi=>?_⟩,Below.put h1⟩
  ·show cond (Nat.beq m.length 0) _ (ZJ (H.may r b) (ZJ (Nat.ble (0+(l.length+m.length)*1) r.size) (ZJ (Nat.ble r.fz (0+l.length*1)) (.val (.slice b 0 (l.length+m.length) none) (H.put b (.row (r.setCells (XV r.cells (0+l.length*1) (m.map Vk)))))))))=_
   rw[Yl,Zc hm,S5,h7,h10,Zj (by omega),Zj (by omega),Y6,Zl];rfl
  ·show(Option.rec r.dflt (λv=>v) ((XV r.cells l.length (m.map Vk)).get i):AV)=_
   rw[SM,Xg,Ze];rw[Zh] at hi
   by_cases hil:i<l.length
   ·rw[if_neg (by omega),ZW (by rw[Zx];exact hil)]
    have:=h11 i hil;rw[Ze] at this;exact this
   ·rw[if_pos (by rw[Zx];omega),Z0 (by rw[Zx];omega),Zx]
    rw[Zm (by rw[Zx];omega)];rfl
def oB{v:AV}{l:Zd}{lo:Nat}(h:tw H v l.length l lo)(hp:0<l.length)(hl:l.length<=140737488355328): ∃p,(∀G:Heap,G.t=H.t->iR v G=.val p G)∧(∃H',ZgK 5 p (nI .i64 l.length) H=.val (.str l) H'∧Below lo H H')∧(∀n,H.nx<=n->WZ n p=true)∧(∀n t,Vo (.val p ⟨n,t,n⟩) p n=true)∧(∀n,H.nx<=n->WZ n v=true)∧(∀n t,Vo (.val v ⟨n,t,n⟩) v n=true)∧ ∀G,Kq v G=.val (nI .i64 l.length) G:=by
 obtain⟨b,r,rfl,h1,h2,h3,h4,h5,h6,h7,h8,h9,h10,h11⟩:=h;refine⟨.ptr b 0,λG e=>?_,?_,λn hn=>YW (ZK h2 hn) 0,λn t=>VM _ _ _ (by unfold same;rw[YD,YD];rfl),λn hn=>Vh (ZK h2 hn) _ _ _,λn t=>V3 _ _ _ _ _ _,λG=>WH ..⟩
 ·show Yx G b _=_
  unfold Yx;rw[e,h4];show ZJ (Nat.ble 1 r.size) _=_;rw[Zj (by omega)];rfl
 ·refine⟨H.put b (.row ⟨r.elem,r.sz,r.size,r.cells,r.dflt,cond (Nat.ble r.fz (Nat.add 0 l.length)) (Nat.add 0 l.length) r.fz,r.sm,r.own,r.exact⟩),?_,Below.put h1⟩
  show cond (Nat.beq l.length 0) _ (ZJ (Nat.ble l.length 140737488355328) (Yx H b _))=_;rw[Yl,Zc (by omega),Zj hl];unfold Yx;rw[h4];show ZJ (Nat.beq r.elem 5) (ZJ (cond r.sm false (H.may r b)) (ZJ (Nat.ble (0+l.length) r.size) (Pn _ (Vw r 0 l.length))))=_;have S5:H.may r b=true:=by unfold Heap.may;rw[h8,Zj h3];rfl
  have hld:Vw r 0 l.length=l.map Vk:=by
   apply Y7;intro j
   by_cases hj:j<l.length
   ·rw[Sp _ _ _ _ hj,Zl,h11 j hj,Ze,Zm (by rw[Zx];exact hj)];rfl
   ·rw[Z8 (by rw[UV];omega),Z8 (by rw[Zx];omega)]
  rw[h5,h9,S5,Zj (by omega),hld,Gm];rfl
structure CP(H:Heap)(sb N:Nat)(l:Zd):Prop where
 low:sb<H.nx
 ro:H.ro<=sb
 ok: ∃buf,H.t.get sb=some (rH 141 [.ptr sb 0,buf])∧tw H buf N l (sb+1)
def CP.keep{H H':Heap}{sb N:Nat}{l:Zd}(b:CP H sb N l)(k:Zu H H' []):CP H' sb N l:=by
 obtain⟨buf,g,h⟩:=b.ok;exact⟨ZK b.low k.nx,by rw[k.ro];exact b.ro,buf,by rw[k.get _ b.low (by simp)];exact g,h.below (λc _ hc=>k.get c hc (by simp)) k.ro k.nx⟩
def L8(E:Env Zq fs Zk){sb N:Nat}{m:Zd}{l:Zd}(b:CP H sb N l)(hl:l.length+m.length<=N):
  ∃H',ZA (LK Zq fs Zk k) fs Zk (n+3) 96 [.ptr sb 0,.str m] H=.ret (.tup [nI .i64 m.length,.nili]) H'∧CP H' sb N (l++m)∧Below sb H H':=by
 rw[Z5 E.f96 (.inr rfl)];obtain⟨buf,g,hb⟩:=b.ok;have hlow:=b.low;have hrs:=b.ro;have ec:=λ{j}=>yz E (k:=k) (n:=j) g b.ro (.inr rfl);rw[FE g] at ec;obtain⟨v',H3,ea,hb3,b3⟩:=ZbC (m:=m) hb hl;have g3:H3.t.get sb=some (rH 141 [.ptr sb 0,buf]):=by rw[b3.get sb (by omega) (by omega)];exact g
 have hv:=mR hb3;have r3:H3.ro<=sb:=by rw[b3.ro];exact hrs
 have st:=Te (fz:=0) (b:=sb) (H:=H3) (l:=[.ptr sb 0,buf]) (o:=1) hv (by simp) r3 (by omega) 141 1 false true;simp(disch:=first|assumption|omega|(simp -implicitDefEqProofs only[VV,VW]<;>first|assumption|omega)|decide) only[ec,g,ea,g3,st,XQ,Ys,ZZ,Zl,VR,List.set_cons_zero,c96,ZG,Yj,Zz,Yc,Yg]
 refine⟨_,rfl,⟨?_,r3,v',Yp ..,?_⟩,(b3.mono (Ve _)).trans (Below.put (Zs _))⟩
 ·have:=b3.nx;show sb<H3.nx;omega
 ·exact hb3.below (λc h _=>by rw[UO (by omega)]) rfl (Zs _)
def cU(E:Env Zq fs Zk){sb:Nat}{l:Zd}(b:CP H sb l.length l)(hp:0<l.length)(hlen:l.length<=140737488355328):
  ∃H',ZA (LK Zq fs Zk k) fs Zk (n+1) 98 [.ptr sb 0] H=.ret (.str l) H'∧Below sb H H':=by
 rw[Z5 E.f98 (.inr rfl)];obtain⟨buf,g,hb⟩:=b.ok;obtain⟨p,u1,⟨H',u2,u3⟩,u4,u5,u6,u7,u8⟩:=oB hb hp hlen;have u1:=u1 ⟨H.nx,H.t,H.nx⟩ rfl;have u5:=u5 H.nx H.t;have u6:=u6 H.nx (Zs _);have u7:=u7 H.nx H.t;have lp:WZ H.nx (.ptr sb 0)=true:=YW b.low 0;simp(disch:=first|assumption|omega|(simp -implicitDefEqProofs only[VV,VW]<;>first|assumption|omega)|decide) only[lp,g,XQ,Je,u1,EG,u2,u5,u6,u7,u8,c98,ZG,Yj,Zz,Yc,Xc,XZ,Nat.reducePow,Nat.reduceDiv,Nat.reduceMod,Yg]
 refine⟨_,rfl,?_⟩;exact u3.mono (Ve _)
def Zga(v:AV)(H:Heap):OR:=Td v (.val (.int .i64 0) H) λb o _ cap=>Option.rec (Yx H b λr=>ZJ r.exact (ZJ (Nat.beq (Nat.mod o r.sz) 0) (.val (.int .i64 (.ofNat (Wa r o none))) H))) (λc=>.val (.int .i64 (.ofNat c)) H) cap
def rO(x:WI)(tm:TM)(H:Heap):qz x tm H=Zga (x tm) H:=rfl
def B9(H:Heap):Zga .nils H=.val (nI .i64 0) H:=rfl
def Ze4(e N:Nat):Obj:=.row ⟨e,1,N,.leaf,.unk,0,false,true,false⟩
def Zb6{N:Nat}(g:H.t.get b=some (Ze4 5 N))(hN:0<N)(k:IntKind):Uo 1 (.slice b 0 N none) none (some (nI k 0)) H=.val (.slice b 0 0 none) H:=by
 show Yx H b _=_;unfold Yx;rw[g];show cond (Nat.beq 0 N) _ _=_;rw[Yl,Zc (by omega)];rfl
def nr(b o:Nat)(c:Option Nat)(H:Heap):yA 1 (.slice b o 0 c) .nils H=.val (.int .i64 0) H:=rfl
def fM(b o n:Nat)(c:Option Nat)(q:Nat)(t:T Obj):Vo (.val (.slice b o n c) ⟨q,t,q⟩) (.slice b o n c) q=true:=V3 ..
def MNZ(Zq:Lib):Prop:= ∀(n:Nat) (H:Heap),n<=281474976710656->Zq 99 [nI .i64 n] H=some (.ret (.slice H.nx 0 n none) (H.new (Ze4 5 n)))
def ZkK(E:Env Zq fs Zk)(M:MNZ Zq){sb N:Nat}(g:H.t.get sb=some (rH 141 [.ptr sb 0,.nils]))(hlow:sb<H.nx)(hro:H.ro<=sb)(h0:0<N)(hN:N<=281474976710656)(hnn:Ta 99=0):
  ∃H',ZA (LK Zq fs Zk k) fs Zk (n+2) 128 [.ptr sb 0,nI .i64 N] H=.ret (.tup []) H'∧CP H' sb N []∧Below sb H H':=by
 rw[Z5 E.f128 (.inr rfl)];have em:=λ{j}=>Qh (Zq:=Zq) (fs:=fs) (Zk:=Zk) (Ta:=Ta) (Se:=Se) (k:=k) (n:=j) (f:=99) rfl (M N H hN);obtain⟨H1,hH1⟩:=TO (H.new (Ze4 5 N));rw[hH1] at em;have NB:H1.nx=H.nx+1:=by rw[<-hH1];rfl
 have FI:H1.ro=H.ro:=by rw[<-hH1];rfl
 have g1:H1.t.get H.nx=some (Ze4 5 N):=by rw[<-hH1,ZR rfl]
 have gs:H1.t.get sb=some (rH 141 [.ptr sb 0,.nils]):=by rw[<-hH1,SF (by omega)];exact g
 have r1:H1.ro<=sb:=by omega
 have st:=Te (fz:=0) (b:=sb) (H:=H1) (l:=[.ptr sb 0,.nils]) (o:=1) (v:=.slice H.nx 0 0 none) rfl (by simp) r1 (by omega) 141 1 false true;have lp:WZ H.nx (.ptr sb 0)=true:=YW hlow 0;have lp':WZ H1.nx (.ptr sb 0)=true:=YW (by omega) 0;have Zp6:WZ H1.nx (.ptr sb 1)=true:=YW (by omega) 1;have ls:=Vh (show H.nx<H1.nx by omega) 0 N none;have sl:=Zb6 (H:=⟨H1.nx,H1.t,H1.nx⟩) g1 h0 .i64;rw[NB] at sl lp' Zp6 ls;simp(disch:=first|assumption|omega|(simp -implicitDefEqProofs only[VV,VW]<;>first|assumption|omega)|decide) only[lp,g,gs,NB,em,sl,st,XQ,rO,B9,Ar,Y0,Nat.mul_zero,N0,nr,fM,Ny,VR,List.set_cons_zero,Zhe,ZG,Yj,Zz,Yc,Xc,XZ,Nat.reducePow,Nat.reduceDiv,Nat.reduceMod,reduceCtorEq,Yg]
 refine⟨_,rfl,?_⟩;exact⟨⟨by show sb<H1.nx;omega,r1,_,Yp ..,H.nx,_,rfl,hlow,by show H.nx<H1.nx;omega,by show H1.ro<=H.nx;omega,by rw[UO (by omega)];exact g1,rfl,rfl,rfl,rfl,rfl,rfl,λi hi=>by cases hi⟩,⟨by show H.nx<=H1.nx;omega,FI,λc h1 h2=>by rw[UO (by omega),<-hH1,SF (by omega)]⟩⟩
def Rp:List (Zd)->Zd
 |[]=>[]
 |s::r=>s++r.flatMap λx=>47::x
def Kz(l:List (Zd)):Nat:=(l.map List.length).sum
def vf(s:Zd)(l:List (Zd)):Kz (s::l)=s.length+Kz l:=by unfold Kz;simp
def oa(a b:List (Zd)):Kz (a++b)=Kz a+Kz b:=by unfold Kz;simp
def xj{l:List (Zd)}(h:l≠[])(r:List (Zd)):Rp (l++r)=Rp l++r.flatMap λx=>47::x:=by
 cases l with
 |nil=>exact absurd rfl h
 |cons s l=>show s++(l++r).flatMap _=(s++l.flatMap _)++_;rw[List.flatMap_append,Yq]
theorem yQ: ∀r:List (Zd),(r.flatMap λx=>(47:UInt8)::x).length=r.length+Kz r
 |[]=>rfl
 |x::r=>by
  rw[List.flatMap_cons,Zh,yQ r,ZL,ZL,vf];omega
def fN{l:List (Zd)}(h:l≠[]):(Rp l).length=(l.length - 1)+Kz l:=by
 cases l with
 |nil=>exact absurd rfl h
 |cons s l=>
  show(s++l.flatMap _).length=_;rw[Zh,yQ,vf,ZL];omega
def EZ{α:Type}[Inhabited α]{l:List α}(h:i<l.length)(d:α):l.take (i+1)=l.take i++[l.getD i d]:=by
 rw[WF,Zm h,Ze,Zm h];rfl
def nU{l:List (Zd)}(h:i+1<l.length):Rp (l.take (i+2))=Rp (l.take (i+1))++[47]++l.getD (i+1) []:=by
 rw[EZ h [],xj (by intro e;have:=congrArg List.length e;rw[Zy,XU] at this;omega)];simp
def rN{l:List (Zd)}(h:0<k)(hl:l≠[]):(Rp (l.take k)).length<=(Rp l).length:=by
 have e:l.take k≠[]:=by intro e;have:=congrArg List.length e;rw[Zy,XU] at this;have:=Ws.2 hl;omega
 have:=xj e (l.drop k);rw[XN] at this;rw[this,Zh];omega
def dZ{l:List (Zd)}(h:i<l.length):Kz (l.take (i+1))=Kz (l.take i)+(l.getD i []).length:=by
 rw[EZ h [],oa];unfold Kz;simp
def Zfc(l:List (Zd))(k:Nat):Kz (l.take k)<=Kz l:=by
 have:=oa (l.take k) (l.drop k);rw[XN] at this;omega
def OT(H:Heap)(b:Nat)(ss:List (Zd)):Prop:= ∃r,H.t.get b=some (.row r)∧r.sz=1∧ss.length<=r.size∧(∀i (G:Heap),i<ss.length->ld1 (some (.row r)) i G=.val (.str (ss.getD i [])) G)
def OT.keep{H H':Heap}{ss:List (Zd)}(h:OT H b ss)(hb:b<H.nx)(k:Zu H H' []):OT H' b ss:=by
 obtain⟨r,h1,h2⟩:=h;exact⟨r,by rw[k.get b hb (by simp)];exact h1,h2⟩
def pP{r:Row}(g:H.t.get b=some (.row r))(hz:r.sz=1)(hs:n<=r.size)(hn:1<n)(k:IntKind):Uo 1 (.slice b 0 n none) (some (nI k 1)) none H=.val (.slice b 1 (n - 1) none) H:=by
 show Yx H b _=_;unfold Yx;rw[g];have e1:Oa r 1 none=true:=by show Nat.beq r.sz 1=true;rw[hz];rfl
 have e2:Wa r 0 none=r.size:=by show cond (Nat.beq r.sz 1) (r.size - 0) _=_;rw[hz];rfl
 show ZJ (Oa r 1 none) (ZJ (Nat.ble 1 n) (ZJ (Nat.ble 1 (Wa r 0 none)) (cond (Nat.beq 1 (Wa r 0 none)) _ _)))=_;rw[e1,e2,Zj (by omega),Zj (by omega),Yl,Zc (by omega)];rfl
structure J0(b:Nat)(ss:List (Zd))(m:Nat)(tm:TM):Prop where
 i: ∃i,SG tm=nI .i64 i∧i<=ss.length∧m=ss.length - i∧Xi tm=nI .i64 ((ss.length - 1)+Kz (ss.take i))
 t0:Z6 tm=.slice b 0 ss.length none
 t1:Xn tm=.str [47]
 t39:Sb tm=.slice b 0 ss.length none
 t40:Sn tm=nI .i64 ss.length
def Zd4{cl:Nat->List AV->Heap->CR}{ss:List (Zd)}(hT:OT H b ss)(hc:ss.length<=9000)(hs:Kz ss<=1000000000)(y f d r)(x:X)(m:Nat)(tm:TM)(h:J0 b ss m tm):
  ∃o tm',JI ⟨cl,y,f,d,r⟩ tm H x=.ok o tm' H x∧((o=.normal∧ ∃k,k<m∧J0 b ss k tm')∨(o≠.normal∧(o=.exit 1∧J0 b ss 0 tm'))):=by
 obtain⟨⟨i,t41,hi,rfl,t5⟩,t0,t1,t39,t40⟩:=h;have t0':=t0;have t1':=t1;have Zmn:=t39;have Zfe:=t40;have D8:=t5;have Zju:=t41;simp only[G7,ZfW,ZkW,ZfV] at t5 t41 t39 t40;obtain⟨rw_,g,_,_,ld⟩:=hT
 by_cases hlt:i<ss.length
 ·have d1:decide (i<ss.length)=true:=Zi hlt
  have ld:=λ(G:Heap)=>ld i G hlt;have hst:=dZ hlt;have hb2:=Zfc ss (i+1);have ix:=λ(G:Heap)=>XP hlt b 0 none .i64 G;rw[Zl] at ix;generalize(ss.getD i [])=e at ld hst;generalize hA:(ss.length - 1)+Kz (ss.take i)=A at t5;have dn:decide (9223372036854775807 - A<e.length)=false:=Zc (by omega);simp(disch:=omega) only[t5,t41,t39,t40,d1,dn,g,ld,ix,ZE,Yn,ZZ,Wz,Y0,JI,ZG,Yj,Yg,UH];exact⟨_,_,rfl,.inl ⟨rfl,ss.length - (i+1),by omega,⟨⟨i+1,rfl,by omega,rfl,by rw[hst,<-XT,hA];simp only[Yg,Yj]⟩,t0',t1',Zmn,Zfe⟩⟩⟩
 ·have d1:decide (i<ss.length)=false:=Zc hlt
  simp only[t41,t40,d1,ZE,JI,ZG,Yj,UH];exact⟨_,_,rfl,.inr ⟨by simp,rfl,⟨⟨i,Zju,hi,by omega,D8⟩,t0',t1',Zmn,Zfe⟩⟩⟩
def Zas{cl:Nat->List AV->Heap->CR}{ss:List (Zd)}(hT:OT H0 b ss)(hc:ss.length<=9000)(hs:Kz ss<=1000000000)(y f d r)(x:X)(m:Nat)(tm:TM)(H:Heap)(h:H=H0∧J0 b ss m tm):
  ∃o tm' H',JI ⟨cl,y,f,d,r⟩ tm H x=.ok o tm' H' x∧((o=.normal∧ ∃k,k<m∧(H'=H0∧J0 b ss k tm'))∨(o≠.normal∧(o=.exit 1∧H'=H0∧J0 b ss 0 tm'))):=by
 obtain⟨rfl,h⟩:=h;obtain⟨o,tm',e,h3⟩:=Zd4 (cl:=cl) hT hc hs y f d r x m tm h;refine⟨o,tm',H,e,?_⟩;rcases h3 with⟨h4,k,h5,h6⟩|⟨h4,h5,h6⟩
 ·exact .inl ⟨h4,k,h5,rfl,h6⟩
 ·exact .inr ⟨h4,h5,rfl,h6⟩
structure J1I(H0:Heap)(b N:Nat)(ss:List (Zd))(m:Nat)(tm:TM)(H:Heap):Prop where
 i: ∃i,Ps tm=nI .i64 i∧i<=ss.length - 1∧m=ss.length - 1 - i∧CP H H0.nx N (Rp (ss.take (i+1)))
 t1:Xn tm=.str [47]
 t8:Xt tm=.ptr H0.nx 0
 t63:QX tm=.slice b 1 (ss.length - 1) none
 t64:Nl tm=nI .i64 (ss.length - 1)
 k:Zu H0 H []
def Zd5(E:Env Zq fs Zk){N:Nat}{ss:List (Zd)}(hT:OT H0 b ss)(hb:b<H0.nx)(hc:ss.length<=9000)(h2:2<=ss.length)(hN:(Rp ss).length=N)(y f d r)(x:X)(m:Nat)(tm:TM)(H:Heap)(h:J1I H0 b N ss m tm H):
  ∃o tm' H',GG ⟨ZA (LK Zq fs Zk k) fs Zk (n+3),y,f,d,r⟩ tm H x=.ok o tm' H' x∧((o=.normal∧ ∃k,k<m∧J1I H0 b N ss k tm' H')∨(o≠.normal∧(o=.exit 3∧Xt tm'=.ptr H0.nx 0∧CP H' H0.nx N (Rp ss)∧Zu H0 H' []))):=by
 obtain⟨⟨i,t65,hi,rfl,bl⟩,t1,t8,t63,t64,k0⟩:=h;have t1':=t1;have t8':=t8;have ZqE:=t63;have ZqF:=t64;simp only[Kp,G9,ZkZ,Zk0,ZfX] at t1 t8 t63 t64 t65;obtain⟨rw_,g,_,_,ld⟩:=hT.keep hb k0;have hne:ss≠[]:=by intro e;subst e;simp at h2
 by_cases hlt:i<ss.length - 1
 ·have d1:decide (i<ss.length - 1)=true:=Zi hlt
  have ld:=λ(G:Heap)=>ld (1+i) G (by omega);rw[show 1+i=i+1 by omega] at ld;have ix:=λ(G:Heap)=>XP hlt b 1 none .i64 G;rw[show 1+i=i+1 by omega] at ix;have hj:=nU (l:=ss) (i:=i) (by omega);have hle:=rN (k:=i+2) (by omega) hne;rw[hj,Zh,Zh,ZL,XU] at hle;obtain⟨H2,e2,b2,w2⟩:=L8 E (k:=k) (n:=n) bl (m:=[47]) (by rw[ZL,XU];omega);have Zpu:(Rp (ss.take (i+1))++[47]).length+(ss.getD (i+1) []).length<=N:=by rw[Zh,ZL,XU];omega
  obtain⟨H3,e3,b3,w3⟩:=L8 E (k:=k) (n:=n) b2 (m:=ss.getD (i+1) []) Zpu;have k3:=Below.keep (Below.keep k0 w2 (Zs _)) w3 (Zs _);rw[<-hj] at b3;generalize ss.getD (i+1) []=e at ld e3;simp(disch:=omega) only[t1,t8,t63,t64,t65,d1,g,ld,ix,e2,e3,ZE,Y0,GG,ZG,Yj,Yg,UH,KA];refine⟨_,_,_,rfl,?_⟩;exact .inl ⟨rfl,ss.length - 1 - (i+1),by omega,⟨⟨i+1,rfl,by omega,rfl,b3⟩,t1',t8',ZqE,ZqF,k3⟩⟩
 ·have d1:decide (i<ss.length - 1)=false:=Zc hlt
  rw[Z1 (by omega)] at bl;simp only[t64,t65,d1,ZE,GG,ZG,Yj,Yg,KA];refine⟨_,_,_,rfl,?_⟩;exact .inr ⟨by simp,rfl,(by simp only[Yj];exact t8'),bl,k0⟩
def ZkL(E:Env Zq fs Zk)(M:MNZ Zq){sb N:Nat}(g:H.t.get sb=some (rH 141 [.nilp,.nils]))(hlow:sb<H.nx)(hro:H.ro<=sb)(h0:0<N)(hN:N<=281474976710656):
  ∃H',ZA (LK Zq fs Zk k) fs Zk (n+3) 95 [.ptr sb 0,nI .i64 N] H=.ret (.tup []) H'∧CP H' sb N []∧Below sb H H':=by
 rw[Z5 E.f95 (.inr rfl)];have ec:=λ{j}=>yz E (k:=k) (n:=j) g hro (.inl rfl);obtain⟨H1,hH1⟩:=TO (H.put sb (rH 141 [.ptr sb 0,.nils]));rw[hH1] at ec;have NB:H1.nx=H.nx:=by rw[<-hH1];rfl
 have FI:H1.ro=H.ro:=by rw[<-hH1];rfl
 have g1:H1.t.get sb=some (rH 141 [.ptr sb 0,.nils]):=by rw[<-hH1,Yp]
 obtain⟨H2,e2,b2,w2⟩:=ZkK E M (k:=k) (n:=n) g1 (by omega) (by omega) h0 hN rfl;have lp:WZ H.nx (.ptr sb 0)=true:=YW hlow 0;have d1:decide (N<0)=false:=Zc (by omega);have d2:decide (0<N)=true:=Zi h0;simp(disch:=first|assumption|omega|(simp -implicitDefEqProofs only[VV,VW]<;>first|assumption|omega)|decide) only[ec,lp,g1,NB,d1,d2,e2,XQ,rO,B9,N0,Wz,ZE,c95,ZG,Yj,Zz,Yc,Xc,XZ,Yg]
 refine⟨_,rfl,?_⟩;exact⟨b2,(Below.trans (by rw[<-hH1];exact Below.put (Zs _)) w2)⟩
def dO(E:Env Zq fs Zk){ss:List (Zd)}(M:MNZ Zq)(hT0:OT H b ss)(hb0:b<H.nx)(hne0:ss≠[])(hc:ss.length<=9000)(hs:(Rp ss).length<=900000000)(hro:H.ro<=H.nx):
  ∃H',ZA (LK Zq fs Zk 3) fs Zk (n+4) 143 [.slice b 0 ss.length none,.str [47]] H=.ret (.str (Rp ss)) H'∧Zu H H' []:=by
 rw[Z5 E.f143 (.inl (by decide))]
 ·have hT:=hT0
  have hb:=hb0;have hne:=hne0;have hp:=Ws.2 hne;have d0:decide (ss.length=0)=false:=Zc (by omega)
  by_cases h1:ss.length=1
  ·have d1:decide (ss.length=1)=true:=Zi h1
   obtain⟨rw_,g,_,_,ld⟩:=hT;have ld:=λ(G:Heap)=>ld 0 G (by omega);have ix:=λ(G:Heap)=>XP hp b 0 none .i64 G;have ej:Rp ss=ss.getD 0 []:=by
    cases ss with
    |nil=>simp at h1
    |cons s l=>
     have:l=[]:=YF.1 (by simpa using h1);subst this;show s++[]=s;simp
   rw[ej];simp only[d0,d1,YQ,WH,g,ld,ix,Zo,Zdb,ZG,Yj,Zz,Yg,];refine⟨_,rfl,?_⟩;exact Zu.refl _ _
  ·have d1:decide (ss.length=1)=false:=Zc h1
   have h2:2<=ss.length:=by omega
   have dl:decide (0<1)=true:=rfl;have l47:([47]:Zd).length=1:=rfl;have hN:=fN hne;have dq:decide (9223372036854775807/(ss.length - 1)<=1)=false:=Zc (by
    intro hq
    have:=(Nat.div_le_iff_le_mul_add_pred (show 0<ss.length - 1 by omega)).1 hq
    omega)
   simp(disch:=omega) only[l47,d0,d1,dl,dq,YQ,Yn,Yr,WH,ZZ,Wz,ZbJ,Ar,Y0,Rk,Zl,Zdb,ZG,Yj,Yg,UH];generalize hL:Vq (JI _) Zk _ _ _=L;obtain⟨OS,rfl,ji⟩: ∃OS,L=.ok (.exit 1) OS H ⟨[],none⟩∧J0 b ss 0 OS:=by
    obtain⟨o,OS,H1,e,_,rfl,rfl,ji⟩:=YP (P:=λT=>J0 b ss ss.length T) (Q:=λo tm' H'=>o=.exit 1∧H'=H∧J0 b ss 0 tm')
     (λT hi'=>Y5 (λm tm H'=>H'=H∧J0 b ss m tm) _ (λm tm H' h'=>Zas hT hc (by omega) _ _ _ _ _ m tm H' h') Zk ss.length T H (by have:=E.big;omega) ⟨rfl,hi'⟩) hL ⟨⟨0,rfl,ZN _,rfl,rfl⟩,rfl,rfl,rfl,rfl⟩
    exact⟨OS,e,ji⟩
   obtain⟨⟨i,t41,hi,hm,t5⟩,t0,t1,_,_⟩:=ji;rw[Z1 (by omega),<-hN] at t5;simp only[Pa,Kp,G7] at t0 t1 t5;have t1'':=t1;obtain⟨H1,hH1⟩:=TO (H.new (rH 141 [.nilp,.nils]));have k1:Zu H H1 []:=by rw[<-hH1];exact Zu.new H _ _
   have NB:H1.nx=H.nx+1:=by rw[<-hH1];rfl
   have g1:H1.t.get H.nx=some (rH 141 [.nilp,.nils]):=by rw[<-hH1,ZR rfl]
   obtain⟨H2,e2,b2,w2⟩:=ZkL E M (k:=3) (n:=n) (N:=(Rp ss).length) g1 (by omega) (by rw[k1.ro];exact hro) (by omega) (by omega);have k2:=Below.keep k1 w2 (Zs _);obtain⟨rw2,g2,hz2,hs2,ld2⟩:=hT.keep hb k2;have ldA:=λ(G:Heap)=>ld2 0 G (by omega);have ixA:=λ(G:Heap)=>XP hp b 0 none .i64 G;have hle:=rN (k:=1) (by omega) hne;have ej:Rp (ss.take 1)=ss.getD 0 []:=by
    cases ss with
    |nil=>simp at hp
    |cons s l=>show s++[]=s;simp
   rw[ej] at hle;obtain⟨H3,e3,b3,w3⟩:=L8 E (k:=3) (n:=n) b2 (m:=ss.getD 0 []) (by rw[XU];omega);have k3:=Below.keep k2 w3 (Zs _);obtain⟨rw3,g3,hz3,hs3,ld3⟩:=hT.keep hb k3;have sl:=pP g3 hz3 hs3 (by omega) .i64;have lS:=λ(G:Heap)=>WH b 1 (ss.length - 1) none G;simp only[t0,t5,hH1,e2,g2,ldA,ixA,e3,sl,lS,Zo,ZG,Yj,Yc,Yg,UH,KA];generalize hL:Vq (GG _) Zk _ _ _=L;obtain⟨o,tm2,H4,rfl,_,rfl,t8,b4,k4⟩:=YP (P:=λT=>J1I H b (Rp ss).length ss (ss.length - 1) T H3) (Q:=λo tm' H'=>o=.exit 3∧Xt tm'=.ptr H.nx 0∧CP H' H.nx (Rp ss).length (Rp ss)∧Zu H H' [])
    (λT hi'=>Y5 (J1I H b (Rp ss).length ss) _ (λm tm H' h'=>Zd5 E (k:=3) (n:=n) hT hb hc h2 rfl _ _ _ _ _ m tm H' h') Zk (ss.length - 1) T H3 (by have:=E.big;omega) hi') hL
    ⟨⟨0,rfl,ZN _,rfl,by rw[Zl,ej];exact b3⟩,by simp only[Yg,Yj];exact t1'',rfl,rfl,rfl,k3⟩
   simp only[G9] at t8;obtain⟨H5,e5,w5⟩:=cU E (k:=3) (n:=n+2) b4 (by omega) (by omega);simp only[t8,e5,ZG,Yj,Zz,Yg,KA];refine⟨_,rfl,?_⟩;exact Below.keep k4 w5 (Zs _)
def Zgs(E:Env Zq fs Zk)(hk:4<=k){ss:List (Zd)}(M:MNZ Zq)(hT0:OT H b ss)(hb0:b<H.nx)(hne0:ss≠[])(hc:ss.length<=9000)(hs:(Rp ss).length<=900000000)(hro:H.ro<=H.nx):
  ZA (LK Zq fs Zk k) fs Zk (n+1) 143 [.slice b 0 ss.length none,.str [47]] H=.ret (.str (Rp ss)) H:=by
 obtain⟨H',e,g⟩:=dO E (n:=896) (H:=H) M hT0 hb0 hne0 hc hs hro;exact Yh (r:=3) rfl rfl e g (rfl) hk
def OT.ofS{l:List (Zd)}(h:tx H b l):OT H b l:=by
 obtain⟨r,h1,h2,h3,_,_,h6⟩:=h;exact⟨r,h1,h2,by omega,λi G hi=>by rw[Qt (by omega),h6 i hi]⟩
structure IFX(b g:Nat)(l:List (Zd))(pd:Zd->Bool)(H0:Heap)(m:Nat)(tm:TM)(H:Heap):Prop where
 h:H=H0
 t0:Z6 tm=.slice b 0 l.length none
 t1:Xn tm=.func g [] []
 t7:XE tm=nI .i64 l.length
 i: ∃i,Xt tm=nI .i64 i∧i+m=l.length∧ ∀j,j<i->pd (l.getD j [])=false
def IFY(l:List (Zd))(pd:Zd->Bool)(H0:Heap)(o:Out)(tm:TM)(H:Heap):Prop:=H=H0∧((o=.ret∧ ∃i,Xo tm=nI .i64 i∧i<l.length∧pd (l.getD i [])=true∧ ∀j,j<i->pd (l.getD j [])=false)∨(o=.exit 0∧ ∀j,j<l.length->pd (l.getD j [])=false))
def Zd3(E:Env Zq fs Zk){g:Nat}{l:List (Zd)}{pd:Zd->Bool}(hl:l.length<=90000)(hT:OT H0 b l)(hP: ∀i,i<l.length-> ∀j,ZA (LK Zq fs Zk k) fs Zk (j+1) g [.str (l.getD i [])] H0=.ret (.bool (pd (l.getD i []))) H0)(y f dd q)(X0:X)(m:Nat)(tm:TM)(H:Heap)(hI:IFX b g l pd H0 m tm H):
  ∃o tm' H',Q6 ⟨ZA (LK Zq fs Zk k) fs Zk (n+1),y,f,dd,q⟩ tm H X0=.ok o tm' H' X0∧((o=.normal∧ ∃k,k<m∧IFX b g l pd H0 k tm' H')∨(o≠.normal∧IFY l pd H0 o tm' H')):=by
 obtain⟨rfl,t0,t1,t7,i,t8,him,hn⟩:=hI;have t0':=t0;have t1':=t1;have Cm:=t7;simp only[Pa,Kp,G8,G9] at t0 t1 t7 t8;cases m with
 |zero=>
  have d1:decide (i<l.length)=false:=Zc (by omega);simp only[t7,t8,d1,ZE,Q6,ZG,Yj,Yg];refine⟨_,_,_,rfl,?_⟩;exact .inr ⟨by simp,rfl,.inr ⟨rfl,λj hj=>hn j (by omega)⟩⟩
 |succ m=>
  have d1:decide (i<l.length)=true:=Zi (by omega);have hi:i<l.length:=by omega
  obtain⟨r,gr,hz,hsz,ld⟩:=hT;have ldi:=λ(G:Heap)=>ld i G hi;have ix:=λ(G:Heap)=>XP hi b 0 none .i64 G;rw[Zl] at ix;have e1:=λ{j}=>hP i hi j;cases hm:pd (l.getD i []) with
  |false=>
   rw[hm] at e1;simp(disch:=omega) only[t0,t1,t7,t8,d1,gr,ix,ldi,e1,ZE,Y0,Y3,ZQ,ZM,Q6,ZG,Yj,Zz,Yg];refine⟨_,_,_,rfl,.inl ⟨rfl,m,by omega,rfl,t0',t1',Cm,i+1,rfl,by omega,λj hj=>?_⟩⟩
   by_cases h:j=i
   ·rw[h];exact hm
   ·exact hn j (by omega)
  |true=>
   rw[hm] at e1;simp only[t0,t1,t7,t8,d1,gr,ix,ldi,e1,ZE,Y3,ZQ,ZM,Q6,ZG,Yj,Zz,Yg];refine⟨_,_,_,rfl,?_⟩;exact .inr ⟨by simp,rfl,.inl ⟨rfl,i,rfl,hi,hm,hn⟩⟩
def Zih(E:Env Zq fs Zk){g:Nat}{l:List (Zd)}{pd:Zd->Bool}(hl:l.length<=90000)(hT:OT H b l)(hP: ∀i,i<l.length-> ∀j,ZA (LK Zq fs Zk k) fs Zk (j+1) g [.str (l.getD i [])] H=.ret (.bool (pd (l.getD i []))) H):
  ∃w,ZA (LK Zq fs Zk k) fs Zk (n+2) 103 [.slice b 0 l.length none,.func g [] []] H=.ret w H∧((∃i,w=nI .i64 i∧i<l.length∧pd (l.getD i [])=true∧ ∀j,j<i->pd (l.getD j [])=false)∨(w=.int .i64 (.negSucc 0)∧ ∀j,j<l.length->pd (l.getD j [])=false)):=by
 rw[Z5 E.f103 (.inr rfl)];have ln:=λ(G:Heap)=>WH b 0 l.length none G;simp only[ln,Zc0,ZG,Yj,Yg];generalize hL:Vq (Q6 _) Zk _ _ _=L;obtain⟨o,OS,H2,rfl,_,rfl,z⟩:=YP (P:=λT=>IFX b g l pd H l.length T H) (Q:=IFY l pd H)
  (λT hi=>Y5 (IFX b g l pd H) (IFY l pd H) (λm tm H2 h=>Zd3 E hl hT hP _ _ _ _ _ m tm H2 h) Zk l.length T H (by have:=E.big;omega) hi) hL
  (by exact⟨rfl,rfl,rfl,rfl,0,rfl,by omega,λj hj=>by omega⟩)
 rcases z with⟨rfl,p,t4,e⟩|⟨rfl,e⟩
 ·simp only[Pt] at t4
  simp only[t4,ZG,Zz,Yg];refine⟨_,rfl,?_⟩;exact .inl ⟨p,rfl,e⟩
 ·
  simp only[ZG,Yj,Zz,Yg];refine⟨_,rfl,?_⟩;exact .inr ⟨rfl,e⟩
def Zkp(E:Env Zq fs Zk){g:Nat}{l:List (Zd)}{pd:Zd->Bool}(hl:l.length<=90000)(hT:OT H b l)(hP: ∀i,i<l.length-> ∀j,ZA (LK Zq fs Zk k) fs Zk (j+1) g [.str (l.getD i [])] H=.ret (.bool (pd (l.getD i []))) H)(hno: ∀i,i<l.length->pd (l.getD i [])=false):
  ZA (LK Zq fs Zk k) fs Zk (n+3) 72 [.slice b 0 l.length none,.func g [] []] H=.ret (.bool false) H:=by
 rw[Z5 E.f72 (.inr rfl)];obtain⟨w,e1,h⟩:=Zih E (n:=n) hl hT hP;have hge: ∀G,T2 UQ Wd (.int .i64 (.negSucc 0)) (nI .i64 0) G=.val (.bool false) G:=λ_=>rfl;rcases h with⟨i,_,hi,hp,_⟩|⟨rfl,_⟩
 ·rw[hno i hi] at hp;cases hp
 simp only[e1,hge,c72,ZG,Yj,Zz,Yg]
def pd1(s:Zd):Bool:=decide (s=[])||decide (s=[46])
def pd2(s:Zd):Bool:=decide (255<s.length)
def ni(E:Env Zq fs Zk):
  ∃H',ZA (LK Zq fs Zk 0) fs Zk (n+2) 142 [.str s] H=.ret (.bool (pd1 s)) H'∧Zu H H' []:=by
 rw[Z5 E.f142 (.inl (by decide))];unfold pd1
 by_cases h:s=[]
 ·have d1:decide (s=[])=true:=Zi h
  rw[d1];simp only[d1,Bool.true_or,Wi,Zda,ZG,Yj,Zz,Yg];refine⟨_,rfl,?_⟩;exact Zu.refl _ _
 ·have d1:decide (s=[])=false:=Zc h
  rw[d1];simp only[d1,Bool.false_or,Wi,Zda,ZG,Yj,Zz,Yg];refine⟨_,rfl,?_⟩;exact Zu.refl _ _
def bA(E:Env Zq fs Zk)(hk:1<=k):
  ZA (LK Zq fs Zk k) fs Zk (n+1) 142 [.str s] H=.ret (.bool (pd1 s)) H:=by
 obtain⟨H',e,g⟩:=ni E (n:=898) (H:=H);exact Yh (r:=0) rfl rfl e g (rfl) hk
def nj(E:Env Zq fs Zk):
  ∃H',ZA (LK Zq fs Zk 0) fs Zk (n+2) 144 [.str s] H=.ret (.bool (pd2 s)) H'∧Zu H H' []:=by
 rw[Z5 E.f144 (.inl (by decide))];unfold pd2;simp only[ZZ,Yn,ZZ,Zhm,ZG,Yj,Zz,Yg];refine⟨_,rfl,?_⟩;exact Zu.refl _ _
def bB(E:Env Zq fs Zk)(hk:1<=k):
  ZA (LK Zq fs Zk k) fs Zk (n+1) 144 [.str s] H=.ret (.bool (pd2 s)) H:=by
 obtain⟨H',e,g⟩:=nj E (n:=898) (H:=H);exact Yh (r:=0) rfl rfl e g (rfl) hk
structure SIX(b:Nat)(l:List (Zd))(x:Zd)(H0:Heap)(m:Nat)(tm:TM)(H:Heap):Prop where
 h:H=H0
 t0:Z6 tm=.slice b 0 l.length none
 t1:Xn tm=.str x
 t7:XE tm=nI .i64 l.length
 i: ∃i,Xt tm=nI .i64 i∧i+m=l.length
def Zfd{l:List (Zd)}{x:Zd}(hl:l.length<=90000)(hT:OT H0 b l)(hno: ∀i,i<l.length->x≠l.getD i [])(cx:Ctx)(X0:X)(m:Nat)(tm:TM)(H:Heap)(hI:SIX b l x H0 m tm H):
  ∃o tm' H',GH cx tm H X0=.ok o tm' H' X0∧((o=.normal∧ ∃k,k<m∧SIX b l x H0 k tm' H')∨(o≠.normal∧(o=.exit 0∧H'=H0))):=by
 obtain⟨rfl,t0,t1,t7,i,t8,him⟩:=hI;have t0':=t0;have t1':=t1;have Cm:=t7;simp only[Pa,Kp,G8,G9] at t0 t1 t7 t8;cases m with
 |zero=>
  have d1:decide (i<l.length)=false:=Zc (by omega);simp only[t7,t8,d1,ZE,GH,ZG,Yj,Yg];refine⟨_,_,_,rfl,?_⟩;exact .inr ⟨by simp,rfl,rfl⟩
 |succ m=>
  have d1:decide (i<l.length)=true:=Zi (by omega);have hi:i<l.length:=by omega
  obtain⟨r,gr,hz,hsz,ld⟩:=hT;have ldi:=λ(G:Heap)=>ld i G hi;have ix:=λ(G:Heap)=>XP hi b 0 none .i64 G;rw[Zl] at ix;have d2:decide (x=l.getD i [])=false:=Zc (hno i hi);simp(disch:=omega) only[t0,t1,t7,t8,d1,gr,ix,ldi,d2,ZE,Wi,Y0,GH,ZG,Yj,Yg];refine⟨_,_,_,rfl,?_⟩;exact .inl ⟨rfl,m,by omega,rfl,t0',t1',Cm,i+1,rfl,by omega⟩
def lj(E:Env Zq fs Zk){l:List (Zd)}{x:Zd}(hl:l.length<=90000)(hT:OT H b l)(hno: ∀i,i<l.length->x≠l.getD i []):
  ∃H',ZA (LK Zq fs Zk 1) fs Zk (n+2) 166 [.slice b 0 l.length none,.str x] H=.ret (.int .i64 (.negSucc 0)) H'∧Zu H H' []:=by
 rw[Z5 E.f166 (.inl (by decide))];have ln:=λ(G:Heap)=>WH b 0 l.length none G;simp only[ln,Zhs,ZG,Yj,Yg];generalize hL:Vq (GH _) Zk _ _ _=L;obtain⟨o,OS,H2,rfl,_,rfl,rfl⟩:=YP (P:=λT=>SIX b l x H l.length T H) (Q:=λo tm' H'=>o=.exit 0∧H'=H)
  (λT hi=>Y5 (SIX b l x H) (λo tm' H'=>o=.exit 0∧H'=H) (λm tm H2 h=>Zfd hl hT hno _ _ m tm H2 h) Zk l.length T H (by have:=E.big;omega) hi) hL
  (by exact⟨rfl,rfl,rfl,rfl,0,rfl,by omega⟩)
 simp only[ZG,Yj,Zz,Yg];refine⟨_,rfl,?_⟩;exact Zu.refl _ _
def Zjr(E:Env Zq fs Zk)(hk:2<=k){l:List (Zd)}{x:Zd}(hl:l.length<=90000)(hT:OT H b l)(hno: ∀i,i<l.length->x≠l.getD i []):
  ZA (LK Zq fs Zk k) fs Zk (n+1) 166 [.slice b 0 l.length none,.str x] H=.ret (.int .i64 (.negSucc 0)) H:=by
 obtain⟨H',e,g⟩:=lj E (n:=898) (H:=H) hl hT hno;exact Yh (r:=1) rfl rfl e g (rfl) hk
def uL(E:Env Zq fs Zk){l:List (Zd)}{x:Zd}(hl:l.length<=90000)(hT:OT H b l)(hno: ∀i,i<l.length->x≠l.getD i []):
  ∃H',ZA (LK Zq fs Zk 2) fs Zk (n+2) 140 [.slice b 0 l.length none,.str x] H=.ret (.bool false) H'∧Zu H H' []:=by
 rw[Z5 E.f140 (.inl (by decide))];have e1:=λ{j}=>Zjr E (k:=2) (n:=j) (by decide) (b:=b) (l:=l) (x:=x) (H:=H) hl hT hno;have hge: ∀G,T2 UQ Wd (.int .i64 (.negSucc 0)) (nI .i64 0) G=.val (.bool false) G:=λ_=>rfl;simp only[e1,hge,Zhl,ZG,Yj,Zz,Yg];refine⟨_,rfl,?_⟩;exact Zu.refl _ _
def pD(E:Env Zq fs Zk)(hk:3<=k){l:List (Zd)}{x:Zd}(hl:l.length<=90000)(hT:OT H b l)(hno: ∀i,i<l.length->x≠l.getD i []):
  ZA (LK Zq fs Zk k) fs Zk (n+1) 140 [.slice b 0 l.length none,.str x] H=.ret (.bool false) H:=by
 obtain⟨H',e,g⟩:=uL E (n:=898) (H:=H) hl hT hno;exact Yh (r:=2) rfl rfl e g (rfl) hk
def bC(sz:Nat)(zs:List AV)(a:AV)(H:Heap):OR:=ZJ (Nat.ble 1 sz)<|onZ a (.val (.tup []) H)<|Td a (.val (.tup []) H) λb o n _=>Ts n λn=>
 cond (Nat.beq n 0) (.val (.tup []) H) (Yx H b λr=>ZJ (H.may r b) (ZJ (Nat.ble r.fz o) (ZJ (Nat.ble (Nat.add o (Nat.mul n sz)) r.size) (.val (.tup []) (H.put b (.row (r.setCells (XV r.cells o (List.replicate n zs).flatten))))))))
def eN(x:WI)(sz:Nat)(zs:List AV)(tm:TM)(H:Heap):mw x sz zs tm H=bC sz zs (x tm) H:=rfl
def nq{m:Nat}{r:Row}(g:H.t.get b=some (.row r))(hs:m+1<=r.size)(how:r.own=true)(hfz:r.fz=0)(hro:H.ro<=b):
  bC 1 [.str []] (.slice b m 1 none) H=.val (.tup []) (H.put b (.row (r.setCells (XV r.cells m [.str []])))):=by
 show Ts 1 (λn=>cond (Nat.beq n 0) (.val (.tup []) H) (Yx H b λr=>ZJ (H.may r b) (ZJ (Nat.ble r.fz m) (ZJ (Nat.ble (Nat.add m (Nat.mul n 1)) r.size) (.val (.tup []) (H.put b (.row (r.setCells (XV r.cells m (List.replicate n [.str []]).flatten)))))))))=_;rw[Sm];show Yx H b _=_;unfold Yx;rw[g];have S5:H.may r b=true:=by unfold Heap.may;rw[how,Zj hro];rfl
 show ZJ (H.may r b) (ZJ (Nat.ble r.fz m) (ZJ (Nat.ble (m+1*1) r.size) _))=_;rw[S5,hfz,Zj (ZN _),Zj (by omega)];rfl
def Zb7{m:Nat}{r:Row}(g:H.t.get b=some (.row r))(hz:r.sz=1)(hs:n<=r.size)(hm:m<n)(k:IntKind):Uo 1 (.slice b 0 n none) (some (nI k m)) none H=.val (.slice b m (n - m) none) H:=by
 show Yx H b _=_;unfold Yx;rw[g];have e1:Oa r 1 none=true:=by show Nat.beq r.sz 1=true;rw[hz];rfl
 have e2:Wa r 0 none=r.size:=by show cond (Nat.beq r.sz 1) (r.size - 0) _=_;rw[hz];rfl
 show ZJ (Oa r 1 none) (ZJ (Nat.ble m n) (ZJ (Nat.ble m (Wa r 0 none)) (cond (Nat.beq m (Wa r 0 none)) _ (OR.val (.slice b (0+m*1) (n - m) none) H))))=_;rw[e1,e2,Zj (by omega),Zj (by omega),Yl,Zc (by omega),Zl,Y6];rfl
structure DLI(b n i:Nat)(H0:Heap)(m:Nat)(tm:TM)(H:Heap):Prop where
 h:H=H0
 t0:Z6 tm=.slice b 0 n none
 t5:Xi tm=nI .i64 i
 t6:XL tm=nI .i64 (i+1)
def Zdn(hn:n=i+1)(cx:Ctx)(X0:X)(m:Nat)(tm:TM)(H:Heap)(hI:DLI b n i H0 m tm H):
  ∃o tm' H',Cr cx tm H X0=.ok o tm' H' X0∧((o=.normal∧ ∃k,k<m∧DLI b n i H0 k tm' H')∨(o≠.normal∧(o=.exit 0∧DLI b n i H0 0 tm' H'))):=by
 obtain⟨rfl,t0,t5,t6⟩:=hI;have t0':=t0;have D8:=t5;have Cl:=t6;simp only[Pa,re] at t0 t6;have d1:decide (i+1<n)=false:=Zc (by omega);have ln:=λ(G:Heap)=>WH b 0 n none G;simp only[t0,t6,d1,ln,ZE,Cr,ZG,Yj,Yg];refine⟨_,_,_,rfl,?_⟩;exact .inr ⟨by simp,rfl,rfl,t0',D8,Cl⟩
def bS(E:Env Zq fs Zk){g:Nat}{l:List (Zd)}{pd:Zd->Bool}(hl:l.length<=90000)(hT:OT H b l)(hP: ∀i,i<l.length-> ∀j,ZA (LK Zq fs Zk k) fs Zk (j+1) g [.str (l.getD i [])] H=.ret (.bool (pd (l.getD i []))) H)(hno: ∀i,i<l.length->pd (l.getD i [])=false):
  ZA (LK Zq fs Zk k) fs Zk (n+3) 141 [.slice b 0 l.length none,.func g [] []] H=.ret (.slice b 0 l.length none) H:=by
 rw[Z5 E.f141 (.inr rfl)];obtain⟨w,e1,h⟩:=Zih E (n:=n) hl hT hP;have hm: ∀G,NL WX false (.int .i64 (.negSucc 0)) (.int .i64 (.negSucc 0)) G=.val (.bool true) G:=λ_=>rfl;rcases h with⟨i,_,hi,hp,_⟩|⟨rfl,_⟩
 ·rw[hno i hi] at hp;cases hp
 simp only[e1,hm,Zc9,ZG,Yj,Zz,Yg]
def bR(E:Env Zq fs Zk){g m:Nat}{l:List (Zd)}{pd:Zd->Bool}(hl:l.length<=90000)(hlm:l.length=m+1)(hm0:0<m)(hS:tx H b l)(hro:H.ro<=b)(hP: ∀i,i<l.length-> ∀j,ZA (LK Zq fs Zk k) fs Zk (j+1) g [.str (l.getD i [])] H=.ret (.bool (pd (l.getD i []))) H)(hno: ∀i,i<m->pd (l.getD i [])=false)(hye:pd (l.getD m [])=true):
  ∃H',ZA (LK Zq fs Zk k) fs Zk (n+3) 141 [.slice b 0 l.length none,.func g [] []] H=.ret (.slice b 0 m none) H'∧OT H' b (l.take m)∧Zu H H' [b]∧H'.nx=H.nx:=by
 rw[Z5 E.f141 (.inr rfl)];obtain⟨w,e1,h⟩:=Zih E (n:=n) hl (OT.ofS hS) hP;have hm: ∀(i:Nat) G,NL WX false (nI .i64 i) (.int .i64 (.negSucc 0)) G=.val (.bool false) G:=λ_ _=>rfl;obtain⟨r,gr,hz,hsz,⟨how,hfz⟩,hlt,hg⟩:=hS;rcases h with⟨i,rfl,hi,hp,hbe⟩|⟨_,h2⟩
 ·obtain rfl:i=m:=by
   rcases Nat.lt_trichotomy i m with h|h|h
   ·rw[hno i h] at hp;cases hp
   ·exact h
   ·omega
  have ad: ∀G,Sr (nI .i64 i) (nI .i64 1) G=.val (nI .i64 (i+1)) G:=λG=>Y0 (by omega) G;have s1:=Zb7 (H:=H) (n:=l.length) (m:=i) gr hz (by omega) (by omega) .i64;rw[show l.length - i=1 by omega] at s1;have cl:=nq (H:=H) (m:=i) gr (by omega) how hfz hro;obtain⟨H1,hH1⟩:=TO (H.put b (.row (r.setCells (XV r.cells i [.str []]))));rw[hH1] at cl;have g1:H1.t.get b=some (.row (r.setCells (XV r.cells i [.str []]))):=by rw[<-hH1];exact Yp ..
  have s2:=wN (H:=H1) (b:=b) (n:=r.size) (m:=i) g1 hz rfl (by omega) (by omega) .i64;rw[hsz] at s2;have k1:Zu H H1 [b]:=by rw[<-hH1];exact Zu.put λ_=>Zn.2 rfl
  simp only[e1,hm,ad,Zc9,ZG,Yj,Yg];generalize hL:Vq (Cr _) Zk _ _ _=L;obtain⟨o,OS,H2,rfl,_,rfl,rfl,t0,t5,_⟩:=YP (P:=λT=>DLI b l.length i H 0 T H) (Q:=λo tm' H'=>o=.exit 0∧DLI b l.length i H 0 tm' H')
   (λT hi=>Y5 (DLI b l.length i H) _ (λm tm H2 h=>Zdn hlm _ _ m tm H2 h) Zk 0 T H (by have:=E.big;omega) hi) hL
   (by exact⟨rfl,rfl,rfl,rfl⟩)
  simp only[Pa,G7] at t0 t5;simp only[t0,t5,s1,cl,s2,eN,Th,XH,YY,ZG,Yj,Zz,Yg,UH];refine⟨_,rfl,⟨_,g1,hz,by rw[Zy];show _<=r.size;omega,λj G hj=>?_⟩,k1,by rw[<-hH1];rfl⟩;rw[Zy] at hj;rw[Qt (by show j<r.size;omega)]
  congr 1
  show(Option.rec r.dflt (λv=>v) ((XV r.cells i [.str []]).get j):AV)=_;rw[SM,if_neg (by omega),Ze,Yu (by omega),<-Ze];exact hg j (by omega)
 ·rw[h2 m (by omega)] at hye;cases hye
theorem NY: ∀p:Zd,Rp (Yv p)=p
 |[]=>rfl
 |x::s=>by
  have ih:=NY s;have hne:=RA s;unfold Yv;cases hs:Yv s with
  |nil=>exact absurd hs hne
  |cons a b=>
   rw[hs] at ih
   by_cases h:x.toNat=47
   ·have hx:x=47:=Wj.1 h
    rw[if_pos h];show []++(47::a++b.flatMap λy=>47::y)=_;rw[hx];show 47::(a++b.flatMap λy=>47::y)=47::s;have ih:a++(b.flatMap λy=>47::y)=s:=ih;rw[ih]
   ·rw[if_neg h]
    show(x::a)++(b.flatMap λy=>47::y)=_;have ih:a++(b.flatMap λy=>47::y)=s:=ih;rw[WE,ih]
theorem A9: ∀p:Zd,Yv (p++[47])=Yv p++[[]]
 |[]=>rfl
 |x::s=>by
  have ih:=A9 s;have hne:=RA s;show Yv (x::(s++[47]))=_;unfold Yv;rw[ih];cases hs:Yv s with
  |nil=>exact absurd hs hne
  |cons a b=>by_cases h:x.toNat=47<;>simp[h]
structure PF(p:Zd):Prop where
 nz:W2 0 p=0
 ok: ∀x∈Yv p,x≠[]∧x≠[46]∧x≠[46,46]∧x.length<=255
 cnt:(Yv p).length<=255
 len:p.length<=4096
def PF.at_{p:Zd}(h:PF p)(hi:i<(Yv p).length):(Yv p).getD i []≠[]∧(Yv p).getD i []≠[46]∧(Yv p).getD i []≠[46,46]∧((Yv p).getD i []).length<=255:=
 h.ok _ (by rw[Ze,Zm hi];exact XD hi)
def PF.noslash{p:Zd}(h:PF p)(q:Zd):Qq [47] (p++q)=false∧p≠[]:=by
 cases p with
 |nil=>exact absurd rfl (h.ok [] (by simp[Yv])).1
 |cons x s=>
  refine⟨?_,by simp⟩;unfold Qq;have:decide ((x::s++q).take ([47]:Zd).length=[47])=false:=by
   refine Zc λe=>?_;have e:[x]=[47]:=e;have hx:x.toNat=47:=by injection e with e;rw[e];rfl
   refine(h.ok [] ?_).1 rfl;unfold Yv;rw[if_pos hx];exact Zw ..
  rw[this,Bool.and_false]
theorem sO{x:Nat}: ∀{s:Zd},W2 x s=0-> ∀y∈s,y.toNat≠x
 |[],_,y,h=>by cases h
 |c::s,h,y,hy=>by
  unfold W2 at h
  split at h
  ·cases h
  ·rename_i hc
   split at h
   ·rename_i h0
    rcases ZY.1 hy with rfl|hy
    ·exact hc
    ·exact sO h0 y hy
   ·cases h
theorem yR{x:Nat}: ∀{s:Zd},(∀y∈s,y.toNat≠x)->W2 x s=0
 |[],_=>rfl
 |c::s,h=>by
  unfold W2;rw[if_neg (h c (Zw ..)),yR λy hy=>h y (ZC _ hy),if_pos rfl]
def ZbD{x:Zd}(h:x≠[])(h2:x≠[46]):pd1 x=false:=by unfold pd1;rw[Zc h,Zc h2];rfl
def ZbE{x:Zd}(h:x.length<=255):pd2 x=false:=Zc (by omega)
def np(E:Env Zq fs Zk){p:Zd}(h:PF p)(hro:H.ro<=H.nx):
  ∃H',ZA (LK Zq fs Zk 11) fs Zk (n+4) 116 [.str p] H=.ret (.tup [.str p,nI .i64 0]) H'∧Zu H H' []:=by
 rw[Z5 E.f116 (.inl (by decide))];have hl:=h.len;have hcn:=h.cnt;obtain⟨H1,e1,r1,k1,NB⟩:=lF E (k:=11) (n:=n) (by decide) (s:=p) (H:=H) (by omega) hro;have hT:=OT.ofS r1;have e2:=λ{j}=>Zh4 E (k:=11) (n:=j) (by decide) (s:=p) (H:=H1);rw[h.nz] at e2;have e3:=λ{j}=>ZdH E (k:=11) (n:=j) (by decide) (s:=p) (p:=[47]) (H:=H1) (by omega);have hns:=h.noslash [];rw[ZM] at hns;rw[hns.1] at e3;have e4:=λ{j}=>pD E (k:=11) (n:=j) (by decide) (b:=H.nx) (l:=Yv p) (x:=[46,46]) (H:=H1) (by omega) hT (λi hi e=>(h.at_ hi).2.2.1 e.symm);have e5:=bS E (k:=11) (n:=n) (b:=H.nx) (g:=142) (l:=Yv p) (pd:=pd1) (H:=H1) (by omega) hT (λi hi j=>bA E (by decide)) (λi hi=>ZbD (h.at_ hi).1 (h.at_ hi).2.1);have e6:=λ{j}=>Zgs E (k:=11) (n:=j) (by decide) (ss:=Yv p) (b:=H.nx) (H:=H1) (λN G hN=>E.mz N G hN) hT (by omega) (RA p) (by omega) (by rw[NY];omega) (by rw[k1.ro];omega);rw[NY] at e6;have e7:=Zkp E (k:=11) (n:=n) (b:=H.nx) (g:=144) (l:=Yv p) (pd:=pd2) (H:=H1) (by omega) hT (λi hi j=>bB E (by decide)) (λi hi=>ZbE (h.at_ hi).2.2.2);have ln:=λ(G:Heap)=>WH H.nx 0 (Yv p).length none G;have d1:decide (255<(Yv p).length)=false:=Zc (by omega);have d2:decide (4096<p.length)=false:=Zc (by omega);simp only[e1,e2,e3,e4,e5,e6,e7,ln,d1,d2,Yn,ZZ,Vc,decide_false,Zc4,ZG,Yj,Zz,Yg,UH];refine⟨_,rfl,?_⟩;exact k1
def ZhE(E:Env Zq fs Zk)(hk:12<=k){p:Zd}(h:PF p)(hro:H.ro<=H.nx):
  ZA (LK Zq fs Zk k) fs Zk (n+1) 116 [.str p] H=.ret (.tup [.str p,nI .i64 0]) H:=by
 obtain⟨H',e,g⟩:=np E (n:=896) (H:=H) h hro;exact Yh (r:=11) rfl rfl e g (rfl) hk
def nk(E:Env Zq fs Zk){p:Zd}(h:PF p)(hro:H.ro<=H.nx):
  ∃H',ZA (LK Zq fs Zk 11) fs Zk (n+4) 116 [.str (p++[47])] H=.ret (.tup [.str p,nI .i64 0]) H'∧Zu H H' []:=by
 rw[Z5 E.f116 (.inl (by decide))];have hl:=h.len;have hcn:=h.cnt;have hpl:(p++[47]).length=p.length+1:=by rw[Zh];rfl
 obtain⟨H1,e1,r1,k1,NB⟩:=lF E (k:=11) (n:=n) (by decide) (s:=p++[47]) (H:=H) (by omega) hro;rw[A9] at e1 r1;have hll:(Yv p++[[]]).length=(Yv p).length+1:=by rw[Zh];rfl
 have hp0:=Ws.2 (RA p);have gl: ∀i,i<(Yv p).length->(Yv p++[[]]).getD i []=(Yv p).getD i []:=λi hi=>by rw[Ze,ZW hi,<-Ze]
 have ge:(Yv p++[[]]).getD (Yv p).length []=[]:=by rw[Ze,Z0 (Zs _),Ut];rfl
 have hT:=OT.ofS r1;have e2:=λ{j}=>Zh4 E (k:=11) (n:=j) (by decide) (s:=p++[47]) (H:=H1);rw[yR (x:=0) (s:=p++[47]) (λy hy=>by
  rcases Zt.1 hy with hy|hy
  ·exact sO h.nz y hy
  ·rw[Zn.1 hy];decide)] at e2
 have e3:=λ{j}=>ZdH E (k:=11) (n:=j) (by decide) (s:=p++[47]) (p:=[47]) (H:=H1) (by omega);rw[(h.noslash [47]).1] at e3;have e4:=λ{j}=>pD E (k:=11) (n:=j) (by decide) (b:=H.nx) (l:=Yv p++[[]]) (x:=[46,46]) (H:=H1) (by omega) hT (λi hi e=>by
  by_cases hq:i<(Yv p).length
  ·rw[gl i hq] at e;exact(h.at_ hq).2.2.1 e.symm
  ·obtain rfl:i=(Yv p).length:=by omega
   rw[ge] at e;cases e)
 obtain⟨H2,e5,hT2,k2,nx2⟩:=bR E (k:=11) (n:=n) (b:=H.nx) (g:=142) (m:=(Yv p).length) (l:=Yv p++[[]]) (pd:=pd1) (H:=H1) (by omega) hll hp0 r1 (by rw[k1.ro];exact hro) (λi hi j=>bA E (by decide)) (λi hi=>by rw[gl i hi];exact ZbD (h.at_ hi).1 (h.at_ hi).2.1) (by rw[ge];rfl);rw[W3] at hT2;have e6:=λ{j}=>Zgs E (k:=11) (n:=j) (by decide) (ss:=Yv p) (b:=H.nx) (H:=H2) (λN G hN=>E.mz N G hN) hT2 (by omega) (RA p) (by omega) (by rw[NY];omega) (by rw[k2.ro,k1.ro];omega);rw[NY] at e6;have e7:=Zkp E (k:=11) (n:=n) (b:=H.nx) (g:=144) (l:=Yv p) (pd:=pd2) (H:=H2) (by omega) hT2 (λi hi j=>bB E (by decide)) (λi hi=>ZbE (h.at_ hi).2.2.2);have ln:=λ(G:Heap)=>WH H.nx 0 (Yv p).length none G;have d1:decide (255<(Yv p).length)=false:=Zc (by omega);have d2:decide (4096<p.length)=false:=Zc (by omega);simp only[e1,e2,e3,e4,e5,e6,e7,ln,d1,d2,Yn,ZZ,Vc,decide_false,Zc4,ZG,Yj,Zz,Yg,UH];refine⟨_,rfl,?_⟩;exact k1.trans k2 (λx hx hlt=>by have:=Zn.1 hx;omega)
def ZhD(E:Env Zq fs Zk)(hk:12<=k){p:Zd}(h:PF p)(hro:H.ro<=H.nx):
  ZA (LK Zq fs Zk k) fs Zk (n+1) 116 [.str (p++[47])] H=.ret (.tup [.str p,nI .i64 0]) H:=by
 obtain⟨H',e,g⟩:=nk E (n:=896) (H:=H) h hro;exact Yh (r:=11) rfl rfl e g (rfl) hk
def p8(s:Zd):(Gi s).length<=s.length:=by
 unfold Gi cutX
 split
 ·exact Zs _
 ·rw[Zy];exact Nat.min_le_right _ _
def sj(E:Env Zq fs Zk)(hk:12<=k){p raw:Zd}(h:PF p)(hro:H.ro<=H.nx)(hr:raw=p∨raw=p++[47]):ZA (LK Zq fs Zk k) fs Zk (n+1) 116 [.str raw] H=.ret (.tup [.str p,nI .i64 0]) H:=by
 rcases hr with rfl|rfl
 ·exact ZhE E hk h hro
 ·exact ZhD E hk h hro
def ZbA(E:Env Zq fs Zk)(hk:12<=k){q lo:Nat}{l p raw:Zd}{kd:Int}{wt:Bool}{wv ov:AV}{sp:Prop}{ws:List NP}(gP:Nc H)(g:Lm sp H q l wt wv ov)(hw:WT H wv ws lo)(hl:Proofs.lastR ws [112,97,116,104]=(raw,true))(h:PF p)(hr:raw=p∨raw=p++[47])(hcl:(Wm p).1≠0):
  ZA (LK Zq fs Zk k) fs Zk (n+3) 86 [.ptr q 0,.ptr b 0,.int .i64 kd] H=.ret (.str p) H:=by
 rw[Z5 E.f86 (.inr rfl)];have e1:=oo E (k:=k) (n:=n) (b:=b) (nm:=[110,97,109,101]) g hw hl;have e4:=λ{j}=>sj E (k:=k) (n:=j) hk (p:=p) (raw:=raw) (H:=H) h gP.ro hr;obtain⟨⟨bv,h1,hb⟩,h4,h5,hlt,hro⟩:=g;have l1: ∀G,ld1 (some (rH 69 [bv,wv,.bool wt,ov])) 1 G=.val wv G:=λG=>XQ (show 1<4 by decide) ..;have el:=λ{j}=>M7 E (k:=k) (n:=j) hw [112,97,116,104];rw[hl] at el;have ew:=λ{e:Nat} {G:Heap}=>UL E (k:=k) (n:=n+1) (H:=G) (e:=e);have ec:=λ{j}=>nf E (k:=k) (n:=j) (by omega) (s:=p) (H:=H) (by have:=h.len;omega) gP;have d2:decide (p=[])=false:=Zc (by have:=(h.noslash []).2;exact this);have d3:decide ((Wm p).1≠0)=true:=Zi hcl;simp only[e1,h1,l1,el,e4,ew,ec,d2,d3,XA,XR,YQ,UI,Wi,decide_true,Zl,Zl,Zl,c86,ZG,Yj,Zz,Yc,Yg,UH,KA]
def Zbz(E:Env Zq fs Zk)(hk:12<=k){q lo:Nat}{l p B nm pf:Zd}{kd:Int}{wt:Bool}{wv ov:AV}{sp:Prop}{ws:List NP}(gH:V8 H)(g:Lm sp H q l wt wv ov)(hw:WT H wv ws lo)(hl:Proofs.lastR ws [112,97,116,104]=([],false))(hB:HR H b B)(h:PF p)(hnm:Gi ((B.drop 0).take 100)=nm)(hpf:Gi ((B.drop 345).take 155)=pf)(hr:(if pf=[] then nm else pf++[47]++nm)=p∨(if pf=[] then nm else pf++[47]++nm)=p++[47])(hcl:(Wm p).1≠0):
  ∃H',ZA (LK Zq fs Zk k) fs Zk (n+5) 86 [.ptr q 0,.ptr b 0,.int .i64 kd] H=.ret (.str p) H'∧Zu H H' []:=by
 rw[Z5 E.f86 (.inr rfl)];obtain⟨H1,e1,k1⟩:=om E (k:=k) (n:=n) (by omega) gH g hw hl nA hB (by decide);rw[hnm] at e1;have g1:=g.keep k1;have hw1:=hw.keep k1 (by simp);have hB1:=hB.keep0 k1;have fh:=gH.keep k1 (by simp);obtain⟨v,H2,e2,Kc,k2,far⟩:=PN E (k:=k) (n:=n+1) fh sI hB1;have e3:=λ{j}=>ZkG E (k:=k) (n:=j) (by omega) (v:=v) (H:=H2) Kc (by rw[Zy];omega);rw[hpf] at e3;have fi:=fh.keep k2 (by simp);have e4:=λ{j}=>sj E (k:=k) (n:=j) hk (p:=p) (raw:=if pf=[] then nm else pf++[47]++nm) (H:=H2) h fi.p.ro hr;obtain⟨⟨bv,h1,hb⟩,h4,h5,hlt,hro⟩:=g1;have l1: ∀G,ld1 (some (rH 69 [bv,wv,.bool wt,ov])) 1 G=.val wv G:=λG=>XQ (show 1<4 by decide) ..;have el:=λ{j}=>M7 E (k:=k) (n:=j) hw1 [112,97,116,104];rw[hl] at el;have ew:=λ{e:Nat} {G:Heap}=>UL E (k:=k) (n:=n+3) (H:=G) (e:=e);have ec:=λ{j}=>nf E (k:=k) (n:=j) (by omega) (s:=p) (H:=H2) (by have:=h.len;omega) fi.p;have d2:decide (p=[])=false:=Zc (by have:=(h.noslash []).2;exact this);have d3:decide ((Wm p).1≠0)=true:=Zi hcl;have ln1:nm.length<=100:=by rw[<-hnm];refine Yb (p8 _) ?_;rw[Zy];omega
 have ln2:pf.length<=155:=by rw[<-hpf];refine Yb (p8 _) ?_;rw[Zy];omega
 have as1: ∀G,Sr (.str pf) (.str [47]) G=.val (.str (pf++[47])) G:=λG=>Q1 (by show pf.length+1<=_;omega) G;have as2: ∀G,Sr (.str (pf++[47])) (.str nm) G=.val (.str (pf++[47]++nm)) G:=λG=>Q1 (by rw[Zh];show pf.length+1+nm.length<=_;omega) G
 by_cases hp0:pf=[]
 ·have d4:decide (pf=[])=true:=Zi hp0
  rw[if_pos hp0] at e4;simp only[e1,h1,l1,el,e2,e3,d4,e4,ew,ec,d2,d3,YI,XA,XR,YQ,UI,Wi,VL,decide_true,Zo,Zl,Zl,Zo,YI,Zl,Zo,c86,ZG,Yj,Zz,Yc,Yg,UH,KA];refine⟨_,rfl,?_⟩;exact k1.trans' k2
 ·have d4:decide (pf=[])=false:=Zc hp0
  rw[if_neg hp0] at e4;simp only[e1,h1,l1,el,e2,e3,d4,as1,as2,e4,ew,ec,d2,d3,YX,XA,XR,YQ,UI,Wi,VL,decide_true,Zo,Zl,Zl,Zo,YX,Zl,Zo,c86,ZG,Yj,Zz,Yc,Yg,UH,KA];refine⟨_,rfl,?_⟩;exact k1.trans' k2
end
end
end Go.AI
