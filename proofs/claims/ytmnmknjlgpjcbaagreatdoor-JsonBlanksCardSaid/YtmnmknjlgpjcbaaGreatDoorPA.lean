/- Texts and values, plainly, and how a heap bears them: proved, as each says. -/
import Derived.Test.YtmnmknjlgpjcbaaGreatDoorP7
import Derived.Test.YtmnmknjlgpjcbaaGreatDoorP9
set_option maxRecDepth 1000000
set_option maxHeartbeats 0
set_option linter.unusedVariables false
set_option linter.unusedSimpArgs false
namespace Go.AI
open Go
noncomputable section
theorem TZ{sz:Nat}: ∀{ls:List (List AV)},(∀l∈ls,l.length=sz)->ls.flatten.length=ls.length*sz
 |[],_=>by simp
 |l::ls,h=>by
  rw[Vy,Zm,TZ (λx hx=>h x (ZI _ hx)),h l (Zx ..),Zl,XQ]
  omega
theorem IS{sz:Nat}: ∀{ls:List (List AV)} {i:Nat},(∀l∈ls,l.length=sz)->i<ls.length->(ls.flatten.drop (i*sz)).take sz=ls.getD i []
 |l::ls,0,h,_=>by
  rw[TB,Ye,Vy,List.take_append_of_le_length (by rw[h l (Zx ..)];exact Zj _),ZM (by rw[h l (Zx ..)];exact Zj _)]
  rfl
 |l::ls,i+1,h,hi=>by
  have hl:=h l (Zx ..)
  have e:(i+1)*sz=l.length+i*sz:=by rw[hl,XQ];omega
  rw[Vy,e,<-U8,List.drop_left]
  have:=IS (i:=i) (λx hx=>h x (ZI _ hx)) (by simpa using hi)
  rw[this];rfl
structure Lr(H:Zc)(b e sz:Nat)(ls:List (List AV))(r:Row):Prop where
 at_:H.t.get b=some (.row r)
 elem:r.elem=e
 szr:r.sz=sz
 own:r.own=true
 fz:r.fz=0
 sm:r.sm=false
 exact_:r.exact=false
 cells:V7 r ls.flatten
 each: ∀l∈ls,l.length=sz
 ro:H.ro<=b
 low:b<H.nx
theorem Lr.size{H:Zc}{b e sz:Nat}{ls:List (List AV)}{r:Row}(h:Lr H b e sz ls r):r.size=ls.length*sz:=by rw[h.cells.size,TZ h.each]
theorem Lr.moved{H H':Zc}{b e sz:Nat}{ls:List (List AV)}{r:Row}(h:Lr H b e sz ls r)(g:H'.t.get b=H.t.get b)(YL:H'.ro=H.ro)(B5:H.nx<=H'.nx):Lr H' b e sz ls r:=
 ⟨g.trans h.at_,h.elem,h.szr,h.own,h.fz,h.sm,h.exact_,h.cells,h.each,by rw[YL];exact h.ro,ZH h.low B5⟩
theorem Lr.load{H H':Zc}{b e sz:Nat}{ls:List (List AV)}{r:Row}(h:Lr H b e sz ls r)(ht:H'.t=H.t){i:Nat}(hi:i<ls.length):zN sz (.ptr b (i*sz)) H'=.val (.agg (ls.getD i [])) H':=by
 have hf:=TZ h.each
 have hm:(i+1)*sz<=ls.length*sz:=Vg _ hi
 rw[XQ,U0] at hm
 rw[kx (r:=r) (by rw[ht];exact h.at_) h.cells (by omega),IS h.each hi]
theorem Qm{n i sz:Nat}(h:i<n)(b o:Nat)(c:Option Nat)(k:IntKind)(H:Zc):Ha sz (.slice b o n c) (nI k i) H=.val (.ptr b (o+i*sz)) H:=by
 show ZL (Nat.ble (Nat.succ i) n) (OR.val (.ptr b (Nat.add o (Nat.mul i sz))) H)=_
 rw[Zg (show Nat.succ i<=n from h)];rfl
def V0(H:Zc)(v:AV)(e sz:Nat)(ls:List (List AV))(lo:Nat):Prop:=(ls=[]∧v=.nils)∨(ls≠[]∧ ∃b r,v=.slice b 0 ls.length none∧Lr H b e sz ls r∧lo<=b)
theorem Jc{H:Zc}{v:AV}{e sz bytes:Nat}{ls:List (List AV)}{lo:Nat}(h:V0 H v e sz ls lo)(hsz:1<=sz)(hby:1<=bytes)(hl:(ls.length+1)*bytes<=140737488355328)(YL:H.ro<=H.nx)(Pj:lo<=H.nx){x:List AV}(hx:x.length=sz):
  ∃v' H',Uw e sz bytes v (.slice H.nx 0 1 none) (H.newRow e sz x true)=.val v' H'∧V0 H' v' e sz (ls++[x]) lo∧Below lo H H':=by
 generalize Yo:H.newRow e sz x true=H1
 have VH:H1.nx=H.nx+1:=by rw[<-Yo];rfl
 have k1:Zp H H1 []:=by rw[<-Yo];exact Zp.new H _ []
 have b1:Below lo H H1:=by rw[<-Yo];exact Below.new lo H _
 have gx:H1.t.get H.nx=some (.row ⟨e,sz,YH x,T.ofList x,.unk,0,false,true,true⟩):=by rw[<-Yo,OM,QL,if_pos rfl]
 have cx:=V7.new e sz x 0 false true true
 have src: ∀k:Nat->List AV->OR,(ul (.slice H.nx 0 1 none) λn=>Wt H1 sz (.slice H.nx 0 1 none) n λnew=>k n new)=k 1 x:=by
  intro k
  show(Wt H1 sz (.slice H.nx 0 1 none) 1 λnew=>k 1 new)=_
  generalize(⟨e,sz,YH x,T.ofList x,.unk,0,false,true,true⟩:Row)=r0 at gx cx
  unfold Wt Y3
  simp only[gx]
  show ZL (Nat.ble (0+1*sz) r0.size) (k 1 (loadN r0 0 (1*sz)))=_
  rw[U0,cx.size,hx,Zg (show 0+sz<=sz by omega)]
  have:=cx.load (o:=0) (n:=sz) (by omega)
  rw[this,Ye,ZM (by omega)]
  rfl
 have ap: ∀a,Uw e sz bytes a (.slice H.nx 0 1 none) H1=Q8 a e sz bytes H1 1 x:=by
  intro a
  show ZL (Nat.ble 1 sz) (ZL (Nat.ble 1 bytes) _)=_
  rw[Zg hsz,Zg hby]
  exact src λn new=>Q8 a e sz bytes H1 n new
 rw[ap]
 rcases h with⟨rfl,rfl⟩|⟨VY,b,r,rfl,g,hb⟩
 ·refine⟨.slice H1.nx 0 1 none,H1.newRow e sz x false,?_,.inr ⟨by simp,H1.nx,_,rfl,⟨by rw[OM,QL,if_pos rfl],rfl,rfl,rfl,rfl,rfl,rfl,by simpa using V7.new e sz x 0 false true false,λl hm=>by simp at hm;rw[hm];exact hx,by show H1.ro<=H1.nx;rw[k1.ro];omega,YZ _⟩,by omega⟩,b1.trans (Below.new lo H1 _)⟩
  show ZL (Nat.ble (1*bytes) 140737488355328) (OR.val (.slice H1.nx 0 1 none) (H1.newRow e sz x false))=_
  rw[Zg (by simpa using hl)];rfl
 ·have g1:Lr H1 b e sz ls r:=g.moved (k1.get b g.low (by simp)) k1.ro (by omega)
  have hs:=g1.size
  have GX:Uo r 0 none=ls.length:=by
   show cond (Nat.beq r.sz 1) (r.size - 0) ((r.size - 0)/r.sz)=_
   rw[g1.szr,hs,Qx]
   by_cases h1:sz=1
   ·subst h1;show ls.length*1=_;omega
   ·rw[Ym,Za h1]
    exact TA _ (by omega)
  have Rb:H1.may r b=true:=by unfold Zc.may;rw[g1.own,Zg g1.ro];rfl
  have hlen:(ls.length+1)*sz=ls.length*sz+sz:=by rw[XQ];omega
  refine⟨.slice H1.nx 0 (ls++[x]).length none,⟨Nat.succ H1.nx,(H1.t.del b).set H1.nx (.row ⟨r.elem,sz,(ls.length+1)*sz,XM r.cells (ls.length*sz) x,r.dflt,r.fz,r.sm,true,false⟩),H1.ro⟩,?_,.inr ⟨by simp,H1.nx,⟨r.elem,sz,(ls.length+1)*sz,XM r.cells (ls.length*sz) x,r.dflt,r.fz,r.sm,true,false⟩,rfl,⟨by rw[T.get_set,if_pos rfl],g1.elem,rfl,rfl,g1.fz,g1.sm,rfl,?_,?_,Yt g1.ro (PG g1.low),YZ _⟩,by omega⟩,b1.trans ⟨XZ _,rfl,λc hc hn=>?_⟩⟩
  ·show Y3 H1 b _=_
   unfold Y3
   simp only[g1.at_]
   have h1:Jx r sz none=true:=by show Nat.beq r.sz sz=true;rw[g1.szr,Yb]
   have h2:Nat.ble (Nat.add ls.length 1) (Uo r 0 none)=false:=by
    rw[GX]
    cases h:Nat.ble (Nat.add ls.length 1) ls.length with
    |false=>rfl
    |true=>have:=ZN h;have:ls.length+1<=ls.length:=this;omega
   rw[h1,h2]
   show ZL (Nat.ble ((ls.length+1)*bytes) 140737488355328) (ZL (Nat.ble (0+ls.length*sz) r.size) (cond r.exact _ (LI H1 e b 0 ls.length 1 sz r x)))=_
   rw[Zg hl,hs,Zt,Zg (Zj _),g1.exact_]
   show ZL (Nat.beq r.elem e) (ZL (H1.may r b) (ZL (Nat.ble r.fz (ls.length*sz)) (ZL (Nat.beq (ls.length*sz) r.size) (ZL (Nat.beq 0 0) _))))=_
   rw[g1.elem,Yb,Rb,g1.fz,Zg (Z1 _),hs,Yb]
   show OR.val (.slice H1.nx 0 (ls.length+1) none) _=_
   rw[Zm]
   rfl
  ·have hf:=TZ g1.each
   refine⟨by show(ls.length+1)*sz=_;rw[VE,Zm,hf];simp[hx];omega,λi hi=>?_⟩
   rw[VE,Zm,hf] at hi
   have e1:[x].flatten=x:=by simp
   rw[e1] at hi
   rw[Row.get_eq]
   show((XM r.cells (ls.length*sz) x).get i).getD r.dflt=_
   rw[Ss,Zf,VE,e1]
   by_cases h1:ls.length*sz<=i
   ·rw[if_pos ⟨h1,by omega⟩,YI (by omega),hf,Zi (show i - ls.length*sz<x.length by omega)];rfl
   ·rw[if_neg (by omega),Yr (by omega)]
    have:=g1.cells.get i (by omega)
    rw[Row.get_eq,Zf] at this
    exact this
  ·intro l hm
   rcases Zs.1 hm with hm|hm
   ·exact g1.each l hm
   ·simp at hm;rw[hm];exact hx
  ·show((H1.t.del b).set H1.nx _).get c=_
   rw[T.get_set,if_neg (by omega),T.get_del,if_neg (by omega)]
theorem V0.below{H H':Zc}{v:AV}{e sz:Nat}{ls:List (List AV)}{lo:Nat}(h:V0 H v e sz ls lo)(hp: ∀c,lo<=c->c<H.nx->H'.t.get c=H.t.get c)(YL:H'.ro=H.ro)(B5:H.nx<=H'.nx):V0 H' v e sz ls lo:=by
 rcases h with h|⟨VY,b,r,rfl,g,hb⟩
 ·exact .inl h
 ·exact .inr ⟨VY,b,r,rfl,g.moved (hp b hb g.low) YL B5,hb⟩
theorem V0.len{H:Zc}{v:AV}{e sz:Nat}{ls:List (List AV)}{lo:Nat}(h:V0 H v e sz ls lo)(G:Zc):QK v G=.val (nI .i64 ls.length) G:=by
 rcases h with⟨rfl,rfl⟩|⟨_,b,r,rfl,_⟩
 ·exact O3 G
 ·exact Vl ..
theorem V0.low{H:Zc}{v:AV}{e sz:Nat}{ls:List (List AV)}{lo:Nat}(h:V0 H v e sz ls lo){n:Nat}(hn:H.nx<=n):Xt n v=true:=by
 rcases h with⟨_,rfl⟩|⟨_,b,r,rfl,g,_⟩
 ·rfl
 ·exact We (ZH g.low hn) _ _ _
theorem V0.same{H:Zc}{v:AV}{e sz:Nat}{ls:List (List AV)}{lo:Nat}(h:V0 H v e sz ls lo)(n:Nat)(t:T Obj):VP (.val v ⟨n,t,n⟩) v n=true:=by
 rcases h with⟨_,rfl⟩|⟨_,b,r,rfl,_⟩
 ·exact Qn n t
 ·exact UU _ _ _ _ _ _
theorem oJ(a b:List UInt8):Lt (.str a) (.str b)=some (decide (a=b)):=by
 show some (Lo a b)=_
 rw[SD]
 congr 1
 by_cases h:a=b<;>simp[h]
def Seen(es:List RH)(ks:List (List UInt8)):Prop:=es.map (λe=>(e.key,e.val))=ks.map λk=>(AV.str k,nI .i64 1)
theorem Seen.nil:Seen [] []:=rfl
theorem Seen.push{es:List RH}{ks:List (List UInt8)}(h:Seen es ks)(k:List UInt8)(c:Nat):Seen (es++[⟨.str k,nI .i64 1,c⟩]) (ks++[k]):=by
 unfold Seen at*
 rw[Xo,Xo,h];rfl
theorem yl{no:OR}{yes:AV->OR}(k:List UInt8): ∀{es:List RH} {ks:List (List UInt8)},Seen es ks->VT Lt (.str k) no yes es=if k∈ks then yes (nI .i64 1) else no
 |[],ks,h=>by
  have:ks=[]:=by
   unfold Seen at h;cases ks with
   |nil=>rfl
   |cons=>simp at h
  subst this
  simp[VT]
 |e::es,[],h=>by unfold Seen at h;simp at h
 |e::es,q::ks,h=>by
  unfold Seen at h
  rw[Y8,Y8,List.cons.injEq,Prod.mk.injEq] at h
  obtain⟨⟨h1,h2⟩,h3⟩:=h
  unfold VT
  rw[h1,h2,oJ,yl k h3]
  show cond (decide (k=q)) _ _=_
  by_cases hk:k=q
  ·subst hk;simp
  ·simp[hk]
theorem tz{done:List RH->Nat->OR}{k:List UInt8}{v:AV}{c:Nat}: ∀{es:List RH} {ks:List (List UInt8)} {pre:List RH},Seen es ks->k∉ks->O4 Lt (.str k) v c (λl q=>done (pre++l) q) es=done (pre++(es++[⟨.str k,v,c⟩])) (c+1)
 |[],_,pre,_,_=>by simp[O4]
 |e::es,[],pre,h,_=>by unfold Seen at h;simp at h
 |e::es,q::ks,pre,h,hk=>by
  unfold Seen at h
  rw[Y8,Y8,List.cons.injEq,Prod.mk.injEq] at h
  obtain⟨⟨h1,h2⟩,h3⟩:=h
  unfold O4
  rw[h1,oJ,Za (λe=>hk (by rw[e];exact Zx ..))]
  show O4 Lt (.str k) v c (λl' c=>done (pre++(e::l')) c) es=_
  have:=tz (done:=done) (v:=v) (c:=c) (pre:=pre++[e]) h3 (λhm=>hk (ZI _ hm))
  simp only[Yl,Ti] at this
  rw[this];simp
def Zeq(eq:AV->AV->Option Bool)(zv:AV)(ok:Bool)(m k:AV)(H:Zc):OR:=Et m (JD ok H zv false) λb=>KC H b λo=>sL o λes=>VT eq k (JD ok H zv false) (λv=>JD ok H v true) es
theorem Rg(eq:AV->AV->Option Bool)(zv:AV)(ok:Bool)(m k:Yc)(tm:TM)(H:Zc):Dv eq zv ok m k tm H=Zeq eq zv ok (m tm) (k tm) H:=rfl
def ZlB(eq:AV->AV->Option Bool)(m k v:AV)(H:Zc):OR:=Et m .fail λb=>KC H b λo=>AE o λes clock=>
 ZL (Nat.ble H.ro b) (O4 eq k v clock (λes c=>.val YS (H.put b (.map es c))) es)
theorem MZ(eq:AV->AV->Option Bool)(m k v:Yc)(tm:TM)(H:Zc):MY eq m k v tm H=ZlB eq (m tm) (k tm) (v tm) H:=rfl
theorem Fg(tm:TM)(H:Zc):x4 tm H=.val (.map H.nx) (H.new (.map [] 0)):=rfl
def lkO(eq:AV->AV->Option Bool)(zv:AV)(ok:Bool)(x:Option Obj)(k:AV)(H:Zc):OR:=match x with|some o=>sL o λes=>VT eq k (JD ok H zv false) (λv=>JD ok H v true) es|none=>.fail
theorem PS(eq:AV->AV->Option Bool)(zv:AV)(ok:Bool)(b:Nat)(k:AV)(H:Zc):Zeq eq zv ok (.map b) k H=lkO eq zv ok (H.t.get b) k H:=rfl
def upO(eq:AV->AV->Option Bool)(x:Option Obj)(b:Nat)(k v:AV)(H:Zc):OR:=match x with|some o=>AE o λes clock=>ZL (Nat.ble H.ro b) (O4 eq k v clock (λes c=>.val YS (H.put b (.map es c))) es)|none=>.fail
theorem DG(eq:AV->AV->Option Bool)(b:Nat)(k v:AV)(H:Zc):ZlB eq (.map b) k v H=upO eq (H.t.get b) b k v H:=rfl
theorem uq{c:Nat}{es:List RH}{ks:List (List UInt8)}(hs:Seen es ks)(k:List UInt8)(H:Zc):lkO Lt (nI .i64 0) false (some (.map es c)) (.str k) H=.val (nI .i64 (if k∈ks then 1 else 0)) H:=by
 show VT Lt (.str k) _ _ es=_
 rw[yl k hs]
 split<;>rfl
theorem su{c:Nat}{es:List RH}{ks:List (List UInt8)}(hs:Seen es ks){k:List UInt8}(hk:k∉ks){b:Nat}{H:Zc}(YL:H.ro<=b):upO Lt (some (.map es c)) b (.str k) (nI .i64 1) H=.val YS (H.put b (.map (es++[⟨.str k,nI .i64 1,c⟩]) (c+1))):=by
 show ZL (Nat.ble H.ro b) (O4 Lt (.str k) (nI .i64 1) c (λes c=>.val YS (H.put b (.map es c))) es)=_
 rw[Zg YL]
 exact tz (done:=λes c=>OR.val YS (H.put b (.map es c))) (pre:=[]) hs hk
structure Sl(H:Zc)(sz:Nat)(v:AV)(ls:List (List AV)):Prop where
 each: ∀l∈ls,l.length=sz
 here:(ls=[]∧v=.nils)∨ ∃b o c,v=.slice b o ls.length c∧b<H.nx∧(ls≠[]-> ∃r,H.t.get b=some (.row r)∧o+ls.length*sz<=r.size∧ ∀i,i<ls.length*sz->r.get (o+i)=ls.flatten.getD i .unk)
theorem Sl.nil(H:Zc)(sz:Nat):Sl H sz .nils []:=⟨λ_ h=>(by cases h),.inl ⟨rfl,rfl⟩⟩
theorem Sl.keep{H H':Zc}{sz:Nat}{v:AV}{ls:List (List AV)}{S:List Nat}(h:Sl H sz v ls)(k:Zp H H' S)(hS: ∀b o n c,v=.slice b o n c->b∉S):Sl H' sz v ls:=by
 refine⟨h.each,?_⟩
 rcases h.here with h1|⟨b,o,c,rfl,hb,h2⟩
 ·exact .inl h1
 ·refine .inr ⟨b,o,c,rfl,ZH hb k.nx,λVY=>?_⟩
  obtain⟨r,h3,h4⟩:=h2 VY
  exact⟨r,by rw[k.get b hb (hS _ _ _ _ rfl)];exact h3,h4⟩
theorem Sl.keep0{H H':Zc}{sz:Nat}{v:AV}{ls:List (List AV)}(h:Sl H sz v ls)(k:Zp H H' []):Sl H' sz v ls:=h.keep k (by simp)
theorem Sl.len{H:Zc}{sz:Nat}{v:AV}{ls:List (List AV)}(h:Sl H sz v ls)(G:Zc):QK v G=.val (nI .i64 ls.length) G:=by
 rcases h.here with⟨rfl,rfl⟩|⟨b,o,c,rfl,_⟩
 ·rfl
 ·exact Vl ..
theorem Sl.low{H:Zc}{sz:Nat}{v:AV}{ls:List (List AV)}(h:Sl H sz v ls){n:Nat}(hn:H.nx<=n):Xt n v=true:=by
 rcases h.here with⟨rfl,rfl⟩|⟨b,o,c,rfl,hb,_⟩
 ·rfl
 ·exact We (by omega) ..
theorem Sl.same{H:Zc}{sz:Nat}{v:AV}{ls:List (List AV)}(h:Sl H sz v ls)(n:Nat)(t:T Obj):VP (.val v ⟨n,t,n⟩) v n=true:=by
 rcases h.here with⟨rfl,rfl⟩|⟨b,o,c,rfl,_⟩
 ·exact Qn ..
 ·exact UU ..
theorem Sl.cells{H:Zc}{sz:Nat}{v:AV}{ls:List (List AV)}(h:Sl H sz v ls):v.cells=[v]:=by
 rcases h.here with⟨rfl,rfl⟩|⟨b,o,c,rfl,_⟩<;>rfl
theorem Sl.at_{H:Zc}{sz:Nat}{v:AV}{ls:List (List AV)}(h:Sl H sz v ls){i:Nat}(hi:i<ls.length):
  ∃b o r,(∀(k:IntKind) (G:Zc),Ha sz v (nI k i) G=.val (.ptr b o) G)∧b<H.nx∧H.t.get b=some (.row r)∧(∀G:Zc,ldN sz (some (.row r)) o G=.val (.agg (ls.getD i [])) G)∧ ∀(j:Nat) (G:Zc),j<sz->ld1 (some (.row r)) (o+j) G=.val ((ls.getD i []).getD j .unk) G:=by
 have VY:ls≠[]:=by intro e;subst e;cases hi
 rcases h.here with⟨rfl,_⟩|⟨b,o,c,rfl,hb,h2⟩
 ·exact absurd rfl VY
 ·obtain⟨r,h3,h4,h5⟩:=h2 VY
  have hm:(i+1)*sz<=ls.length*sz:=Vg _ hi
  rw[XQ,U0] at hm
  have hf:=TZ h.each
  have hg:=IS h.each hi
  refine⟨b,o+i*sz,r,λk G=>Qm hi b o c k G,hb,h3,λG=>?_,λj G hj=>?_⟩
  ·show ZL (Nat.ble (Nat.add (o+i*sz) sz) r.size) (OR.val (.agg (loadN r (o+i*sz) sz)) G)=_
   rw[Zg (show Nat.add (o+i*sz) sz<=r.size by show o+i*sz+sz<=_;omega)]
   show OR.val (.agg (loadN r (o+i*sz) sz)) G=_
   congr 2
   rw[<-hg]
   apply Wl
   intro j
   by_cases hj:j<sz
   ·rw[SJ _ _ _ _ hj,XJ hj,X9]
    have:=h5 (i*sz+j) (by omega)
    rw[<-XC,Zf,Zi (by omega)] at this
    rw[Zi (by omega),this];rfl
   ·rw[YF (by rw[So];omega),YF (by rw[Z9];omega)]
  ·rw[Dt (by omega)]
   congr 1
   rw[<-hg,XC,h5 _ (by omega),Zf,Zf,XJ hj,X9]
theorem Sl.of_recs{H:Zc}{b e sz:Nat}{ls:List (List AV)}{r:Row}(h:Lr H b e sz ls r)(c:Option Nat):Sl H sz (.slice b 0 ls.length c) ls:=
 ⟨h.each,.inr ⟨b,0,c,rfl,h.low,λ_=>⟨r,h.at_,by rw[h.size];omega,λi hi=>by rw[Zt];exact h.cells.get i (by rw[TZ h.each];exact hi)⟩⟩⟩
theorem Sl.of_buf{H:Zc}{v:AV}{e sz:Nat}{ls:List (List AV)}{lo:Nat}(h:V0 H v e sz ls lo):Sl H sz v ls:=by
 rcases h with⟨rfl,rfl⟩|⟨_,b,r,rfl,h,_⟩
 ·exact Sl.nil ..
 ·exact Sl.of_recs h _
theorem Xg{n b:Nat}{l vs:List AV}{H:Zc}(hl:l.length=n)(hv:vs.length=n)(hn:1<=n)(YL:H.ro<=b)(e sz:Nat)(sm ex:Bool):FG n (some (rG e sz l 0 sm true ex)) b 0 (.agg vs) H=.val YS (H.put b (rG e sz vs 0 sm true ex)):=by
 rw[Il hn (by exact hv) (by omega) YL (Z1 _)]
 congr 3
 rw[qh _ _ _ (by show 0+vs.length<=_;omega)]
 show []++(vs++l.drop (0+vs.length))=vs
 rw[Y0 (by omega)];simp
theorem Gv{α:Type}[Inhabited α](l:List α)(f:α->Bool):(List.range l.length).any (λi=>f (l.getD i default))=l.any f:=by
 rw[W7]
 simp only[List.any_eq_true,S3]
 constructor
 ·rintro ⟨i,hi,h⟩
  rw[Zf,Zi hi] at h
  exact⟨_,YJ hi,h⟩
 ·rintro ⟨x,hx,h⟩
  obtain⟨i,hi,rfl⟩:=OT hx
  exact⟨i,hi,by rw[Zf,Zi hi];exact h⟩
def Ma(p:Nat->Bool)(n:Nat):AV:=match(List.range n).find? p with|some i=>nI .i64 i|none=>.int .i64 (.negSucc 0)
theorem A1{p:Nat->Bool}{n:Nat}(h: ∀j,j<n->p j=false):(List.range n).find? p=none:=by
 rw[List.find?_eq_none];intro x hx;rw[h x (S3.1 hx)];simp
theorem A3{p:Nat->Bool}{n i:Nat}(hi:i<n)(h: ∀j,j<i->p j=false)(hp:p i=true):(List.range n).find? p=some i:=by
 rw[List.find?_range_eq_some]
 exact⟨hp,S3.2 hi,λj hj=>by rw[h j hj];rfl⟩
theorem ni(p:Nat->Bool)(n:Nat)(H:Zc):P6 T3 Vs (Ma p n) (nI .i64 0) H=.val (.bool ((List.range n).any p)) H:=by
 unfold Ma
 cases h:(List.range n).find? p with
 |none=>
  have:(List.range n).any p=false:=by
   rw[List.find?_eq_none] at h
   rw[X2];exact h
  rw[this]
  show ZL (Qd .i64 .i64) _=_
  rw[Y4];rfl
 |some i=>
  have:(List.range n).any p=true:=List.any_eq_true.2 ⟨i,List.mem_of_find?_eq_some h,List.find?_some h⟩
  rw[this,Yu];rfl
def V4(b:Nat):Nat:=if b<128 then 240 else if b<194 then 241 else if b<224 then 2 else if b=224 then 19 else if b=237 then 35 else if b<240 then 3 else if b=240 then 52 else if b<244 then 4 else if b=244 then 68 else 241
def fQ:List Nat:=(List.range 256).map V4
def QZ:List Nat:=[128,191,160,191,128,159,144,191,128,143,0,0,0,0,0,0,0,0,0,0,0,0,0,0,0,0,0,0,0,0,0,0]
def Z3(s:List UInt8)(i:Nat):Nat:=(s.getD i 0).toNat
def Xc(s:List UInt8):Nat:=
 let b:=Z3 s 0
 if b<128 then 1 else
 let x:=V4 b
 let lo:=QZ.getD (x/16*2) 0
 let hi:=QZ.getD (x/16*2+1) 0
 if x % 8=2 then(if s.length<2∨Z3 s 1<lo∨hi<Z3 s 1 then 0 else 2)
 else if x % 8=3 then(if s.length<3∨Z3 s 1<lo∨hi<Z3 s 1∨Z3 s 2<128∨191<Z3 s 2 then 0 else 3)
 else if x % 8=4 then(if s.length<4∨Z3 s 1<lo∨hi<Z3 s 1∨Z3 s 2<128∨191<Z3 s 2∨Z3 s 3<128∨191<Z3 s 3 then 0 else 4)
 else 0
def a9:Nat->List UInt8->Bool
 |0,_=>true
 |f+1,s=>if s.length=0 then true else if Xc s=0 then false else a9 f (s.drop (Xc s))
def vu(s:List UInt8):Bool:=a9 s.length s
theorem ae{s:List UInt8}(h:0<s.length):Xc s<=s.length:=by
 unfold Xc
 simp only
 split
 ·omega
 ·split
  ·split<;>omega
  ·split
   ·split<;>omega
   ·split
    ·split<;>omega
    ·omega
theorem sA: ∀(f g:Nat) (s:List UInt8),s.length<=f->s.length<=g->a9 f s=a9 g s
 |0,g,s,h,_=>by
  have:s.length=0:=by omega
  cases g with
  |zero=>rfl
  |succ g=>unfold a9;rw[if_pos this]
 |f+1,0,s,_,h=>by
  have:s.length=0:=by omega
  unfold a9;rw[if_pos this]
 |f+1,g+1,s,h,hg=>by
  unfold a9
  by_cases h0:s.length=0
  ·rw[if_pos h0,if_pos h0]
  ·rw[if_neg h0,if_neg h0]
   by_cases h1:Xc s=0
   ·rw[if_pos h1,if_pos h1]
   ·rw[if_neg h1,if_neg h1]
    exact sA f g _ (by rw[Z7];omega) (by rw[Z7];omega)
theorem Zhs:vu []=true:=rfl
theorem Zaa(f:Nat)(s:List UInt8):a9 (f+1) s=if s.length=0 then true else if Xc s=0 then false else a9 f (s.drop (Xc s)):=rfl
theorem DI{s:List UInt8}(h:0<s.length):vu s=if Xc s=0 then false else vu (s.drop (Xc s)):=by
 show a9 s.length s=if Xc s=0 then false else a9 (s.drop (Xc s)).length (s.drop (Xc s))
 obtain⟨n,hn⟩: ∃n,s.length=n+1:=⟨s.length - 1,by omega⟩
 rw[hn,Zaa,if_neg (by omega)]
 by_cases h1:Xc s=0
 ·rw[if_pos h1,if_pos h1]
 ·rw[if_neg h1,if_neg h1]
  exact sA n _ (s.drop (Xc s)) (by rw[Z7];omega) (Zj _)
theorem BT{s:List UInt8}(h:0<s.length)(h2:Xc s=0):vu s=false:=by rw[DI h,if_pos h2]
theorem Gn{s:List UInt8}{n:Nat}(h:0<s.length)(h2:Xc s=n)(h3:n≠0):vu s=vu (s.drop n):=by rw[DI h,if_neg (by rw[h2];exact h3),h2]
theorem PX{s:List UInt8}(h:Z3 s 0<128):Xc s=1:=by unfold Xc;simp only;rw[if_pos h]
theorem Nr(s:List UInt8)(n i:Nat):Z3 (s.drop n) i=Z3 s (n+i):=by
 unfold Z3
 rw[Zf,X9,Zf]
theorem Gm: ∀(n:Nat) {s:List UInt8},n<=s.length->(∀i,i<n->Z3 s i<128)->vu s=vu (s.drop n)
 |0,s,_,_=>by rw[Ye]
 |n+1,s,h,ha=>by
  rw[DI (by omega),PX (ha 0 (by omega)),if_neg (by omega),Gm n (s:=s.drop 1) (by rw[Z7];omega) (λi hi=>by rw[Nr];exact ha _ (by omega)),U8,Nat.add_comm]
def w8(s:List UInt8):Nat:=
 Z3 s 0|||Z3 s 1*2^8 % 18446744073709551616|||Z3 s 2*2^16 % 18446744073709551616|||Z3 s 3*2^24 % 18446744073709551616|||Z3 s 4*2^32 % 18446744073709551616|||Z3 s 5*2^40 % 18446744073709551616|||Z3 s 6*2^48 % 18446744073709551616|||Z3 s 7*2^56 % 18446744073709551616
theorem N0(s:List UInt8)(i:Nat):Z3 s i<256:=(s.getD i 0).toNat_lt
theorem ZeU{b k:Nat}(hk:k<=7)(h:(b*2^(8*k) % 18446744073709551616).testBit (8*k+7)=false)(hb:b<256):b<128:=by
 rw[show(18446744073709551616:Nat)=2^64 from rfl,Nat.testBit_mod_two_pow,Ze (by omega),YG,Nat.testBit_mul_two_pow] at h
 have h:b.testBit 7=false:=by
  rw[Ze (by omega),YG,show 8*k+7 - 8*k=7 by omega] at h;exact h
 rw[Nat.testBit_eq_decide_div_mod_eq] at h
 have:=of_decide_eq_false h
 omega
theorem Ld{s:List UInt8}(h: ∀k,k<8->(w8 s).testBit (8*k+7)=false): ∀i,i<8->Z3 s i<128:=by
 have e: ∀k,k<8-> ∀j,j<8->((Z3 s j)*2^(8*j) % 18446744073709551616).testBit (8*k+7)=false:=by
  intro k hk j hj
  have:=h k hk
  unfold w8 at this
  simp only[Nat.testBit_or,XI] at this
  obtain⟨⟨⟨⟨⟨⟨⟨a0,a1⟩,a2⟩,a3⟩,a4⟩,a5⟩,a6⟩,a7⟩:=this
  have hb:=N0 s 0
  match j,hj with
  |0,_=>rw[Nat.mul_zero,Nat.pow_zero,Xr,ZV (by omega)];exact a0
  |1,_=>exact a1
  |2,_=>exact a2
  |3,_=>exact a3
  |4,_=>exact a4
  |5,_=>exact a5
  |6,_=>exact a6
  |7,_=>exact a7
 intro i hi
 exact ZeU (by omega) (e i hi i hi) (N0 s i)
theorem Fc{x:Nat}(h:x&&&9259542123273814144=0): ∀k,k<8->x.testBit (8*k+7)=false:=by
 intro k hk
 have:(x&&&9259542123273814144).testBit (8*k+7)=false:=by rw[h];exact Nat.zero_testBit _
 rw[Nat.testBit_and] at this
 have hm: ∀k,k<8->(9259542123273814144:Nat).testBit (8*k+7)=true:=by decide
 rw[hm k hk,Bool.and_true] at this
 exact this
theorem ZeP{s:List UInt8}(h:w8 s&&&9259542123273814144=0): ∀i,i<8->Z3 s i<128:=Ld (Fc h)
theorem gt{x y:Nat}(h:(x|||y)&&&9259542123273814144=0):(∀k,k<8->x.testBit (8*k+7)=false)∧ ∀k,k<8->y.testBit (8*k+7)=false:=by
 have:=Fc h
 simp only[Nat.testBit_or,XI] at this
 exact⟨λk hk=>(this k hk).1,λk hk=>(this k hk).2⟩
theorem ZaR{s:List UInt8}(h:(w8 s|||w8 (s.drop 8))&&&9259542123273814144=0): ∀i,i<16->Z3 s i<128:=by
 obtain⟨a,b⟩:=gt h
 intro i hi
 by_cases h8:i<8
 ·exact Ld a i h8
 ·have:=Ld b (i - 8) (by omega)
  rw[Nr,show 8+(i - 8)=i by omega] at this;exact this
theorem ZaS{s:List UInt8}(h:(w8 s|||w8 (s.drop 8)|||(w8 (s.drop 16)|||w8 (s.drop 24)))&&&9259542123273814144=0): ∀i,i<32->Z3 s i<128:=by
 have:=Fc h
 simp only[Nat.testBit_or,XI] at this
 intro i hi
 by_cases h8:i<8
 ·exact Ld (λk hk=>(this k hk).1.1) i h8
 by_cases h16:i<16
 ·have:=Ld (λk hk=>(this k hk).1.2) (i - 8) (by omega)
  rw[Nr,show 8+(i - 8)=i by omega] at this;exact this
 by_cases h24:i<24
 ·have:=Ld (λk hk=>(this k hk).2.1) (i - 16) (by omega)
  rw[Nr,show 16+(i - 16)=i by omega] at this;exact this
 ·have:=Ld (λk hk=>(this k hk).2.2) (i - 24) (by omega)
  rw[Nr,show 24+(i - 24)=i by omega] at this;exact this
def Vq:List (List UInt8)->List UInt8
 |[]=>[]
 |s::r=>s++r.flatMap λx=>44::x
def M9(l:List (List UInt8)):Nat:=(l.map List.length).sum
theorem FH(s:List UInt8)(l:List (List UInt8)):M9 (s::l)=s.length+M9 l:=by unfold M9;simp
theorem sc(a b:List (List UInt8)):M9 (a++b)=M9 a+M9 b:=by unfold M9;simp
theorem zG{l:List (List UInt8)}(h:l≠[])(r:List (List UInt8)):Vq (l++r)=Vq l++r.flatMap λx=>44::x:=by
 cases l with
 |nil=>exact absurd rfl h
 |cons s l=>show s++(l++r).flatMap _=(s++l.flatMap _)++_;rw[TR,Yl]
theorem A4: ∀r:List (List UInt8),(r.flatMap λx=>(44:UInt8)::x).length=r.length+M9 r
 |[]=>rfl
 |x::r=>by
  rw[X8,Zm,A4 r,Zl,Zl,FH];omega
theorem zH{l:List (List UInt8)}(h:l≠[]):(Vq l).length=(l.length - 1)+M9 l:=by
 cases l with
 |nil=>exact absurd rfl h
 |cons s l=>
  show(s++l.flatMap _).length=_
  rw[Zm,A4,FH,Zl];omega
theorem OP{α:Type}[Inhabited α]{l:List α}{i:Nat}(h:i<l.length)(d:α):l.take (i+1)=l.take i++[l.getD i d]:=by
 rw[TW,Zi h,Zf,Zi h];rfl
theorem qd{l:List (List UInt8)}{i:Nat}(h:i+1<l.length):Vq (l.take (i+2))=Vq (l.take (i+1))++[44]++l.getD (i+1) []:=by
 rw[OP h [],zG (by intro e;have:=congrArg List.length e;rw[Z9,ZA] at this;omega)]
 simp
theorem ui{l:List (List UInt8)}{k:Nat}(h:0<k)(hl:l≠[]):(Vq (l.take k)).length<=(Vq l).length:=by
 have e:l.take k≠[]:=by intro e;have:=congrArg List.length e;rw[Z9,ZA] at this;have:=XU.2 hl;omega
 have:=zG e (l.drop k)
 rw[WI] at this
 rw[this,Zm];omega
theorem ir{l:List (List UInt8)}{i:Nat}(h:i<l.length):M9 (l.take (i+1))=M9 (l.take i)+(l.getD i []).length:=by
 rw[OP h [],sc];unfold M9;simp
theorem Zdt(l:List (List UInt8))(k:Nat):M9 (l.take k)<=M9 l:=by
 have:=sc (l.take k) (l.drop k)
 rw[WI] at this;omega
def N7(n:Nat):UInt8:=if n<10 then UInt8.ofNat (48+n) else UInt8.ofNat (87+n)
def qB(c:UInt8):List UInt8:=if c.toNat=34∨c.toNat=92 then [92,c] else if c.toNat<32 then [92,117,48,48,N7 (c.toNat/16),N7 (c.toNat % 16)] else [c]
def quo(s:List UInt8):List UInt8:=[34]++s.flatMap qB++[34]
theorem bw(c:UInt8):1<=(qB c).length∧(qB c).length<=6:=by
 unfold qB;split
 ·simp
 ·split<;>simp
theorem nP: ∀s:List UInt8,(s.flatMap qB).length<=6*s.length
 |[]=>by simp
 |c::s=>by
  rw[X8,Zm,Zl]
  have:=nP s;have:=(bw c).2;omega
theorem Dz(s:List UInt8):(quo s).length<=6*s.length+2∧2<=(quo s).length:=by
 unfold quo
 have:=nP s
 simp only[Zm,Zl,ZA]
 omega
theorem Zhk{s:List UInt8}{i:Nat}(h:i<s.length):(s.take (i+1)).flatMap qB=(s.take i).flatMap qB++qB (s.getD i 0):=by
 rw[TW,Zi h,TR,Zf,Zi h]
 simp
theorem Zcv{s:List UInt8}{i:Nat}(h:i<s.length):(s.take (i+1)).drop i=[s.getD i 0]:=by
 rw[TW,Zi h,List.drop_append,Y0 (by rw[Z9];omega),Z9,VA (by omega),Sm,Zf,Zi h]
 rfl
theorem ZfZ{n:Nat}(h:n<16):Z3 [48,49,50,51,52,53,54,55,56,57,97,98,99,100,101,102] n=(N7 n).toNat:=by
 have:n=0∨n=1∨n=2∨n=3∨n=4∨n=5∨n=6∨n=7∨n=8∨n=9∨n=10∨n=11∨n=12∨n=13∨n=14∨n=15:=by omega
 rcases this with rfl|rfl|rfl|rfl|rfl|rfl|rfl|rfl|rfl|rfl|rfl|rfl|rfl|rfl|rfl|rfl<;>rfl
theorem ZeT{n:Nat}(h:n<2):Z3 [48,49] n=(N7 n).toNat:=by
 have:n=0∨n=1:=by omega
 rcases this with rfl|rfl<;>rfl
theorem oV{n:Nat}(h:n<16):(N7 n).toNat<128:=by
 have:n=0∨n=1∨n=2∨n=3∨n=4∨n=5∨n=6∨n=7∨n=8∨n=9∨n=10∨n=11∨n=12∨n=13∨n=14∨n=15:=by omega
 rcases this with rfl|rfl|rfl|rfl|rfl|rfl|rfl|rfl|rfl|rfl|rfl|rfl|rfl|rfl|rfl|rfl<;>decide
inductive JV where
 |mk (k:Nat) (b:Bool) (n:Int) (s:List UInt8) (l:List JV) (m:List (List UInt8×JV))
instance:Inhabited JV:=⟨.mk 0 false 0 [] [] []⟩
namespace JV
def apart:JV->Bool
 |.mk k b n s l m=>(decide (k=2)||!b)&&(decide (k=3)||decide (n=0))&&(decide (k=4)||decide (s=[]))&&(decide (k=5)||decide (l.length=0))&&(decide (k=6)||decide (m.length=0))
def badM(f:JV->Bool):List (List UInt8)->List (List UInt8×JV)->Bool
 |_,[]=>false
 |seen,e::m=>decide (e.1∈seen)||!vu e.1||f e.2||badM f (seen++[e.1]) m
def wrong:Nat->JV->Bool
 |0,_=>false
 |d+1,.mk k b n s l m=>decide (k<1)||decide (6<k)||!apart (.mk k b n s l m)||!vu s||badM (wrong d) [] m||l.any (wrong d)
def deep:Nat->JV->Bool
 |0,_=>true
 |d+1,.mk _ _ _ _ l m=>l.any (deep d)||m.any λe=>deep d e.2
def check(v:JV):Nat:=if wrong 32 v then 1 else if deep 32 v then 23 else 0
end JV
section
def VR(H:Zc):Nat->JV->List AV->Prop
 |0,_,_=>False
 |h+1,.mk k b n s l m,cs=> ∃lv mv ls ms,cs=[nI .i64 k,.bool b,.int .i64 n,.str s,lv,mv]∧ -9223372036854775808<=n∧n<9223372036854775808∧s.length<=9000∧l.length<=9000∧m.length<=9000∧Sl H 6 lv ls∧Sl H 7 mv ms∧ls.length=l.length∧ms.length=m.length∧
  (∀i,i<l.length->VR H h (l.getD i default) (ls.getD i []))∧ ∀i,i<m.length->(m.getD i default).1.length<=9000∧ ∃t,ms.getD i []=.str (m.getD i default).1::t∧VR H h (m.getD i default).2 t
theorem VR.keep{H H':Zc}(k:Zp H H' []): ∀{h:Nat} {v:JV} {cs:List AV},VR H h v cs->VR H' h v cs
 |h+1,.mk _ _ _ _ l m,cs,⟨lv,mv,ls,ms,e,a1,a2,a3,a4,a5,sl,sm,e1,e2,hl,hm⟩=>
  ⟨lv,mv,ls,ms,e,a1,a2,a3,a4,a5,sl.keep0 k,sm.keep0 k,e1,e2,λi hi=>(hl i hi).keep k,λi hi=>by
   obtain⟨b,t,c,d⟩:=hm i hi
   exact⟨b,t,c,d.keep k⟩⟩
theorem VR.up{H:Zc}: ∀{h h':Nat} {v:JV} {cs:List AV},h<=h'->VR H h v cs->VR H h' v cs
 |h+1,h'+1,.mk _ _ _ _ l m,cs,hh,⟨lv,mv,ls,ms,e,a1,a2,a3,a4,a5,sl,sm,e1,e2,hl,hm⟩=>
  ⟨lv,mv,ls,ms,e,a1,a2,a3,a4,a5,sl,sm,e1,e2,λi hi=>(hl i hi).up (by omega),λi hi=>by
   obtain⟨b,t,c,d⟩:=hm i hi
   exact⟨b,t,c,d.up (by omega)⟩⟩
 |h+1,0,_,_,hh,_=>by omega
theorem VR.len{H:Zc}: ∀{h:Nat} {v:JV} {cs:List AV},VR H h v cs->cs.length=6
 |h+1,.mk _ _ _ _ l m,cs,⟨lv,mv,ls,ms,e,_⟩=>by rw[e];rfl
end
section
variable {α:Type} [Inhabited α] (lt:α->α->Bool)
def swp(L:List α)(j:Nat):List α:=(L.set (j+1) (L.getD j default)).set j (L.getD (j+1) default)
def NQ:Nat->List α->List α
 |0,L=>L
 |j+1,L=>if lt (L.getD (j+1) default) (L.getD j default) then NQ j (swp L j) else L
def Jq:Nat->Nat->List α->List α
 |0,_,L=>L
 |k+1,i,L=>Jq k (i+1) (NQ lt i L)
def Xi(L:List α):List α:=Jq lt (L.length - 1) 1 L
theorem NG(L:List α)(j:Nat):(swp L j).length=L.length:=by unfold swp;rw[Xv,Xv]
theorem PR: ∀(j:Nat) (L:List α),(NQ lt j L).length=L.length
 |0,L=>rfl
 |j+1,L=>by
  unfold NQ
  split
  ·rw[PR j,NG]
  ·rfl
theorem uc: ∀(k i:Nat) (L:List α),(Jq lt k i L).length=L.length
 |0,_,L=>rfl
 |k+1,i,L=>by unfold Jq;rw[uc k,PR]
theorem SH(L:List α):(Xi lt L).length=L.length:=uc lt _ _ L
theorem Zdu{L:List α}{j:Nat}(h:j+1<L.length): ∀x∈swp L j,x∈L:=by
 intro x hx
 unfold swp at hx
 have d: ∀i,i<L.length->L.getD i default∈L:=λi hi=>by rw[Zf,Zi hi];exact YJ hi
 rcases SM hx with h1|h1
 ·rcases SM h1 with h2|h2
  ·exact h2
  ·rw[h2];exact d _ (by omega)
 ·rw[h1];exact d _ h
theorem ua: ∀{j:Nat} {L:List α},j<L.length-> ∀x∈NQ lt j L,x∈L
 |0,L,_,x,hx=>hx
 |j+1,L,h,x,hx=>by
  unfold NQ at hx
  split at hx
  ·exact Zdu h x (ua (by rw[NG];omega) x hx)
  ·exact hx
theorem ud: ∀{k i:Nat} {L:List α},i+k<=L.length-> ∀x∈Jq lt k i L,x∈L
 |0,_,L,_,x,hx=>hx
 |k+1,i,L,h,x,hx=>by
  unfold Jq at hx
  exact ua lt (by omega) x (ud (by rw[PR];omega) x hx)
theorem T4{L:List α}: ∀x∈Xi lt L,x∈L:=by
 intro x hx
 unfold Xi at hx
 by_cases h:L.length=0
 ·have:L=[]:=Yj.1 h
  subst this;exact hx
 ·exact ud lt (by omega) x hx
end
section
theorem A5{sz:Nat}{ls:List (List AV)}(h: ∀l∈ls,l.length=sz){i j:Nat}(hi:i<ls.length)(hj:j<sz):ls.flatten.getD (i*sz+j) .unk=(ls.getD i []).getD j .unk:=by
 rw[<-IS h hi,Zf,Zf,XJ hj,X9]
theorem HY{sz:Nat}{ls:List (List AV)}(h: ∀l∈ls,l.length=sz){vs:List AV}(hv:vs.length=sz)(i:Nat): ∀l∈ls.set i vs,l.length=sz:=by
 intro l hl
 rcases SM hl with h1|h1
 ·exact h l h1
 ·rw[h1];exact hv
theorem Lr.store{H:Zc}{b e sz:Nat}{ls:List (List AV)}{r:Row}(h:Lr H b e sz ls r){i:Nat}(hi:i<ls.length){vs:List AV}(hv:vs.length=sz)(hsz:1<=sz):
  ∃r',FG sz (some (.row r)) b (i*sz) (.agg vs) H=.val YS (H.put b (.row r'))∧Lr (H.put b (.row r')) b e sz (ls.set i vs) r':=by
 have hm:(i+1)*sz<=ls.length*sz:=Vg _ hi
 rw[XQ,U0] at hm
 have hs:=h.size
 have Rb:H.may r b=true:=by unfold Zc.may;rw[h.own,Zg h.ro];rfl
 refine⟨r.setCells (XM r.cells (i*sz) vs),?_,ZS ..,h.elem,h.szr,h.own,h.fz,h.sm,h.exact_,⟨?_,λq hq=>?_⟩,HY h.each hv i,h.ro,h.low⟩
 ·show ZL (Nat.ble 1 sz) (ZL (H.may r b) (ZL (Nat.ble (i*sz+sz) r.size) (ZL (Nat.ble r.fz (i*sz)) (ZL (Nat.beq (YH vs) sz) _))))=_
  rw[Zg hsz,Rb,Zg (by omega),h.fz,Zg (Z1 _),YC,hv,Yb];rfl
 ·show r.size=_
  rw[TZ (HY h.each hv i),Xv,hs]
 ·have hf:=TZ (HY h.each hv i)
  rw[Xv] at hf
  rw[hf] at hq
  show(Option.rec r.dflt (λv=>v) ((XM r.cells (i*sz) vs).get q):AV)=_
  have hd:=Nat.div_add_mod q sz
  have hmd:=W1 q hsz
  have o6:q/sz<ls.length:=Nat.div_lt_of_lt_mul (by rw[Ty];exact hq)
  rw[Ty] at hd
  generalize hqa:q/sz=a at hd o6
  generalize hqc:q % sz=cc at hd hmd
  rw[Ss,<-hd,A5 (HY h.each hv i) (by rw[Xv];exact o6) hmd]
  by_cases ha:a=i
  ·subst ha
   have e:(ls.set a vs).getD a []=vs:=by rw[Zf,Ul o6];rfl
   rw[if_pos (by omega),show a*sz+cc - a*sz=cc by omega,e,Zf,Zi (by omega)];rfl
  ·have: ¬(i*sz<=a*sz+cc∧a*sz+cc<i*sz+vs.length):=by
    intro⟨h1,h2⟩
    rcases Nat.lt_or_gt_of_ne ha with h3|h3
    ·have:=Vg sz (show a+1<=i from h3);rw[XQ] at this;omega
    ·have:=Vg sz (show i+1<=a from h3);rw[XQ] at this;omega
   rw[if_neg this]
   have:=h.cells.get (a*sz+cc) (by rw[TZ h.each];omega)
   rw[A5 h.each o6 hmd] at this
   rw[Zf (l:=ls.set i vs),U9 (λe=>ha e.symm),<-Zf]
   exact this
end
def TG(x y:List UInt8×JV):Bool:=YD x.1 y.1
namespace JV
def text:Nat->JV->List UInt8
 |0,_=>[]
 |h+1,.mk k b n s l m=>if k=1 then [110,117,108,108] else if k=2 then(if b=true then [116,114,117,101] else [102,97,108,115,101]) else if k=3 then P7 n else if k=4 then quo s
  else if k=5 then [91]++Vq (l.map (text h))++[93] else [123]++Vq ((Xi TG m).map λe=>quo e.1++[58]++text h e.2)++[125]
def tb:Nat->JV->Nat
 |0,_=>0
 |h+1,.mk _ _ _ s l m=>50+6*s.length+(l.map λx=>1+tb h x).sum+(m.map λe=>6*e.1.length+4+tb h e.2).sum
def ok:Nat->JV->Prop
 |0,_=>True
 |h+1,.mk _ _ n _ l m=>(-9223372036854775808<=n∧n<9223372036854775808)∧m.length<=12∧(∀x∈l,ok h x)∧ ∀e∈m,ok h e.2
theorem mB{α:Type}[Inhabited α](f:α->Nat): ∀(L:List α) (j:Nat),j+1<L.length->((swp L j).map f).sum=(L.map f).sum
 |[],j,h=>by simp at h
 |[a],j,h=>by simp at h
 |a::b::L,0,_=>by
  show((b::a::L).map f).sum=_
  simp only[Y8,TK];omega
 |a::b::L,j+1,h=>by
  show((a::swp (b::L) j).map f).sum=_
  show f a+((swp (b::L) j).map f).sum=f a+((b::L).map f).sum
  rw[mB f (b::L) j (by simpa using h)]
theorem ub{α:Type}[Inhabited α](lt:α->α->Bool)(f:α->Nat): ∀(j:Nat) (L:List α),j<L.length->((NQ lt j L).map f).sum=(L.map f).sum
 |0,L,_=>rfl
 |j+1,L,h=>by
  unfold NQ
  split
  ·rw[ub lt f j _ (by rw[NG];omega),mB f L j h]
  ·rfl
theorem ue{α:Type}[Inhabited α](lt:α->α->Bool)(f:α->Nat): ∀(k i:Nat) (L:List α),i+k<=L.length->((Jq lt k i L).map f).sum=(L.map f).sum
 |0,_,L,_=>rfl
 |k+1,i,L,h=>by
  unfold Jq
  rw[ue lt f k _ _ (by rw[PR];omega),ub lt f i L (by omega)]
theorem G7{α:Type}[Inhabited α](lt:α->α->Bool)(f:α->Nat)(L:List α):((Xi lt L).map f).sum=(L.map f).sum:=by
 unfold Xi
 by_cases h:L.length=0
 ·have:L=[]:=Yj.1 h
  subst this;rfl
 ·exact ue lt f _ _ L (by omega)
theorem uj(l:List (List UInt8)):(Vq l).length<=(l.map λx=>1+x.length).sum:=by
 cases l with
 |nil=>exact Z1 _
 |cons s l=>
  rw[zH (by simp)]
  have: ∀l:List (List UInt8),(l.map λx=>1+x.length).sum=l.length+M9 l:=by
   intro l
   induction l with
   |nil=>rfl
   |cons a l ih=>rw[Y8,TK,ih,FH,Zl];omega
  rw[this];omega
theorem pY{α:Type}(f g:α->Nat): ∀(l:List α),(∀x∈l,f x<=g x)->(l.map f).sum<=(l.map g).sum
 |[],_=>Zj _
 |a::l,h=>by
  rw[Y8,Y8,TK,TK]
  have:=h a (Zx ..)
  have:=pY f g l λx hx=>h x (ZI _ hx)
  omega
theorem mem_sum{α:Type}(f:α->Nat): ∀{l:List α} {x:α},x∈l->f x<=(l.map f).sum
 |a::l,x,h=>by
  rw[Y8,TK]
  rcases Ya.1 h with rfl|h
  ·omega
  ·have:=mem_sum f h;omega
theorem rk{z:Int}(h1: -9223372036854775808<=z)(h2:z<9223372036854775808)(hd: ∀n,n<18446744073709551616->(dec n).length<=20):(P7 z).length<=21:=by
 unfold P7
 split
 ·rw[Zl];have:=hd z.natAbs (by omega);omega
 ·have:=hd z.natAbs (by omega);omega
theorem text_len(hd: ∀n,n<18446744073709551616->(dec n).length<=20): ∀(h:Nat) (v:JV),ok h v->(text h v).length<=tb h v
 |0,_,_=>Zj _
 |h+1,.mk k b n s l m,⟨⟨h1,h2⟩,h3,h4,h5⟩=>by
  show List.length (if k=1 then _ else _)<=50+6*s.length+(l.map λx=>1+tb h x).sum+(m.map λe=>6*e.1.length+4+tb h e.2).sum
  by_cases k1:k=1
  ·rw[if_pos k1];simp only[Zl,ZA];omega
  rw[if_neg k1]
  by_cases k2:k=2
  ·rw[if_pos k2];split<;>(simp only[Zl,ZA];omega)
  rw[if_neg k2]
  by_cases k3:k=3
  ·rw[if_pos k3];have:=rk h1 h2 hd;omega
  rw[if_neg k3]
  by_cases k4:k=4
  ·rw[if_pos k4];have:=(Dz s).1;omega
  rw[if_neg k4]
  by_cases k5:k=5
  ·rw[if_pos k5]
   simp only[Zm,Zl,ZA]
   have a:=uj (l.map (text h))
   rw[UP] at a
   have b:=pY ((λx=>1+x.length)∘text h) (λx=>1+tb h x) l λx hx=>by
    have:=text_len hd h x (h4 x hx)
    show 1+(text h x).length<=1+tb h x;omega
   omega
  rw[if_neg k5]
  simp only[Zm,Zl,ZA]
  have a:=uj ((Xi TG m).map λe=>quo e.1++[58]++text h e.2)
  rw[UP] at a
  have b:=pY ((λx=>1+x.length)∘λe=>quo e.1++[58]++text h e.2) (λe=>6*e.1.length+4+tb h e.2) (Xi TG m) λe he=>by
   have:=text_len hd h e.2 (h5 e (T4 TG e he))
   have:=(Dz e.1).1
   show 1+(quo e.1++[58]++text h e.2).length<=_
   simp only[Zm,Zl,ZA];omega
  rw[G7] at a
  rw[G7,G7] at b
  omega
end JV
def NB(H:Zc)(b:Nat):Zc:=H.put b .loop
theorem NB.keep{H H':Zc}{b:Nat}(k:Zp H H' [b]):Zp (NB H b) (NB H' b) []:=by
 refine⟨k.nx,k.ro,λc hc _=>?_⟩
 show(H'.put b .loop).t.get c=(H.put b .loop).t.get c
 by_cases h:b=c
 ·subst h;rw[ZS,ZS]
 ·rw[ZD h,ZD h]
  exact k.get c hc (by simp;exact λe=>h e.symm)
theorem Sl.nb{H:Zc}{b sz:Nat}{v:AV}{ls:List (List AV)}(h:Sl (NB H b) sz v ls):Sl H sz v ls:=by
 refine⟨h.each,?_⟩
 rcases h.here with h1|⟨c,o,q,rfl,hb,h2⟩
 ·exact .inl h1
 ·refine .inr ⟨c,o,q,rfl,hb,λVY=>?_⟩
  obtain⟨r,h3,h4⟩:=h2 VY
  refine⟨r,?_,h4⟩
  by_cases hc:b=c
  ·subst hc
   have:(H.put b .loop).t.get b=some (.row r):=h3
   rw[ZS] at this;cases this
  ·have:(H.put b .loop).t.get c=some (.row r):=h3
   rw[ZD hc] at this;exact this
theorem VR.nb{H:Zc}{b:Nat}: ∀{h:Nat} {v:JV} {cs:List AV},VR (NB H b) h v cs->VR H h v cs
 |h+1,.mk _ _ _ _ l m,cs,⟨lv,mv,ls,ms,e,a1,a2,a3,a4,a5,sl,sm,e1,e2,hl,hm⟩=>
  ⟨lv,mv,ls,ms,e,a1,a2,a3,a4,a5,sl.nb,sm.nb,e1,e2,λi hi=>(hl i hi).nb,λi hi=>by
   obtain⟨b,t,c,d⟩:=hm i hi
   exact⟨b,t,c,d.nb⟩⟩
theorem WK{b:Bool}{k:OR}{v:AV}{H:Zc}(h:ZL b k=.val v H):k=.val v H:=by
 cases b with
 |true=>exact h
 |false=>cases h
theorem jC{H:Zc}{b:Nat}{k:Row->OR}{v:AV}{H':Zc}(h:Y3 H b k=.val v H'): ∃r,k r=.val v H':=by
 unfold Y3 at h
 split at h
 ·exact⟨_,h⟩
 ·cases h
theorem O7{H:Zc}{e sz:Nat}{l:List AV}{ex:Bool}{c:Nat}(hc:c<H.nx):(H.newRow e sz l ex).t.get c=H.t.get c:=by
 rw[Uy,ZK (by omega)]
theorem AD{v:AV}{e sz bytes:Nat}{H:Zc}{n:Nat}{new:List AV}{v':AV}{H':Zc}(h:Q8 v e sz bytes H n new=.val v' H'){c:Nat}(hc:c<H.nx)(hv: ∀b o l q,v=.slice b o l q->c≠b):H'.t.get c=H.t.get c:=by
 cases v with
 |nils=>
  replace h:cond (Nat.beq n 0) (.val .nils H) (ZL (Nat.ble (Nat.mul n bytes) 140737488355328) (.val (.slice H.nx 0 n none) (H.newRow e sz new false)))=OR.val v' H':=h
  cases h0:Nat.beq n 0 with
  |true=>rw[h0] at h;cases h;rfl
  |false=>
   rw[h0] at h
   have h:=WK (show ZL (Nat.ble (Nat.mul n bytes) 140737488355328) (.val (.slice H.nx 0 n none) (H.newRow e sz new false))=OR.val v' H' from h)
   cases h;exact O7 hc
 |slice b o len cap=>
  have hb:=hv b o len cap rfl
  replace h:Y3 H b (λr=>ZL (Jx r sz cap) (cond (Nat.ble (Nat.add len n) (Uo r o cap)) (DO H (.slice b o len cap) b o len n sz cap r new) (Mw H e b o len n sz bytes cap r new)))=OR.val v' H':=h
  obtain⟨r,h⟩:=jC h
  have h:=WK h
  cases h0:Nat.ble (Nat.add len n) (Uo r o cap) with
  |true=>
   rw[h0] at h
   replace h:DO H (.slice b o len cap) b o len n sz cap r new=OR.val v' H':=h
   unfold DO at h
   cases h1:Nat.beq n 0 with
   |true=>rw[h1] at h;cases h;rfl
   |false=>
    rw[h1] at h
    have h:=WK (WK (WK h))
    cases h
    exact ZD (λe=>hb e.symm) ..
  |false=>
   rw[h0] at h
   replace h:Mw H e b o len n sz bytes cap r new=OR.val v' H':=h
   unfold Mw at h
   have h:=WK (WK h)
   cases cap with
   |some q=>cases h;exact O7 hc
   |none=>
    cases h1:r.exact with
    |true=>
     have h:=WK (show ZL (Nat.beq (Nat.mod o sz) 0) (.val (.slice H.nx 0 (Nat.add len n) none) (H.newRow e sz (loadN r o (Nat.mul len sz)++new) false))=OR.val v' H' by rw[h1] at h;exact h)
     cases h;exact O7 hc
    |false=>
     have h:LI H e b o len n sz r new=OR.val v' H':=by rw[h1] at h;exact h
     unfold LI at h
     have h:=WK (WK (WK (WK (WK h))))
     cases h
     show((H.t.del b).set H.nx _).get c=_
     rw[T.get_set,if_neg (by omega),T.get_del,if_neg λe=>hb e.symm]
 |_=>cases h
theorem vd{v:AV}{e sz bytes:Nat}{H:Zc}{n:Nat}{new:List AV}{v':AV}{H':Zc}(h:Q8 v e sz bytes H n new=.val v' H')(GX: ∀b o l q,v=.slice b o l q-> ∀r,H.t.get b=some (.row r)->Nat.ble (Nat.add l n) (Uo r o q)=false): ∀b o l q,v'=.slice b o l q->b=H.nx:=by
 intro b0 o0 l0 q0 e0
 cases v with
 |nils=>
  replace h:cond (Nat.beq n 0) (.val .nils H) (ZL (Nat.ble (Nat.mul n bytes) 140737488355328) (.val (.slice H.nx 0 n none) (H.newRow e sz new false)))=OR.val v' H':=h
  cases h0:Nat.beq n 0 with
  |true=>rw[h0] at h;cases h;cases e0
  |false=>
   rw[h0] at h
   have h:=WK (show ZL (Nat.ble (Nat.mul n bytes) 140737488355328) (.val (.slice H.nx 0 n none) (H.newRow e sz new false))=OR.val v' H' from h)
   cases h;cases e0;rfl
 |slice b o len cap=>
  have hb:=GX b o len cap rfl
  replace h:Y3 H b (λr=>ZL (Jx r sz cap) (cond (Nat.ble (Nat.add len n) (Uo r o cap)) (DO H (.slice b o len cap) b o len n sz cap r new) (Mw H e b o len n sz bytes cap r new)))=OR.val v' H':=h
  unfold Y3 at h
  split at h
  ·rename_i r hr
   have h:=WK h
   rw[hb r hr] at h
   replace h:Mw H e b o len n sz bytes cap r new=OR.val v' H':=h
   unfold Mw at h
   have h:=WK (WK h)
   cases cap with
   |some q=>cases h;cases e0;rfl
   |none=>
    cases h1:r.exact with
    |true=>
     have h:=WK (show ZL (Nat.beq (Nat.mod o sz) 0) (.val (.slice H.nx 0 (Nat.add len n) none) (H.newRow e sz (loadN r o (Nat.mul len sz)++new) false))=OR.val v' H' by rw[h1] at h;exact h)
     cases h;cases e0;rfl
    |false=>
     have h:LI H e b o len n sz r new=OR.val v' H':=by rw[h1] at h;exact h
     unfold LI at h
     have h:=WK (WK (WK (WK (WK h))))
     cases h;cases e0;rfl
  ·cases h
 |_=>cases h
theorem C4{H:Zc}{v:AV}{e sz bytes:Nat}{ls:List (List AV)}{lo:Nat}(h:V0 H v e sz ls lo)(hsz:1<=sz)(hby:1<=bytes)(hl:(ls.length+1)*bytes<=140737488355328)(YL:H.ro<=H.nx)(Pj:lo<=H.nx){x:List AV}(hx:x.length=sz):
  ∃v' H',Uw e sz bytes v (.slice H.nx 0 1 none) (H.newRow e sz x true)=.val v' H'∧V0 H' v' e sz (ls++[x]) lo∧Below lo H H'∧
   (∀c,c<H.nx->(∀b o l q,v=.slice b o l q->c≠b)->H'.t.get c=H.t.get c)∧ ∀b o l q,v'=.slice b o l q->H.nx<=b:=by
 obtain⟨v',H',ea,rb,w⟩:=Jc h hsz hby hl YL Pj hx
 generalize Yo:H.newRow e sz x true=H1 at ea
 have VH:H1.nx=H.nx+1:=by rw[<-Yo];rfl
 have gx:H1.t.get H.nx=some (.row ⟨e,sz,YH x,T.ofList x,.unk,0,false,true,true⟩):=by rw[<-Yo,OM,QL,if_pos rfl]
 have cx:=V7.new e sz x 0 false true true
 have ap:Uw e sz bytes v (.slice H.nx 0 1 none) H1=Q8 v e sz bytes H1 1 x:=by
  show ZL (Nat.ble 1 sz) (ZL (Nat.ble 1 bytes) (Wt H1 sz (.slice H.nx 0 1 none) 1 λnew=>Q8 v e sz bytes H1 1 new))=_
  rw[Zg hsz,Zg hby]
  show(Wt H1 sz (.slice H.nx 0 1 none) 1 λnew=>Q8 v e sz bytes H1 1 new)=_
  generalize(⟨e,sz,YH x,T.ofList x,.unk,0,false,true,true⟩:Row)=r0 at gx cx
  unfold Wt Y3
  simp only[gx]
  show ZL (Nat.ble (0+1*sz) r0.size) (Q8 v e sz bytes H1 1 (loadN r0 0 (1*sz)))=_
  rw[U0,cx.size,hx,Zg (show 0+sz<=sz by omega)]
  have:=cx.load (o:=0) (n:=sz) (by omega)
  rw[this,Ye,ZM (by omega)]
  rfl
 rw[ap] at ea
 refine⟨v',H',by rw[ap];exact ea,rb,w,λc hc hv=>?_,λb o l q e'=>?_⟩
 ·rw[AD ea (by omega) hv,<-Yo,O7 hc]
 ·have:=vd ea (λb o l q ev r hr=>by
   rcases h with⟨_,rfl⟩|⟨_,b2,r2,rfl,g,_⟩
   ·cases ev
   ·cases ev
    have hg:H1.t.get b=some (.row r2):=by rw[<-Yo,O7 g.low];exact g.at_
    rw[hg] at hr
    cases hr
    have GX:Uo r 0 none=ls.length:=by
     show cond (Nat.beq r.sz 1) (r.size - 0) ((r.size - 0)/r.sz)=_
     rw[g.szr,g.size,Qx]
     by_cases h1:sz=1
     ·subst h1;show ls.length*1=_;omega
     ·rw[Ym,Za h1]
      exact TA _ (by omega)
    rw[GX]
    cases h:Nat.ble (Nat.add ls.length 1) ls.length with
    |false=>rfl
    |true=>have:=ZN h;have:ls.length+1<=ls.length:=this;omega) b o l q e'
  omega
theorem Sl.move{X Y:Zc}{bb sz:Nat}{v:AV}{ls:List (List AV)}(h:Sl (NB X bb) sz v ls)(hg: ∀c,c<X.nx->c≠bb->Y.t.get c=X.t.get c)(hn:X.nx<=Y.nx):Sl Y sz v ls:=by
 refine⟨h.each,?_⟩
 rcases h.here with h1|⟨c,o,q,rfl,hb,h2⟩
 ·exact .inl h1
 ·have hb:c<X.nx:=hb
  refine .inr ⟨c,o,q,rfl,by omega,λVY=>?_⟩
  obtain⟨r,h3,h4⟩:=h2 VY
  have h3:(X.put bb .loop).t.get c=some (.row r):=h3
  by_cases hc:bb=c
  ·subst hc
   rw[ZS] at h3;cases h3
  ·rw[ZD hc] at h3
   exact⟨r,by rw[hg c hb (λe=>hc e.symm)];exact h3,h4⟩
theorem VR.move{X Y:Zc}{bb:Nat}(hg: ∀c,c<X.nx->c≠bb->Y.t.get c=X.t.get c)(hn:X.nx<=Y.nx): ∀{h:Nat} {v:JV} {cs:List AV},VR (NB X bb) h v cs->VR Y h v cs
 |h+1,.mk _ _ _ _ l m,cs,⟨lv,mv,ls,ms,e,a1,a2,a3,a4,a5,sl,sm,e1,e2,hl,hm⟩=>
  ⟨lv,mv,ls,ms,e,a1,a2,a3,a4,a5,sl.move hg hn,sm.move hg hn,e1,e2,λi hi=>(hl i hi).move hg hn,λi hi=>by
   obtain⟨b,t,c,d⟩:=hm i hi
   exact⟨b,t,c,d.move hg hn⟩⟩
theorem VR.fresh{X:Zc}{bb:Nat}(hb:X.nx<=bb){h:Nat}{v:JV}{cs:List AV}(r:VR X h v cs):VR (NB X bb) h v cs:=
 r.keep (Zp.put λh=>by omega)
def Off(S:Nat->Prop)(v:AV):Prop:= ∀c o n q,v=.slice c o n q-> ¬S c
def ES(H:Zc)(S:Nat->Prop):Nat->JV->List AV->Prop
 |0,_,_=>False
 |h+1,.mk k b n s l m,cs=> ∃lv mv ls ms,cs=[nI .i64 k,.bool b,.int .i64 n,.str s,lv,mv]∧ -9223372036854775808<=n∧n<9223372036854775808∧s.length<=9000∧l.length<=9000∧m.length<=9000∧(Sl H 6 lv ls∧Off S lv)∧(Sl H 7 mv ms∧Off S mv)∧ls.length=l.length∧ms.length=m.length∧
  (∀i,i<l.length->ES H S h (l.getD i default) (ls.getD i []))∧ ∀i,i<m.length->(m.getD i default).1.length<=9000∧ ∃t,ms.getD i []=.str (m.getD i default).1::t∧ES H S h (m.getD i default).2 t
theorem ES.vr{H:Zc}{S:Nat->Prop}: ∀{h:Nat} {v:JV} {cs:List AV},ES H S h v cs->VR H h v cs
 |h+1,.mk _ _ _ _ l m,cs,⟨lv,mv,ls,ms,e,a1,a2,a3,a4,a5,sl,sm,e1,e2,hl,hm⟩=>
  ⟨lv,mv,ls,ms,e,a1,a2,a3,a4,a5,sl.1,sm.1,e1,e2,λi hi=>(hl i hi).vr,λi hi=>by
   obtain⟨b,t,c,d⟩:=hm i hi
   exact⟨b,t,c,d.vr⟩⟩
theorem Sl.move2{X Y:Zc}{S S':Nat->Prop}{sz:Nat}{v:AV}{ls:List (List AV)}(hg: ∀c,c<X.nx-> ¬S c->Y.t.get c=X.t.get c)(hn:X.nx<=Y.nx)(hs: ∀c,c<X.nx->S' c->S c)(h:Sl X sz v ls∧Off S v):Sl Y sz v ls∧Off S' v:=by
 obtain⟨h,ho⟩:=h
 rcases h.here with⟨rfl,rfl⟩|⟨c,o,q,rfl,hb,h2⟩
 ·exact⟨Sl.nil ..,λ_ _ _ _ e=>by cases e⟩
 ·have hc:=ho _ _ _ _ rfl
  refine⟨⟨h.each,.inr ⟨c,o,q,rfl,by omega,λVY=>?_⟩⟩,λ_ _ _ _ e hS=>?_⟩
  ·obtain⟨r,h3,h4⟩:=h2 VY
   exact⟨r,by rw[hg c hb hc];exact h3,h4⟩
  ·cases e;exact hc (hs _ hb hS)
theorem ES.move{X Y:Zc}{S S':Nat->Prop}(hg: ∀c,c<X.nx-> ¬S c->Y.t.get c=X.t.get c)(hn:X.nx<=Y.nx)(hs: ∀c,c<X.nx->S' c->S c): ∀{h:Nat} {v:JV} {cs:List AV},ES X S h v cs->ES Y S' h v cs
 |h+1,.mk _ _ _ _ l m,cs,⟨lv,mv,ls,ms,e,a1,a2,a3,a4,a5,sl,sm,e1,e2,hl,hm⟩=>
  ⟨lv,mv,ls,ms,e,a1,a2,a3,a4,a5,Sl.move2 hg hn hs sl,Sl.move2 hg hn hs sm,e1,e2,λi hi=>(hl i hi).move hg hn hs,λi hi=>by
   obtain⟨b,t,c,d⟩:=hm i hi
   exact⟨b,t,c,d.move hg hn hs⟩⟩
namespace JV
def eqL(f:JV->JV->Bool):List JV->List JV->Bool
 |[],[]=>true
 |a::l,b::m=>f a b&&eqL f l m
 |_,_=>false
def eqM(f:JV->JV->Bool):List (List UInt8×JV)->List (List UInt8×JV)->Bool
 |[],[]=>true
 |a::l,b::m=>decide (a.1=b.1)&&f a.2 b.2&&eqM f l m
 |_,_=>false
def same:Nat->JV->JV->Bool
 |0,_,_=>true
 |h+1,.mk k b n s l m,.mk k' b' n' s' l' m'=>decide (k=k')&&decide (b=b')&&decide (n=n')&&decide (s=s')&&decide (m.length=m'.length)&&eqL (same h) l l'&&eqM (same h) (Xi TG m) (Xi TG m')
theorem eqL_len(f:JV->JV->Bool): ∀{l m:List JV},l.length≠m.length->eqL f l m=false
 |[],[],h=>absurd rfl h
 |[],_::_,_=>rfl
 |_::_,[],_=>rfl
 |a::l,b::m,h=>by
  show(f a b&&eqL f l m)=false
  rw[eqL_len f (l:=l) (m:=m) (by simpa using h),Bool.and_false]
theorem eqL_drop(f:JV->JV->Bool): ∀{l m:List JV} {i:Nat},i<l.length->i<m.length->eqL f (l.drop i) (m.drop i)=(f (l.getD i default) (m.getD i default)&&eqL f (l.drop (i+1)) (m.drop (i+1)))
 |a::l,b::m,0,_,_=>rfl
 |a::l,b::m,i+1,h1,h2=>eqL_drop f (l:=l) (m:=m) (i:=i) (by simpa using h1) (by simpa using h2)
theorem eqM_drop(f:JV->JV->Bool): ∀{l m:List (List UInt8×JV)} {i:Nat},i<l.length->i<m.length->eqM f (l.drop i) (m.drop i)=(decide ((l.getD i default).1=(m.getD i default).1)&&f (l.getD i default).2 (m.getD i default).2&&eqM f (l.drop (i+1)) (m.drop (i+1)))
 |a::l,b::m,0,_,_=>rfl
 |a::l,b::m,i+1,h1,h2=>eqM_drop f (l:=l) (m:=m) (i:=i) (by simpa using h1) (by simpa using h2)
def Znj:JV->List UInt8->Option JV
 |.mk k _ _ _ _ m,key=>match(List.range m.length).find? λi=>decide ((m.getD i default).1=key) with
  |some i=>if k=6 then some (m.getD i default).2 else none
  |none=>none
def get:JV->List (List UInt8)->Option JV
 |v,[]=>some v
 |v,key::ks=>match Znj v key with
  |some w=>get w ks
  |none=>none
def Zci:List UInt8:=[111,110,101]
def Zcj:List UInt8:=[116,119,111]
def xF:List UInt8:=[116,104,114,101,101]
def two:JV:=.mk 3 false 2 [] [] []
def thr:JV:=.mk 4 false 0 [51] [] []
def tab(m:List (List UInt8×JV)):JV:=.mk 6 false 0 [] [] m
def va(v:JV):JV:=tab [(Zci,v),(Zcj,two),(xF,thr)]
def vb(v:JV):JV:=tab [(xF,thr),(Zci,v),(Zcj,two)]
theorem isB(v:JV):Xi TG [(xF,thr),(Zci,v),(Zcj,two)]=[(Zci,v),(xF,thr),(Zcj,two)]:=rfl
end JV
end
end Go.AI
