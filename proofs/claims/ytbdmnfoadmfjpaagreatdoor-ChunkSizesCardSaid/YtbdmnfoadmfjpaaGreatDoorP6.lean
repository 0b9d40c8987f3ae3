/- Calls that have been evaluated by themselves may be looked up; worlds of which rows are told; memory that is kept; arguments of any shape: proved for every world that is told. -/
import Derived.Test.YtbdmnfoadmfjpaaGreatDoorP5
import Derived.WideShapes
import Derived.WideKeyElems2
import Derived.WideKeyArgs
import Derived.OpenShut
import Derived.ProofKit
import Derived.ChangeShapes
import Derived.Deep.Slices
set_option maxRecDepth 1000000
set_option maxHeartbeats 0
set_option linter.unusedVariables false
set_option linter.unusedSimpArgs false
namespace Go.AI
open Go
noncomputable section
section
variable {P:Program}
noncomputable def vp(e:Nat)(l:List AV):Obj:=.row ⟨e,1,Xc l,T.ofList l,.unk,0,false,false,false⟩
noncomputable def hJ(e:Nat->Nat):List (Nat×List AV)->T Obj->T Obj
 |[],t=>t
 |(g,l)::gs,t=>hJ e gs (t.set g (vp (e g) l))
noncomputable def ZgE(H:Heap)(gs:List (Nat×List AV)):Bool:=List.rec true (λx _ ih=>cond (match H.t.get x.1 with|some (.row r)=>cond (Nat.beq r.sz 1) (cond (Nat.ble (Xc x.2) r.size) (sameL (Vr r 0 (Xc x.2)) x.2) false) false|_=>false) ih false) gs
noncomputable def mJ(v:AV)(r:CR):Bool:=match r with|.ret u _=>same u v|_=>false
theorem sJ(e:Nat->Nat): ∀(gs:List (Nat×List AV)) (t:T Obj) (b:Nat) (o:Obj),(hJ e gs t).get b=some o->(∃l,(b,l)∈gs∧o=vp (e b) l)∨t.get b=some o
 |[],t,b,o,h=>.inr h
 |(g,l)::gs,t,b,o,h=>by
  rcases sJ e gs _ b o h with⟨l2,h1,h2⟩|h1
  ·exact .inl ⟨l2,ZQ _ h1,h2⟩
  ·rw[T.get_set] at h1
   by_cases e3:g=b
   ·rw[if_pos e3] at h1;cases h1;subst e3;exact .inl ⟨l,ZF ..,rfl⟩
   ·rw[if_neg e3] at h1;exact .inr h1
theorem uL{H:Heap}: ∀{gs:List (Nat×List AV)},ZgE H gs=true-> ∀x∈gs,∃r,H.t.get x.1=some (.row r)∧r.sz=1∧Xc x.2<=r.size∧Vr r 0 (Xc x.2)=x.2
 |[],_,x,hx=>by cases hx
 |y::gs,h,x,hx=>by
  obtain⟨h1,h2⟩:=Ym (a:=match H.t.get y.1 with|some (.row r)=>cond (Nat.beq r.sz 1) (cond (Nat.ble (Xc y.2) r.size) (sameL (Vr r 0 (Xc y.2)) y.2) false) false|_=>false) (b:=ZgE H gs) h
  rcases Yi.1 hx with rfl|hx
  ·cases hg:H.t.get x.1 with
   |none=>rw[hg] at h1;cases h1
   |some o=>
    rw[hg] at h1
    cases o with
    |row r=>
     obtain⟨h3,h4⟩:=Ym h1
     obtain⟨h4,h5⟩:=Ym h4
     exact⟨r,rfl,Z9 h3,Yh h4,Mt _ _ h5⟩
    |_=>cases h1
  ·exact uL h2 x hx
end
inductive LO where
 |row (elem sz:Nat) (l:List AV) (fz:Nat) (sm own exact:Bool)
 |map (es:List RF) (clock:Nat)
 |cmap (es:List RF)
def LO.obj:LO->Obj
 |.row e sz l fz sm own exact=>.row ⟨e,sz,Xc l,T.ofList l,.unk,fz,sm,own,exact⟩
 |.map es c=>.map es c
 |.cmap es=>.cmap es
def lM(a b:AV):Bool:=match a with|.unk=>(match b with|.unk=>true|_=>false)|a=>same a b
def vP:List AV->List AV->Bool
 |[],[]=>true
 |a::as,b::bs=>cond (lM a b) (vP as bs) false
 |_,_=>false
def lL(a b:Bool):Bool:=cond a b (cond b false true)
def sW:List RF->List RF->Bool
 |[],[]=>true
 |a::as,b::bs=>cond (Nat.beq a.born b.born) (cond (same a.key b.key) (cond (same a.val b.val) (sW as bs) false) false) false
 |_,_=>false
def isO(o:Obj)(x:LO):Bool:=match o,x with
 |.row r,.row e sz l fz sm own exact=>cond (Nat.beq r.elem e) (cond (Nat.beq r.sz sz) (cond (Nat.beq r.size (Xc l)) (cond (Nat.beq r.fz fz) (cond (lL r.sm sm) (cond (lL r.own own) (cond (lL r.exact exact)
   (vP (Vr r 0 r.size) l) false) false) false) false) false) false) false
 |.map es c,.map fs d=>cond (Nat.beq c d) (sW es fs) false
 |.cmap es,.cmap fs=>sW es fs
 |_,_=>false
theorem ZaB{a b:AV}(h:lM a b=true):a=b:=by
 unfold lM at h
 split at h
 ·split at h
  ·rfl
  ·cases h
 ·exact M4 _ _ h
theorem xv: ∀{a b:List AV},vP a b=true->a=b
 |[],[],_=>rfl
 |[],_::_,h=>by cases h
 |_::_,[],h=>by cases h
 |a::as,b::bs,h=>by
  obtain⟨h1,h2⟩:=Ym (a:=lM a b) (b:=vP as bs) h
  rw[ZaB h1,xv h2]
theorem AM{a b:Bool}(h:lL a b=true):a=b:=by
 cases a<;>cases b<;>first|rfl|cases h
theorem AN: ∀{a b:List RF},sW a b=true->a=b
 |[],[],_=>rfl
 |[],_::_,h=>by cases h
 |_::_,[],h=>by cases h
 |a::as,b::bs,h=>by
  obtain⟨h1,h2⟩:=Ym (a:=Nat.beq a.born b.born) (b:=cond (same a.key b.key) (cond (same a.val b.val) (sW as bs) false) false) h
  obtain⟨h2,h3⟩:=Ym h2
  obtain⟨h3,h4⟩:=Ym h3
  have e1:=Z9 h1
  have e2:=M4 _ _ h2
  have e3:=M4 _ _ h3
  rw[AN h4]
  cases a;cases b
  simp only at e1 e2 e3
  rw[e1,e2,e3]
structure oQ(o p:Obj):Prop where
 to: ∀σ l c,U7 σ o l c->U7 σ p l c
 of: ∀σ l c,U7 σ p l c->U7 σ o l c
 wr:wrO o=wrO p
 soft:K0 o↔K0 p
theorem Fy{σ:Mp}{r q:Row}{l:Loc}{cs:Array Value}{fr:Nat×Nat}(h1:r.sz=q.sz)(h2:r.size=q.size)(h3:r.fz=q.fz)(h4:r.sm=q.sm)(h5:r.own=q.own)(h6:r.exact=q.exact)
  (h7: ∀i,i<r.size->r.get i=q.get i)(h:Q3 σ r l cs fr):Q3 σ q l cs fr:=by
 refine⟨h.sz.trans h1,h.sz1,by rw[<-h2];exact h.fits,h.room,?_,?_,by rw[<-h2];exact h.one,?_,?_⟩
 ·rw[<-h6,<-h2];exact h.exact
 ·intro i hi
  rw[<-h2] at hi
  rw[<-h7 i hi];exact h.cell i hi
 ·rw[<-h5,<-h3];exact h.frz
 ·rw[<-h5,<-h4,<-h3];exact h.frs
theorem yU{o:Obj}{x:LO}(h:isO o x=true):oQ o x.obj:=by
 unfold isO at h
 split at h
 ·rename_i r e sz l fz sm own exact
  obtain⟨a1,h⟩:=Ym h
  obtain⟨a2,h⟩:=Ym h
  obtain⟨a3,h⟩:=Ym h
  obtain⟨a4,h⟩:=Ym h
  obtain⟨a5,h⟩:=Ym h
  obtain⟨a6,h⟩:=Ym h
  obtain⟨a7,h⟩:=Ym h
  have a1:=Z9 a1
  have a2:=Z9 a2
  have a3:=Z9 a3
  have a4:=Z9 a4
  have a5:=AM a5
  have a6:=AM a6
  have a7:=AM a7
  have a8:=xv h
  have hget: ∀i,i<r.size->r.get i=(⟨e,sz,Xc l,T.ofList l,.unk,fz,sm,own,exact⟩:Row).get i:=by
   intro i hi
   have g1:=Rw r r.size 0 i hi
   rw[a8,Zb] at g1
   rw[Row.get_eq ⟨e,sz,Xc l,T.ofList l,.unk,fz,sm,own,exact⟩]
   show _=((T.ofList l).get i).getD .unk
   rw[T.get_ofList,g1]
   rfl
  refine⟨λσ l' c hr=>?_,λσ l' c hr=>?_,?_,λ⟨r',e',h'⟩=>by cases e';exact⟨_,rfl,a6.symm.trans h'⟩,λ⟨r',e',h'⟩=>by cases e';exact⟨_,rfl,a6.trans h'⟩⟩
  ·obtain⟨cs,fr,rfl,hr⟩:=hr
   exact⟨cs,fr,by rw[a1],Fy a2 a3 a4 a5 a6 a7 hget hr⟩
  ·obtain⟨cs,fr,rfl,hr⟩:=hr
   exact⟨cs,fr,by rw[a1],Fy a2.symm a3.symm a4.symm a5.symm a6.symm a7.symm (λi hi=>(hget i (by rw[a3];exact hi)).symm) hr⟩
  ·show r.own=own
   exact a6
 ·rename_i es c fs d
  obtain⟨a1,a2⟩:=Ym h
  have a1:=Z9 a1
  have a2:=AN a2
  subst a1;subst a2
  exact⟨λ_ _ _ h=>h,λ_ _ _ h=>h,rfl,Iff.rfl⟩
 ·rename_i es fs
  have a2:=AN h
  subst a2
  exact⟨λ_ _ _ h=>h,λ_ _ _ h=>h,rfl,Iff.rfl⟩
 ·cases h
structure CE where
 args:List AV
 nx:Nat
 ro:Nat
 pre:List (Nat×LO)
 v:AV
 nx2:Nat
 post:List (Nat×LO)
 dead:List Nat
def AF:List (Nat×LO)->T Obj->T Obj
 |[],t=>t
 |x::l,t=>(AF l t).set x.1 x.2.obj
def zk:List Nat->T Obj->T Obj
 |[],t=>t
 |b::l,t=>(zk l t).del b
def Tf(b:Nat):List (Nat×LO)->Option LO
 |[]=>none
 |x::l=>cond (Nat.beq x.1 b) (some x.2) (Tf b l)
def JJ(b:Nat):List Nat->Bool
 |[]=>false
 |x::l=>cond (Nat.beq x b) true (JJ b l)
def CE.heap(x:CE)(gs:List (Nat×List AV))(e:Nat->Nat):Heap:=⟨x.nx,AF x.pre (hJ e gs .leaf),x.ro⟩
def CE.after(x:CE)(H:Heap):Heap:=⟨x.nx2,AF x.post (zk x.dead H.t),H.ro⟩
def qX(H:Heap)(b:Nat)(o:LO):Bool:=match H.t.get b with|some p=>isO p o|none=>false
def wR(H:Heap)(l:List (Nat×LO)):Bool:=List.rec true (λx _ ih=>cond (qX H x.1 x.2) ih false) l
def vy(H:Heap)(l:List Nat):Bool:=List.rec true (λb _ ih=>cond (match H.t.get b with|none=>true|_=>false) ih false) l
def wW(H:Heap)(x:CE)(l:List (Nat×LO)):Bool:=List.rec true (λy _ ih=>cond (cond (JJ y.1 x.dead) true (match Tf y.1 x.post with|some _=>true|none=>qX H y.1 y.2)) ih false) l
def CE.out(x:CE)(r:CR):Bool:=match r with
 |.ret v H=>cond (same v x.v) (cond (Nat.beq H.nx x.nx2) (cond (wR H x.post) (cond (wW H x x.pre) (vy H x.dead) false) false) false) false
 |_=>false
def vu(x:CE)(l:List (Nat×LO)):Bool:=List.rec true (λy _ ih=>cond (Nat.ble x.ro y.1) (cond (JJ y.1 x.dead) false
 (cond (match Tf y.1 x.pre with|some p=>cond (isO p.obj y.2) false true|none=>cond (Nat.ble x.nx y.1) (wrO y.2.obj) false) ih false)) false) l
def wD(x:CE)(l:List Nat):Bool:=List.rec true (λb _ ih=>cond (Nat.ble x.ro b) (match Tf b x.pre with|some _=>ih|none=>false) false) l
def wQ(l:List (Nat×LO)):Bool:=List.rec true (λy _ ih=>cond (wrO y.2.obj) ih false) l
def CE.wf(x:CE):Bool:=cond (vu x x.post) (cond (wD x x.dead) (wQ x.pre) false) false
def CE.is(x:CE)(gs:List (Nat×List AV))(args:List AV)(H:Heap):Bool:=cond (Nat.beq H.nx x.nx) (cond (Nat.beq H.ro x.ro) (cond (sameL args x.args) (cond (ZgE H gs) (wR H x.pre) false) false) false) false
def dB(gs:List (Nat×List AV))(args:List AV)(H:Heap)(l:List CE):Option CR:=List.rec none (λx _ ih=>cond (x.is gs args H) (some (.ret x.v (x.after H))) ih) l
theorem Ot(e:Nat->Nat)(gs:List (Nat×List AV)): ∀(l:List (Nat×LO)) (t:T Obj) (b:Nat),(AF l t).get b=match Tf b l with|some o=>some o.obj|none=>t.get b
 |[],t,b=>rfl
 |x::l,t,b=>by
  show((AF l t).set x.1 x.2.obj).get b=match cond (Nat.beq x.1 b) (some x.2) (Tf b l) with|some o=>some o.obj|none=>t.get b
  rw[T.get_set,Y1]
  by_cases h:x.1=b
  ·rw[if_pos h,Zj h];rfl
  ·rw[if_neg h,Ze h];exact Ot e gs l t b
theorem G7: ∀(l:List Nat) (t:T Obj) (b:Nat),(zk l t).get b=cond (JJ b l) none (t.get b)
 |[],t,b=>rfl
 |x::l,t,b=>by
  show((zk l t).del x).get b=cond (cond (Nat.beq x b) true (JJ b l)) none (t.get b)
  rw[T.get_del,Y1]
  by_cases h:x=b
  ·rw[if_pos h,Zj h];rfl
  ·rw[if_neg h,Ze h];exact G7 l t b
theorem T0{b:Nat}{o:LO}: ∀{l:List (Nat×LO)},Tf b l=some o->(b,o)∈l
 |[],h=>by cases h
 |x::l,h=>by
  have h:cond (Nat.beq x.1 b) (some x.2) (Tf b l)=some o:=h
  cases e:Nat.beq x.1 b with
  |true=>
   rw[e] at h;cases h
   have:=Z9 e
   subst this
   exact ZF ..
  |false=>rw[e] at h;exact ZQ _ (T0 h)
theorem G8{b:Nat}: ∀{l:List Nat},JJ b l=true->b∈l
 |[],h=>by cases h
 |x::l,h=>by
  have h:cond (Nat.beq x b) true (JJ b l)=true:=h
  cases e:Nat.beq x b with
  |true=>
   have:=Z9 e
   subst this
   exact ZF ..
  |false=>rw[e] at h;exact ZQ _ (G8 h)
theorem HI{H:Heap}: ∀{l:List (Nat×LO)},wR H l=true-> ∀x∈l,∃o,H.t.get x.1=some o∧oQ o x.2.obj∧isO o x.2=true
 |[],_,x,hx=>by cases hx
 |y::l,h,x,hx=>by
  obtain⟨h1,h2⟩:=Ym (a:=qX H y.1 y.2) (b:=wR H l) h
  rcases Yi.1 hx with rfl|hx
  ·unfold qX at h1
   split at h1
   ·rename_i p hp
    exact⟨p,hp,yU h1,h1⟩
   ·cases h1
  ·exact HI h2 x hx
theorem DE{H:Heap}: ∀{l:List Nat},vy H l=true-> ∀b∈l,H.t.get b=none
 |[],_,x,hx=>by cases hx
 |y::l,h,x,hx=>by
  obtain⟨h1,h2⟩:=Ym (a:=match H.t.get y with|none=>true|_=>false) (b:=vy H l) h
  rcases Yi.1 hx with rfl|hx
  ·split at h1
   ·assumption
   ·cases h1
  ·exact DE h2 x hx
theorem DA{H:Heap}{x:CE}: ∀{l:List (Nat×LO)},wW H x l=true-> ∀y∈l,JJ y.1 x.dead=true∨(∃o,Tf y.1 x.post=some o)∨ ∃o,H.t.get y.1=some o∧oQ o y.2.obj
 |[],_,x,hx=>by cases hx
 |z::l,h,y,hy=>by
  obtain⟨h1,h2⟩:=Ym (a:=cond (JJ z.1 x.dead) true (match Tf z.1 x.post with|some _=>true|none=>qX H z.1 z.2)) (b:=wW H x l) h
  rcases Yi.1 hy with rfl|hy
  ·cases e:JJ y.1 x.dead with
   |true=>exact .inl rfl
   |false=>
    rw[e] at h1
    cases e2:Tf y.1 x.post with
    |some o=>exact .inr (.inl ⟨o,rfl⟩)
    |none=>
     rw[e2] at h1
     have h1:qX H y.1 y.2=true:=h1
     unfold qX at h1
     split at h1
     ·rename_i p hp
      exact .inr (.inr ⟨p,hp,yU h1⟩)
     ·cases h1
  ·exact DA h2 y hy
theorem Ah{x:CE}: ∀{l:List (Nat×LO)},vu x l=true-> ∀y∈l,x.ro<=y.1∧JJ y.1 x.dead=false∧((∃p,Tf y.1 x.pre=some p∧isO p.obj y.2=false)∨(x.nx<=y.1∧wrO y.2.obj=true))
 |[],_,x,hx=>by cases hx
 |z::l,h,y,hy=>by
  obtain⟨h1,h⟩:=Ym (a:=Nat.ble x.ro z.1) (b:=cond (JJ z.1 x.dead) false
 (cond (match Tf z.1 x.pre with|some p=>cond (isO p.obj z.2) false true|none=>cond (Nat.ble x.nx z.1) (wrO z.2.obj) false) (vu x l) false)) h
  cases e:JJ z.1 x.dead with
  |true=>rw[e] at h;cases h
  |false=>
   rw[e] at h
   obtain⟨h2,h3⟩:=Ym (a:=match Tf z.1 x.pre with|some p=>cond (isO p.obj z.2) false true|none=>cond (Nat.ble x.nx z.1) (wrO z.2.obj) false) (b:=vu x l) h
   rcases Yi.1 hy with rfl|hy
   ·refine⟨Yh h1,e,?_⟩
    split at h2
    ·rename_i p hp
     refine .inl ⟨p,hp,?_⟩
     cases e3:isO p.obj y.2 with
     |true=>rw[e3] at h2;cases h2
     |false=>rfl
    ·obtain⟨h4,h5⟩:=Ym h2
     exact .inr ⟨Yh h4,h5⟩
   ·exact Ah h3 y hy
theorem Da{x:CE}: ∀{l:List Nat},wD x l=true-> ∀b∈l,x.ro<=b∧ ∃p,Tf b x.pre=some p
 |[],_,x,hx=>by cases hx
 |z::l,h,b,hb=>by
  obtain⟨h1,h⟩:=Ym (a:=Nat.ble x.ro z) (b:=match Tf z x.pre with|some _=>wD x l|none=>false) h
  split at h
  ·rename_i p hp
   rcases Yi.1 hb with rfl|hb
   ·exact⟨Yh h1,p,hp⟩
   ·exact Da h b hb
  ·cases h
theorem yh{gs:List (Nat×List AV)}{args:List AV}{H:Heap}{r:CR}: ∀{l:List CE},dB gs args H l=some r-> ∃x∈l,x.is gs args H=true∧r=.ret x.v (x.after H)
 |[],h=>by cases h
 |x::l,h=>by
  have h:cond (x.is gs args H) (some (.ret x.v (x.after H))) (dB gs args H l)=some r:=h
  cases e:x.is gs args H with
  |true=>rw[e] at h;cases h;exact⟨x,ZF ..,e,rfl⟩
  |false=>
   rw[e] at h
   obtain⟨y,hy,h1⟩:=yh h
   exact⟨y,ZQ _ hy,h1⟩
section
variable {P:Program}
theorem Dy: ∀{l:List (Nat×LO)},wQ l=true-> ∀y∈l,wrO y.2.obj=true
 |[],_,_,hy=>by cases hy
 |z::l,h,y,hy=>by
  obtain⟨h1,h2⟩:=Ym (a:=wrO z.2.obj) (b:=wQ l) h
  rcases Yi.1 hy with rfl|hy
  ·exact h1
  ·exact Dy h2 y hy
theorem K0.wrO{o:Obj}(h:K0 o):wrO o=false:=by
 obtain⟨r,rfl,e⟩:=h
 exact e
theorem oO{H:Heap}{b:Nat}(h:Wr H b):H.ro<=b∧ ∃o,H.t.get b=some o∧wrO o=true:=by
 obtain⟨h1,o,h2,h3,h4⟩:=h
 refine⟨h1,o,h2,?_⟩
 cases o with
 |row r=>exact h3 r rfl
 |loop=>exact absurd rfl h4
 |_=>rfl
theorem Zgl{call:Nat->List AV->Heap->CR}(hcall:SC P call){f:FuncId}{tab:List CE}{gs:List (Nat×List AV)}
  (htab: ∀x∈tab,x.wf=true∧ ∀e,x.out (call f x.args (x.heap gs e))=true)
  {args:List AV}{H:Heap}{r:CR}(h:dB gs args H tab=some r){σ:Mp}{w:World}{vs:List Value}(hs:WU P σ H w)(hv:Xk σ args vs):Kc P σ H w r ((callFunc f ⟨vs⟩).run P w):=by
 obtain⟨x,hx,his,rfl⟩:=yh h
 obtain⟨hwf,hout⟩:=htab x hx
 obtain⟨i1,his⟩:=Ym his
 obtain⟨i2,his⟩:=Ym his
 obtain⟨i3,his⟩:=Ym his
 obtain⟨i4,i5⟩:=Ym his
 have i1:H.nx=x.nx:=Z9 i1
 have i2:H.ro=x.ro:=Z9 i2
 have i3:=Mt _ _ i3
 have hpre:=HI i5
 obtain⟨w1,w2⟩:=Ym hwf
 have hnew:=Ah w1
 obtain⟨w2,w3⟩:=Ym w2
 have Zfn:=Da w2
 have Zj6:=Dy w3
 subst i3
 let e:Nat->Nat:=λy=>match H.t.get y with|some (.row q)=>q.elem|_=>0
 have zp:=hout e
 have hget: ∀y o,(x.heap gs e).t.get y=some o->(∃p,Tf y x.pre=some p∧o=p.obj)∨(Tf y x.pre=none∧ ∃l,(y,l)∈gs∧o=vp (e y) l):=by
  intro y o hy
  have hy:(AF x.pre (hJ e gs .leaf)).get y=some o:=hy
  rw[Ot e gs] at hy
  cases hf:Tf y x.pre with
  |some p=>rw[hf] at hy;cases hy;exact .inl ⟨p,rfl,rfl⟩
  |none=>
   rw[hf] at hy
   rcases sJ e gs .leaf y o hy with h|h
   ·exact .inr ⟨rfl,h⟩
   ·rw[T.get_leaf] at h;cases h
 have inH: ∀y o,(x.heap gs e).t.get y=some o-> ∃o',H.t.get y=some o'∧(∀l c,U7 σ o' l c->U7 σ o l c)∧(wrO o=true->wrO o'=true)∧(K0 o'->K0 o):=by
  intro y o hy
  rcases hget y o hy with⟨p,hp,rfl⟩|⟨_,l,hl,rfl⟩
  ·obtain⟨o',h1,h2,_⟩:=hpre _ (T0 hp)
   exact⟨o',h1,h2.to σ,λh=>h2.wr.trans h,h2.soft.1⟩
  ·obtain⟨q,g3,g4,g5,g6⟩:=uL i4 _ hl
   have g5:Xc l<=q.size:=g5
   have g6:Vr q 0 (Xc l)=l:=g6
   have g3:H.t.get y=some (.row q):=g3
   refine⟨_,g3,λl' c hc=>?_,(λh=>by cases h),λ_=>⟨_,rfl,rfl⟩⟩
   obtain⟨cs,fr,rfl,hr⟩:=hc
   have hey:e y=q.elem:=by show(match H.t.get y with|some (.row q)=>q.elem|_=>0)=_;rw[g3]
   refine⟨cs,fr,by rw[hey],?_⟩
   have gsz:l'.sz=1:=by rw[hr.sz,g4]
   refine⟨gsz,hr.sz1,by have:=hr.fits;show Xc l<=_;omega,hr.room,(λh=>by cases h),λi hi=>?_,λi v hi hv=>hr.one i v (ZZ hi g5) hv,(λh=>by cases h),(λh=>by cases h)⟩
   have hi:i<Xc l:=hi
   obtain⟨v,h7,h8⟩:=hr.cell i (by omega)
   refine⟨v,h7,?_⟩
   have g7:=Rw q (Xc l) 0 i hi
   rw[g6,Zb] at g7
   rw[Row.get_eq]
   show YY σ (((T.ofList l).get i).getD .unk) v
   rw[T.get_ofList,g7]
   exact h8
 have bF:WU P σ (x.heap gs e) w:=by
  refine⟨λy l hy=>by show y<x.nx;rw[<-i1];exact hs.dom y l hy,λy o hy=>?_,λy o l hy hl=>?_,λy y' o o' l l' hy hy' hl hl' he=>?_,hs.glob,by show x.ro<=x.nx;rw[<-i1,<-i2];exact hs.ro⟩
  ·obtain⟨o',h1,_⟩:=inH y o hy
   show y<x.nx
   rw[<-i1];exact hs.low y o' h1
  ·obtain⟨o',h1,h2,_⟩:=inH y o hy
   obtain⟨c,hc,hr⟩:=hs.alive y o' l h1 hl
   exact⟨c,hc,h2 l c hr⟩
  ·obtain⟨o1,h1,_,_,s1⟩:=inH y o hy
   obtain⟨o2,h2,_,_,s2⟩:=inH y' o' hy'
   exact(hs.inj y y' o1 o2 l l' h1 h2 hl hl' he).imp_right λs=>⟨s1 s.1,s2 s.2⟩
 have wrH: ∀y,Wr (x.heap gs e) y->Wr H y∧ ∃p,Tf y x.pre=some p:=by
  intro y hy
  obtain⟨h1,o,h2,h3⟩:=oO hy
  obtain⟨o',g1,g2,g3,_⟩:=inH y o h2
  refine⟨zb g1 (by rw[i2];exact h1) (g3 h3),?_⟩
  rcases hget y o h2 with⟨p,hp,_⟩|⟨_,l,_,rfl⟩
  ·exact⟨p,hp⟩
  ·cases h3
 have hcr:=hcall f x.args (x.heap gs e) σ w vs bF hv
 generalize call f x.args (x.heap gs e)=res at hcr zp
 cases res with
 |fail=>cases zp
 |pan _ _=>cases zp
 |ret v H'=>
  obtain⟨o1,zp⟩:=Ym zp
  obtain⟨o2,zp⟩:=Ym zp
  obtain⟨o3,zp⟩:=Ym zp
  obtain⟨o4,o5⟩:=Ym zp
  have o1:=M4 _ _ o1
  subst o1
  have o2:H'.nx=x.nx2:=Z9 o2
  have hpost:=HI o3
  have hkeep:=DA o4
  have hnone:=DE o5
  refine Ends.mono (λu' w' hx=>?_) (λ_ _ hx=>hx) hcr
  obtain⟨σ',hr,t⟩:=hx
  refine⟨σ',hr,?_⟩
  have tnx:x.nx<=H'.nx:=t.nx
  have hafter: ∀b o,(x.after H).t.get b=some o->
    (∃o',H'.t.get b=some o'∧oQ o o'∧((∃p,Tf b x.pre=some p)∨(x.nx<=b∧x.ro<=b∧wrO o=true)))
    ∨(Tf b x.pre=none∧H.t.get b=some o):=by
   intro b o hb
   have hb:(AF x.post (zk x.dead H.t)).get b=some o:=hb
   rw[Ot e gs] at hb
   cases hp:Tf b x.post with
   |some p=>
    rw[hp] at hb;cases hb
    obtain⟨o',h1,h2,h3⟩:=hpost _ (T0 hp)
    obtain⟨n1,n2,n3⟩:=hnew _ (T0 hp)
    refine .inl ⟨o',h1,⟨h2.of,h2.to,h2.wr.symm,h2.soft.symm⟩,?_⟩
    rcases n3 with⟨p',n4,_⟩|⟨n4,n5⟩
    ·exact .inl ⟨p',n4⟩
    ·exact .inr ⟨n4,n1,n5⟩
   |none=>
    rw[hp] at hb
    have hb:(zk x.dead H.t).get b=some o:=hb
    rw[G7] at hb
    cases hd:JJ b x.dead with
    |true=>rw[hd] at hb;cases hb
    |false=>
     rw[hd] at hb
     have hb:H.t.get b=some o:=hb
     cases hq:Tf b x.pre with
     |none=>exact .inr ⟨rfl,hb⟩
     |some p=>
      rcases hkeep _ (T0 hq) with k|⟨_,k⟩|⟨o',k1,k2⟩
      ·have k:JJ b x.dead=true:=k
       rw[hd] at k;cases k
      ·have k:Tf b x.post=_:=k
       rw[hp] at k;cases k
      ·obtain⟨o'',q1,q2,_⟩:=hpre _ (T0 hq)
       have q1:H.t.get b=some o'':=q1
       rw[hb] at q1;cases q1
       exact .inl ⟨o',k1,⟨λσ l c h=>k2.of σ l c (q2.to σ l c h),λσ l c h=>q2.of σ l c (k2.to σ l c h),q2.wr.trans k2.wr.symm,q2.soft.trans k2.soft.symm⟩,.inl ⟨p,rfl⟩⟩
  have hold: ∀b o l,Tf b x.pre=none->H.t.get b=some o->σ' b=some l->σ b=some l:=by
   intro b o l _ hb hl
   have hlt:=hs.low b o hb
   cases hσ:σ b with
   |none=>
    have:=(t.pend b (by show b<x.nx;omega) hσ).2
    rw[this] at hl;cases hl
   |some l0=>rw[t.ext b l0 hσ] at hl;exact hl
  have Zkh: ∀b p,Tf b x.pre=some p-> ∃o,H.t.get b=some o∧b<x.nx:=by
   intro b p hp
   obtain⟨o,q1,_⟩:=hpre _ (T0 hp)
   exact⟨o,q1,by rw[<-i1];exact hs.low b o q1⟩
  have tc: ∀b l,b<x.nx->σ' b=some l->(∃o,H'.t.get b=some o)->σ b=some l:=by
   intro b l hlt hl _
   cases hσ:σ b with
   |none=>
    have:=(t.pend b hlt hσ).2
    rw[this] at hl;cases hl
   |some l0=>rw[t.ext b l0 hσ] at hl;exact hl
  have Zj3: ∀b o l y l',Tf b x.pre=none->H.t.get b=some o->σ b=some l->Wr (x.heap gs e) y->σ y=some l'->l'.blk=l.blk->False:=by
   intro b o l y l' hb ho hl hw hy he
   obtain⟨h1,p,hp⟩:=wrH y hw
   obtain⟨_,oy,h2,h3⟩:=oO h1
   have:=hs.alone h2 ho hy hl he λs=>by rw[s.1.wrO] at h3;cases h3
   subst this
   rw[hb] at hp;cases hp
  have Zkb: ∀b o l b' l' o1,Tf b x.pre=none->H.t.get b=some o->σ' b=some l->H'.t.get b'=some o1->σ' b'=some l'->l.blk=l'.blk->
    ((∃p,Tf b' x.pre=some p)∨(x.nx<=b'∧x.ro<=b'∧wrO o1=true))->b=b':=by
   intro b o l b' l' o1 hb ho hl ho1 hl' he hor
   have hl0:=hold b o l hb ho hl
   rcases hor with⟨p,hp⟩|⟨n1,n2,n3⟩
   ·obtain⟨o2,q1,q2⟩:=Zkh b' p hp
    refine hs.alone ho q1 hl0 (tc b' l' q2 hl' ⟨o1,ho1⟩) he λs=>?_
    obtain⟨o3,g1,g2,_⟩:=hpre _ (T0 hp)
    have g1:H.t.get b'=some o3:=g1
    rw[q1] at g1;cases g1
    have:=Zj6 _ (T0 hp)
    rw[<-g2.wr,s.2.wrO] at this;cases this
   ·exfalso
    obtain⟨c,hc,_⟩:=hs.alive b o l ho hl0
    have hlt:l'.blk<w.heap.size:=by rw[<-he];exact(Yg.1 hc).1
    have hro:H'.ro<=b':=by rw[t.ro];exact n2
    obtain⟨b0,l0,h1,h2,h3⟩:=t.wr b' l' (zb ho1 hro n3) hl' hlt
    exact Zj3 b o l b0 l0 hb ho hl0 h1 h2 (h3.trans he.symm)
  refine⟨t.ext,⟨?_,?_,?_,?_,t.sim.glob,?_⟩,t.size,?_,?_,?_,rfl,?_,t.tape,t.os,t.out,?_⟩
  ·intro b l hb
   show b<x.nx2
   rw[<-o2];exact t.sim.dom b l hb
  ·intro b o hb
   show b<x.nx2
   rw[<-o2]
   rcases hafter b o hb with⟨o',h1,_⟩|⟨_,h1⟩
   ·exact t.sim.low b o' h1
   ·have:=hs.low b o h1;omega
  ·intro b o l hb hl
   rcases hafter b o hb with⟨o',h1,h2,_⟩|⟨h0,h1⟩
   ·obtain⟨c,hc,hrel⟩:=t.sim.alive b o' l h1 hl
    exact⟨c,hc,h2.of σ' l c hrel⟩
   ·have hl0:=hold b o l h0 h1 hl
    obtain⟨c,hc,hrel⟩:=hs.alive b o l h1 hl0
    refine⟨c,?_,hrel.mono t.ext⟩
    rw[t.frame l.blk (Yg.1 hc).1 λy ly hw hy he=>Zj3 b o l y ly h0 h1 hl0 hw hy he]
    exact hc
  ·intro b b' o o' l l' hb hb' hl hl' he
   rcases hafter b o hb with⟨p,h1,h2,h3⟩|⟨h0,h1⟩<;>rcases hafter b' o' hb' with⟨p',h1',h2',h3'⟩|⟨h0',h1'⟩
   ·exact(t.sim.inj b b' p p' l l' h1 h1' hl hl' he).imp_right λs=>⟨h2.soft.2 s.1,h2'.soft.2 s.2⟩
   ·exact .inl (Zkb b' o' l' b l p h0' h1' hl' h1 hl he.symm (h3.imp_right λ⟨a,b,c⟩=>⟨a,b,by rw[<-h2.wr];exact c⟩)).symm
   ·exact .inl<|Zkb b o l b' l' p' h0 h1 hl h1' hl' he (h3'.imp_right λ⟨a,b,c⟩=>⟨a,b,by rw[<-h2'.wr];exact c⟩)
   ·exact hs.inj b b' o o' l l' h1 h1' (hold b o l h0 h1 hl) (hold b' o' l' h0' h1' hl') he
  ·show H.ro<=x.nx2
   have:=hs.ro
   omega
  ·intro k hk hn
   exact t.frame k hk λy l hw hl=>hn y l (wrH y hw).1 hl
  ·intro b l hw hl hlt
   obtain⟨hro,o,ho,hwo⟩:=oO hw
   rcases hafter b o ho with⟨o',h1,h2,_⟩|⟨h0,h1⟩
   ·obtain⟨b0,l0,g1,g2,g3⟩:=t.wr b l (zb h1 (by rw[t.ro];show x.ro<=b;rw[<-i2];exact hro) (by rw[<-h2.wr];exact hwo)) hl hlt
    exact⟨b0,l0,(wrH b0 g1).1,g2,g3⟩
   ·exact⟨b,l,zb h1 hro hwo,hold b o l h0 h1 hl,rfl⟩
  ·show H.nx<=x.nx2
   omega
  ·intro b hb
   show(AF x.post (zk x.dead H.t)).get b=H.t.get b
   rw[Ot e gs]
   cases hp:Tf b x.post with
   |some p=>
    have:=(hnew _ (T0 hp)).1
    have:x.ro<=b:=this
    omega
   |none=>
    show(zk x.dead H.t).get b=_
    rw[G7]
    cases hd:JJ b x.dead with
    |true=>
     have:=(Zfn _ (G8 hd)).1
     omega
    |false=>rfl
  ·intro b hb hσ
   obtain⟨p1,p2⟩:=t.pend b (by show b<x.nx;omega) hσ
   refine⟨?_,p2⟩
   show(AF x.post (zk x.dead H.t)).get b=H.t.get b
   rw[Ot e gs]
   cases hp:Tf b x.post with
   |some p=>
    exfalso
    obtain⟨n1,n2,n3⟩:=hnew _ (T0 hp)
    obtain⟨o',h1,h2,h3⟩:=hpost _ (T0 hp)
    have h1:H'.t.get b=some o':=h1
    rcases n3 with⟨q,n4,n5⟩|⟨n4,_⟩
    ·have n4:Tf b x.pre=some q:=n4
     have:(x.heap gs e).t.get b=some q.obj:=by
      show(AF x.pre (hJ e gs .leaf)).get b=_
      rw[Ot e gs,n4]
     rw[<-p1,h1] at this
     cases this
     rw[h3] at n5;cases n5
    ·have n4:x.nx<=b:=n4
     omega
   |none=>
    show(zk x.dead H.t).get b=_
    rw[G7]
    cases hd:JJ b x.dead with
    |true=>
     exfalso
     obtain⟨_,q,n4⟩:=Zfn _ (G8 hd)
     have:(x.heap gs e).t.get b=some q.obj:=by
      show(AF x.pre (hJ e gs .leaf)).get b=_
      rw[Ot e gs,n4]
     rw[<-p1,hnone _ (G8 hd)] at this
     cases this
    |false=>rfl
end
section
variable {P:Program}
theorem ny{H:Type}{R:MapEntry->Option ((Lit×DataW H)×List MemPlace)}{fk:Lit->AV}{fv:DataW H->AV}{σ:Mp}: ∀(l:List MapEntry) (entries:List ((Lit×DataW H)×List MemPlace)),
  l.mapM R=some entries->(∀x∈l,∀y,R x=some y->y∈entries->YY σ (fk y.1.1) x.key∧YY σ (fv y.1.2) x.val)->
  ∃fs,Y5 σ fs l∧fs.map SZ=entries.map λz=>(fk z.1.1,fv z.1.2)
 |[],entries,h,_=>by
  simp only[List.mapM_nil] at h
  cases h
  exact⟨[],MT,rfl⟩
 |x::l,entries,h,hr=>by
  rw[List.mapM_cons] at h
  simp only[bind,Option.bind_eq_some_iff,pure] at h
  obtain⟨y,h1,zs,h2,h3⟩:=h
  cases h3
  obtain⟨fs,h4,h5⟩:=ny l zs h2 (λz hz u hu hm=>hr z (ZQ _ hz) u hu (ZQ _ hm))
  obtain⟨h6,h7⟩:=hr x (ZF ..) y h1 (ZF ..)
  refine⟨⟨fk y.1.1,fv y.1.2,x.born⟩::fs,⟨x,l,⟨h6,h7,rfl⟩,h4,rfl⟩,?_⟩
  rw[Zz,Zz,h5]
  rfl
theorem EJ{H:Type}{enc:TypeId×Value->H}{W:World}{t k e:TypeId}{held:Bool}{m:Nat}{cs:List Value}{sorted:List (Lit×DataW H)}{p:List MemPlace}(ht:P.underlying t=some (.map k e))
  (h:DataW.trod enc P W 0 (λ_=>true) held m t cs=some (.map sorted,p)){fk:Lit->AV}{fv:DataW H->AV}{σ:Mp}
  (hk: ∀x l,keyOf P k x=some l->YY σ (fk l) x)
  (hv: ∀(x:Value) n y,x.formed P e=true->DataW.trod enc P W 0 (λ_=>true) held n e x.cells.toList=some y->(∃key,(key,y.1)∈sorted)->YY σ (fv y.1) x):
  ∃b es clock fs,cs=[.map (some b)]∧MemPlace.map b∈p∧W.heap[b]? =some (.map es clock)∧Y5 σ fs es.toList∧(fs.map SZ).Perm (sorted.map λq=>(fk q.1,fv q.2)):=by
 cases m with
 |zero=>simp[DataW.trod] at h
 |succ m=>
  have key: ∃b,cs=[.map (some b)]:=by
   unfold DataW.trod at h
   rw[ht] at h
   rcases cs with _|⟨c0,_|⟨c1,cs⟩⟩
   ·simp at h
   ·cases c0<;>try (simp at h;done)
    rename_i r
    cases r with
    |none=>simp at h
    |some b=>exact⟨b,rfl⟩
   ·simp at h
  obtain⟨b,rfl⟩:=key
  unfold DataW.trod at h
  rw[ht] at h
  simp only at h
  split at h
  ·rename_i es clock hb
   split at h
   ·obtain⟨entries,h1,h2⟩:=Option.bind_eq_some_iff.1 h
    split at h2
    ·simp only[Option.some.injEq,Prod.mk.injEq,DataW.map.injEq] at h2
     obtain⟨h3,h4⟩:=h2
     have hperm:=WideShapes.sorted_perm (entries.map (·.1))
     rw[h3] at hperm
     obtain⟨fs,h5,h6⟩:=ny (fk:=fk) (fv:=fv) (σ:=σ) es.toList entries h1 (λx hx y hy hm=>by
      obtain⟨key,h7,h8⟩:=Option.bind_eq_some_iff.1 hy
      split at h8
      ·rename_i hf
       obtain⟨z,h9,h10⟩:=Option.map_eq_some_iff.1 h8
       subst h10
       refine⟨hk _ _ h7,hv _ _ z hf h9 ⟨key,?_⟩⟩
       exact hperm.mem_iff.2 (Xu.2 ⟨_,hm,rfl⟩)
      ·cases h8)
     refine⟨b,es,clock,fs,rfl,by rw[<-h4];exact ZF ..,hb,h5,?_⟩
     rw[h6]
     have:=(hperm.map λq:Lit×DataW H=>(fk q.1,fv q.2)).symm
     rw[S0] at this
     exact this
    ·cases h2
   ·cases h
  ·cases h
def tC:Lit->AV
 |.string s=>.str s
 |.int k n=>.int k n
 |_=>.unk
theorem tw{k:TypeId}{q:IntKind}(hu:P.underlying k=some (.int q)){σ:Mp}(x:Value)(l:Lit)(h:keyOf P k x=some l):YY σ (tC l) x:=by
 unfold keyOf at h
 rw[hu] at h
 unfold mapKey at h
 rw[hu] at h
 cases x<;>simp at h
 obtain⟨⟨rfl,_⟩,rfl⟩:=h
 simp[tC,YY]
theorem bS{k:TypeId}(hu:P.underlying k=some .string){σ:Mp}(x:Value)(l:Lit)(h:keyOf P k x=some l):YY σ (tC l) x:=by
 unfold keyOf at h
 rw[hu] at h
 unfold mapKey at h
 rw[hu] at h
 cases x<;>simp at h
 obtain⟨_,rfl⟩:=h
 simp[tC,YY]
theorem fp{x:Value}{v:Value}(h:x.cells.toList=[v])(hx: ∀cs,x≠.agg cs):x=v:=by
 cases x with
 |agg cs=>exact absurd rfl (hx cs)
 |_=>simpa [Value.cells] using h
theorem BL{e:TypeId}{d:TypeDesc}(hu:P.underlying e=some d)(hd:(match d with|.struct _|.array _ _=>false|_=>true)=true){x:Value}(h:x.formed P e=true): ∀cs,x≠.agg cs:=by
 rintro cs rfl
 unfold Value.formed at h
 rw[hu] at h
 cases d<;>first|(simp at hd;done)|(simp at h;done)
def pu(d:DataW Unit):AV:=match d with
 |.lit (.int k n)=>.int k n
 |.agg ds=>.agg (Ew ds)
 |_=>.unk
theorem ZeT{e:TypeId}{q:IntKind}(hu:P.underlying e=some (.int q)){σ:Mp}{W:World}(x:Value)(n:Nat)(y:DataW Unit×List MemPlace)(hf:x.formed P e=true)
  (h:DataW.trod (λ_=>()) P W 0 (λ_=>true) false n e x.cells.toList=some y):YY σ (pu y.1) x:=by
 obtain⟨z,h1,rfl,_⟩:=DataW.trod_int hu h
 rw[fp h1 (BL hu rfl hf)]
 simp[pu,YY]
theorem ZeS{e:TypeId}{c:Nat}{W:World}(hr:UK P W e c)(hu: ∃n a,P.underlying e=some (.array n a)){σ:Mp}(x:Value)(n:Nat)(y:DataW Unit×List MemPlace)(hf:x.formed P e=true)
  (h:DataW.trod (λ_=>()) P W 0 (λ_=>true) false n e x.cells.toList=some y)(hy: ∃ds,y.1=.agg ds):YY σ (pu y.1) x:=by
 obtain⟨_,h2,h3⟩:=hr _ _ _ h
 obtain⟨ds,hds⟩:=hy
 obtain⟨k,a,hu⟩:=hu
 have hx: ∃cs,x=.agg cs:=by
  unfold Value.formed at hf
  cases x<;>first|exact⟨_,rfl⟩|(rw[hu] at hf;simp at hf;done)|(simp at hf;done)
 obtain⟨cs,rfl⟩:=hx
 rw[hds] at h2 ⊢
 simp only[pu,YY]
 refine⟨cs.toList,?_,λv hv=>h3 v hv,rfl⟩
 have h2:Xk (λ_=>none) (Ew ds) cs.toList:=h2
 exact Xk.mono (λb l h=>by cases h) h2
theorem za{e:TypeId}{ps rs:Array TypeId}{va:Bool}(hu:P.underlying e=some (.func ps rs va)){σ:Mp}{W:World}{name:String}{f:Nat}(hf:P.funcNamed name=some f)(hne:name.toUTF8.data.toList≠[])
  (x:Value)(n:Nat)(y:DataW (List UInt8)×List MemPlace)(hform:x.formed P e=true)
  (h:DataW.trod (funcToken P) P W 0 (λ_=>true) true n e x.cells.toList=some y)(hy:y.1=.held name.toUTF8.data.toList):YY σ (.func f [] []) x:=by
 have hone:=BL hu rfl hform
 cases n with
 |zero=>simp[DataW.trod] at h
 |succ n=>
  unfold DataW.trod at h
  rw[hu] at h
  have hx:x.cells.toList=[x]:=by cases x<;>first|rfl|exact absurd rfl (hone _)
  rw[hx] at h
  cases x with
  |nilFunc=>simp at h;subst h;cases hy
  |func fn a b=>
   simp at h
   subst h
   simp only[DataW.held.injEq] at hy
   unfold funcToken at hy
   cases fn with
   |func g=>
    simp only at hy
    split at hy
    ·rename_i hab
     simp only[Xn,Array.isEmpty_iff] at hab
     obtain⟨rfl,rfl⟩:=hab
     cases hg:P.funcs[g]? with
     |none=>rw[hg] at hy;exact absurd hy.symm hne
     |some fn=>
      rw[hg] at hy
      simp only at hy
      split at hy
      ·rename_i hn
       have h1:fn.name.toUTF8=name.toUTF8:=by
        have h2:fn.name.toUTF8.data=name.toUTF8.data:=Array.toList_inj.1 hy
        cases h3:fn.name.toUTF8;cases h4:name.toUTF8
        rw[h3,h4] at h2
        simp only at h2
        rw[h2]
       have h5:fn.name=name:=by
        exact String.toByteArray_inj.1 h1
       rw[h5] at hn
       have hn:P.funcNamed name=some g:=by simpa using hn
       rw[hf] at hn
       cases hn
       simp only[YY]
       exact⟨[],[],Uc,Uc,rfl⟩
      ·exact absurd hy.symm hne
    ·exact absurd hy.symm hne
   |_=>simp at hy;exact absurd hy.symm (by simpa using hne)
  |_=>simp at h
noncomputable def vK:List (Nat×List RF)->T Obj->T Obj
 |[],t=>t
 |x::l,t=>vK l (t.set x.1 (.cmap x.2))
theorem JU: ∀(ms:List (Nat×List RF)) (t:T Obj) (b:Nat) (o:Obj),(vK ms t).get b=some o->(∃es,(b,es)∈ms∧o=.cmap es)∨t.get b=some o
 |[],t,b,o,h=>.inr h
 |(b',es)::ms,t,b,o,h=>by
  rcases JU ms _ b o h with⟨es2,h1,h2⟩|h1
  ·exact .inl ⟨es2,ZQ _ h1,h2⟩
  ·rw[T.get_set] at h1
   by_cases e3:b'=b
   ·rw[if_pos e3] at h1;cases h1;subst e3;exact .inl ⟨es,ZF ..,rfl⟩
   ·rw[if_neg e3] at h1;exact .inr h1
noncomputable def wp(n:Nat)(rs:List (Nat×Nat×List AV))(ms:List (Nat×List RF)):Heap:=⟨n,vL rs (vK ms .leaf),n⟩
theorem kT{W:World}{rs:List (Nat×Nat×List AV)}{ms:List (Nat×List RF)}{n:Nat}{σ:Mp}(hσ: ∀g,g<P.globals.size-> ∃l,σ g=some l∧l.blk=g∧l.base=0)(hdom: ∀b l,σ b=some l->b<n)
  (hr: ∀b e l,(b,e,l)∈rs-> ∃cs fr,σ b=some ⟨b,0,Xc l,1⟩∧W.heap[b]? =some (.cells cs e fr)∧Xk σ l cs.toList∧ ∀v∈cs,v.oneCell'=true)
  (hm: ∀b es,(b,es)∈ms-> ∃l ents clock fs,σ b=some l∧W.heap[l.blk]? =some (.map ents clock)∧Y5 σ fs ents.toList∧(fs.map SZ).Perm (es.map SZ)∧es.Pairwise wm)
  (hi: ∀b es b' es' l l',(b,es)∈ms->(b',es')∈ms->σ b=some l->σ b'=some l'->l.blk=l'.blk->b=b'):WU P σ (wp n rs ms) W:=by
 have hget: ∀b o,(wp n rs ms).t.get b=some o->(∃e l,(b,e,l)∈rs∧o=.row ⟨e,1,Xc l,T.ofList l,.unk,0,false,false,true⟩)∨ ∃es,(b,es)∈ms∧o=.cmap es:=by
  intro b o h
  rcases JV rs _ b o h with h|h
  ·exact .inl h
  ·rcases JU ms _ b o h with h|h
   ·exact .inr h
   ·rw[T.get_leaf] at h;cases h
 refine⟨hdom,λb o h=>?_,λb o l h hl=>?_,λb b' o o' l l' h h' hl hl' e=>?_,hσ,Zq _⟩
 ·rcases hget b o h with⟨e,l,h1,_⟩|⟨es,h1,_⟩
  ·obtain⟨cs,fr,h2,_⟩:=hr b e l h1
   exact hdom b _ h2
  ·obtain⟨l,_,_,_,h2,_⟩:=hm b es h1
   exact hdom b _ h2
 ·rcases hget b o h with⟨e,l',h1,rfl⟩|⟨es,h1,rfl⟩
  ·obtain⟨cs,fr,h2,h3,h4,h5⟩:=hr b e l' h1
   rw[h2] at hl;cases hl
   refine⟨_,h3,cs,fr,rfl,?_⟩
   have hlen:cs.size=Xc l':=by rw[Xb,h4.length];simp
   refine⟨rfl,Zq _,by show Xc l'<=Xc l'*1;omega,by show 0+Xc l'*1<=cs.size;omega,λ_=>⟨by show Xc l'=Xc l'*1;omega,rfl,hlen⟩,λi hi=>?_,λi v _ hv=>h5 v (Vs hv),(λh=>by cases h),(λh=>by cases h)⟩
   have hi:i<Xc l':=hi
   have hi':i<l'.length:=by rw[Xb] at hi;exact hi
   obtain⟨v,h6,h7⟩:=h4.get (i:=i) (a:=l'[i]) (Zn hi')
   refine⟨v,by rw[Zb,<-YM];exact h6,?_⟩
   have:(⟨e,1,Xc l',T.ofList l',.unk,0,false,false,true⟩:Row).get i=l'[i]:=by
    rw[Row.get_eq]
    show((T.ofList l').get i).getD .unk=_
    rw[T.get_ofList,Zn hi'];rfl
   rw[this]
   exact h7
  ·obtain⟨l2,ents,clock,fs,h2,h3,h4,h5,h6⟩:=hm b es h1
   rw[h2] at hl;cases hl
   exact⟨_,h3,ents,clock,fs,rfl,h4,h5,h6⟩
 ·rcases hget b o h with⟨e1,l1,h1,_⟩|⟨es,h1,_⟩<;>rcases hget b' o' h' with⟨e2,l2,h2,_⟩|⟨es',h2,_⟩
  ·obtain⟨_,_,h3,_⟩:=hr b e1 l1 h1
   obtain⟨_,_,h4,_⟩:=hr b' e2 l2 h2
   rw[h3] at hl;rw[h4] at hl'
   cases hl;cases hl'
   exact .inl e
  ·exfalso
   obtain⟨_,_,h3,h5,_⟩:=hr b e1 l1 h1
   obtain⟨_,_,_,_,h4,h6,_⟩:=hm b' es' h2
   rw[h3] at hl;rw[h4] at hl'
   cases hl;cases hl'
   have e:b=_:=e
   rw[<-e,h5] at h6
   cases h6
  ·exfalso
   obtain⟨_,_,h3,h5,_⟩:=hr b' e2 l2 h2
   obtain⟨_,_,_,_,h4,h6,_⟩:=hm b es h1
   rw[h3] at hl';rw[h4] at hl
   cases hl;cases hl'
   have e:_=b':=e
   rw[e,h5] at h6
   cases h6
  ·exact .inl<|hi b es b' es' l l' h1 h2 hl hl' e
theorem zr{l:List (String×DataW Unit)}{w:World}(h:laidMetH P l w):laidMet P (l.filter λx=>x.2.handleName?.isNone) w:=by
 unfold laidMetH at h
 generalize hfl:(l.filter λx=>x.2.handleName?.isSome)=fl at h
 cases fl with
 |nil=>
  have e:(l.filter λx=>x.2.handleName?.isNone)=l:=by
   rw[List.filter_eq_self]
   intro x hx
   have:=(List.filter_eq_nil_iff.1 hfl) x hx
   cases hn:x.2.handleName? with
   |none=>rfl
   |some s=>rw[hn] at this;exact absurd rfl this
  rw[e]
  exact h
 |cons a as=>exact h.1
theorem DB{W:World}: ∀{l:List (String×DataW Unit)} {ps:List MemPlace},DataW.LaidVars P W l ps-> ∃pf:Nat->List MemPlace,
  (∀i n d,l[i]? =some (n,d)-> ∃g t cs fuel,P.globalNamed n=some g∧(P.globals[g]?).map (·.type)=some t∧W.var? P n=some cs∧DataW.trod (λ_=>()) P W 0 (λ_=>true) false fuel t cs.toList=some (d,pf i)∧ ∀x∈MemPlace.row ⟨g,0,none⟩ cs.size,x∈ps)∧
  (∀i x,i<l.length->x∈pf i->x∈ps)∧(ps.Nodup-> ∀i j x,i<j->j<l.length->x∈pf i->x∈pf j->False)
 |[],_,_=>⟨λ_=>[],(λi n d h=>by simp at h),(λi x h=>by simp at h),(λ_ i j x _ h=>by simp at h)⟩
 |(n',d')::r,ps,h=>by
  obtain⟨g,t,cs,fuel,p,q,h1,h2,h3,h4,h5,rfl⟩:=h
  obtain⟨pf,k1,k2,k3⟩:=DB h5
  refine⟨λi=>match i with|0=>p|i+1=>pf i,λi n d hi=>?_,λi x hi hx=>?_,λhnd i j x hij hj hx hx'=>?_⟩
  ·cases i with
   |zero=>
    simp only[Up,Option.some.injEq,Prod.mk.injEq] at hi
    obtain⟨rfl,rfl⟩:=hi
    exact⟨g,t,cs,fuel,h1,h2,h3,h4,λx hx=>ZA.2 (.inl (ZA.2 (.inl hx)))⟩
   |succ i=>
    simp only[TR] at hi
    obtain⟨g',t',cs',fuel',m1,m2,m3,m4,m5⟩:=k1 i n d hi
    exact⟨g',t',cs',fuel',m1,m2,m3,m4,λx hx=>ZA.2 (.inr (m5 x hx))⟩
  ·cases i with
   |zero=>exact ZA.2 (.inl (ZA.2 (.inr hx)))
   |succ i=>exact ZA.2 (.inr (k2 i x (by simpa using hi) hx))
  ·obtain⟨n1,n2,n3⟩:=List.nodup_append.1 hnd
   cases j with
   |zero=>omega
   |succ j=>
    have hj':j<r.length:=by simpa using hj
    cases i with
    |zero=>exact n3 x (ZA.2 (.inr hx)) x (k2 j x hj' hx') rfl
    |succ i=>exact k3 n2 i j x (by omega) hj' hx hx'
theorem BD{σ:Mp}{p:AV->Prop}: ∀{fs:List RF} {l:List MapEntry},Y5 σ fs l->(∀e∈fs,p e.val)-> ∀x∈l,∃a,p a∧YY σ a x.val
 |[],l,h,hp,x,hx=>by simp only[Y5] at h;subst h;cases hx
 |e::fs,l,h,hp,x,hx=>by
  obtain⟨m,ms,g1,g2,rfl⟩:=h.cons_inv
  rcases Yi.1 hx with rfl|hx
  ·exact⟨e.val,hp e (ZF ..),g1.2.1⟩
  ·exact BD g2 (λf hf=>hp f (ZQ _ hf)) x hx
theorem Dc{σ:Mp}: ∀{fs:List RF} {l:List MapEntry},Y5 σ fs l->l.length=fs.length
 |[],l,h=>by simp only[Y5] at h;subst h;rfl
 |e::fs,l,h=>by
  obtain⟨m,ms,g1,g2,rfl⟩:=h.cons_inv
  rw[Zl,Zl,Dc g2]
def Zkt:AV->Bool|.func .. =>true|_=>false
def mH:AV->Bool|.int .. =>true|.agg _=>true|_=>false
theorem Kj{σ:Mp}{fs fs':List RF}{es es':List RF}{l:List MapEntry}(h:Y5 σ fs l)(h':Y5 σ fs' l)(hp:(fs.map SZ).Perm (es.map SZ))(hp':(fs'.map SZ).Perm (es'.map SZ))
  (ha:es.all (λe=>Zkt e.val)=true)(hb:es'.all (λe=>mH e.val)=true)(hne:es≠[]):False:=by
 have all: ∀{fs es:List RF} {q:AV->Bool},(fs.map SZ).Perm (es.map SZ)->es.all (λe=>q e.val)=true-> ∀e∈fs,q e.val=true:=by
  intro fs es q hp ha e he
  have h1:SZ e∈es.map SZ:=hp.mem_iff.1 (Xu.2 ⟨e,he,rfl⟩)
  obtain⟨e',h2,h3⟩:=Xu.1 h1
  have h4:=Y6.1 ha e' h2
  simp only[SZ,Prod.mk.injEq] at h3
  rw[<-h3.2];exact h4
 have hlen:l≠[]:=by
  intro hl
  have h1:=Dc h
  have h2:=hp.length_eq
  rw[hl] at h1
  rw[Zt,Zt,<-h1] at h2
  exact hne (XM.1 h2.symm)
 obtain⟨x,l',rfl⟩:=List.exists_cons_of_ne_nil hlen
 obtain⟨a,h1,h2⟩:=BD (p:=λa=>Zkt a=true) h (all hp ha) x (ZF ..)
 obtain⟨b,h3,h4⟩:=BD (p:=λa=>mH a=true) h' (all hp' hb) x (ZF ..)
 cases a<;>first|(cases h1;done)|skip
 obtain⟨_,_,_,_,e⟩:=Mr h2
 rw[e] at h4
 cases b<;>first|(cases h3;done)|skip
 ·cases Wg h4
 ·obtain⟨_,_,_,e⟩:=KB h4;cases e
noncomputable def C7:List RF->Bool
 |[]=>true
 |e::l=>(l.all λf=>Jk e.key f.key&&Jk f.key e.key)&&C7 l
theorem MO: ∀{es:List RF},C7 es=true->es.Pairwise wm
 |[],_=>List.Pairwise.nil
 |e::l,h=>by
  unfold C7 at h
  obtain⟨h1,h2⟩:=Q4.1 h
  refine S1.2 ⟨λf hf=>?_,MO h2⟩
  have:=Y6.1 h1 f hf
  exact Q4.1 this
end
def j7(gs:List (Nat×List AV))(base:Nat->List AV->Heap->Option CR):List (Nat×CE)->Nat->List AV->Heap->Option CR
 |[],f,args,H=>base f args H
 |x::l,f,args,H=>cond (Nat.beq x.1 f) (cond (x.2.is gs args H) (some (.ret x.2.v (x.2.after H))) (j7 gs base l f args H)) (j7 gs base l f args H)
section
variable {P:Program}
def ZeV(P:Program)(gs:List (Nat×List AV))(x:Nat×CE):Prop:= ∃call,SC P call∧x.2.wf=true∧ ∀e,x.2.out (call x.1 x.2.args (x.2.heap gs e))=true
theorem mR{gs:List (Nat×List AV)}{base:Nat->List AV->Heap->Option CR}(hb:OT P base): ∀l:List (Nat×CE),(∀x∈l,ZeV P gs x)->OT P (j7 gs base l)
 |[],_=>hb
 |x::l,h=>by
  intro f args H r hr σ w vs hs hv
  have ih:=mR hb l (λy hy=>h y (ZQ _ hy))
  unfold j7 at hr
  cases h1:Nat.beq x.1 f with
  |false=>rw[h1] at hr;exact ih f args H r hr σ w vs hs hv
  |true=>
   rw[h1] at hr
   cases h2:x.2.is gs args H with
   |false=>rw[h2] at hr;exact ih f args H r hr σ w vs hs hv
   |true=>
    rw[h2] at hr
    have h1:=Z9 h1
    subst h1
    obtain⟨call,hcall,hwf,hout⟩:=h x (ZF ..)
    refine Zgl (P:=P) hcall (f:=x.1) (tab:=[x.2]) (gs:=gs) (λy hy=>?_) (args:=args) (H:=H) ?_ hs hv
    ·rcases Yi.1 hy with rfl|hy
     ·exact⟨hwf,hout⟩
     ·cases hy
    ·show cond (x.2.is gs args H) (some (.ret x.2.v (x.2.after H))) none=some r
     rw[h2]
     exact hr
end
section
variable {P:Program}
structure D8 where
 loc:Loc
 elem:Nat
 cells:List AV
def D8.row(x:D8):Row:=⟨x.elem,1,Xc x.cells,T.ofList x.cells,.unk,0,false,false,false⟩
def Dg(b:Nat):List (Nat×D8)->Option D8
 |[]=>none
 |y::l=>if y.1=b then some y.2 else Dg b l
theorem yk{b:Nat}{x:D8}: ∀{l:List (Nat×D8)},Dg b l=some x->(b,x)∈l
 |[],h=>by cases h
 |y::l,h=>by
  unfold Dg at h
  split at h
  ·rename_i e;cases h;rw[<-e];exact ZF ..
  ·exact ZQ _ (yk h)
theorem BG{b:Nat}{x:D8}: ∀{l:List (Nat×D8)},(b,x)∈l->(l.map (·.1)).Nodup->Dg b l=some x
 |y::l,h,nd=>by
  rw[Zz,List.nodup_cons] at nd
  unfold Dg
  rcases Yi.1 h with rfl|h
  ·rw[if_pos rfl]
  ·rw[if_neg (λe=>nd.1 (by rw[e];exact T6 (f:=Prod.fst) h))]
   exact BG h nd.2
structure ZeY(W:World)(σ:Mp)(x:D8):Prop where
 sz:x.loc.sz=1
 fits:x.cells.length<=x.loc.tot
 cells: ∃cs fr,W.heap[x.loc.blk]? =some (.cells cs x.elem fr)∧x.loc.base+x.loc.tot<=cs.size∧ ∀(i:Nat) (a:AV),x.cells[i]? =some a-> ∃v,cs[x.loc.base+i]? =some v∧YY σ a v∧v.oneCell'=true
theorem D8.get_row{x:D8}{i:Nat}{a:AV}(h:x.cells[i]? =some a):x.row.get i=a:=by
 rw[Row.get_eq]
 show((T.ofList x.cells).get i).getD .unk=a
 rw[T.get_ofList,h];rfl
theorem iP{call:Nat->List AV->Heap->CR}(hcall:SC P call){f:FuncId}{fn:Func}{c:Code}(hf:P.funcs[f]? =some fn)(hname:fn.name≠ "runtime.NumGoroutine")(hb:fn.body=some c)
  {σ:Mp}{H H':Heap}{W:World}(hs:WU P σ H W)(hw: ∀b,¬Wr H b){as:List AV}{vs:List Value}(ha:Xk σ as vs)(hr:call f as H=.ret (.bool true) H'):
  Calls P f ⟨vs⟩ W λe W'=>e=.returned (.bool true)∧W'.os=W.os∧W'.output=W.output∧ ∀i,i<W.heap.size->W'.heap[i]? =W.heap[i]? :=by
 have h:=hcall f as H σ W vs hs ha
 rw[hr,Qu hf hname hb] at h
 refine Calls.mono h λe W' he=>?_
 cases e with
 |returned v=>
  obtain⟨σ',h1,t⟩:=he
  exact⟨by rw[Si h1],t.os,t.out,λi hi=>t.frame i hi λb _ hb=>absurd hb (hw b)⟩
 |panicked ch=>obtain⟨_,_,h⟩:=he;exact h.elim
 |outgrown=>exact he.elim
end
section
open Go Go.ChangeShapes Go.WideShapes Go.ChangeAt Go.RowKit
variable {H:Type} {enc:TypeId×Value->H} {P:Program}
theorem ZeC{W W':World}(h: ∀i,i<W.heap.size->W'.heap[i]? =W.heap[i]?){p:MemPlace}(hp:p.block<W.heap.size):W.sameAt W' p:=by
 cases p with
 |cell b off=>
  show W'.cell? ⟨b,off,none⟩=W.cell? ⟨b,off,none⟩
  unfold World.cell?
  rw[h b hp]
 |map b=>exact h b hp
theorem FS(hl:laidOutB P=true){W W':World}{sp:Nat->Bool}(h: ∀i,i<W.heap.size->W'.heap[i]? =W.heap[i]?): ∀{ts:List TypeId} {vs:List Value} {ds:List (DataW H)} {ps:List MemPlace},
  (∀t∈ts,P.readableRec t=true∧t<P.types.size)->DataW.TrodAll enc P W 0 (λ_=>true) true ts vs ds ps->(∀p∈ps,p.block<W.heap.size∧sp p.block=true)->DataW.TrodAll enc P W' 0 sp true ts vs ds ps
 |[],[],[],ps,_,ht,_=>ht
 |t::ts,v::vs,d::ds,ps,hts,ht,hp=>by
  obtain⟨p,q,h1,h2,rfl⟩:=ht
  obtain⟨r1,r2⟩:=hts t (ZF ..)
  refine⟨p,q,WideElems.Trod_stays hl r1 r2 h1 (λx hx=>ZeC h (hp x (ZA.2 (.inl hx))).1) (λx hx=>(hp x (ZA.2 (.inl hx))).2),?_,rfl⟩
  exact FS hl h (λt ht=>hts t (ZQ _ ht)) h2 λx hx=>hp x (ZA.2 (.inr hx))
 |[],_::_,_,_,_,ht,_=>ht.elim
 |[],[],_::_,_,_,ht,_=>ht.elim
 |_::_,[],_,_,_,ht,_=>ht.elim
 |_::_,_::_,[],_,_,ht,_=>ht.elim
theorem bW{fn:Func}{s:ChangeSpec}{W W':World}{args:Array Value}{ds gs:List (DataW H)}{before:List MemPlace}{tb:TypeId}(hl:laidOutB P=true)(hts: ∀t∈fn.params.toList,P.readableRec t=true∧t<P.types.size)
  (hv:s.vars=[])(hr:fn.resultTypes= #[tb])(htb:P.underlying tb=some .bool)(hW:DataW.Whole enc P fn.params.toList s.vars false W args.toList ds gs before)
  (hres:(s.fn H (ds++gs)).results=[.lit (.bool true)])(hargs:(s.fn H (ds++gs)).args=ds)(hvars:(s.fn H (ds++gs)).vars=[])
  (h1:W'.os=W.os)(h2:W'.output=W.output)(h3: ∀i,i<W.heap.size->W'.heap[i]? =W.heap[i]?):s.post enc P fn false true false false W args (.bool true) W':=by
 have hlt:=hW.lt
 have hW':=hW
 obtain⟨p,q,hA,hV,rfl,_,_⟩:=hW
 rw[hv] at hV
 obtain⟨rfl,rfl⟩:=trodVars_none hV
 refine⟨ds,[],p++[],[],p,[],hW',?_,?_,?_,World.keptBut_mono (λx hx=>hx.elim) (wX (may:=λ_=>False) h1 h2 h3),λh=>by cases h⟩
 ·rw[hres,hr]
  exact trodAll_mk1 (shut_bool htb _)
 ·rw[hargs]
  exact FS hl h3 hts hA λx hx=>⟨hlt x (by simpa using hx),by simpa using hlt x (by simpa using hx)⟩
 ·rw[hvars,hv]
  rfl
end
section
variable {P:Program}
def an(n:Nat):Obj->Prop
 |.row r=> ∀i,i<r.size->Wu n (r.get i)=true
 |.cmap es=> ∀x∈es,Wu n x.key=true∧Wu n x.val=true
 |_=>False
theorem Y5.cutE{σ:Mp}{n:Nat}: ∀{es:List RF} {l:List MapEntry},(∀x∈es,Wu n x.key=true∧Wu n x.val=true)->Y5 σ es l->Y5 (σ.cut n) es l
 |[],l,_,r=>by simpa [Y5] using r
 |x::es,l,h,r=>by
  simp only[Y5] at r ⊢
  obtain⟨e,l',h1,h2,h3⟩:=r
  obtain⟨k1,k2⟩:=h x (ZF ..)
  exact⟨e,l',⟨YY.cut k1 h1.1,YY.cut k2 h1.2.1,h1.2.2⟩,Y5.cutE (λy hy=>h y (ZQ _ hy)) h2,h3⟩
theorem U7.cutO{σ:Mp}{n:Nat}{o:Obj}{l:Loc}{c:Go.Obj}(h:an n o)(r:U7 σ o l c):U7 (σ.cut n) o l c:=by
 cases o with
 |row q=>
  obtain⟨cs,fr,rfl,r⟩:=r
  refine⟨cs,fr,rfl,r.sz,r.sz1,r.fits,r.room,r.exact,λi hi=>?_,r.one,r.frz,r.frs⟩
  obtain⟨v,h1,h2⟩:=r.cell i hi
  exact⟨v,h1,YY.cut (h i hi) h2⟩
 |cmap es=>
  obtain⟨ents,clock,fs,h1,h2,h3,h4⟩:=r
  refine⟨ents,clock,fs,h1,Y5.cutE (λx hx=>?_) h2,h3,h4⟩
  have hm:SZ x∈es.map SZ:=h3.subset (T6 (f:=SZ) hx)
  obtain⟨y,hy,e⟩:=Xu.1 hm
  have hk:y.key=x.key:=congrArg Prod.fst e
  have hv:y.val=x.val:=congrArg Prod.snd e
  rw[<-hk,<-hv]
  exact h y hy
 |_=>exact h.elim
theorem WU.cutTo{σ:Mp}{H:Heap}{w:World}{n:Nat}{t:T Obj}(hs:WU P σ H w)(hn:P.globals.size<=n)(ht: ∀b o,t.get b=some o->b<n∧H.t.get b=some o∧an n o):WU P (σ.cut n) ⟨n,t,n⟩ w:=by
 refine⟨λb l h=>(Mp.cut_some h).1,λb o h=>(ht b o h).1,λb o l h hl=>?_,λb b' o o' l l' h h' hl hl' e=>?_,λg hg=>?_,Zq _⟩
 ·obtain⟨_,h1,h2⟩:=ht b o h
  obtain⟨c,h3,h4⟩:=hs.alive b o l h1 (Mp.cut_some hl).2
  exact⟨c,h3,h4.cutO h2⟩
 ·exact hs.inj b b' o o' l l' (ht b o h).2.1 (ht b' o' h').2.1 (Mp.cut_some hl).2 (Mp.cut_some hl').2 e
 ·obtain⟨l,h1,h2⟩:=hs.glob g hg
  exact⟨l,by rw[Mp.cut_lt (by omega)];exact h1,h2⟩
def Bears(n:Nat)(t:T Obj)(H:Heap):Prop:=n<=H.nx∧ ∀b o,t.get b=some o->H.t.get b=some o
theorem Bears.keep{n:Nat}{t:T Obj}{H H':Heap}(h:Bears n t H)(hlt: ∀b o,t.get b=some o->b<n)(hnx:H.nx<=H'.nx)(hk: ∀c,c<H.nx->H'.t.get c=H.t.get c):Bears n t H':=
 ⟨Yl h.1 hnx,λb o hb=>(hk b (ZZ (hlt b o hb) h.1)).trans (h.2 b o hb)⟩
structure qn where
 f:Nat
 args:List AV
 v:AV
def Ny(n:Nat)(t:(Nat->Nat)->T Obj)(base:Nat->List AV->Heap->Option CR):List qn->Nat->List AV->Heap->Option CR
 |[],f,args,H=>base f args H
 |x::l,f,args,H=>cond (Nat.beq x.f f) (open Classical in if args=x.args∧ ∃e,Bears n (t e) H then some (.ret x.v H) else Ny n t base l f args H) (Ny n t base l f args H)
theorem EU{n:Nat}{t:(Nat->Nat)->T Obj}(hn:P.globals.size<=n)(ht: ∀e b o,(t e).get b=some o->b<n∧an n o∧(K0 o∨ ∃es,o=.cmap es)){base:Nat->List AV->Heap->Option CR}(hb:OT P base): ∀l:List qn,
  (∀x∈l,∃call,SC P call∧RL 0 x.args=true∧Wu 0 x.v=true∧ ∀e,mJ x.v (call x.f x.args ⟨n,t e,n⟩)=true)->OT P (Ny n t base l)
 |[],_=>hb
 |x::l,hl=>by
  intro f args H r h σ w vs hs hv
  have ih:=EU hn ht hb l λy hy=>hl y (ZQ _ hy)
  unfold Ny at h
  cases hf:Nat.beq x.f f with
  |false=>rw[hf] at h;exact ih f args H r h σ w vs hs hv
  |true=>
   have:=Z9 hf
   subst this
   rw[hf,cond_true] at h
   split at h
   ·rename_i hc
    obtain⟨rfl,e,hle,ZjW⟩:=hc
    cases h
    obtain⟨call,hcall,Zj8,Zj9,hev⟩:=hl x (ZF ..)
    have bF:WU P (σ.cut n) ⟨n,t e,n⟩ w:=hs.cutTo hn λb o hb=>⟨(ht e b o hb).1,ZjW b o hb,(ht e b o hb).2.1⟩
    have bD: ∀y,¬Wr (⟨n,t e,n⟩:Heap) y:=by
     rintro y ⟨h1,ob,h2,_⟩
     have h1:n<=y:=h1
     have:=(ht e y ob h2).1
     omega
    have hrel:Xk (σ.cut n) x.args vs:=Xk.mono (λb l hb=>by have:=(Mp.cut_some hb).1;omega) (Xk.cut (n:=0) Zj8 hv)
    have hcr:=hcall x.f x.args ⟨n,t e,n⟩ (σ.cut n) w vs bF hrel
    have hret:=hev e
    generalize call x.f x.args ⟨n,t e,n⟩=res at hcr hret
    cases res with
    |fail=>cases hret
    |pan _ _=>cases hret
    |ret v' H''=>
     have:=M4 _ _ hret
     subst this
     refine Ends.mono (λu' w' hx=>?_) (λ_ _ hx=>hx) hcr
     obtain⟨σ2,h1,t'⟩:=hx
     have hfr: ∀j,j<w.heap.size->w'.heap[j]? =w.heap[j]? :=λj hj=>t'.frame j hj λy _ hy _=>absurd hy (bD y)
     refine⟨σ,?_,(wi.mem (Ext.refl σ) t'.size hfr (λ_ _ _ _ h _=>h) t'.tape t'.os t'.out).full (hs.grow hfr) λ_ _ hx=>⟨rfl,hx⟩⟩
     exact(YY.cut Zj9 h1).mono λy _ hy=>by have:=(Mp.cut_some hy).1;omega
   ·exact ih _ _ _ _ h σ w vs hs hv
theorem Mx{n:Nat}{t:(Nat->Nat)->T Obj}{base:Nat->List AV->Heap->Option CR}{H:Heap}{e:Nat->Nat}(hb:Bears n (t e) H): ∀{l:List qn} {x:qn},x∈l->(∀y∈l,y.f=x.f->y.args=x.args->y.v=x.v)->Ny n t base l x.f x.args H=some (.ret x.v H)
 |y::l,x,hx,hu=>by
  unfold Ny
  by_cases hf:y.f=x.f
  ·rw[hf,show Nat.beq x.f x.f=true from Xd _,cond_true]
   by_cases ha:y.args=x.args
   ·rw[if_pos ⟨ha.symm,e,hb⟩,hu y (ZF ..) hf ha]
   ·rw[if_neg λh=>ha h.1.symm]
    rcases Yi.1 hx with rfl|hx
    ·exact absurd rfl ha
    ·exact Mx hb hx λz hz=>hu z (ZQ _ hz)
  ·have:Nat.beq y.f x.f=false:=by rw[Y1];exact Ze hf
   rw[this]
   rcases Yi.1 hx with rfl|hx
   ·exact absurd rfl hf
   ·exact Mx hb hx λz hz=>hu z (ZQ _ hz)
def Gp(t:T Obj):List (Nat×D8)->T Obj
 |[]=>t
 |x::l=>(Gp t l).set x.1 (.row x.2.row)
def Hk(σ:Mp)(ws:List (Nat×D8)):Mp:=λb=>match Dg b ws with
 |some x=>some x.loc
 |none=>σ b
theorem CY(t:T Obj): ∀(l:List (Nat×D8)) (b:Nat) (o:Obj),(Gp t l).get b=some o->(∃x,(b,x)∈l∧o=.row x.row)∨t.get b=some o
 |[],_,_,h=>.inr h
 |y::l,b,o,h=>by
  have h:((Gp t l).set y.1 (.row y.2.row)).get b=some o:=h
  rw[T.get_set] at h
  by_cases e:y.1=b
  ·rw[if_pos e] at h;cases h;subst e;exact .inl ⟨y.2,ZF ..,rfl⟩
  ·rw[if_neg e] at h
   rcases CY t l b o h with⟨x,h1,h2⟩|h1
   ·exact .inl ⟨x,ZQ _ h1,h2⟩
   ·exact .inr h1
theorem oT(t:T Obj): ∀(l:List (Nat×D8)) (b:Nat) (x:D8),(b,x)∈l->(l.map (·.1)).Nodup->(Gp t l).get b=some (.row x.row)
 |y::l,b,x,h,nd=>by
  show((Gp t l).set y.1 (.row y.2.row)).get b=some (.row x.row)
  rw[Zz,List.nodup_cons] at nd
  rw[T.get_set]
  rcases Yi.1 h with rfl|h
  ·rw[if_pos rfl]
  ·rw[if_neg (λe=>nd.1 (by rw[e];exact T6 (f:=Prod.fst) h))]
   exact oT t l b x h nd.2
theorem uc(t:T Obj): ∀(l:List (Nat×D8)) (b:Nat),(∀x,(b,x)∉l)->(Gp t l).get b=t.get b
 |[],_,_=>rfl
 |y::l,b,h=>by
  show((Gp t l).set y.1 (.row y.2.row)).get b=_
  rw[T.get_set,if_neg λe=>h y.2 (by rw[<-e];exact ZF ..)]
  exact uc t l b λx hx=>h x (ZQ _ hx)
theorem BH{b:Nat}: ∀{l:List (Nat×D8)},(∀x,(b,x)∉l)->Dg b l=none
 |[],_=>rfl
 |y::l,h=>by
  unfold Dg
  rw[if_neg λe=>h y.2 (by rw[<-e];exact ZF ..)]
  exact BH λx hx=>h x (ZQ _ hx)
theorem WU.add{σ:Mp}{H:Heap}{W:World}(hs:WU P σ H W){n:Nat}{ws:List (Nat×D8)}(hn:H.nx<=n)(nd:(ws.map (·.1)).Nodup)(hlt: ∀b x,(b,x)∈ws->H.nx<=b∧b<n)
  (Zkl: ∀b o,H.t.get b=some o->K0 o∨ ∃es,o=.cmap es)(hw: ∀b x,(b,x)∈ws->ZeY W (Hk σ ws) x):WU P (Hk σ ws) ⟨n,Gp H.t ws,n⟩ W:=by
 have old: ∀b,b<H.nx->Hk σ ws b=σ b:=λb hb=>by
  unfold Hk
  rw[BH λx hx=>by have:=(hlt b x hx).1;omega]
 have ext:Ext σ (Hk σ ws):=λb l h=>by rw[old b (hs.dom b l h)];exact h
 have wat: ∀b x,(b,x)∈ws->Hk σ ws b=some x.loc:=λb x h=>by unfold Hk;rw[BG h nd]
 have wal: ∀b x,(b,x)∈ws-> ∃c,W.heap[x.loc.blk]? =some c∧U7 (Hk σ ws) (.row x.row) x.loc c:=by
  intro b x h1
  obtain⟨h2,h3,cs,fr,h4,h5,h6⟩:=hw b x h1
  refine⟨_,h4,cs,fr,rfl,?_⟩
  have key: ∀i,i<Xc x.cells-> ∃a,x.cells[i]? =some a:=λi hi=>by
   rw[Xb] at hi
   exact⟨_,Zn hi⟩
  refine⟨h2,by omega,by rw[h2];show Xc x.cells<=x.loc.tot*1;rw[Xb];omega,by rw[h2];omega,(λh=>by cases h),λi hi=>?_,λi v hi hv=>?_,(λh=>by cases h),(λh=>by cases h)⟩
  ·obtain⟨a,ha⟩:=key i hi
   obtain⟨v,h7,h8,_⟩:=h6 i a ha
   rw[D8.get_row ha]
   exact⟨v,h7,h8⟩
  ·obtain⟨a,ha⟩:=key i hi
   obtain⟨v',h7,_,h8⟩:=h6 i a ha
   rw[hv] at h7;cases h7;exact h8
 have all: ∀b o l,(Gp H.t ws).get b=some o->Hk σ ws b=some l->(∃c,W.heap[l.blk]? =some c∧U7 (Hk σ ws) o l c)∧((∃r,o=.row r∧r.own=false)∨(H.t.get b=some o∧σ b=some l∧ ∃es,o=.cmap es)):=by
  intro b o l h hl
  rcases CY H.t ws b o h with⟨x,h1,rfl⟩|h1
  ·rw[wat b x h1] at hl;cases hl
   exact⟨wal b x h1,.inl ⟨_,rfl,rfl⟩⟩
  ·have hb:=hs.low b o h1
   rw[old b hb] at hl
   obtain⟨c,h2,h3⟩:=hs.alive b o l h1 hl
   refine⟨⟨c,h2,h3.mono ext⟩,?_⟩
   rcases Zkl b o h1 with h4|h4
   ·exact .inl h4
   ·exact .inr ⟨h1,hl,h4⟩
 refine⟨λb l h=>?_,λb o h=>?_,λb o l h hl=>(all b o l h hl).1,λb b' o o' l l' h h' hl hl' e=>?_,λg hg=>?_,Zq _⟩
 ·show b<n
  unfold Hk at h
  split at h
  ·rename_i x hx;exact(hlt b x (yk hx)).2
  ·exact ZZ (hs.dom b l h) hn
 ·show b<n
  rcases CY H.t ws b o h with⟨x,h1,_⟩|h1
  ·exact(hlt b x h1).2
  ·exact ZZ (hs.low b o h1) hn
 ·obtain⟨⟨c,c1,c2⟩,a1⟩:=all b o l h hl
  obtain⟨⟨c',c3,c4⟩,a2⟩:=all b' o' l' h' hl'
  rcases a1 with a1|⟨g1,g2,es,rfl⟩<;>rcases a2 with a2|⟨g3,g4,es',rfl⟩
  ·exact .inr ⟨a1,a2⟩
  ·exfalso
   obtain⟨r,rfl,_⟩:=a1
   obtain⟨_,_,rfl,_⟩:=c2
   obtain⟨_,_,_,rfl,_⟩:=c4
   rw[e,c3] at c1;cases c1
  ·exfalso
   obtain⟨r,rfl,_⟩:=a2
   obtain⟨_,_,rfl,_⟩:=c4
   obtain⟨_,_,_,rfl,_⟩:=c2
   rw[e,c3] at c1;cases c1
  ·rcases hs.inj b b' _ _ l l' g1 g3 g2 g4 e with h|⟨⟨_,h,_⟩,_⟩
   ·exact .inl h
   ·cases h
 ·obtain⟨l,h1,h2⟩:=hs.glob g hg
  exact⟨l,ext g l h1,h2⟩
end
section
variable {P:Program} {H:Type} {enc:TypeId×Value->H}
theorem trodAll_three{w:World}{base:Nat}{spare:Nat->Bool}{held:Bool}{t t' t2:TypeId}{args:Array Value}{ds:List (DataW H)}{ps:List MemPlace}(h:DataW.TrodAll enc P w base spare held [t,t',t2] args.toList ds ps):
  ∃v v' v2 d d' d2 p p' p2,args= #[v,v',v2]∧ds=[d,d',d2]∧ps=p++(p'++p2)∧DataW.Trod enc P w base spare held t v d p∧DataW.Trod enc P w base spare held t' v' d' p'∧DataW.Trod enc P w base spare held t2 v2 d2 p2:=by
 obtain⟨v,vs,d,ds',p,q,hargs,rfl,rfl,hd,hrest⟩:=Go.ChangeShapes.trodAll_cons h
 obtain⟨v',vs',d',ds'',p',q',rfl,rfl,rfl,hd',hrest'⟩:=Go.ChangeShapes.trodAll_cons hrest
 obtain⟨v2,vs2,d2,ds2,p2,q2,rfl,rfl,rfl,hd2,ZgY⟩:=Go.ChangeShapes.trodAll_cons hrest'
 obtain⟨rfl,rfl,rfl⟩:=Go.ChangeShapes.trodAll_nil ZgY
 exact⟨v,v',v2,d,d',d2,p,p',p2,by cases args;simp_all,rfl,by simp,hd,hd',hd2⟩
theorem bO{W:World}{r:Reach}{base:Nat}{t:TypeId}{v:Value}{k:IntKind}(ht:P.underlying t=some (.int k))(hok:Cell.okWide P W r base t v): ∃n,v=.int k n∧k.has n:=by
 have hk:Cell.ok P W r base t v:=by
  unfold Cell.okWide at hok
  rw[ht] at hok
  simpa using hok
 unfold Cell.ok at hk
 rw[ht] at hk
 cases v with
 |int k' n=>exact⟨n,by rw[hk.1],hk.2⟩
 |_=>simp at hk
theorem mG{W:World}{r:Reach}{base:Nat}{t:TypeId}{v:Value}{k:IntKind}(ht:P.underlying t=some (.int k))(hok:Value.okWide P W r base t v): ∃n,v=.int k n∧k.has n:=by
 unfold Value.okWide at hok
 rw[ht] at hok
 exact bO ht hok
theorem tG{n:Nat}{x:AV}: ∀{l:List AV},RL n l=true->x∈l->Wu n x=true
 |y::l,h,hx=>by
  have h:cond (Wu n y) (RL n l) false=true:=h
  cases hy:Wu n y with
  |false=>rw[hy] at h;cases h
  |true=>
   rw[hy] at h
   rcases Yi.1 hx with rfl|hx
   ·exact hy
   ·exact tG h hx
theorem uj{n:Nat}{rs:List (Nat×Nat×List AV)}{ms:List (Nat×List RF)}(hr:(rs.all λx=>Nat.ble (Nat.succ x.1) n&&RL n x.2.2)=true)(hm:(ms.all λx=>Nat.ble (Nat.succ x.1) n&&x.2.all λy=>Wu n y.key&&Wu n y.val)=true){b:Nat}{o:Obj}
  (h:(wp n rs ms).t.get b=some o):b<n∧an n o∧(K0 o∨ ∃es,o=.cmap es):=by
 rcases JV rs _ b o h with⟨e,l,hin,rfl⟩|h
 ·have h2:=Y6.1 hr _ hin
  rw[Xn] at h2
  refine⟨Yh h2.1,λi hi=>?_,.inl ⟨_,rfl,rfl⟩⟩
  have hi:i<l.length:=by rw[<-Xb];exact hi
  have e1:(⟨e,1,Xc l,T.ofList l,.unk,0,false,false,true⟩:Row).get i=l[i]:=by
   rw[Row.get_eq]
   show((T.ofList l).get i).getD .unk=_
   rw[T.get_ofList,Zn hi];rfl
  rw[e1]
  exact tG h2.2 (WN hi)
 ·rcases JU ms _ b o h with⟨es,hin,rfl⟩|h
  ·have h2:=Y6.1 hm _ hin
   rw[Xn] at h2
   refine⟨Yh h2.1,λx hx=>?_,.inr ⟨es,rfl⟩⟩
   have h3:=Y6.1 h2.2 x hx
   rw[Xn] at h3
   exact h3
  ·rw[T.get_leaf] at h;cases h
theorem ZeF{σ:Mp}{H:Heap}{W:World}(hs:WU P σ H W)(h:H.nx<=H.ro)(b:Nat): ¬Wr H b:=by
 rintro ⟨h1,o,h2,_⟩
 have:=hs.low b o h2
 omega
end
section
open Go Go.Deep
inductive Sh where
 |int (k:IntKind)
 |bool
 |str
 |sl (es:List Sh)
variable {P:Program}
def GI(P:Program)(sh:TypeId->Option (List Sh)):List Field->Nat->Option (List Sh)
 |[],_=>some []
 |f::fs,off=>match sh f.type with
  |some es=>if f.offset=off∧es.length=P.cellsOf f.type then(GI P sh fs (off+es.length)).map (es++ ·) else none
  |none=>none
def KF(P:Program):Nat->TypeId->Option (List Sh)
 |0,_=>none
 |n+1,t=>match P.underlying t with
  |some (.int k)=>some [.int k]
  |some .bool=>some [.bool]
  |some .string=>some [.str]
  |some (.slice e)=>match KF P n e with
   |some es=>if es.length=P.cellsOf e∧1<=es.length then some [.sl es] else none
   |none=>none
  |some (.struct fs)=>match GI P (KF P n) fs.toList 0 with
   |some es=>if es.length=P.cellsOf t then some es else none
   |none=>none
  |some (.array m e)=>match KF P n e with
   |some es=>if es.length=P.cellsOf e∧m*es.length=P.cellsOf t∧1<=es.length then some (List.replicate m es).flatten else none
   |none=>none
  |_=>none
inductive Ok(W:World):Sh->Value->Prop
 |int {k:IntKind} {n:Int} (h:k.min<=n∧n<=k.max):Ok W (.int k) (.int k n)
 |bool (b:Bool):Ok W .bool (.bool b)
 |str (s:ByteArray) (h:s.size<=maxLen):Ok W .str (.string s)
 |nils {es:List Sh}:Ok W (.sl es) (.slice none 0 0)
 |slice {es:List Sh} {a:Addr} {len cap:Nat} (V:Nat->Value) (h1:1<=es.length) (hl:len<=cap) (hc:cap<=maxLen) (hV: ∀i,i<cap*es.length->W.cell? (a.add i)=some (V i))
  (hok: ∀i e,i<cap*es.length->es[i % es.length]? =some e->Ok W e (V i)):Ok W (.sl es) (.slice (some a) len cap)
section
variable {W:World} {H:Type} {enc:TypeId×Value->H} {base:Nat}
theorem Df{sh:TypeId->Option (List Sh)}{cs:List Value}: ∀(l:List Field) (off:Nat) (es:List Sh),GI P sh l off=some es->
  (∀f∈l,∀es',sh f.type=some es'-> ∀(j:Nat) (e:Sh) (v:Value),es'[j]? =some e->((cs.drop f.offset).take (P.cellsOf f.type))[j]? =some v->Ok W e v)->
  ∀(j:Nat) (e:Sh) (v:Value),es[j]? =some e->cs[off+j]? =some v->Ok W e v
 |[],off,es,h,_,j,e,v,h1,_=>by cases h;simp at h1
 |f::l,off,es,h,hf,j,e,v,h1,h2=>by
  unfold GI at h
  split at h
  ·rename_i es' hs
   split at h
   ·rename_i hc
    obtain⟨es2,h3,rfl⟩:=Option.map_eq_some_iff.1 h
    by_cases hj:j<es'.length
    ·rw[Yt hj] at h1
     refine hf f (ZF ..) es' hs j e v h1 ?_
     rw[List.getElem?_take,if_pos (by omega),XV,hc.1]
     exact h2
    ·rw[Yz (by omega)] at h1
     refine Df l _ es2 h3 (λg hg=>hf g (ZQ _ hg)) (j - es'.length) e v h1 ?_
     rw[show off+es'.length+(j - es'.length)=off+j by omega]
     exact h2
   ·cases h
  ·cases h
theorem CO{es:List Sh}(h1:1<=es.length): ∀(m j:Nat) (e:Sh),((List.replicate m es).flatten)[j]? =some e->j<m*es.length∧es[j % es.length]? =some e
 |0,j,e,h=>by simp at h
 |m+1,j,e,h=>by
  rw[Wl,Vy] at h
  by_cases hj:j<es.length
  ·rw[Yt hj] at h
   refine⟨by rw[WF];omega,?_⟩
   rw[YD hj];exact h
  ·rw[Yz (by omega)] at h
   obtain⟨h2,h3⟩:=CO h1 m _ e h
   refine⟨by rw[WF];omega,?_⟩
   rw[Nat.mod_eq_sub_mod (by omega)];exact h3
theorem KQ: ∀(n:Nat) (t:TypeId) (es:List Sh) (fuel:Nat) (cs:List Value) (x:DataW H×List MemPlace),KF P n t=some es->DataW.trod enc P W base (λ_=>true) true fuel t cs=some x->
  cs.length=es.length∧ ∀(j:Nat) (e:Sh) (v:Value),es[j]? =some e->cs[j]? =some v->Ok W e v
 |0,t,es,fuel,cs,x,hs,h=>by cases hs
 |n+1,t,es,fuel,cs,x,hs,h=>by
  unfold KF at hs
  split at hs
  ·rename_i k ht
   cases hs
   obtain⟨m,rfl,_,hw⟩:=DataW.trod_int ht h
   refine⟨rfl,λj e v h1 h2=>?_⟩
   cases j with
   |zero=>
    cases h1;cases h2
    unfold Lit.wf at hw
    rw[Xn] at hw
    exact .int ⟨Zp hw.1,Zp hw.2⟩
   |succ j=>simp at h1
  ·rename_i ht
   cases hs
   obtain⟨b,rfl,_⟩:=DataW.trod_bool ht h
   refine⟨rfl,λj e v h1 h2=>?_⟩
   cases j with
   |zero=>cases h1;cases h2;exact .bool b
   |succ j=>simp at h1
  ·rename_i ht
   cases hs
   obtain⟨s,rfl,_,hw⟩:=DataW.trod_string ht h
   refine⟨rfl,λj e v h1 h2=>?_⟩
   cases j with
   |zero=>cases h1;cases h2;exact .str s hw
   |succ j=>simp at h1
  ·rename_i te ht
   split at hs
   ·rename_i es' he
    split at hs
    ·rename_i hc
     cases hs
     have key: ∀v,cs=[v]->Ok W (.sl es') v->cs.length=[Sh.sl es'].length∧ ∀(j:Nat) (e:Sh) (v:Value),[Sh.sl es'][j]? =some e->cs[j]? =some v->Ok W e v:=by
      rintro v rfl hv
      refine⟨rfl,λj e u h1 h2=>?_⟩
      cases j with
      |zero=>cases h1;cases h2;exact hv
      |succ j=>simp at h1
     rcases open_slice ht h with⟨e1,_⟩|⟨a,len,cap,m,k,D,Pl,e1,_,hl,hcap,hm,_,hV⟩
     ·exact key _ e1 .nils
     ·have hm:m=cap:=by rw[hm];exact if_pos rfl
      subst hm
      have hcell: ∀i,i<m*es'.length-> ∃v,W.cell? (a.add i)=some v∧ ∀e,es'[i % es'.length]? =some e->Ok W e v:=by
       intro i hi
       have hq:i/es'.length<m:=PD (by rw[V6];exact hi)
       obtain⟨cs',h1,h2⟩:=hV (i/es'.length) hq
       rw[<-hc.1] at h1
       obtain⟨_,hlen,hcc⟩:=World.cells?_some h1
       obtain⟨_,h4⟩:=KQ n te es' k cs' _ he h2
       have hr:i % es'.length<es'.length:=Vu _ (by omega)
       have g:=hcc (i % es'.length) hr
       rw[add_add,show i/es'.length*es'.length+i % es'.length=i by rw[V6];exact RO i es'.length] at g
       rw[Zn (by omega)] at g
       exact⟨_,g,λe h5=>h4 _ e _ h5 (Zn (by omega))⟩
      obtain⟨V,hV'⟩:=choose_lt (α:=Value) hcell
      exact key _ e1 (.slice V hc.2 hl hcap (λi hi=>(hV' i hi).1) λi e hi h5=>(hV' i hi).2 e h5)
    ·cases hs
   ·cases hs
  ·rename_i fs ht
   split at hs
   ·rename_i es' he
    split at hs
    ·rename_i hc
     cases hs
     obtain⟨xs,m,_,_,hlen,hxl,hx⟩:=DataW.trod_struct ht h
     refine⟨by rw[hlen,hc],λj e v h1 h2=>?_⟩
     refine Df (P:=P) (cs:=cs) fs.toList 0 es he (λf hf es2 h3=>?_) j e v h1 (by rw[Zb];exact h2)
     obtain⟨i,hi⟩:=List.getElem?_of_mem hf
     rw[YM] at hi
     have hlt:i<xs.length:=by rw[hxl];exact(Yg.1 hi).1
     have h4:=hx i f hi
     rw[Zn hlt] at h4
     exact(KQ n f.type es2 m _ _ h3 h4).2
    ·cases hs
   ·cases hs
  ·rename_i m te ht
   split at hs
   ·rename_i es' he
    split at hs
    ·rename_i hc
     cases hs
     obtain⟨xs,q,_,_,hlen,hxl,hx⟩:=DataW.trod_array ht h
     refine⟨by rw[hlen,<-hc.2.1];simp,λj e v h1 h2=>?_⟩
     obtain⟨h3,h4⟩:=CO hc.2.2 m j e h1
     have hq:j/es'.length<m:=PD (by rw[V6];exact h3)
     have hr:j % es'.length<es'.length:=Vu _ (by omega)
     have h5:=hx _ hq
     rw[Zn (by omega)] at h5
     refine(KQ n te es' q _ _ he h5).2 (j % es'.length) e v h4 ?_
     rw[List.getElem?_take,if_pos (by omega),XV,<-hc.1,show j/es'.length*es'.length+j % es'.length=j by rw[V6];exact RO j es'.length]
     exact h2
    ·cases hs
   ·cases hs
  ·cases hs
end
inductive Told(G:Heap):Sh->AV->Prop
 |int {k:IntKind} {n:Int} (h:k.min<=n∧n<=k.max):Told G (.int k) (.int k n)
 |bool (b:Bool):Told G .bool (.bool b)
 |str (s:List UInt8) (h:s.length<=maxLen):Told G .str (.str s)
 |nils {es:List Sh}:Told G (.sl es) .nils
 |slice0 {es:List Sh}:Told G (.sl es) .slice0
 |slice {es:List Sh} {b len cap:Nat} {r:Row} (h1:1<=es.length) (hl:len<=cap) (h0:1<=cap) (hc:cap<=maxLen) (hb:b<G.nx) (hr:G.t.get b=some (.row r)) (hs:cap*es.length<=r.size) (ho:r.own=false) (hz:r.sz=1)
  (hok: ∀i e,i<cap*es.length->es[i % es.length]? =some e->Told G e (r.get i)):Told G (.sl es) (.slice b 0 len (some cap))
theorem Told.keep{G G':Heap}{e:Sh}{a:AV}(h:Told G e a)(hn:G.nx<=G'.nx)(hk: ∀c r,c<G.nx->G.t.get c=some (.row r)->r.own=false->G'.t.get c=some (.row r)):Told G' e a:=by
 induction h with
 |int h=>exact .int h
 |bool b=>exact .bool b
 |str s h=>exact .str s h
 |nils=>exact .nils
 |slice0=>exact .slice0
 |slice h1 hl h0 hc hb hr hs ho hz _ ih=>exact .slice h1 hl h0 hc (ZZ hb hn) (hk _ _ hb hr ho) hs ho hz ih
structure Ji(W:World)(es:List Sh)(vs:List Value)(n0:Nat)(as:List AV)(ws:List (Nat×D8))(n1:Nat):Prop where
 le:n0<=n1
 ids: ∀b x,(b,x)∈ws->n0<=b∧b<n1
 nd:(ws.map (·.1)).Nodup
 win: ∀σ:Mp,(∀b x,(b,x)∈ws->σ b=some x.loc)-> ∀b x,(b,x)∈ws->ZeY W σ x
 rel: ∀σ:Mp,(∀b x,(b,x)∈ws->σ b=some x.loc)->Xk σ as vs
 told: ∀G:Heap,(∀b x,(b,x)∈ws->G.t.get b=some (.row x.row)∧b<G.nx)-> ∀(j:Nat) e a,es[j]? =some e->as[j]? =some a->Told G e a
 one: ∀a∈as,a.cells=[a]
 onev: ∀v∈vs,v.oneCell'=true
theorem Ji.nil{W:World}{n0:Nat}:Ji W [] [] n0 [] [] n0 where
 le:=Zq _
 ids:=λ_ _ h=>by cases h
 nd:=List.nodup_nil
 win:=λ_ _ _ _ h=>by cases h
 rel:=λ_ _=>Uc
 told:=λ_ _ j e a h=>by simp at h
 one:=λ_ h=>by cases h
 onev:=λ_ h=>by cases h
theorem Ji.cons{W:World}{e:Sh}{es:List Sh}{v:Value}{vs:List Value}{n0 n1 n2:Nat}{a:AV}{as:List AV}{ws ws':List (Nat×D8)}(h:Ji W [e] [v] n0 [a] ws n1)(h':Ji W es vs n1 as ws' n2):
  Ji W (e::es) (v::vs) n0 (a::as) (ws++ws') n2:=by
 refine⟨Yl h.le h'.le,λb x hx=>?_,?_,λσ hσ b x hx=>?_,λσ hσ=>?_,λG hG j u w h1 h2=>?_,λu hu=>?_,λu hu=>?_⟩
 ·rcases ZA.1 hx with hx|hx
  ·have:=h.ids b x hx;have:=h'.le;omega
  ·have:=h'.ids b x hx;have:=h.le;omega
 ·rw[Xe,List.nodup_append]
  refine⟨h.nd,h'.nd,λb hb c hc hbc=>?_⟩
  subst hbc
  obtain⟨⟨b1,x1⟩,m1,rfl⟩:=Xu.1 hb
  obtain⟨⟨b2,x2⟩,m2,e2⟩:=Xu.1 hc
  have:=h.ids _ _ m1
  have:=h'.ids _ _ m2
  simp only at e2
  omega
 ·rcases ZA.1 hx with hx|hx
  ·exact h.win σ (λc y hy=>hσ c y (ZA.2 (.inl hy))) b x hx
  ·exact h'.win σ (λc y hy=>hσ c y (ZA.2 (.inr hy))) b x hx
 ·have r1:=h.rel σ λc y hy=>hσ c y (ZA.2 (.inl hy))
  have r2:=h'.rel σ λc y hy=>hσ c y (ZA.2 (.inr hy))
  obtain⟨_,_,r3,_,r4⟩:=r1.cons_inv
  rw[(List.cons.inj r4).1]
  exact Wz r3 r2
 ·cases j with
  |zero=>cases h1;cases h2;exact h.told G (λc y hy=>hG c y (ZA.2 (.inl hy))) 0 e a rfl rfl
  |succ j=>exact h'.told G (λc y hy=>hG c y (ZA.2 (.inr hy))) j u w (by simpa using h1) (by simpa using h2)
 ·rcases Yi.1 hu with rfl|hu
  ·exact h.one _ (ZF ..)
  ·exact h'.one u hu
 ·rcases Yi.1 hu with rfl|hu
  ·exact h.onev _ (ZF ..)
  ·exact h'.onev u hu
theorem C8{W:World}: ∀(vs:List Value) (es:List Sh),vs.length=es.length->(∀(j:Nat) e v,es[j]? =some e->vs[j]? =some v-> ∀n0,∃a ws n1,Ji W [e] [v] n0 [a] ws n1)-> ∀n0,∃as ws n1,Ji W es vs n0 as ws n1∧as.length=es.length
 |[],[],_,_,n0=>⟨[],[],n0,Ji.nil,rfl⟩
 |[],_::_,h,_,_=>by simp at h
 |_::_,[],h,_,_=>by simp at h
 |v::vs,e::es,hl,h,n0=>by
  obtain⟨a,ws,n1,h1⟩:=h 0 e v rfl rfl n0
  obtain⟨as,ws',n2,h2,h3⟩:=C8 vs es (by simpa using hl) (λj e v h1 h2=>h (j+1) e v (by simpa using h1) (by simpa using h2)) n1
  exact⟨_,_,_,h1.cons h2,by simp[h3]⟩
theorem N5{W:World}{e:Sh}{v:Value}{a:AV}(hr: ∀σ,YY σ a v)(ht: ∀G,Told G e a)(h1:a.cells=[a])(h2:v.oneCell'=true)(n0:Nat): ∃a ws n1,Ji W [e] [v] n0 [a] ws n1:=
 ⟨a,[],n0,{
  le:=Zq _
  ids:=λ_ _ h=>by cases h
  nd:=List.nodup_nil
  win:=λ_ _ _ _ h=>by cases h
  rel:=λσ _=>TO (hr σ)
  told:=λG _ j u w h1 h2=>by
   cases j with
   |zero=>cases h1;cases h2;exact ht G
   |succ j=>simp at h1
  one:=λu hu=>by rw[ZG.1 hu];exact h1
  onev:=λu hu=>by rw[ZG.1 hu];exact h2}⟩
theorem kX{W:World}{e:Sh}{v:Value}(h:Ok W e v): ∀n0,∃a ws n1,Ji W [e] [v] n0 [a] ws n1:=by
 induction h with
 | @int k n h=>exact N5 (a:=.int k n) (λσ=>by simp[YY]) (λG=>.int h) rfl rfl
 |bool b=>exact N5 (a:=.bool b) (λσ=>by simp[YY]) (λG=>.bool b) rfl rfl
 |str s h=>exact N5 (a:=.str s.data.toList) (λσ=>by simp only[YY]) (λG=>.str _ (by simpa using h)) rfl rfl
 |nils=>exact N5 (a:=.nils) (λσ=>by simp[YY]) (λG=>.nils) rfl rfl
 | @slice es a len cap V h1 hl hc hV hok ih=>
  by_cases h0:cap=0
  ·subst h0
   have:len=0:=by omega
   subst this
   exact N5 (a:=.slice0) (λσ=>by simp[YY]) (λG=>.slice0) rfl rfl
  ·intro n0
   have hpos:0<cap*es.length:=Nat.mul_pos (by omega) (by omega)
   have hVl:((List.range (cap*es.length)).map V).length=((List.replicate cap es).flatten).length:=by simp
   obtain⟨as,ws,n1,hA,hAl⟩:=C8 (W:=W) ((List.range (cap*es.length)).map V) ((List.replicate cap es).flatten) hVl (λj e v h2 h3=>by
    obtain⟨h4,h5⟩:=CO h1 cap j e h2
    rw[YO,Wx h4] at h3
    cases h3
    exact ih j e h4 h5) (n0+1)
   have hAl:as.length=cap*es.length:=by rw[hAl];simp
   obtain⟨ab,ao,asp⟩:=a
   obtain⟨cs,el,fr,hcs,hsp⟩: ∃cs el fr,W.heap[ab]? =some (.cells cs el fr)∧asp=none:=by
    have g:=hV 0 hpos
    unfold Addr.add World.cell? at g
    simp only[if_true] at g
    split at g
    ·rename_i c e2 f e1
     cases asp with
     |none=>exact⟨c,e2,f,e1,rfl⟩
     |some x=>simp at g
    ·cases g
   subst hsp
   have hget: ∀i,i<cap*es.length->cs[ao+i]? =some (V i):=λi hi=>by
    have g:=hV i hi
    have ea:Addr.add ⟨ab,ao,none⟩ i=⟨ab,ao+i,none⟩:=by
     unfold Addr.add
     split
     ·rename_i h0;subst h0;rfl
     ·rfl
    rw[ea] at g
    unfold World.cell? at g
    rw[hcs] at g
    exact g
   have hsz:ao+cap*es.length<=cs.size:=by
    have g:=hget (cap*es.length - 1) (by omega)
    have:=(Yg.1 g).1
    omega
   refine⟨.slice n0 0 len (some cap),(n0,⟨⟨ab,ao,cap*es.length,1⟩,el,as⟩)::ws,n1,?_⟩
   have hle:=hA.le
   refine⟨by omega,λb x hx=>?_,?_,λσ hσ b x hx=>?_,λσ hσ=>?_,λG hG j u w h2 h3=>?_,λu hu=>?_,λu hu=>?_⟩
   ·rcases Yi.1 hx with hx|hx
    ·cases hx;omega
    ·have:=hA.ids b x hx;omega
   ·rw[Zz,List.nodup_cons]
    refine⟨λhm=>?_,hA.nd⟩
    obtain⟨⟨b1,x1⟩,m1,e1⟩:=Xu.1 hm
    have:=hA.ids _ _ m1
    simp only at e1
    omega
   ·have hσ': ∀c y,(c,y)∈ws->σ c=some y.loc:=λc y hy=>hσ c y (ZQ _ hy)
    rcases Yi.1 hx with hx|hx
    ·cases hx
     refine⟨rfl,by show as.length<=cap*es.length;omega,cs,fr,hcs,hsz,λi c hc'=>?_⟩
     have hi:i<cap*es.length:=by rw[<-hAl];exact(V5.1 hc').1
     obtain⟨v,h4,h5⟩:=Xk.get (hA.rel σ hσ') hc'
     rw[YO,Wx hi] at h4
     cases h4
     refine⟨V i,hget i hi,h5,hA.onev _ (Xu.2 ⟨i,VD.2 hi,rfl⟩)⟩
    ·exact hA.win σ hσ' b x hx
   ·refine TO ?_
    simp only[YY]
    exact⟨_,hσ _ _ (ZF ..),rfl⟩
   ·cases j with
    |succ j=>simp at h2
    |zero=>
     cases h2;cases h3
     have hG': ∀c y,(c,y)∈ws->G.t.get c=some (.row y.row)∧c<G.nx:=λc y hy=>hG c y (ZQ _ hy)
     obtain⟨g1,g2⟩:=hG _ _ (ZF ..)
     refine .slice h1 hl (by omega) hc g2 g1 (by show cap*es.length<=Xc as;rw[Xb,hAl];exact Zq _) rfl rfl λi e hi he=>?_
     have e1:as[i]? =some (as[i]'(by omega)):=Zn (by omega)
     rw[D8.get_row e1]
     refine hA.told G hG' i e _ ?_ e1
     have hq:((List.replicate cap es).flatten)[i]? =some (((List.replicate cap es).flatten)[i]'(by rw[<-hVl];simpa using hi)):=Zn _
     have:=(CO h1 cap i _ hq).2
     rw[this] at he
     rw[hq,he]
   ·rw[ZG.1 hu];rfl
   ·rw[ZG.1 hu];rfl
theorem kR{W:World}{H:Type}{enc:TypeId×Value->H}{t:TypeId}{n:Nat}{es:List Sh}{v:Value}{d:DataW H}{p:List MemPlace}(hs:KF P n t=some es)(h:DataW.Trod enc P W 0 (λ_=>true) true t v d p)(n0:Nat):
  ∃as ws n1,Ji W es v.cells.toList n0 as ws n1∧as.length=es.length:=by
 obtain⟨fuel,h⟩:=h
 obtain⟨h1,h2⟩:=KQ n t es fuel _ _ hs h
 exact C8 _ _ h1 (λj e u h3 h4=>kX (h2 j e u h3 h4)) n0
end
section
variable {P:Program}
theorem qy{σ:Mp}{n n1:Nat}{t:T Obj}{W:World}(hs:WU P σ ⟨n,t,n⟩ W){es:List Sh}{vs:List Value}{as:List AV}{ws:List (Nat×D8)}(hp: ∀b o,t.get b=some o->b<n∧(K0 o∨ ∃es,o=.cmap es))(hA:Ji W es vs n as ws n1):
  WU P (Hk σ ws) ⟨n1,Gp t ws,n1⟩ W∧Bears n t ⟨n1,Gp t ws,n1⟩∧Xk (Hk σ ws) as vs∧ ∀(j:Nat) e a,es[j]? =some e->as[j]? =some a->Told ⟨n1,Gp t ws,n1⟩ e a:=by
 have at_: ∀b x,(b,x)∈ws->Hk σ ws b=some x.loc:=λb x h=>by unfold Hk;rw[BG h hA.nd]
 refine⟨hs.add (show n<=n1 from hA.le) hA.nd (λb x h=>hA.ids b x h) (λb o h=>(hp b o h).2) (hA.win _ at_),⟨hA.le,λb o h=>?_⟩,hA.rel _ at_,hA.told _ λb x h=>⟨oT _ _ b x h hA.nd,(hA.ids b x h).2⟩⟩
 show(Gp t ws).get b=_
 rw[uc _ _ b λx hx=>by have:=hA.ids b x hx;have:=(hp b o h).1;omega];exact h
theorem Ji.app{W:World}{es es':List Sh}{vs vs':List Value}{n0 n1 n2:Nat}{as as':List AV}{ws ws':List (Nat×D8)}(h:Ji W es vs n0 as ws n1)(hl:as.length=es.length)(h':Ji W es' vs' n1 as' ws' n2):
  Ji W (es++es') (vs++vs') n0 (as++as') (ws++ws') n2:=by
 refine⟨Yl h.le h'.le,λb x hx=>?_,?_,λσ hσ b x hx=>?_,λσ hσ=>?_,λG hG j u w h1 h2=>?_,λu hu=>?_,λu hu=>?_⟩
 ·rcases ZA.1 hx with hx|hx
  ·have:=h.ids b x hx;have:=h'.le;omega
  ·have:=h'.ids b x hx;have:=h.le;omega
 ·rw[Xe,List.nodup_append]
  refine⟨h.nd,h'.nd,λb hb c hc hbc=>?_⟩
  subst hbc
  obtain⟨⟨b1,x1⟩,m1,rfl⟩:=Xu.1 hb
  obtain⟨⟨b2,x2⟩,m2,e2⟩:=Xu.1 hc
  have:=h.ids _ _ m1
  have:=h'.ids _ _ m2
  simp only at e2
  omega
 ·rcases ZA.1 hx with hx|hx
  ·exact h.win σ (λc y hy=>hσ c y (ZA.2 (.inl hy))) b x hx
  ·exact h'.win σ (λc y hy=>hσ c y (ZA.2 (.inr hy))) b x hx
 ·have r1:=h.rel σ λc y hy=>hσ c y (ZA.2 (.inl hy))
  have r2:=h'.rel σ λc y hy=>hσ c y (ZA.2 (.inr hy))
  clear h h' hl
  induction as generalizing vs with
  |nil=>obtain rfl:=r1.nil_inv;exact r2
  |cons a as ih=>
   obtain⟨v,vs2,r3,r4,rfl⟩:=r1.cons_inv
   exact Wz r3 (ih r4)
 ·by_cases hj:j<es.length
  ·rw[Yt hj] at h1
   rw[Yt (by omega)] at h2
   exact h.told G (λc y hy=>hG c y (ZA.2 (.inl hy))) j u w h1 h2
  ·rw[Yz (by omega)] at h1
   rw[Yz (by omega),hl] at h2
   exact h'.told G (λc y hy=>hG c y (ZA.2 (.inr hy))) _ u w h1 h2
 ·rcases ZA.1 hu with hu|hu
  ·exact h.one _ hu
  ·exact h'.one u hu
 ·rcases ZA.1 hu with hu|hu
  ·exact h.onev _ hu
  ·exact h'.onev u hu
end
end
end Go.AI
