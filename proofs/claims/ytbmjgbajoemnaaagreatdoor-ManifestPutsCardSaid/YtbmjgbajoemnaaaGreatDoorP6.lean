/- Calls that have been evaluated by themselves may be looked up; worlds of which rows are told; memory that is kept; arguments of any shape: proved for every world that is told. -/
import Derived.Test.YtbmjgbajoemnaaaGreatDoorP5
import Derived.WideShapes
import Derived.WideKeyElems2
import Derived.WideKeyArgs
import Derived.OpenShut
import Derived.ProofKit
import Derived.ChangeShapes
import Derived.Deep.Slices
set_option maxRecDepth 1000000
set_option maxHeartbeats 0
set_option linter.unusedVariables false
set_option linter.unusedSimpArgs false
namespace Go.AI
open Go
noncomputable section
section
variable {P:Program}
noncomputable def xa(e:Nat)(l:List AV):Obj:=.row ⟨e,1,YF l,T.ofList l,.unk,0,false,false,false⟩
noncomputable def mP(e:Nat->Nat):List (Nat×List AV)->T Obj->T Obj
 |[],t=>t
 |(g,l)::gs,t=>mP e gs (t.set g (xa (e g) l))
noncomputable def ZbB(H:Heap)(gs:List (Nat×List AV)):Bool:=List.rec true (λx _ ih=>cond (match H.t.get x.1 with|some (.row r)=>cond (Nat.beq r.sz 1) (cond (Nat.ble (YF x.2) r.size) (XB (WO r 0 (YF x.2)) x.2) false) false|_=>false) ih false) gs
noncomputable def Zar(v:AV)(r:CR):Bool:=match r with|.ret u _=>same u v|_=>false
theorem vM(e:Nat->Nat): ∀(gs:List (Nat×List AV)) (t:T Obj) (b:Nat) (o:Obj),(mP e gs t).get b=some o->(∃l,(b,l)∈gs∧o=xa (e b) l)∨t.get b=some o
 |[],t,b,o,h=>.inr h
 |(g,l)::gs,t,b,o,h=>by
  rcases vM e gs _ b o h with⟨l2,h1,h2⟩|h1
  ·exact .inl ⟨l2,ZK _ h1,h2⟩
  ·rw[T.get_set] at h1
   by_cases e3:g=b
   ·rw[if_pos e3] at h1;cases h1;subst e3;exact .inl ⟨l,ZG ..,rfl⟩
   ·rw[if_neg e3] at h1;exact .inr h1
theorem wO{H:Heap}: ∀{gs:List (Nat×List AV)},ZbB H gs=true-> ∀x∈gs,∃r,H.t.get x.1=some (.row r)∧r.sz=1∧YF x.2<=r.size∧WO r 0 (YF x.2)=x.2
 |[],_,x,hx=>by cases hx
 |y::gs,h,x,hx=>by
  obtain⟨h1,h2⟩:=ZV (a:=match H.t.get y.1 with|some (.row r)=>cond (Nat.beq r.sz 1) (cond (Nat.ble (YF y.2) r.size) (XB (WO r 0 (YF y.2)) y.2) false) false|_=>false) (b:=ZbB H gs) h
  rcases ZN.1 hx with rfl|hx
  ·cases hg:H.t.get x.1 with
   |none=>rw[hg] at h1;cases h1
   |some o=>
    rw[hg] at h1
    cases o with
    |row r=>
     obtain⟨h3,h4⟩:=ZV h1
     obtain⟨h4,h5⟩:=ZV h4
     exact⟨r,rfl,ZW h3,Z1 h4,OV _ _ h5⟩
    |_=>cases h1
  ·exact wO h2 x hx
end
inductive LO where
 |row (elem sz:Nat) (l:List AV) (fz:Nat) (sm own exact:Bool)
 |map (es:List RE) (clock:Nat)
 |cmap (es:List RE)
def LO.obj:LO->Obj
 |.row e sz l fz sm own exact=>.row ⟨e,sz,YF l,T.ofList l,.unk,fz,sm,own,exact⟩
 |.map es c=>.map es c
 |.cmap es=>.cmap es
def pI(a b:AV):Bool:=match a with|.unk=>(match b with|.unk=>true|_=>false)|a=>same a b
def xF:List AV->List AV->Bool
 |[],[]=>true
 |a::as,b::bs=>cond (pI a b) (xF as bs) false
 |_,_=>false
def pH(a b:Bool):Bool:=cond a b (cond b false true)
def vY:List RE->List RE->Bool
 |[],[]=>true
 |a::as,b::bs=>cond (Nat.beq a.born b.born) (cond (same a.key b.key) (cond (same a.val b.val) (vY as bs) false) false) false
 |_,_=>false
def cC(o:Obj)(x:LO):Bool:=match o,x with
 |.row r,.row e sz l fz sm own exact=>cond (Nat.beq r.elem e) (cond (Nat.beq r.sz sz) (cond (Nat.beq r.size (YF l)) (cond (Nat.beq r.fz fz) (cond (pH r.sm sm) (cond (pH r.own own) (cond (pH r.exact exact)
   (xF (WO r 0 r.size) l) false) false) false) false) false) false) false
 |.map es c,.map fs d=>cond (Nat.beq c d) (vY es fs) false
 |.cmap es,.cmap fs=>vY es fs
 |_,_=>false
theorem ft{a b:AV}(h:pI a b=true):a=b:=by
 unfold pI at h
 split at h
 ·split at h
  ·rfl
  ·cases h
 ·exact Nn _ _ h
theorem zO: ∀{a b:List AV},xF a b=true->a=b
 |[],[],_=>rfl
 |[],_::_,h=>by cases h
 |_::_,[],h=>by cases h
 |a::as,b::bs,h=>by
  obtain⟨h1,h2⟩:=ZV (a:=pI a b) (b:=xF as bs) h
  rw[ft h1,zO h2]
theorem Bs{a b:Bool}(h:pH a b=true):a=b:=by
 cases a<;>cases b<;>first|rfl|cases h
theorem Bt: ∀{a b:List RE},vY a b=true->a=b
 |[],[],_=>rfl
 |[],_::_,h=>by cases h
 |_::_,[],h=>by cases h
 |a::as,b::bs,h=>by
  obtain⟨h1,h2⟩:=ZV (a:=Nat.beq a.born b.born) (b:=cond (same a.key b.key) (cond (same a.val b.val) (vY as bs) false) false) h
  obtain⟨h2,h3⟩:=ZV h2
  obtain⟨h3,h4⟩:=ZV h3
  have e1:=ZW h1
  have e2:=Nn _ _ h2
  have e3:=Nn _ _ h3
  rw[Bt h4]
  cases a;cases b
  simp only at e1 e2 e3
  rw[e1,e2,e3]
structure qe(o p:Obj):Prop where
 to: ∀σ l c,Uo σ o l c->Uo σ p l c
 of: ∀σ l c,Uo σ p l c->Uo σ o l c
 wr:wrO o=wrO p
 soft:LN o↔LN p
theorem GK{σ:Mp}{r q:Row}{l:Loc}{cs:Array Value}{fr:Nat×Nat}(h1:r.sz=q.sz)(h2:r.size=q.size)(h3:r.fz=q.fz)(h4:r.sm=q.sm)(h5:r.own=q.own)(h6:r.exact=q.exact)
  (h7: ∀i,i<r.size->r.get i=q.get i)(h:R8 σ r l cs fr):R8 σ q l cs fr:=by
 refine⟨h.sz.trans h1,h.sz1,by rw[<-h2];exact h.fits,h.room,?_,?_,by rw[<-h2];exact h.one,?_,?_⟩
 ·rw[<-h6,<-h2];exact h.exact
 ·intro i hi
  rw[<-h2] at hi
  rw[<-h7 i hi];exact h.cell i hi
 ·rw[<-h5,<-h3];exact h.frz
 ·rw[<-h5,<-h4,<-h3];exact h.frs
theorem za{o:Obj}{x:LO}(h:cC o x=true):qe o x.obj:=by
 unfold cC at h
 split at h
 ·rename_i r e sz l fz sm own exact
  obtain⟨a1,h⟩:=ZV h
  obtain⟨a2,h⟩:=ZV h
  obtain⟨a3,h⟩:=ZV h
  obtain⟨a4,h⟩:=ZV h
  obtain⟨a5,h⟩:=ZV h
  obtain⟨a6,h⟩:=ZV h
  obtain⟨a7,h⟩:=ZV h
  have a1:=ZW a1
  have a2:=ZW a2
  have a3:=ZW a3
  have a4:=ZW a4
  have a5:=Bs a5
  have a6:=Bs a6
  have a7:=Bs a7
  have a8:=zO h
  have hget: ∀i,i<r.size->r.get i=(⟨e,sz,YF l,T.ofList l,.unk,fz,sm,own,exact⟩:Row).get i:=by
   intro i hi
   have g1:=SB r r.size 0 i hi
   rw[a8,Zs] at g1
   rw[Row.get_eq ⟨e,sz,YF l,T.ofList l,.unk,fz,sm,own,exact⟩]
   show _=((T.ofList l).get i).getD .unk
   rw[T.get_ofList,g1]
   rfl
  refine⟨λσ l' c hr=>?_,λσ l' c hr=>?_,?_,λ⟨r',e',h'⟩=>by cases e';exact⟨_,rfl,a6.symm.trans h'⟩,λ⟨r',e',h'⟩=>by cases e';exact⟨_,rfl,a6.trans h'⟩⟩
  ·obtain⟨cs,fr,rfl,hr⟩:=hr
   exact⟨cs,fr,by rw[a1],GK a2 a3 a4 a5 a6 a7 hget hr⟩
  ·obtain⟨cs,fr,rfl,hr⟩:=hr
   exact⟨cs,fr,by rw[a1],GK a2.symm a3.symm a4.symm a5.symm a6.symm a7.symm (λi hi=>(hget i (by rw[a3];exact hi)).symm) hr⟩
  ·show r.own=own
   exact a6
 ·rename_i es c fs d
  obtain⟨a1,a2⟩:=ZV h
  have a1:=ZW a1
  have a2:=Bt a2
  subst a1;subst a2
  exact⟨λ_ _ _ h=>h,λ_ _ _ h=>h,rfl,Iff.rfl⟩
 ·rename_i es fs
  have a2:=Bt h
  subst a2
  exact⟨λ_ _ _ h=>h,λ_ _ _ h=>h,rfl,Iff.rfl⟩
 ·cases h
structure CE where
 args:List AV
 nx:Nat
 ro:Nat
 pre:List (Nat×LO)
 v:AV
 nx2:Nat
 post:List (Nat×LO)
 dead:List Nat
def Bl:List (Nat×LO)->T Obj->T Obj
 |[],t=>t
 |x::l,t=>(Bl l t).set x.1 x.2.obj
def B9:List Nat->T Obj->T Obj
 |[],t=>t
 |b::l,t=>(B9 l t).del b
def Uv(b:Nat):List (Nat×LO)->Option LO
 |[]=>none
 |x::l=>cond (Nat.beq x.1 b) (some x.2) (Uv b l)
def Kv(b:Nat):List Nat->Bool
 |[]=>false
 |x::l=>cond (Nat.beq x b) true (Kv b l)
def CE.heap(x:CE)(gs:List (Nat×List AV))(e:Nat->Nat):Heap:=⟨x.nx,Bl x.pre (mP e gs .leaf),x.ro⟩
def CE.after(x:CE)(H:Heap):Heap:=⟨x.nx2,Bl x.post (B9 x.dead H.t),H.ro⟩
def tH(H:Heap)(b:Nat)(o:LO):Bool:=match H.t.get b with|some p=>cC p o|none=>false
def yP(H:Heap)(l:List (Nat×LO)):Bool:=List.rec true (λx _ ih=>cond (tH H x.1 x.2) ih false) l
def xe(H:Heap)(l:List Nat):Bool:=List.rec true (λb _ ih=>cond (match H.t.get b with|none=>true|_=>false) ih false) l
def yX(H:Heap)(x:CE)(l:List (Nat×LO)):Bool:=List.rec true (λy _ ih=>cond (cond (Kv y.1 x.dead) true (match Uv y.1 x.post with|some _=>true|none=>tH H y.1 y.2)) ih false) l
def CE.out(x:CE)(r:CR):Bool:=match r with
 |.ret v H=>cond (same v x.v) (cond (Nat.beq H.nx x.nx2) (cond (yP H x.post) (cond (yX H x x.pre) (xe H x.dead) false) false) false) false
 |_=>false
def xc(x:CE)(l:List (Nat×LO)):Bool:=List.rec true (λy _ ih=>cond (Nat.ble x.ro y.1) (cond (Kv y.1 x.dead) false
 (cond (match Uv y.1 x.pre with|some p=>cond (cC p.obj y.2) false true|none=>cond (Nat.ble x.nx y.1) (wrO y.2.obj) false) ih false)) false) l
def yw(x:CE)(l:List Nat):Bool:=List.rec true (λb _ ih=>cond (Nat.ble x.ro b) (match Uv b x.pre with|some _=>ih|none=>false) false) l
def yO(l:List (Nat×LO)):Bool:=List.rec true (λy _ ih=>cond (wrO y.2.obj) ih false) l
def CE.wf(x:CE):Bool:=cond (xc x x.post) (cond (yw x x.dead) (yO x.pre) false) false
def CE.is(x:CE)(gs:List (Nat×List AV))(args:List AV)(H:Heap):Bool:=cond (Nat.beq H.nx x.nx) (cond (Nat.beq H.ro x.ro) (cond (XB args x.args) (cond (ZbB H gs) (yP H x.pre) false) false) false) false
def jn(gs:List (Nat×List AV))(args:List AV)(H:Heap)(l:List CE):Option CR:=List.rec none (λx _ ih=>cond (x.is gs args H) (some (.ret x.v (x.after H))) ih) l
theorem Pe(e:Nat->Nat)(gs:List (Nat×List AV)): ∀(l:List (Nat×LO)) (t:T Obj) (b:Nat),(Bl l t).get b=match Uv b l with|some o=>some o.obj|none=>t.get b
 |[],t,b=>rfl
 |x::l,t,b=>by
  show((Bl l t).set x.1 x.2.obj).get b=match cond (Nat.beq x.1 b) (some x.2) (Uv b l) with|some o=>some o.obj|none=>t.get b
  rw[T.get_set,Yu]
  by_cases h:x.1=b
  ·rw[if_pos h,Ze h];rfl
  ·rw[if_neg h,Zb h];exact Pe e gs l t b
theorem Gk: ∀(l:List Nat) (t:T Obj) (b:Nat),(B9 l t).get b=cond (Kv b l) none (t.get b)
 |[],t,b=>rfl
 |x::l,t,b=>by
  show((B9 l t).del x).get b=cond (cond (Nat.beq x b) true (Kv b l)) none (t.get b)
  rw[T.get_del,Yu]
  by_cases h:x=b
  ·rw[if_pos h,Ze h];rfl
  ·rw[if_neg h,Zb h];exact Gk l t b
theorem Tc{b:Nat}{o:LO}: ∀{l:List (Nat×LO)},Uv b l=some o->(b,o)∈l
 |[],h=>by cases h
 |x::l,h=>by
  have h:cond (Nat.beq x.1 b) (some x.2) (Uv b l)=some o:=h
  cases e:Nat.beq x.1 b with
  |true=>
   rw[e] at h;cases h
   have:=ZW e
   subst this
   exact ZG ..
  |false=>rw[e] at h;exact ZK _ (Tc h)
theorem Gl{b:Nat}: ∀{l:List Nat},Kv b l=true->b∈l
 |[],h=>by cases h
 |x::l,h=>by
  have h:cond (Nat.beq x b) true (Kv b l)=true:=h
  cases e:Nat.beq x b with
  |true=>
   have:=ZW e
   subst this
   exact ZG ..
  |false=>rw[e] at h;exact ZK _ (Gl h)
theorem IH{H:Heap}: ∀{l:List (Nat×LO)},yP H l=true-> ∀x∈l,∃o,H.t.get x.1=some o∧qe o x.2.obj∧cC o x.2=true
 |[],_,x,hx=>by cases hx
 |y::l,h,x,hx=>by
  obtain⟨h1,h2⟩:=ZV (a:=tH H y.1 y.2) (b:=yP H l) h
  rcases ZN.1 hx with rfl|hx
  ·unfold tH at h1
   split at h1
   ·rename_i p hp
    exact⟨p,hp,za h1,h1⟩
   ·cases h1
  ·exact IH h2 x hx
theorem EO{H:Heap}: ∀{l:List Nat},xe H l=true-> ∀b∈l,H.t.get b=none
 |[],_,x,hx=>by cases hx
 |y::l,h,x,hx=>by
  obtain⟨h1,h2⟩:=ZV (a:=match H.t.get y with|none=>true|_=>false) (b:=xe H l) h
  rcases ZN.1 hx with rfl|hx
  ·split at h1
   ·assumption
   ·cases h1
  ·exact EO h2 x hx
theorem EL{H:Heap}{x:CE}: ∀{l:List (Nat×LO)},yX H x l=true-> ∀y∈l,Kv y.1 x.dead=true∨(∃o,Uv y.1 x.post=some o)∨ ∃o,H.t.get y.1=some o∧qe o y.2.obj
 |[],_,x,hx=>by cases hx
 |z::l,h,y,hy=>by
  obtain⟨h1,h2⟩:=ZV (a:=cond (Kv z.1 x.dead) true (match Uv z.1 x.post with|some _=>true|none=>tH H z.1 z.2)) (b:=yX H x l) h
  rcases ZN.1 hy with rfl|hy
  ·cases e:Kv y.1 x.dead with
   |true=>exact .inl rfl
   |false=>
    rw[e] at h1
    cases e2:Uv y.1 x.post with
    |some o=>exact .inr (.inl ⟨o,rfl⟩)
    |none=>
     rw[e2] at h1
     have h1:tH H y.1 y.2=true:=h1
     unfold tH at h1
     split at h1
     ·rename_i p hp
      exact .inr (.inr ⟨p,hp,za h1⟩)
     ·cases h1
  ·exact EL h2 y hy
theorem C6{x:CE}: ∀{l:List (Nat×LO)},xc x l=true-> ∀y∈l,x.ro<=y.1∧Kv y.1 x.dead=false∧((∃p,Uv y.1 x.pre=some p∧cC p.obj y.2=false)∨(x.nx<=y.1∧wrO y.2.obj=true))
 |[],_,x,hx=>by cases hx
 |z::l,h,y,hy=>by
  obtain⟨h1,h⟩:=ZV (a:=Nat.ble x.ro z.1) (b:=cond (Kv z.1 x.dead) false
 (cond (match Uv z.1 x.pre with|some p=>cond (cC p.obj z.2) false true|none=>cond (Nat.ble x.nx z.1) (wrO z.2.obj) false) (xc x l) false)) h
  cases e:Kv z.1 x.dead with
  |true=>rw[e] at h;cases h
  |false=>
   rw[e] at h
   obtain⟨h2,h3⟩:=ZV (a:=match Uv z.1 x.pre with|some p=>cond (cC p.obj z.2) false true|none=>cond (Nat.ble x.nx z.1) (wrO z.2.obj) false) (b:=xc x l) h
   rcases ZN.1 hy with rfl|hy
   ·refine⟨Z1 h1,e,?_⟩
    split at h2
    ·rename_i p hp
     refine .inl ⟨p,hp,?_⟩
     cases e3:cC p.obj y.2 with
     |true=>rw[e3] at h2;cases h2
     |false=>rfl
    ·obtain⟨h4,h5⟩:=ZV h2
     exact .inr ⟨Z1 h4,h5⟩
   ·exact C6 h3 y hy
theorem Eu{x:CE}: ∀{l:List Nat},yw x l=true-> ∀b∈l,x.ro<=b∧ ∃p,Uv b x.pre=some p
 |[],_,x,hx=>by cases hx
 |z::l,h,b,hb=>by
  obtain⟨h1,h⟩:=ZV (a:=Nat.ble x.ro z) (b:=match Uv z x.pre with|some _=>yw x l|none=>false) h
  split at h
  ·rename_i p hp
   rcases ZN.1 hb with rfl|hb
   ·exact⟨Z1 h1,p,hp⟩
   ·exact Eu h b hb
  ·cases h
theorem AN{gs:List (Nat×List AV)}{args:List AV}{H:Heap}{r:CR}: ∀{l:List CE},jn gs args H l=some r-> ∃x∈l,x.is gs args H=true∧r=.ret x.v (x.after H)
 |[],h=>by cases h
 |x::l,h=>by
  have h:cond (x.is gs args H) (some (.ret x.v (x.after H))) (jn gs args H l)=some r:=h
  cases e:x.is gs args H with
  |true=>rw[e] at h;cases h;exact⟨x,ZG ..,e,rfl⟩
  |false=>
   rw[e] at h
   obtain⟨y,hy,h1⟩:=AN h
   exact⟨y,ZK _ hy,h1⟩
section
variable {P:Program}
theorem EI: ∀{l:List (Nat×LO)},yO l=true-> ∀y∈l,wrO y.2.obj=true
 |[],_,_,hy=>by cases hy
 |z::l,h,y,hy=>by
  obtain⟨h1,h2⟩:=ZV (a:=wrO z.2.obj) (b:=yO l) h
  rcases ZN.1 hy with rfl|hy
  ·exact h1
  ·exact EI h2 y hy
theorem LN.wrO{o:Obj}(h:LN o):wrO o=false:=by
 obtain⟨r,rfl,e⟩:=h
 exact e
theorem qc{H:Heap}{b:Nat}(h:Wr H b):H.ro<=b∧ ∃o,H.t.get b=some o∧wrO o=true:=by
 obtain⟨h1,o,h2,h3,h4⟩:=h
 refine⟨h1,o,h2,?_⟩
 cases o with
 |row r=>exact h3 r rfl
 |loop=>exact absurd rfl h4
 |_=>rfl
theorem Zbh{call:Nat->List AV->Heap->CR}(hcall:SD P call){f:FuncId}{tab:List CE}{gs:List (Nat×List AV)}
  (htab: ∀x∈tab,x.wf=true∧ ∀e,x.out (call f x.args (x.heap gs e))=true)
  {args:List AV}{H:Heap}{r:CR}(h:jn gs args H tab=some r){σ:Mp}{w:World}{vs:List Value}(hs:Ww P σ H w)(hv:YO σ args vs):LR P σ H w r ((callFunc f ⟨vs⟩).run P w):=by
 obtain⟨x,hx,his,rfl⟩:=AN h
 obtain⟨hwf,hout⟩:=htab x hx
 obtain⟨i1,his⟩:=ZV his
 obtain⟨i2,his⟩:=ZV his
 obtain⟨i3,his⟩:=ZV his
 obtain⟨i4,i5⟩:=ZV his
 have i1:H.nx=x.nx:=ZW i1
 have i2:H.ro=x.ro:=ZW i2
 have i3:=OV _ _ i3
 have hpre:=IH i5
 obtain⟨w1,w2⟩:=ZV hwf
 have hnew:=C6 w1
 obtain⟨w2,w3⟩:=ZV w2
 have Zai:=Eu w2
 have Ze8:=EI w3
 subst i3
 let e:Nat->Nat:=λy=>match H.t.get y with|some (.row q)=>q.elem|_=>0
 have Ad:=hout e
 have hget: ∀y o,(x.heap gs e).t.get y=some o->(∃p,Uv y x.pre=some p∧o=p.obj)∨(Uv y x.pre=none∧ ∃l,(y,l)∈gs∧o=xa (e y) l):=by
  intro y o hy
  have hy:(Bl x.pre (mP e gs .leaf)).get y=some o:=hy
  rw[Pe e gs] at hy
  cases hf:Uv y x.pre with
  |some p=>rw[hf] at hy;cases hy;exact .inl ⟨p,rfl,rfl⟩
  |none=>
   rw[hf] at hy
   rcases vM e gs .leaf y o hy with h|h
   ·exact .inr ⟨rfl,h⟩
   ·rw[T.get_leaf] at h;cases h
 have inH: ∀y o,(x.heap gs e).t.get y=some o-> ∃o',H.t.get y=some o'∧(∀l c,Uo σ o' l c->Uo σ o l c)∧(wrO o=true->wrO o'=true)∧(LN o'->LN o):=by
  intro y o hy
  rcases hget y o hy with⟨p,hp,rfl⟩|⟨_,l,hl,rfl⟩
  ·obtain⟨o',h1,h2,_⟩:=hpre _ (Tc hp)
   exact⟨o',h1,h2.to σ,λh=>h2.wr.trans h,h2.soft.1⟩
  ·obtain⟨q,g3,g4,g5,g6⟩:=wO i4 _ hl
   have g5:YF l<=q.size:=g5
   have g6:WO q 0 (YF l)=l:=g6
   have g3:H.t.get y=some (.row q):=g3
   refine⟨_,g3,λl' c hc=>?_,(λh=>by cases h),λ_=>⟨_,rfl,rfl⟩⟩
   obtain⟨cs,fr,rfl,hr⟩:=hc
   have hey:e y=q.elem:=by show(match H.t.get y with|some (.row q)=>q.elem|_=>0)=_;rw[g3]
   refine⟨cs,fr,by rw[hey],?_⟩
   have gsz:l'.sz=1:=by rw[hr.sz,g4]
   refine⟨gsz,hr.sz1,by have:=hr.fits;show YF l<=_;omega,hr.room,(λh=>by cases h),λi hi=>?_,λi v hi hv=>hr.one i v (ZO hi g5) hv,(λh=>by cases h),(λh=>by cases h)⟩
   have hi:i<YF l:=hi
   obtain⟨v,h7,h8⟩:=hr.cell i (by omega)
   refine⟨v,h7,?_⟩
   have g7:=SB q (YF l) 0 i hi
   rw[g6,Zs] at g7
   rw[Row.get_eq]
   show Yt σ (((T.ofList l).get i).getD .unk) v
   rw[T.get_ofList,g7]
   exact h8
 have jJ:Ww P σ (x.heap gs e) w:=by
  refine⟨λy l hy=>by show y<x.nx;rw[<-i1];exact hs.dom y l hy,λy o hy=>?_,λy o l hy hl=>?_,λy y' o o' l l' hy hy' hl hl' he=>?_,hs.glob,by show x.ro<=x.nx;rw[<-i1,<-i2];exact hs.ro⟩
  ·obtain⟨o',h1,_⟩:=inH y o hy
   show y<x.nx
   rw[<-i1];exact hs.low y o' h1
  ·obtain⟨o',h1,h2,_⟩:=inH y o hy
   obtain⟨c,hc,hr⟩:=hs.alive y o' l h1 hl
   exact⟨c,hc,h2 l c hr⟩
  ·obtain⟨o1,h1,_,_,s1⟩:=inH y o hy
   obtain⟨o2,h2,_,_,s2⟩:=inH y' o' hy'
   exact(hs.inj y y' o1 o2 l l' h1 h2 hl hl' he).imp_right λs=>⟨s1 s.1,s2 s.2⟩
 have wrH: ∀y,Wr (x.heap gs e) y->Wr H y∧ ∃p,Uv y x.pre=some p:=by
  intro y hy
  obtain⟨h1,o,h2,h3⟩:=qc hy
  obtain⟨o',g1,g2,g3,_⟩:=inH y o h2
  refine⟨BY g1 (by rw[i2];exact h1) (g3 h3),?_⟩
  rcases hget y o h2 with⟨p,hp,_⟩|⟨_,l,_,rfl⟩
  ·exact⟨p,hp⟩
  ·cases h3
 have hcr:=hcall f x.args (x.heap gs e) σ w vs jJ hv
 generalize call f x.args (x.heap gs e)=res at hcr Ad
 cases res with
 |fail=>cases Ad
 |pan _ _=>cases Ad
 |ret v H'=>
  obtain⟨o1,Ad⟩:=ZV Ad
  obtain⟨o2,Ad⟩:=ZV Ad
  obtain⟨o3,Ad⟩:=ZV Ad
  obtain⟨o4,o5⟩:=ZV Ad
  have o1:=Nn _ _ o1
  subst o1
  have o2:H'.nx=x.nx2:=ZW o2
  have hpost:=IH o3
  have hkeep:=EL o4
  have hnone:=EO o5
  refine Ends.mono (λu' w' hx=>?_) (λ_ _ hx=>hx) hcr
  obtain⟨σ',hr,t⟩:=hx
  refine⟨σ',hr,?_⟩
  have tnx:x.nx<=H'.nx:=t.nx
  have hafter: ∀b o,(x.after H).t.get b=some o->
    (∃o',H'.t.get b=some o'∧qe o o'∧((∃p,Uv b x.pre=some p)∨(x.nx<=b∧x.ro<=b∧wrO o=true)))
    ∨(Uv b x.pre=none∧H.t.get b=some o):=by
   intro b o hb
   have hb:(Bl x.post (B9 x.dead H.t)).get b=some o:=hb
   rw[Pe e gs] at hb
   cases hp:Uv b x.post with
   |some p=>
    rw[hp] at hb;cases hb
    obtain⟨o',h1,h2,h3⟩:=hpost _ (Tc hp)
    obtain⟨n1,n2,n3⟩:=hnew _ (Tc hp)
    refine .inl ⟨o',h1,⟨h2.of,h2.to,h2.wr.symm,h2.soft.symm⟩,?_⟩
    rcases n3 with⟨p',n4,_⟩|⟨n4,n5⟩
    ·exact .inl ⟨p',n4⟩
    ·exact .inr ⟨n4,n1,n5⟩
   |none=>
    rw[hp] at hb
    have hb:(B9 x.dead H.t).get b=some o:=hb
    rw[Gk] at hb
    cases hd:Kv b x.dead with
    |true=>rw[hd] at hb;cases hb
    |false=>
     rw[hd] at hb
     have hb:H.t.get b=some o:=hb
     cases hq:Uv b x.pre with
     |none=>exact .inr ⟨rfl,hb⟩
     |some p=>
      rcases hkeep _ (Tc hq) with k|⟨_,k⟩|⟨o',k1,k2⟩
      ·have k:Kv b x.dead=true:=k
       rw[hd] at k;cases k
      ·have k:Uv b x.post=_:=k
       rw[hp] at k;cases k
      ·obtain⟨o'',q1,q2,_⟩:=hpre _ (Tc hq)
       have q1:H.t.get b=some o'':=q1
       rw[hb] at q1;cases q1
       exact .inl ⟨o',k1,⟨λσ l c h=>k2.of σ l c (q2.to σ l c h),λσ l c h=>q2.of σ l c (k2.to σ l c h),q2.wr.trans k2.wr.symm,q2.soft.trans k2.soft.symm⟩,.inl ⟨p,rfl⟩⟩
  have hold: ∀b o l,Uv b x.pre=none->H.t.get b=some o->σ' b=some l->σ b=some l:=by
   intro b o l _ hb hl
   have hlt:=hs.low b o hb
   cases hσ:σ b with
   |none=>
    have:=(t.pend b (by show b<x.nx;omega) hσ).2
    rw[this] at hl;cases hl
   |some l0=>rw[t.ext b l0 hσ] at hl;exact hl
  have Zfi: ∀b p,Uv b x.pre=some p-> ∃o,H.t.get b=some o∧b<x.nx:=by
   intro b p hp
   obtain⟨o,q1,_⟩:=hpre _ (Tc hp)
   exact⟨o,q1,by rw[<-i1];exact hs.low b o q1⟩
  have wT: ∀b l,b<x.nx->σ' b=some l->(∃o,H'.t.get b=some o)->σ b=some l:=by
   intro b l hlt hl _
   cases hσ:σ b with
   |none=>
    have:=(t.pend b hlt hσ).2
    rw[this] at hl;cases hl
   |some l0=>rw[t.ext b l0 hσ] at hl;exact hl
  have Ze6: ∀b o l y l',Uv b x.pre=none->H.t.get b=some o->σ b=some l->Wr (x.heap gs e) y->σ y=some l'->l'.blk=l.blk->False:=by
   intro b o l y l' hb ho hl hw hy he
   obtain⟨h1,p,hp⟩:=wrH y hw
   obtain⟨_,oy,h2,h3⟩:=qc h1
   have:=hs.alone h2 ho hy hl he λs=>by rw[s.1.wrO] at h3;cases h3
   subst this
   rw[hb] at hp;cases hp
  have Zfd: ∀b o l b' l' o1,Uv b x.pre=none->H.t.get b=some o->σ' b=some l->H'.t.get b'=some o1->σ' b'=some l'->l.blk=l'.blk->
    ((∃p,Uv b' x.pre=some p)∨(x.nx<=b'∧x.ro<=b'∧wrO o1=true))->b=b':=by
   intro b o l b' l' o1 hb ho hl ho1 hl' he hor
   have hl0:=hold b o l hb ho hl
   rcases hor with⟨p,hp⟩|⟨n1,n2,n3⟩
   ·obtain⟨o2,q1,q2⟩:=Zfi b' p hp
    refine hs.alone ho q1 hl0 (wT b' l' q2 hl' ⟨o1,ho1⟩) he λs=>?_
    obtain⟨o3,g1,g2,_⟩:=hpre _ (Tc hp)
    have g1:H.t.get b'=some o3:=g1
    rw[q1] at g1;cases g1
    have:=Ze8 _ (Tc hp)
    rw[<-g2.wr,s.2.wrO] at this;cases this
   ·exfalso
    obtain⟨c,hc,_⟩:=hs.alive b o l ho hl0
    have hlt:l'.blk<w.heap.size:=by rw[<-he];exact(ZT.1 hc).1
    have hro:H'.ro<=b':=by rw[t.ro];exact n2
    obtain⟨b0,l0,h1,h2,h3⟩:=t.wr b' l' (BY ho1 hro n3) hl' hlt
    exact Ze6 b o l b0 l0 hb ho hl0 h1 h2 (h3.trans he.symm)
  refine⟨t.ext,⟨?_,?_,?_,?_,t.sim.glob,?_⟩,t.size,?_,?_,?_,rfl,?_,t.tape,t.os,t.out,?_⟩
  ·intro b l hb
   show b<x.nx2
   rw[<-o2];exact t.sim.dom b l hb
  ·intro b o hb
   show b<x.nx2
   rw[<-o2]
   rcases hafter b o hb with⟨o',h1,_⟩|⟨_,h1⟩
   ·exact t.sim.low b o' h1
   ·have:=hs.low b o h1;omega
  ·intro b o l hb hl
   rcases hafter b o hb with⟨o',h1,h2,_⟩|⟨h0,h1⟩
   ·obtain⟨c,hc,hrel⟩:=t.sim.alive b o' l h1 hl
    exact⟨c,hc,h2.of σ' l c hrel⟩
   ·have hl0:=hold b o l h0 h1 hl
    obtain⟨c,hc,hrel⟩:=hs.alive b o l h1 hl0
    refine⟨c,?_,hrel.mono t.ext⟩
    rw[t.frame l.blk (ZT.1 hc).1 λy ly hw hy he=>Ze6 b o l y ly h0 h1 hl0 hw hy he]
    exact hc
  ·intro b b' o o' l l' hb hb' hl hl' he
   rcases hafter b o hb with⟨p,h1,h2,h3⟩|⟨h0,h1⟩<;>rcases hafter b' o' hb' with⟨p',h1',h2',h3'⟩|⟨h0',h1'⟩
   ·exact(t.sim.inj b b' p p' l l' h1 h1' hl hl' he).imp_right λs=>⟨h2.soft.2 s.1,h2'.soft.2 s.2⟩
   ·exact .inl (Zfd b' o' l' b l p h0' h1' hl' h1 hl he.symm (h3.imp_right λ⟨a,b,c⟩=>⟨a,b,by rw[<-h2.wr];exact c⟩)).symm
   ·exact .inl<|Zfd b o l b' l' p' h0 h1 hl h1' hl' he (h3'.imp_right λ⟨a,b,c⟩=>⟨a,b,by rw[<-h2'.wr];exact c⟩)
   ·exact hs.inj b b' o o' l l' h1 h1' (hold b o l h0 h1 hl) (hold b' o' l' h0' h1' hl') he
  ·show H.ro<=x.nx2
   have:=hs.ro
   omega
  ·intro k hk hn
   exact t.frame k hk λy l hw hl=>hn y l (wrH y hw).1 hl
  ·intro b l hw hl hlt
   obtain⟨hro,o,ho,hwo⟩:=qc hw
   rcases hafter b o ho with⟨o',h1,h2,_⟩|⟨h0,h1⟩
   ·obtain⟨b0,l0,g1,g2,g3⟩:=t.wr b l (BY h1 (by rw[t.ro];show x.ro<=b;rw[<-i2];exact hro) (by rw[<-h2.wr];exact hwo)) hl hlt
    exact⟨b0,l0,(wrH b0 g1).1,g2,g3⟩
   ·exact⟨b,l,BY h1 hro hwo,hold b o l h0 h1 hl,rfl⟩
  ·show H.nx<=x.nx2
   omega
  ·intro b hb
   show(Bl x.post (B9 x.dead H.t)).get b=H.t.get b
   rw[Pe e gs]
   cases hp:Uv b x.post with
   |some p=>
    have:=(hnew _ (Tc hp)).1
    have:x.ro<=b:=this
    omega
   |none=>
    show(B9 x.dead H.t).get b=_
    rw[Gk]
    cases hd:Kv b x.dead with
    |true=>
     have:=(Zai _ (Gl hd)).1
     omega
    |false=>rfl
  ·intro b hb hσ
   obtain⟨p1,p2⟩:=t.pend b (by show b<x.nx;omega) hσ
   refine⟨?_,p2⟩
   show(Bl x.post (B9 x.dead H.t)).get b=H.t.get b
   rw[Pe e gs]
   cases hp:Uv b x.post with
   |some p=>
    exfalso
    obtain⟨n1,n2,n3⟩:=hnew _ (Tc hp)
    obtain⟨o',h1,h2,h3⟩:=hpost _ (Tc hp)
    have h1:H'.t.get b=some o':=h1
    rcases n3 with⟨q,n4,n5⟩|⟨n4,_⟩
    ·have n4:Uv b x.pre=some q:=n4
     have:(x.heap gs e).t.get b=some q.obj:=by
      show(Bl x.pre (mP e gs .leaf)).get b=_
      rw[Pe e gs,n4]
     rw[<-p1,h1] at this
     cases this
     rw[h3] at n5;cases n5
    ·have n4:x.nx<=b:=n4
     omega
   |none=>
    show(B9 x.dead H.t).get b=_
    rw[Gk]
    cases hd:Kv b x.dead with
    |true=>
     exfalso
     obtain⟨_,q,n4⟩:=Zai _ (Gl hd)
     have:(x.heap gs e).t.get b=some q.obj:=by
      show(Bl x.pre (mP e gs .leaf)).get b=_
      rw[Pe e gs,n4]
     rw[<-p1,hnone _ (Gl hd)] at this
     cases this
    |false=>rfl
end
section
variable {P:Program}
noncomputable def xr:List (Nat×List RE)->T Obj->T Obj
 |[],t=>t
 |x::l,t=>xr l (t.set x.1 (.cmap x.2))
theorem KK: ∀(ms:List (Nat×List RE)) (t:T Obj) (b:Nat) (o:Obj),(xr ms t).get b=some o->(∃es,(b,es)∈ms∧o=.cmap es)∨t.get b=some o
 |[],t,b,o,h=>.inr h
 |(b',es)::ms,t,b,o,h=>by
  rcases KK ms _ b o h with⟨es2,h1,h2⟩|h1
  ·exact .inl ⟨es2,ZK _ h1,h2⟩
  ·rw[T.get_set] at h1
   by_cases e3:b'=b
   ·rw[if_pos e3] at h1;cases h1;subst e3;exact .inl ⟨es,ZG ..,rfl⟩
   ·rw[if_neg e3] at h1;exact .inr h1
noncomputable def yl(n:Nat)(rs:List (Nat×Nat×List AV))(ms:List (Nat×List RE)):Heap:=⟨n,xu rs (xr ms .leaf),n⟩
theorem od{W:World}{rs:List (Nat×Nat×List AV)}{ms:List (Nat×List RE)}{n:Nat}{σ:Mp}(hσ: ∀g,g<P.globals.size-> ∃l,σ g=some l∧l.blk=g∧l.base=0)(hdom: ∀b l,σ b=some l->b<n)
  (hr: ∀b e l,(b,e,l)∈rs-> ∃cs fr,σ b=some ⟨b,0,YF l,1⟩∧W.heap[b]? =some (.cells cs e fr)∧YO σ l cs.toList∧ ∀v∈cs,v.oneCell'=true)
  (hm: ∀b es,(b,es)∈ms-> ∃l ents clock fs,σ b=some l∧W.heap[l.blk]? =some (.map ents clock)∧YG σ fs ents.toList∧(fs.map OY).Perm (es.map OY)∧es.Pairwise uM)
  (hi: ∀b es b' es' l l',(b,es)∈ms->(b',es')∈ms->σ b=some l->σ b'=some l'->l.blk=l'.blk->b=b'):Ww P σ (yl n rs ms) W:=by
 have hget: ∀b o,(yl n rs ms).t.get b=some o->(∃e l,(b,e,l)∈rs∧o=.row ⟨e,1,YF l,T.ofList l,.unk,0,false,false,true⟩)∨ ∃es,(b,es)∈ms∧o=.cmap es:=by
  intro b o h
  rcases KL rs _ b o h with h|h
  ·exact .inl h
  ·rcases KK ms _ b o h with h|h
   ·exact .inr h
   ·rw[T.get_leaf] at h;cases h
 refine⟨hdom,λb o h=>?_,λb o l h hl=>?_,λb b' o o' l l' h h' hl hl' e=>?_,hσ,Zl _⟩
 ·rcases hget b o h with⟨e,l,h1,_⟩|⟨es,h1,_⟩
  ·obtain⟨cs,fr,h2,_⟩:=hr b e l h1
   exact hdom b _ h2
  ·obtain⟨l,_,_,_,h2,_⟩:=hm b es h1
   exact hdom b _ h2
 ·rcases hget b o h with⟨e,l',h1,rfl⟩|⟨es,h1,rfl⟩
  ·obtain⟨cs,fr,h2,h3,h4,h5⟩:=hr b e l' h1
   rw[h2] at hl;cases hl
   refine⟨_,h3,cs,fr,rfl,?_⟩
   have hlen:cs.size=YF l':=by rw[Yw,h4.length];simp
   refine⟨rfl,Zl _,by show YF l'<=YF l'*1;omega,by show 0+YF l'*1<=cs.size;omega,λ_=>⟨by show YF l'=YF l'*1;omega,rfl,hlen⟩,λi hi=>?_,λi v _ hv=>h5 v (WE hv),(λh=>by cases h),(λh=>by cases h)⟩
   have hi:i<YF l':=hi
   have hi':i<l'.length:=by rw[Yw] at hi;exact hi
   obtain⟨v,h6,h7⟩:=h4.get (i:=i) (a:=l'[i]) (Zg hi')
   refine⟨v,by rw[Zs,<-Yd];exact h6,?_⟩
   have:(⟨e,1,YF l',T.ofList l',.unk,0,false,false,true⟩:Row).get i=l'[i]:=by
    rw[Row.get_eq]
    show((T.ofList l').get i).getD .unk=_
    rw[T.get_ofList,Zg hi'];rfl
   rw[this]
   exact h7
  ·obtain⟨l2,ents,clock,fs,h2,h3,h4,h5,h6⟩:=hm b es h1
   rw[h2] at hl;cases hl
   exact⟨_,h3,ents,clock,fs,rfl,h4,h5,h6⟩
 ·rcases hget b o h with⟨e1,l1,h1,_⟩|⟨es,h1,_⟩<;>rcases hget b' o' h' with⟨e2,l2,h2,_⟩|⟨es',h2,_⟩
  ·obtain⟨_,_,h3,_⟩:=hr b e1 l1 h1
   obtain⟨_,_,h4,_⟩:=hr b' e2 l2 h2
   rw[h3] at hl;rw[h4] at hl'
   cases hl;cases hl'
   exact .inl e
  ·exfalso
   obtain⟨_,_,h3,h5,_⟩:=hr b e1 l1 h1
   obtain⟨_,_,_,_,h4,h6,_⟩:=hm b' es' h2
   rw[h3] at hl;rw[h4] at hl'
   cases hl;cases hl'
   have e:b=_:=e
   rw[<-e,h5] at h6
   cases h6
  ·exfalso
   obtain⟨_,_,h3,h5,_⟩:=hr b' e2 l2 h2
   obtain⟨_,_,_,_,h4,h6,_⟩:=hm b es h1
   rw[h3] at hl';rw[h4] at hl
   cases hl;cases hl'
   have e:_=b':=e
   rw[e,h5] at h6
   cases h6
  ·exact .inl<|hi b es b' es' l l' h1 h2 hl hl' e
theorem Af{l:List (String×DataW Unit)}{w:World}(h:laidMetH P l w):laidMet P (l.filter λx=>x.2.handleName?.isNone) w:=by
 unfold laidMetH at h
 generalize hfl:(l.filter λx=>x.2.handleName?.isSome)=fl at h
 cases fl with
 |nil=>
  have e:(l.filter λx=>x.2.handleName?.isNone)=l:=by
   rw[List.filter_eq_self]
   intro x hx
   have:=(List.filter_eq_nil_iff.1 hfl) x hx
   cases hn:x.2.handleName? with
   |none=>rfl
   |some s=>rw[hn] at this;exact absurd rfl this
  rw[e]
  exact h
 |cons a as=>exact h.1
theorem EM{W:World}: ∀{l:List (String×DataW Unit)} {ps:List MemPlace},DataW.LaidVars P W l ps-> ∃pf:Nat->List MemPlace,
  (∀i n d,l[i]? =some (n,d)-> ∃g t cs fuel,P.globalNamed n=some g∧(P.globals[g]?).map (·.type)=some t∧W.var? P n=some cs∧DataW.trod (λ_=>()) P W 0 (λ_=>true) false fuel t cs.toList=some (d,pf i)∧ ∀x∈MemPlace.row ⟨g,0,none⟩ cs.size,x∈ps)∧
  (∀i x,i<l.length->x∈pf i->x∈ps)∧(ps.Nodup-> ∀i j x,i<j->j<l.length->x∈pf i->x∈pf j->False)
 |[],_,_=>⟨λ_=>[],(λi n d h=>by simp at h),(λi x h=>by simp at h),(λ_ i j x _ h=>by simp at h)⟩
 |(n',d')::r,ps,h=>by
  obtain⟨g,t,cs,fuel,p,q,h1,h2,h3,h4,h5,rfl⟩:=h
  obtain⟨pf,k1,k2,k3⟩:=EM h5
  refine⟨λi=>match i with|0=>p|i+1=>pf i,λi n d hi=>?_,λi x hi hx=>?_,λhnd i j x hij hj hx hx'=>?_⟩
  ·cases i with
   |zero=>
    simp only[Vo,Option.some.injEq,Prod.mk.injEq] at hi
    obtain⟨rfl,rfl⟩:=hi
    exact⟨g,t,cs,fuel,h1,h2,h3,h4,λx hx=>Zy.2 (.inl (Zy.2 (.inl hx)))⟩
   |succ i=>
    simp only[Yq] at hi
    obtain⟨g',t',cs',fuel',m1,m2,m3,m4,m5⟩:=k1 i n d hi
    exact⟨g',t',cs',fuel',m1,m2,m3,m4,λx hx=>Zy.2 (.inr (m5 x hx))⟩
  ·cases i with
   |zero=>exact Zy.2 (.inl (Zy.2 (.inr hx)))
   |succ i=>exact Zy.2 (.inr (k2 i x (by simpa using hi) hx))
  ·obtain⟨n1,n2,n3⟩:=List.nodup_append.1 hnd
   cases j with
   |zero=>omega
   |succ j=>
    have hj':j<r.length:=by simpa using hj
    cases i with
    |zero=>exact n3 x (Zy.2 (.inr hx)) x (k2 j x hj' hx') rfl
    |succ i=>exact k3 n2 i j x (by omega) hj' hx hx'
end
def nz(gs:List (Nat×List AV))(base:Nat->List AV->Heap->Option CR):List (Nat×CE)->Nat->List AV->Heap->Option CR
 |[],f,args,H=>base f args H
 |x::l,f,args,H=>cond (Nat.beq x.1 f) (cond (x.2.is gs args H) (some (.ret x.2.v (x.2.after H))) (nz gs base l f args H)) (nz gs base l f args H)
section
variable {P:Program}
def aM(P:Program)(gs:List (Nat×List AV))(x:Nat×CE):Prop:= ∃call,SD P call∧x.2.wf=true∧ ∀e,x.2.out (call x.1 x.2.args (x.2.heap gs e))=true
theorem pc{gs:List (Nat×List AV)}{base:Nat->List AV->Heap->Option CR}(hb:NU P base): ∀l:List (Nat×CE),(∀x∈l,aM P gs x)->NU P (nz gs base l)
 |[],_=>hb
 |x::l,h=>by
  intro f args H r hr σ w vs hs hv
  have ih:=pc hb l (λy hy=>h y (ZK _ hy))
  unfold nz at hr
  cases h1:Nat.beq x.1 f with
  |false=>rw[h1] at hr;exact ih f args H r hr σ w vs hs hv
  |true=>
   rw[h1] at hr
   cases h2:x.2.is gs args H with
   |false=>rw[h2] at hr;exact ih f args H r hr σ w vs hs hv
   |true=>
    rw[h2] at hr
    have h1:=ZW h1
    subst h1
    obtain⟨call,hcall,hwf,hout⟩:=h x (ZG ..)
    refine Zbh (P:=P) hcall (f:=x.1) (tab:=[x.2]) (gs:=gs) (λy hy=>?_) (args:=args) (H:=H) ?_ hs hv
    ·rcases ZN.1 hy with rfl|hy
     ·exact⟨hwf,hout⟩
     ·cases hy
    ·show cond (x.2.is gs args H) (some (.ret x.2.v (x.2.after H))) none=some r
     rw[h2]
     exact hr
end
section
variable {P:Program}
structure E4 where
 loc:Loc
 elem:Nat
 cells:List AV
def E4.row(x:E4):Row:=⟨x.elem,1,YF x.cells,T.ofList x.cells,.unk,0,false,false,false⟩
def EB(b:Nat):List (Nat×E4)->Option E4
 |[]=>none
 |y::l=>if y.1=b then some y.2 else EB b l
theorem AQ{b:Nat}{x:E4}: ∀{l:List (Nat×E4)},EB b l=some x->(b,x)∈l
 |[],h=>by cases h
 |y::l,h=>by
  unfold EB at h
  split at h
  ·rename_i e;cases h;rw[<-e];exact ZG ..
  ·exact ZK _ (AQ h)
theorem Cm{b:Nat}{x:E4}: ∀{l:List (Nat×E4)},(b,x)∈l->(l.map (·.1)).Nodup->EB b l=some x
 |y::l,h,nd=>by
  rw[ZE,R3] at nd
  unfold EB
  rcases ZN.1 h with rfl|h
  ·rw[if_pos rfl]
  ·rw[if_neg (λe=>nd.1 (by rw[e];exact Tf (f:=Prod.fst) h))]
   exact Cm h nd.2
structure aS(W:World)(σ:Mp)(x:E4):Prop where
 sz:x.loc.sz=1
 fits:x.cells.length<=x.loc.tot
 cells: ∃cs fr,W.heap[x.loc.blk]? =some (.cells cs x.elem fr)∧x.loc.base+x.loc.tot<=cs.size∧ ∀(i:Nat) (a:AV),x.cells[i]? =some a-> ∃v,cs[x.loc.base+i]? =some v∧Yt σ a v∧v.oneCell'=true
theorem E4.get_row{x:E4}{i:Nat}{a:AV}(h:x.cells[i]? =some a):x.row.get i=a:=by
 rw[Row.get_eq]
 show((T.ofList x.cells).get i).getD .unk=a
 rw[T.get_ofList,h];rfl
theorem mz{call:Nat->List AV->Heap->CR}(hcall:SD P call){f:FuncId}{fn:Func}{c:Code}(hf:P.funcs[f]? =some fn)(hname:fn.name≠ "runtime.NumGoroutine")(hb:fn.body=some c)
  {σ:Mp}{H H':Heap}{W:World}(hs:Ww P σ H W)(hw: ∀b,¬Wr H b){as:List AV}{vs:List Value}(ha:YO σ as vs)(hr:call f as H=.ret (.bool true) H'):
  Calls P f ⟨vs⟩ W λe W'=>e=.returned (.bool true)∧W'.os=W.os∧W'.output=W.output∧ ∀i,i<W.heap.size->W'.heap[i]? =W.heap[i]? :=by
 have h:=hcall f as H σ W vs hs ha
 rw[hr,Rv hf hname hb] at h
 refine Calls.mono h λe W' he=>?_
 cases e with
 |returned v=>
  obtain⟨σ',h1,t⟩:=he
  exact⟨by rw[Tm h1],t.os,t.out,λi hi=>t.frame i hi λb _ hb=>absurd hb (hw b)⟩
 |panicked ch=>obtain⟨_,_,h⟩:=he;exact h.elim
 |outgrown=>exact he.elim
end
section
open Go Go.ChangeShapes Go.WideShapes Go.ChangeAt Go.RowKit
variable {H:Type} {enc:TypeId×Value->H} {P:Program}
theorem an{W W':World}(h: ∀i,i<W.heap.size->W'.heap[i]? =W.heap[i]?){p:MemPlace}(hp:p.block<W.heap.size):W.sameAt W' p:=by
 cases p with
 |cell b off=>
  show W'.cell? ⟨b,off,none⟩=W.cell? ⟨b,off,none⟩
  unfold World.cell?
  rw[h b hp]
 |map b=>exact h b hp
theorem Fa(hl:laidOutB P=true){W W':World}{sp:Nat->Bool}(h: ∀i,i<W.heap.size->W'.heap[i]? =W.heap[i]?): ∀{ts:List TypeId} {vs:List Value} {ds:List (DataW H)} {ps:List MemPlace},
  (∀t∈ts,P.readableRec t=true∧t<P.types.size)->DataW.TrodAll enc P W 0 (λ_=>true) true ts vs ds ps->(∀p∈ps,p.block<W.heap.size∧sp p.block=true)->DataW.TrodAll enc P W' 0 sp true ts vs ds ps
 |[],[],[],ps,_,ht,_=>ht
 |t::ts,v::vs,d::ds,ps,hts,ht,hp=>by
  obtain⟨p,q,h1,h2,rfl⟩:=ht
  obtain⟨r1,r2⟩:=hts t (ZG ..)
  refine⟨p,q,WideElems.Trod_stays hl r1 r2 h1 (λx hx=>an h (hp x (Zy.2 (.inl hx))).1) (λx hx=>(hp x (Zy.2 (.inl hx))).2),?_,rfl⟩
  exact Fa hl h (λt ht=>hts t (ZK _ ht)) h2 λx hx=>hp x (Zy.2 (.inr hx))
 |[],_::_,_,_,_,ht,_=>ht.elim
 |[],[],_::_,_,_,ht,_=>ht.elim
 |_::_,[],_,_,_,ht,_=>ht.elim
 |_::_,_::_,[],_,_,ht,_=>ht.elim
theorem j9{fn:Func}{s:ChangeSpec}{W W':World}{args:Array Value}{ds gs:List (DataW H)}{before:List MemPlace}{tb:TypeId}(hl:laidOutB P=true)(hts: ∀t∈fn.params.toList,P.readableRec t=true∧t<P.types.size)
  (hv:s.vars=[])(hr:fn.resultTypes= #[tb])(htb:P.underlying tb=some .bool)(hW:DataW.Whole enc P fn.params.toList s.vars false W args.toList ds gs before)
  (hres:(s.fn H (ds++gs)).results=[.lit (.bool true)])(hargs:(s.fn H (ds++gs)).args=ds)(hvars:(s.fn H (ds++gs)).vars=[])
  (h1:W'.os=W.os)(h2:W'.output=W.output)(h3: ∀i,i<W.heap.size->W'.heap[i]? =W.heap[i]?):s.post enc P fn false true false false W args (.bool true) W':=by
 have hlt:=hW.lt
 have hW':=hW
 obtain⟨p,q,hA,hV,rfl,_,_⟩:=hW
 rw[hv] at hV
 obtain⟨rfl,rfl⟩:=trodVars_none hV
 refine⟨ds,[],p++[],[],p,[],hW',?_,?_,?_,World.keptBut_mono (λx hx=>hx.elim) (yY (may:=λ_=>False) h1 h2 h3),λh=>by cases h⟩
 ·rw[hres,hr]
  exact trodAll_mk1 (shut_bool htb _)
 ·rw[hargs]
  exact Fa hl h3 hts hA λx hx=>⟨hlt x (by simpa using hx),by simpa using hlt x (by simpa using hx)⟩
 ·rw[hvars,hv]
  rfl
end
section
variable {P:Program}
def ir(n:Nat):Obj->Prop
 |.row r=> ∀i,i<r.size->Xm n (r.get i)=true
 |.cmap es=> ∀x∈es,Xm n x.key=true∧Xm n x.val=true
 |_=>False
theorem YG.cutE{σ:Mp}{n:Nat}: ∀{es:List RE} {l:List MapEntry},(∀x∈es,Xm n x.key=true∧Xm n x.val=true)->YG σ es l->YG (σ.cut n) es l
 |[],l,_,r=>by simpa [YG] using r
 |x::es,l,h,r=>by
  simp only[YG] at r ⊢
  obtain⟨e,l',h1,h2,h3⟩:=r
  obtain⟨k1,k2⟩:=h x (ZG ..)
  exact⟨e,l',⟨Yt.cut k1 h1.1,Yt.cut k2 h1.2.1,h1.2.2⟩,YG.cutE (λy hy=>h y (ZK _ hy)) h2,h3⟩
theorem Uo.cutO{σ:Mp}{n:Nat}{o:Obj}{l:Loc}{c:Go.Obj}(h:ir n o)(r:Uo σ o l c):Uo (σ.cut n) o l c:=by
 cases o with
 |row q=>
  obtain⟨cs,fr,rfl,r⟩:=r
  refine⟨cs,fr,rfl,r.sz,r.sz1,r.fits,r.room,r.exact,λi hi=>?_,r.one,r.frz,r.frs⟩
  obtain⟨v,h1,h2⟩:=r.cell i hi
  exact⟨v,h1,Yt.cut (h i hi) h2⟩
 |cmap es=>
  obtain⟨ents,clock,fs,h1,h2,h3,h4⟩:=r
  refine⟨ents,clock,fs,h1,YG.cutE (λx hx=>?_) h2,h3,h4⟩
  have hm:OY x∈es.map OY:=h3.subset (Tf (f:=OY) hx)
  obtain⟨y,hy,e⟩:=YC.1 hm
  have hk:y.key=x.key:=congrArg Prod.fst e
  have hv:y.val=x.val:=congrArg Prod.snd e
  rw[<-hk,<-hv]
  exact h y hy
 |_=>exact h.elim
theorem Ww.cutTo{σ:Mp}{H:Heap}{w:World}{n:Nat}{t:T Obj}(hs:Ww P σ H w)(hn:P.globals.size<=n)(ht: ∀b o,t.get b=some o->b<n∧H.t.get b=some o∧ir n o):Ww P (σ.cut n) ⟨n,t,n⟩ w:=by
 refine⟨λb l h=>(Mp.cut_some h).1,λb o h=>(ht b o h).1,λb o l h hl=>?_,λb b' o o' l l' h h' hl hl' e=>?_,λg hg=>?_,Zl _⟩
 ·obtain⟨_,h1,h2⟩:=ht b o h
  obtain⟨c,h3,h4⟩:=hs.alive b o l h1 (Mp.cut_some hl).2
  exact⟨c,h3,h4.cutO h2⟩
 ·exact hs.inj b b' o o' l l' (ht b o h).2.1 (ht b' o' h').2.1 (Mp.cut_some hl).2 (Mp.cut_some hl').2 e
 ·obtain⟨l,h1,h2⟩:=hs.glob g hg
  exact⟨l,by rw[Mp.cut_lt (by omega)];exact h1,h2⟩
def Bears(n:Nat)(t:T Obj)(H:Heap):Prop:=n<=H.nx∧ ∀b o,t.get b=some o->H.t.get b=some o
theorem Bears.keep{n:Nat}{t:T Obj}{H H':Heap}(h:Bears n t H)(hlt: ∀b o,t.get b=some o->b<n)(hnx:H.nx<=H'.nx)(hk: ∀c,c<H.nx->H'.t.get c=H.t.get c):Bears n t H':=
 ⟨Zn h.1 hnx,λb o hb=>(hk b (ZO (hlt b o hb) h.1)).trans (h.2 b o hb)⟩
structure kg where
 f:Nat
 args:List AV
 v:AV
def K3(n:Nat)(t:(Nat->Nat)->T Obj)(base:Nat->List AV->Heap->Option CR):List kg->Nat->List AV->Heap->Option CR
 |[],f,args,H=>base f args H
 |x::l,f,args,H=>cond (Nat.beq x.f f) (open Classical in if args=x.args∧ ∃e,Bears n (t e) H then some (.ret x.v H) else K3 n t base l f args H) (K3 n t base l f args H)
theorem zU{n:Nat}{t:(Nat->Nat)->T Obj}(hn:P.globals.size<=n)(ht: ∀e b o,(t e).get b=some o->b<n∧ir n o∧(LN o∨ ∃es,o=.cmap es)){base:Nat->List AV->Heap->Option CR}(hb:NU P base): ∀l:List kg,
  (∀x∈l,∃call,SD P call∧U7 0 x.args=true∧Xm 0 x.v=true∧ ∀e,Zar x.v (call x.f x.args ⟨n,t e,n⟩)=true)->NU P (K3 n t base l)
 |[],_=>hb
 |x::l,hl=>by
  intro f args H r h σ w vs hs hv
  have ih:=zU hn ht hb l λy hy=>hl y (ZK _ hy)
  unfold K3 at h
  cases hf:Nat.beq x.f f with
  |false=>rw[hf] at h;exact ih f args H r h σ w vs hs hv
  |true=>
   have:=ZW hf
   subst this
   rw[hf,cond_true] at h
   split at h
   ·rename_i hc
    obtain⟨rfl,e,hle,Ze0⟩:=hc
    cases h
    obtain⟨call,hcall,Zfa,Zfb,hev⟩:=hl x (ZG ..)
    have jJ:Ww P (σ.cut n) ⟨n,t e,n⟩ w:=hs.cutTo hn λb o hb=>⟨(ht e b o hb).1,Ze0 b o hb,(ht e b o hb).2.1⟩
    have jH: ∀y,¬Wr (⟨n,t e,n⟩:Heap) y:=by
     rintro y ⟨h1,ob,h2,_⟩
     have h1:n<=y:=h1
     have:=(ht e y ob h2).1
     omega
    have hrel:YO (σ.cut n) x.args vs:=YO.mono (λb l hb=>by have:=(Mp.cut_some hb).1;omega) (YO.cut (n:=0) Zfa hv)
    have hcr:=hcall x.f x.args ⟨n,t e,n⟩ (σ.cut n) w vs jJ hrel
    have hret:=hev e
    generalize call x.f x.args ⟨n,t e,n⟩=res at hcr hret
    cases res with
    |fail=>cases hret
    |pan _ _=>cases hret
    |ret v' H''=>
     have:=Nn _ _ hret
     subst this
     refine Ends.mono (λu' w' hx=>?_) (λ_ _ hx=>hx) hcr
     obtain⟨σ2,h1,t'⟩:=hx
     have hfr: ∀j,j<w.heap.size->w'.heap[j]? =w.heap[j]? :=λj hj=>t'.frame j hj λy _ hy _=>absurd hy (jH y)
     refine⟨σ,?_,(ye.mem (Ext.refl σ) t'.size hfr (λ_ _ _ _ h _=>h) t'.tape t'.os t'.out).full (hs.grow hfr) λ_ _ hx=>⟨rfl,hx⟩⟩
     exact(Yt.cut Zfb h1).mono λy _ hy=>by have:=(Mp.cut_some hy).1;omega
   ·exact ih _ _ _ _ h σ w vs hs hv
theorem I9{n:Nat}{t:(Nat->Nat)->T Obj}{base:Nat->List AV->Heap->Option CR}{H:Heap}{e:Nat->Nat}(hb:Bears n (t e) H): ∀{l:List kg} {x:kg},x∈l->(∀y∈l,y.f=x.f->y.args=x.args->y.v=x.v)->K3 n t base l x.f x.args H=some (.ret x.v H)
 |y::l,x,hx,hu=>by
  unfold K3
  by_cases hf:y.f=x.f
  ·rw[hf,show Nat.beq x.f x.f=true from Z9 _,cond_true]
   by_cases ha:y.args=x.args
   ·rw[if_pos ⟨ha.symm,e,hb⟩,hu y (ZG ..) hf ha]
   ·rw[if_neg λh=>ha h.1.symm]
    rcases ZN.1 hx with rfl|hx
    ·exact absurd rfl ha
    ·exact I9 hb hx λz hz=>hu z (ZK _ hz)
  ·have:Nat.beq y.f x.f=false:=by rw[Yu];exact Zb hf
   rw[this]
   rcases ZN.1 hx with rfl|hx
   ·exact absurd rfl hf
   ·exact I9 hb hx λz hz=>hu z (ZK _ hz)
def Hi(t:T Obj):List (Nat×E4)->T Obj
 |[]=>t
 |x::l=>(Hi t l).set x.1 (.row x.2.row)
def Ig(σ:Mp)(ws:List (Nat×E4)):Mp:=λb=>match EB b ws with
 |some x=>some x.loc
 |none=>σ b
theorem DF(t:T Obj): ∀(l:List (Nat×E4)) (b:Nat) (o:Obj),(Hi t l).get b=some o->(∃x,(b,x)∈l∧o=.row x.row)∨t.get b=some o
 |[],_,_,h=>.inr h
 |y::l,b,o,h=>by
  have h:((Hi t l).set y.1 (.row y.2.row)).get b=some o:=h
  rw[T.get_set] at h
  by_cases e:y.1=b
  ·rw[if_pos e] at h;cases h;subst e;exact .inl ⟨y.2,ZG ..,rfl⟩
  ·rw[if_neg e] at h
   rcases DF t l b o h with⟨x,h1,h2⟩|h1
   ·exact .inl ⟨x,ZK _ h1,h2⟩
   ·exact .inr h1
theorem qg(t:T Obj): ∀(l:List (Nat×E4)) (b:Nat) (x:E4),(b,x)∈l->(l.map (·.1)).Nodup->(Hi t l).get b=some (.row x.row)
 |y::l,b,x,h,nd=>by
  show((Hi t l).set y.1 (.row y.2.row)).get b=some (.row x.row)
  rw[ZE,R3] at nd
  rw[T.get_set]
  rcases ZN.1 h with rfl|h
  ·rw[if_pos rfl]
  ·rw[if_neg (λe=>nd.1 (by rw[e];exact Tf (f:=Prod.fst) h))]
   exact qg t l b x h nd.2
theorem x6(t:T Obj): ∀(l:List (Nat×E4)) (b:Nat),(∀x,(b,x)∉l)->(Hi t l).get b=t.get b
 |[],_,_=>rfl
 |y::l,b,h=>by
  show((Hi t l).set y.1 (.row y.2.row)).get b=_
  rw[T.get_set,if_neg λe=>h y.2 (by rw[<-e];exact ZG ..)]
  exact x6 t l b λx hx=>h x (ZK _ hx)
theorem Cn{b:Nat}: ∀{l:List (Nat×E4)},(∀x,(b,x)∉l)->EB b l=none
 |[],_=>rfl
 |y::l,h=>by
  unfold EB
  rw[if_neg λe=>h y.2 (by rw[<-e];exact ZG ..)]
  exact Cn λx hx=>h x (ZK _ hx)
theorem Ww.add{σ:Mp}{H:Heap}{W:World}(hs:Ww P σ H W){n:Nat}{ws:List (Nat×E4)}(hn:H.nx<=n)(nd:(ws.map (·.1)).Nodup)(hlt: ∀b x,(b,x)∈ws->H.nx<=b∧b<n)
  (Zfk: ∀b o,H.t.get b=some o->LN o∨ ∃es,o=.cmap es)(hw: ∀b x,(b,x)∈ws->aS W (Ig σ ws) x):Ww P (Ig σ ws) ⟨n,Hi H.t ws,n⟩ W:=by
 have old: ∀b,b<H.nx->Ig σ ws b=σ b:=λb hb=>by
  unfold Ig
  rw[Cn λx hx=>by have:=(hlt b x hx).1;omega]
 have ext:Ext σ (Ig σ ws):=λb l h=>by rw[old b (hs.dom b l h)];exact h
 have wat: ∀b x,(b,x)∈ws->Ig σ ws b=some x.loc:=λb x h=>by unfold Ig;rw[Cm h nd]
 have wal: ∀b x,(b,x)∈ws-> ∃c,W.heap[x.loc.blk]? =some c∧Uo (Ig σ ws) (.row x.row) x.loc c:=by
  intro b x h1
  obtain⟨h2,h3,cs,fr,h4,h5,h6⟩:=hw b x h1
  refine⟨_,h4,cs,fr,rfl,?_⟩
  have key: ∀i,i<YF x.cells-> ∃a,x.cells[i]? =some a:=λi hi=>by
   rw[Yw] at hi
   exact⟨_,Zg hi⟩
  refine⟨h2,by omega,by rw[h2];show YF x.cells<=x.loc.tot*1;rw[Yw];omega,by rw[h2];omega,(λh=>by cases h),λi hi=>?_,λi v hi hv=>?_,(λh=>by cases h),(λh=>by cases h)⟩
  ·obtain⟨a,ha⟩:=key i hi
   obtain⟨v,h7,h8,_⟩:=h6 i a ha
   rw[E4.get_row ha]
   exact⟨v,h7,h8⟩
  ·obtain⟨a,ha⟩:=key i hi
   obtain⟨v',h7,_,h8⟩:=h6 i a ha
   rw[hv] at h7;cases h7;exact h8
 have all: ∀b o l,(Hi H.t ws).get b=some o->Ig σ ws b=some l->(∃c,W.heap[l.blk]? =some c∧Uo (Ig σ ws) o l c)∧((∃r,o=.row r∧r.own=false)∨(H.t.get b=some o∧σ b=some l∧ ∃es,o=.cmap es)):=by
  intro b o l h hl
  rcases DF H.t ws b o h with⟨x,h1,rfl⟩|h1
  ·rw[wat b x h1] at hl;cases hl
   exact⟨wal b x h1,.inl ⟨_,rfl,rfl⟩⟩
  ·have hb:=hs.low b o h1
   rw[old b hb] at hl
   obtain⟨c,h2,h3⟩:=hs.alive b o l h1 hl
   refine⟨⟨c,h2,h3.mono ext⟩,?_⟩
   rcases Zfk b o h1 with h4|h4
   ·exact .inl h4
   ·exact .inr ⟨h1,hl,h4⟩
 refine⟨λb l h=>?_,λb o h=>?_,λb o l h hl=>(all b o l h hl).1,λb b' o o' l l' h h' hl hl' e=>?_,λg hg=>?_,Zl _⟩
 ·show b<n
  unfold Ig at h
  split at h
  ·rename_i x hx;exact(hlt b x (AQ hx)).2
  ·exact ZO (hs.dom b l h) hn
 ·show b<n
  rcases DF H.t ws b o h with⟨x,h1,_⟩|h1
  ·exact(hlt b x h1).2
  ·exact ZO (hs.low b o h1) hn
 ·obtain⟨⟨c,c1,c2⟩,a1⟩:=all b o l h hl
  obtain⟨⟨c',c3,c4⟩,a2⟩:=all b' o' l' h' hl'
  rcases a1 with a1|⟨g1,g2,es,rfl⟩<;>rcases a2 with a2|⟨g3,g4,es',rfl⟩
  ·exact .inr ⟨a1,a2⟩
  ·exfalso
   obtain⟨r,rfl,_⟩:=a1
   obtain⟨_,_,rfl,_⟩:=c2
   obtain⟨_,_,_,rfl,_⟩:=c4
   rw[e,c3] at c1;cases c1
  ·exfalso
   obtain⟨r,rfl,_⟩:=a2
   obtain⟨_,_,rfl,_⟩:=c4
   obtain⟨_,_,_,rfl,_⟩:=c2
   rw[e,c3] at c1;cases c1
  ·rcases hs.inj b b' _ _ l l' g1 g3 g2 g4 e with h|⟨⟨_,h,_⟩,_⟩
   ·exact .inl h
   ·cases h
 ·obtain⟨l,h1,h2⟩:=hs.glob g hg
  exact⟨l,ext g l h1,h2⟩
end
section
variable {P:Program} {H:Type} {enc:TypeId×Value->H}
theorem vl{n:Nat}{x:AV}: ∀{l:List AV},U7 n l=true->x∈l->Xm n x=true
 |y::l,h,hx=>by
  have h:cond (Xm n y) (U7 n l) false=true:=h
  cases hy:Xm n y with
  |false=>rw[hy] at h;cases h
  |true=>
   rw[hy] at h
   rcases ZN.1 hx with rfl|hx
   ·exact hy
   ·exact vl h hx
theorem wb{n:Nat}{rs:List (Nat×Nat×List AV)}{ms:List (Nat×List RE)}(hr:(rs.all λx=>Nat.ble (Nat.succ x.1) n&&U7 n x.2.2)=true)(hm:(ms.all λx=>Nat.ble (Nat.succ x.1) n&&x.2.all λy=>Xm n y.key&&Xm n y.val)=true){b:Nat}{o:Obj}
  (h:(yl n rs ms).t.get b=some o):b<n∧ir n o∧(LN o∨ ∃es,o=.cmap es):=by
 rcases KL rs _ b o h with⟨e,l,hin,rfl⟩|h
 ·have h2:=YR.1 hr _ hin
  rw[Yj] at h2
  refine⟨Z1 h2.1,λi hi=>?_,.inl ⟨_,rfl,rfl⟩⟩
  have hi:i<l.length:=by rw[<-Yw];exact hi
  have e1:(⟨e,1,YF l,T.ofList l,.unk,0,false,false,true⟩:Row).get i=l[i]:=by
   rw[Row.get_eq]
   show((T.ofList l).get i).getD .unk=_
   rw[T.get_ofList,Zg hi];rfl
  rw[e1]
  exact vl h2.2 (Y0 hi)
 ·rcases KK ms _ b o h with⟨es,hin,rfl⟩|h
  ·have h2:=YR.1 hm _ hin
   rw[Yj] at h2
   refine⟨Z1 h2.1,λx hx=>?_,.inr ⟨es,rfl⟩⟩
   have h3:=YR.1 h2.2 x hx
   rw[Yj] at h3
   exact h3
  ·rw[T.get_leaf] at h;cases h
theorem au{σ:Mp}{H:Heap}{W:World}(hs:Ww P σ H W)(h:H.nx<=H.ro)(b:Nat): ¬Wr H b:=by
 rintro ⟨h1,o,h2,_⟩
 have:=hs.low b o h2
 omega
end
section
open Go Go.Deep
inductive Sh where
 |int (k:IntKind)
 |bool
 |str
 |sl (es:List Sh)
variable {P:Program}
def HE(P:Program)(sh:TypeId->Option (List Sh)):List Field->Nat->Option (List Sh)
 |[],_=>some []
 |f::fs,off=>match sh f.type with
  |some es=>if f.offset=off∧es.length=P.cellsOf f.type then(HE P sh fs (off+es.length)).map (es++ ·) else none
  |none=>none
def Lg(P:Program):Nat->TypeId->Option (List Sh)
 |0,_=>none
 |n+1,t=>match P.underlying t with
  |some (.int k)=>some [.int k]
  |some .bool=>some [.bool]
  |some .string=>some [.str]
  |some (.slice e)=>match Lg P n e with
   |some es=>if es.length=P.cellsOf e∧1<=es.length then some [.sl es] else none
   |none=>none
  |some (.struct fs)=>match HE P (Lg P n) fs.toList 0 with
   |some es=>if es.length=P.cellsOf t then some es else none
   |none=>none
  |some (.array m e)=>match Lg P n e with
   |some es=>if es.length=P.cellsOf e∧m*es.length=P.cellsOf t∧1<=es.length then some (List.replicate m es).flatten else none
   |none=>none
  |_=>none
inductive Q6(W:World):Sh->Value->Prop
 |int {k:IntKind} {n:Int} (h:k.min<=n∧n<=k.max):Q6 W (.int k) (.int k n)
 |bool (b:Bool):Q6 W .bool (.bool b)
 |str (s:ByteArray) (h:s.size<=maxLen):Q6 W .str (.string s)
 |nils {es:List Sh}:Q6 W (.sl es) (.slice none 0 0)
 |slice {es:List Sh} {a:Addr} {len cap:Nat} (V:Nat->Value) (h1:1<=es.length) (hl:len<=cap) (hc:cap<=maxLen) (hV: ∀i,i<cap*es.length->W.cell? (a.add i)=some (V i))
  (hok: ∀i e,i<cap*es.length->es[i % es.length]? =some e->Q6 W e (V i)):Q6 W (.sl es) (.slice (some a) len cap)
section
variable {W:World} {H:Type} {enc:TypeId×Value->H} {base:Nat}
theorem EA{sh:TypeId->Option (List Sh)}{cs:List Value}: ∀(l:List Field) (off:Nat) (es:List Sh),HE P sh l off=some es->
  (∀f∈l,∀es',sh f.type=some es'-> ∀(j:Nat) (e:Sh) (v:Value),es'[j]? =some e->((cs.drop f.offset).take (P.cellsOf f.type))[j]? =some v->Q6 W e v)->
  ∀(j:Nat) (e:Sh) (v:Value),es[j]? =some e->cs[off+j]? =some v->Q6 W e v
 |[],off,es,h,_,j,e,v,h1,_=>by cases h;simp at h1
 |f::l,off,es,h,hf,j,e,v,h1,h2=>by
  unfold HE at h
  split at h
  ·rename_i es' hs
   split at h
   ·rename_i hc
    obtain⟨es2,h3,rfl⟩:=Option.map_eq_some_iff.1 h
    by_cases hj:j<es'.length
    ·rw[Yc hj] at h1
     refine hf f (ZG ..) es' hs j e v h1 ?_
     rw[List.getElem?_take,if_pos (by omega),Xd,hc.1]
     exact h2
    ·rw[Zu (by omega)] at h1
     refine EA l _ es2 h3 (λg hg=>hf g (ZK _ hg)) (j - es'.length) e v h1 ?_
     rw[show off+es'.length+(j - es'.length)=off+j by omega]
     exact h2
   ·cases h
  ·cases h
theorem Dv{es:List Sh}(h1:1<=es.length): ∀(m j:Nat) (e:Sh),((List.replicate m es).flatten)[j]? =some e->j<m*es.length∧es[j % es.length]? =some e
 |0,j,e,h=>by simp at h
 |m+1,j,e,h=>by
  rw[TE,W8] at h
  by_cases hj:j<es.length
  ·rw[Yc hj] at h
   refine⟨by rw[Xu];omega,?_⟩
   rw[Z7 hj];exact h
  ·rw[Zu (by omega)] at h
   obtain⟨h2,h3⟩:=Dv h1 m _ e h
   refine⟨by rw[Xu];omega,?_⟩
   rw[Nat.mod_eq_sub_mod (by omega)];exact h3
theorem Lr: ∀(n:Nat) (t:TypeId) (es:List Sh) (fuel:Nat) (cs:List Value) (x:DataW H×List MemPlace),Lg P n t=some es->DataW.trod enc P W base (λ_=>true) true fuel t cs=some x->
  cs.length=es.length∧ ∀(j:Nat) (e:Sh) (v:Value),es[j]? =some e->cs[j]? =some v->Q6 W e v
 |0,t,es,fuel,cs,x,hs,h=>by cases hs
 |n+1,t,es,fuel,cs,x,hs,h=>by
  unfold Lg at hs
  split at hs
  ·rename_i k ht
   cases hs
   obtain⟨m,rfl,_,hw⟩:=DataW.trod_int ht h
   refine⟨rfl,λj e v h1 h2=>?_⟩
   cases j with
   |zero=>
    cases h1;cases h2
    unfold Lit.wf at hw
    rw[Yj] at hw
    exact .int ⟨Zo hw.1,Zo hw.2⟩
   |succ j=>simp at h1
  ·rename_i ht
   cases hs
   obtain⟨b,rfl,_⟩:=DataW.trod_bool ht h
   refine⟨rfl,λj e v h1 h2=>?_⟩
   cases j with
   |zero=>cases h1;cases h2;exact .bool b
   |succ j=>simp at h1
  ·rename_i ht
   cases hs
   obtain⟨s,rfl,_,hw⟩:=DataW.trod_string ht h
   refine⟨rfl,λj e v h1 h2=>?_⟩
   cases j with
   |zero=>cases h1;cases h2;exact .str s hw
   |succ j=>simp at h1
  ·rename_i te ht
   split at hs
   ·rename_i es' he
    split at hs
    ·rename_i hc
     cases hs
     have key: ∀v,cs=[v]->Q6 W (.sl es') v->cs.length=[Sh.sl es'].length∧ ∀(j:Nat) (e:Sh) (v:Value),[Sh.sl es'][j]? =some e->cs[j]? =some v->Q6 W e v:=by
      rintro v rfl hv
      refine⟨rfl,λj e u h1 h2=>?_⟩
      cases j with
      |zero=>cases h1;cases h2;exact hv
      |succ j=>simp at h1
     rcases open_slice ht h with⟨e1,_⟩|⟨a,len,cap,m,k,D,Pl,e1,_,hl,hcap,hm,_,hV⟩
     ·exact key _ e1 .nils
     ·have hm:m=cap:=by rw[hm];exact if_pos rfl
      subst hm
      have hcell: ∀i,i<m*es'.length-> ∃v,W.cell? (a.add i)=some v∧ ∀e,es'[i % es'.length]? =some e->Q6 W e v:=by
       intro i hi
       have hq:i/es'.length<m:=SP (by rw[W2];exact hi)
       obtain⟨cs',h1,h2⟩:=hV (i/es'.length) hq
       rw[<-hc.1] at h1
       obtain⟨_,hlen,hcc⟩:=World.cells?_some h1
       obtain⟨_,h4⟩:=Lr n te es' k cs' _ he h2
       have hr:i % es'.length<es'.length:=Vl _ (by omega)
       have g:=hcc (i % es'.length) hr
       rw[add_add,show i/es'.length*es'.length+i % es'.length=i by rw[W2];exact TH i es'.length] at g
       rw[Zg (by omega)] at g
       exact⟨_,g,λe h5=>h4 _ e _ h5 (Zg (by omega))⟩
      obtain⟨V,hV'⟩:=choose_lt (α:=Value) hcell
      exact key _ e1 (.slice V hc.2 hl hcap (λi hi=>(hV' i hi).1) λi e hi h5=>(hV' i hi).2 e h5)
    ·cases hs
   ·cases hs
  ·rename_i fs ht
   split at hs
   ·rename_i es' he
    split at hs
    ·rename_i hc
     cases hs
     obtain⟨xs,m,_,_,hlen,hxl,hx⟩:=DataW.trod_struct ht h
     refine⟨by rw[hlen,hc],λj e v h1 h2=>?_⟩
     refine EA (P:=P) (cs:=cs) fs.toList 0 es he (λf hf es2 h3=>?_) j e v h1 (by rw[Zs];exact h2)
     obtain⟨i,hi⟩:=List.getElem?_of_mem hf
     rw[Yd] at hi
     have hlt:i<xs.length:=by rw[hxl];exact(ZT.1 hi).1
     have h4:=hx i f hi
     rw[Zg hlt] at h4
     exact(Lr n f.type es2 m _ _ h3 h4).2
    ·cases hs
   ·cases hs
  ·rename_i m te ht
   split at hs
   ·rename_i es' he
    split at hs
    ·rename_i hc
     cases hs
     obtain⟨xs,q,_,_,hlen,hxl,hx⟩:=DataW.trod_array ht h
     refine⟨by rw[hlen,<-hc.2.1];simp,λj e v h1 h2=>?_⟩
     obtain⟨h3,h4⟩:=Dv hc.2.2 m j e h1
     have hq:j/es'.length<m:=SP (by rw[W2];exact h3)
     have hr:j % es'.length<es'.length:=Vl _ (by omega)
     have h5:=hx _ hq
     rw[Zg (by omega)] at h5
     refine(Lr n te es' q _ _ he h5).2 (j % es'.length) e v h4 ?_
     rw[List.getElem?_take,if_pos (by omega),Xd,<-hc.1,show j/es'.length*es'.length+j % es'.length=j by rw[W2];exact TH j es'.length]
     exact h2
    ·cases hs
   ·cases hs
  ·cases hs
end
inductive Told(G:Heap):Sh->AV->Prop
 |int {k:IntKind} {n:Int} (h:k.min<=n∧n<=k.max):Told G (.int k) (.int k n)
 |bool (b:Bool):Told G .bool (.bool b)
 |str (s:List UInt8) (h:s.length<=maxLen):Told G .str (.str s)
 |nils {es:List Sh}:Told G (.sl es) .nils
 |slice0 {es:List Sh}:Told G (.sl es) .slice0
 |slice {es:List Sh} {b len cap:Nat} {r:Row} (h1:1<=es.length) (hl:len<=cap) (h0:1<=cap) (hc:cap<=maxLen) (hb:b<G.nx) (hr:G.t.get b=some (.row r)) (hs:cap*es.length<=r.size) (ho:r.own=false) (hz:r.sz=1)
  (hok: ∀i e,i<cap*es.length->es[i % es.length]? =some e->Told G e (r.get i)):Told G (.sl es) (.slice b 0 len (some cap))
theorem Told.keep{G G':Heap}{e:Sh}{a:AV}(h:Told G e a)(hn:G.nx<=G'.nx)(hk: ∀c r,c<G.nx->G.t.get c=some (.row r)->r.own=false->G'.t.get c=some (.row r)):Told G' e a:=by
 induction h with
 |int h=>exact .int h
 |bool b=>exact .bool b
 |str s h=>exact .str s h
 |nils=>exact .nils
 |slice0=>exact .slice0
 |slice h1 hl h0 hc hb hr hs ho hz _ ih=>exact .slice h1 hl h0 hc (ZO hb hn) (hk _ _ hb hr ho) hs ho hz ih
structure LQ(W:World)(es:List Sh)(vs:List Value)(n0:Nat)(as:List AV)(ws:List (Nat×E4))(n1:Nat):Prop where
 le:n0<=n1
 ids: ∀b x,(b,x)∈ws->n0<=b∧b<n1
 nd:(ws.map (·.1)).Nodup
 win: ∀σ:Mp,(∀b x,(b,x)∈ws->σ b=some x.loc)-> ∀b x,(b,x)∈ws->aS W σ x
 rel: ∀σ:Mp,(∀b x,(b,x)∈ws->σ b=some x.loc)->YO σ as vs
 told: ∀G:Heap,(∀b x,(b,x)∈ws->G.t.get b=some (.row x.row)∧b<G.nx)-> ∀(j:Nat) e a,es[j]? =some e->as[j]? =some a->Told G e a
 one: ∀a∈as,a.cells=[a]
 onev: ∀v∈vs,v.oneCell'=true
theorem LQ.nil{W:World}{n0:Nat}:LQ W [] [] n0 [] [] n0 where
 le:=Zl _
 ids:=λ_ _ h=>by cases h
 nd:=List.nodup_nil
 win:=λ_ _ _ _ h=>by cases h
 rel:=λ_ _=>Ul
 told:=λ_ _ j e a h=>by simp at h
 one:=λ_ h=>by cases h
 onev:=λ_ h=>by cases h
theorem LQ.cons{W:World}{e:Sh}{es:List Sh}{v:Value}{vs:List Value}{n0 n1 n2:Nat}{a:AV}{as:List AV}{ws ws':List (Nat×E4)}(h:LQ W [e] [v] n0 [a] ws n1)(h':LQ W es vs n1 as ws' n2):
  LQ W (e::es) (v::vs) n0 (a::as) (ws++ws') n2:=by
 refine⟨Zn h.le h'.le,λb x hx=>?_,?_,λσ hσ b x hx=>?_,λσ hσ=>?_,λG hG j u w h1 h2=>?_,λu hu=>?_,λu hu=>?_⟩
 ·rcases Zy.1 hx with hx|hx
  ·have:=h.ids b x hx;have:=h'.le;omega
  ·have:=h'.ids b x hx;have:=h.le;omega
 ·rw[Xe,List.nodup_append]
  refine⟨h.nd,h'.nd,λb hb c hc hbc=>?_⟩
  subst hbc
  obtain⟨⟨b1,x1⟩,m1,rfl⟩:=YC.1 hb
  obtain⟨⟨b2,x2⟩,m2,e2⟩:=YC.1 hc
  have:=h.ids _ _ m1
  have:=h'.ids _ _ m2
  simp only at e2
  omega
 ·rcases Zy.1 hx with hx|hx
  ·exact h.win σ (λc y hy=>hσ c y (Zy.2 (.inl hy))) b x hx
  ·exact h'.win σ (λc y hy=>hσ c y (Zy.2 (.inr hy))) b x hx
 ·have r1:=h.rel σ λc y hy=>hσ c y (Zy.2 (.inl hy))
  have r2:=h'.rel σ λc y hy=>hσ c y (Zy.2 (.inr hy))
  obtain⟨_,_,r3,_,r4⟩:=r1.cons_inv
  rw[(List.cons.inj r4).1]
  exact WD r3 r2
 ·cases j with
  |zero=>cases h1;cases h2;exact h.told G (λc y hy=>hG c y (Zy.2 (.inl hy))) 0 e a rfl rfl
  |succ j=>exact h'.told G (λc y hy=>hG c y (Zy.2 (.inr hy))) j u w (by simpa using h1) (by simpa using h2)
 ·rcases ZN.1 hu with rfl|hu
  ·exact h.one _ (ZG ..)
  ·exact h'.one u hu
 ·rcases ZN.1 hu with rfl|hu
  ·exact h.onev _ (ZG ..)
  ·exact h'.onev u hu
theorem DK{W:World}: ∀(vs:List Value) (es:List Sh),vs.length=es.length->(∀(j:Nat) e v,es[j]? =some e->vs[j]? =some v-> ∀n0,∃a ws n1,LQ W [e] [v] n0 [a] ws n1)-> ∀n0,∃as ws n1,LQ W es vs n0 as ws n1∧as.length=es.length
 |[],[],_,_,n0=>⟨[],[],n0,LQ.nil,rfl⟩
 |[],_::_,h,_,_=>by simp at h
 |_::_,[],h,_,_=>by simp at h
 |v::vs,e::es,hl,h,n0=>by
  obtain⟨a,ws,n1,h1⟩:=h 0 e v rfl rfl n0
  obtain⟨as,ws',n2,h2,h3⟩:=DK vs es (by simpa using hl) (λj e v h1 h2=>h (j+1) e v (by simpa using h1) (by simpa using h2)) n1
  exact⟨_,_,_,h1.cons h2,by simp[h3]⟩
theorem OD{W:World}{e:Sh}{v:Value}{a:AV}(hr: ∀σ,Yt σ a v)(ht: ∀G,Told G e a)(h1:a.cells=[a])(h2:v.oneCell'=true)(n0:Nat): ∃a ws n1,LQ W [e] [v] n0 [a] ws n1:=
 ⟨a,[],n0,{
  le:=Zl _
  ids:=λ_ _ h=>by cases h
  nd:=List.nodup_nil
  win:=λ_ _ _ _ h=>by cases h
  rel:=λσ _=>TQ (hr σ)
  told:=λG _ j u w h1 h2=>by
   cases j with
   |zero=>cases h1;cases h2;exact ht G
   |succ j=>simp at h1
  one:=λu hu=>by rw[YP.1 hu];exact h1
  onev:=λu hu=>by rw[YP.1 hu];exact h2}⟩
theorem oj{W:World}{e:Sh}{v:Value}(h:Q6 W e v): ∀n0,∃a ws n1,LQ W [e] [v] n0 [a] ws n1:=by
 induction h with
 | @int k n h=>exact OD (a:=.int k n) (λσ=>by simp[Yt]) (λG=>.int h) rfl rfl
 |bool b=>exact OD (a:=.bool b) (λσ=>by simp[Yt]) (λG=>.bool b) rfl rfl
 |str s h=>exact OD (a:=.str s.data.toList) (λσ=>by simp only[Yt]) (λG=>.str _ (by simpa using h)) rfl rfl
 |nils=>exact OD (a:=.nils) (λσ=>by simp[Yt]) (λG=>.nils) rfl rfl
 | @slice es a len cap V h1 hl hc hV hok ih=>
  by_cases h0:cap=0
  ·subst h0
   have:len=0:=by omega
   subst this
   exact OD (a:=.slice0) (λσ=>by simp[Yt]) (λG=>.slice0) rfl rfl
  ·intro n0
   have hpos:0<cap*es.length:=Nat.mul_pos (by omega) (by omega)
   have hVl:((List.range (cap*es.length)).map V).length=((List.replicate cap es).flatten).length:=by simp
   obtain⟨as,ws,n1,hA,hAl⟩:=DK (W:=W) ((List.range (cap*es.length)).map V) ((List.replicate cap es).flatten) hVl (λj e v h2 h3=>by
    obtain⟨h4,h5⟩:=Dv h1 cap j e h2
    rw[Yh,Wm h4] at h3
    cases h3
    exact ih j e h4 h5) (n0+1)
   have hAl:as.length=cap*es.length:=by rw[hAl];simp
   obtain⟨ab,ao,asp⟩:=a
   obtain⟨cs,el,fr,hcs,hsp⟩: ∃cs el fr,W.heap[ab]? =some (.cells cs el fr)∧asp=none:=by
    have g:=hV 0 hpos
    unfold Addr.add World.cell? at g
    simp only[if_true] at g
    split at g
    ·rename_i c e2 f e1
     cases asp with
     |none=>exact⟨c,e2,f,e1,rfl⟩
     |some x=>simp at g
    ·cases g
   subst hsp
   have hget: ∀i,i<cap*es.length->cs[ao+i]? =some (V i):=λi hi=>by
    have g:=hV i hi
    have ea:Addr.add ⟨ab,ao,none⟩ i=⟨ab,ao+i,none⟩:=by
     unfold Addr.add
     split
     ·rename_i h0;subst h0;rfl
     ·rfl
    rw[ea] at g
    unfold World.cell? at g
    rw[hcs] at g
    exact g
   have hsz:ao+cap*es.length<=cs.size:=by
    have g:=hget (cap*es.length - 1) (by omega)
    have:=(ZT.1 g).1
    omega
   refine⟨.slice n0 0 len (some cap),(n0,⟨⟨ab,ao,cap*es.length,1⟩,el,as⟩)::ws,n1,?_⟩
   have hle:=hA.le
   refine⟨by omega,λb x hx=>?_,?_,λσ hσ b x hx=>?_,λσ hσ=>?_,λG hG j u w h2 h3=>?_,λu hu=>?_,λu hu=>?_⟩
   ·rcases ZN.1 hx with hx|hx
    ·cases hx;omega
    ·have:=hA.ids b x hx;omega
   ·rw[ZE,R3]
    refine⟨λhm=>?_,hA.nd⟩
    obtain⟨⟨b1,x1⟩,m1,e1⟩:=YC.1 hm
    have:=hA.ids _ _ m1
    simp only at e1
    omega
   ·have hσ': ∀c y,(c,y)∈ws->σ c=some y.loc:=λc y hy=>hσ c y (ZK _ hy)
    rcases ZN.1 hx with hx|hx
    ·cases hx
     refine⟨rfl,by show as.length<=cap*es.length;omega,cs,fr,hcs,hsz,λi c hc'=>?_⟩
     have hi:i<cap*es.length:=by rw[<-hAl];exact(Xh.1 hc').1
     obtain⟨v,h4,h5⟩:=YO.get (hA.rel σ hσ') hc'
     rw[Yh,Wm hi] at h4
     cases h4
     refine⟨V i,hget i hi,h5,hA.onev _ (YC.2 ⟨i,Ug.2 hi,rfl⟩)⟩
    ·exact hA.win σ hσ' b x hx
   ·refine TQ ?_
    simp only[Yt]
    exact⟨_,hσ _ _ (ZG ..),rfl⟩
   ·cases j with
    |succ j=>simp at h2
    |zero=>
     cases h2;cases h3
     have hG': ∀c y,(c,y)∈ws->G.t.get c=some (.row y.row)∧c<G.nx:=λc y hy=>hG c y (ZK _ hy)
     obtain⟨g1,g2⟩:=hG _ _ (ZG ..)
     refine .slice h1 hl (by omega) hc g2 g1 (by show cap*es.length<=YF as;rw[Yw,hAl];exact Zl _) rfl rfl λi e hi he=>?_
     have e1:as[i]? =some (as[i]'(by omega)):=Zg (by omega)
     rw[E4.get_row e1]
     refine hA.told G hG' i e _ ?_ e1
     have hq:((List.replicate cap es).flatten)[i]? =some (((List.replicate cap es).flatten)[i]'(by rw[<-hVl];simpa using hi)):=Zg _
     have:=(Dv h1 cap i _ hq).2
     rw[this] at he
     rw[hq,he]
   ·rw[YP.1 hu];rfl
   ·rw[YP.1 hu];rfl
theorem oa{W:World}{H:Type}{enc:TypeId×Value->H}{t:TypeId}{n:Nat}{es:List Sh}{v:Value}{d:DataW H}{p:List MemPlace}(hs:Lg P n t=some es)(h:DataW.Trod enc P W 0 (λ_=>true) true t v d p)(n0:Nat):
  ∃as ws n1,LQ W es v.cells.toList n0 as ws n1∧as.length=es.length:=by
 obtain⟨fuel,h⟩:=h
 obtain⟨h1,h2⟩:=Lr n t es fuel _ _ hs h
 exact DK _ _ h1 (λj e u h3 h4=>oj (h2 j e u h3 h4)) n0
end
section
variable {P:Program}
theorem eR{W:World}{r:Reach}{base:Nat}{t:TypeId}{v:Value}{fs:Array Field}(ht:P.underlying t=some (.struct fs))(hok:Value.okWide P W r base t v): ∃cs,v=.agg cs:=by
 unfold Value.okWide at hok
 rw[ht] at hok
 obtain⟨cs,h,_⟩:=hok
 exact⟨cs,h⟩
theorem fa{σ:Mp}{as:List AV}{cs:Array Value}(h:YO σ as cs.toList)(h1: ∀x∈cs.toList,x.oneCell'=true):Yt σ (.agg as) (.agg cs):=by
 simp only[Yt]
 exact⟨cs.toList,h,h1,by cases cs;rfl⟩
theorem uS{σ:Mp}{n n1:Nat}{t:T Obj}{W:World}(hs:Ww P σ ⟨n,t,n⟩ W){es:List Sh}{vs:List Value}{as:List AV}{ws:List (Nat×E4)}(hp: ∀b o,t.get b=some o->b<n∧(LN o∨ ∃es,o=.cmap es))(hA:LQ W es vs n as ws n1):
  Ww P (Ig σ ws) ⟨n1,Hi t ws,n1⟩ W∧Bears n t ⟨n1,Hi t ws,n1⟩∧YO (Ig σ ws) as vs∧ ∀(j:Nat) e a,es[j]? =some e->as[j]? =some a->Told ⟨n1,Hi t ws,n1⟩ e a:=by
 have at_: ∀b x,(b,x)∈ws->Ig σ ws b=some x.loc:=λb x h=>by unfold Ig;rw[Cm h hA.nd]
 refine⟨hs.add (show n<=n1 from hA.le) hA.nd (λb x h=>hA.ids b x h) (λb o h=>(hp b o h).2) (hA.win _ at_),⟨hA.le,λb o h=>?_⟩,hA.rel _ at_,hA.told _ λb x h=>⟨qg _ _ b x h hA.nd,(hA.ids b x h).2⟩⟩
 show(Hi t ws).get b=_
 rw[x6 _ _ b λx hx=>by have:=hA.ids b x hx;have:=(hp b o h).1;omega];exact h
theorem LQ.app{W:World}{es es':List Sh}{vs vs':List Value}{n0 n1 n2:Nat}{as as':List AV}{ws ws':List (Nat×E4)}(h:LQ W es vs n0 as ws n1)(hl:as.length=es.length)(h':LQ W es' vs' n1 as' ws' n2):
  LQ W (es++es') (vs++vs') n0 (as++as') (ws++ws') n2:=by
 refine⟨Zn h.le h'.le,λb x hx=>?_,?_,λσ hσ b x hx=>?_,λσ hσ=>?_,λG hG j u w h1 h2=>?_,λu hu=>?_,λu hu=>?_⟩
 ·rcases Zy.1 hx with hx|hx
  ·have:=h.ids b x hx;have:=h'.le;omega
  ·have:=h'.ids b x hx;have:=h.le;omega
 ·rw[Xe,List.nodup_append]
  refine⟨h.nd,h'.nd,λb hb c hc hbc=>?_⟩
  subst hbc
  obtain⟨⟨b1,x1⟩,m1,rfl⟩:=YC.1 hb
  obtain⟨⟨b2,x2⟩,m2,e2⟩:=YC.1 hc
  have:=h.ids _ _ m1
  have:=h'.ids _ _ m2
  simp only at e2
  omega
 ·rcases Zy.1 hx with hx|hx
  ·exact h.win σ (λc y hy=>hσ c y (Zy.2 (.inl hy))) b x hx
  ·exact h'.win σ (λc y hy=>hσ c y (Zy.2 (.inr hy))) b x hx
 ·have r1:=h.rel σ λc y hy=>hσ c y (Zy.2 (.inl hy))
  have r2:=h'.rel σ λc y hy=>hσ c y (Zy.2 (.inr hy))
  clear h h' hl
  induction as generalizing vs with
  |nil=>obtain rfl:=r1.nil_inv;exact r2
  |cons a as ih=>
   obtain⟨v,vs2,r3,r4,rfl⟩:=r1.cons_inv
   exact WD r3 (ih r4)
 ·by_cases hj:j<es.length
  ·rw[Yc hj] at h1
   rw[Yc (by omega)] at h2
   exact h.told G (λc y hy=>hG c y (Zy.2 (.inl hy))) j u w h1 h2
  ·rw[Zu (by omega)] at h1
   rw[Zu (by omega),hl] at h2
   exact h'.told G (λc y hy=>hG c y (Zy.2 (.inr hy))) _ u w h1 h2
 ·rcases Zy.1 hu with hu|hu
  ·exact h.one _ hu
  ·exact h'.one u hu
 ·rcases Zy.1 hu with hu|hu
  ·exact h.onev _ hu
  ·exact h'.onev u hu
end
end
end Go.AI
