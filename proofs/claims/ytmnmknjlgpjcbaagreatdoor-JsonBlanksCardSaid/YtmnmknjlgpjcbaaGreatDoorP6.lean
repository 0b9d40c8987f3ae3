/- Evaluated calls may be looked up; rows that are told; memory that is kept: proved for told worlds. -/
import Derived.Test.YtmnmknjlgpjcbaaGreatDoorP5
import Derived.WideShapes
import Derived.WideKeyElems2
import Derived.WideKeyArgs
import Derived.OpenShut
import Derived.ProofKit
import Derived.ChangeShapes
set_option maxRecDepth 1000000
set_option maxHeartbeats 0
set_option linter.unusedVariables false
set_option linter.unusedSimpArgs false
namespace Go.AI
open Go
noncomputable section
section
variable {P:Program}
noncomputable def xR(e:Nat)(l:List AV):Obj:=.row ⟨e,1,YH l,T.ofList l,.unk,0,false,false,false⟩
noncomputable def jO(e:Nat->Nat):List (Nat×List AV)->T Obj->T Obj
 |[],t=>t
 |(g,l)::gs,t=>jO e gs (t.set g (xR (e g) l))
noncomputable def ZfP(H:Zc)(gs:List (Nat×List AV)):Bool:=List.rec true (λx _ ih=>cond (match H.t.get x.1 with|some (.row r)=>cond (Nat.beq r.sz 1) (cond (Nat.ble (YH x.2) r.size) (Sg (loadN r 0 (YH x.2)) x.2) false) false|_=>false) ih false) gs
noncomputable def Zel(v:AV)(r:CR):Bool:=match r with|.ret u _=>same u v|_=>false
theorem uU(e:Nat->Nat): ∀(gs:List (Nat×List AV)) (t:T Obj) (b:Nat) (o:Obj),(jO e gs t).get b=some o->(∃l,(b,l)∈gs∧o=xR (e b) l)∨t.get b=some o
 |[],t,b,o,h=>.inr h
 |(g,l)::gs,t,b,o,h=>by
  rcases uU e gs _ b o h with⟨l2,h1,h2⟩|h1
  ·exact .inl ⟨l2,ZI _ h1,h2⟩
  ·rw[T.get_set] at h1
   by_cases e3:g=b
   ·rw[if_pos e3] at h1;cases h1;subst e3;exact .inl ⟨l,Zx ..,rfl⟩
   ·rw[if_neg e3] at h1;exact .inr h1
theorem vS{H:Zc}: ∀{gs:List (Nat×List AV)},ZfP H gs=true-> ∀x∈gs,∃r,H.t.get x.1=some (.row r)∧r.sz=1∧YH x.2<=r.size∧loadN r 0 (YH x.2)=x.2
 |[],_,x,hx=>by cases hx
 |y::gs,h,x,hx=>by
  obtain⟨h1,h2⟩:=ZU (a:=match H.t.get y.1 with|some (.row r)=>cond (Nat.beq r.sz 1) (cond (Nat.ble (YH y.2) r.size) (Sg (loadN r 0 (YH y.2)) y.2) false) false|_=>false) (b:=ZfP H gs) h
  rcases Ya.1 hx with rfl|hx
  ·cases hg:H.t.get x.1 with
   |none=>rw[hg] at h1;cases h1
   |some o=>
    rw[hg] at h1
    cases o with
    |row r=>
     obtain⟨h3,h4⟩:=ZU h1
     obtain⟨h4,h5⟩:=ZU h4
     exact⟨r,rfl,ZT h3,ZN h4,Nd _ _ h5⟩
    |_=>cases h1
  ·exact vS h2 x hx
end
inductive LO where
 |row (elem sz:Nat) (l:List AV) (fz:Nat) (sm own exact:Bool)
 |map (es:List RH) (clock:Nat)
 |cmap (es:List RH)
def LO.obj:LO->Obj
 |.row e sz l fz sm own exact=>.row ⟨e,sz,YH l,T.ofList l,.unk,fz,sm,own,exact⟩
 |.map es c=>.map es c
 |.cmap es=>.cmap es
def ma(a b:AV):Bool:=match a with|.unk=>(match b with|.unk=>true|_=>false)|a=>same a b
def wA:List AV->List AV->Bool
 |[],[]=>true
 |a::as,b::bs=>cond (ma a b) (wA as bs) false
 |_,_=>false
def n9(a b:Bool):Bool:=cond a b (cond b false true)
def tu:List RH->List RH->Bool
 |[],[]=>true
 |a::as,b::bs=>cond (Nat.beq a.born b.born) (cond (same a.key b.key) (cond (same a.val b.val) (tu as bs) false) false) false
 |_,_=>false
def isO(o:Obj)(x:LO):Bool:=match o,x with
 |.row r,.row e sz l fz sm own exact=>cond (Nat.beq r.elem e) (cond (Nat.beq r.sz sz) (cond (Nat.beq r.size (YH l)) (cond (Nat.beq r.fz fz) (cond (n9 r.sm sm) (cond (n9 r.own own) (cond (n9 r.exact exact)
   (wA (loadN r 0 r.size) l) false) false) false) false) false) false) false
 |.map es c,.map fs d=>cond (Nat.beq c d) (tu es fs) false
 |.cmap es,.cmap fs=>tu es fs
 |_,_=>false
theorem af{a b:AV}(h:ma a b=true):a=b:=by
 unfold ma at h
 split at h
 ·split at h
  ·rfl
  ·cases h
 ·exact NA _ _ h
theorem yj: ∀{a b:List AV},wA a b=true->a=b
 |[],[],_=>rfl
 |[],_::_,h=>by cases h
 |_::_,[],h=>by cases h
 |a::as,b::bs,h=>by
  obtain⟨h1,h2⟩:=ZU (a:=ma a b) (b:=wA as bs) h
  rw[af h1,yj h2]
theorem Bd{a b:Bool}(h:n9 a b=true):a=b:=by
 cases a<;>cases b<;>first|rfl|cases h
theorem Be: ∀{a b:List RH},tu a b=true->a=b
 |[],[],_=>rfl
 |[],_::_,h=>by cases h
 |_::_,[],h=>by cases h
 |a::as,b::bs,h=>by
  obtain⟨h1,h2⟩:=ZU (a:=Nat.beq a.born b.born) (b:=cond (same a.key b.key) (cond (same a.val b.val) (tu as bs) false) false) h
  obtain⟨h2,h3⟩:=ZU h2
  obtain⟨h3,h4⟩:=ZU h3
  have e1:=ZT h1
  have e2:=NA _ _ h2
  have e3:=NA _ _ h3
  rw[Be h4]
  cases a;cases b
  simp only at e1 e2 e3
  rw[e1,e2,e3]
structure oi(o p:Obj):Prop where
 to: ∀σ l c,Uz σ o l c->Uz σ p l c
 of: ∀σ l c,Uz σ p l c->Uz σ o l c
 wr:wrO o=wrO p
 soft:LF o↔LF p
theorem HN{σ:Mp}{r q:Row}{l:Loc}{cs:Array Value}{fr:Nat×Nat}(h1:r.sz=q.sz)(h2:r.size=q.size)(h3:r.fz=q.fz)(h4:r.sm=q.sm)(h5:r.own=q.own)(h6:r.exact=q.exact)
  (h7: ∀i,i<r.size->r.get i=q.get i)(h:R9 σ r l cs fr):R9 σ q l cs fr:=by
 refine⟨h.sz.trans h1,h.sz1,by rw[<-h2];exact h.fits,h.room,?_,?_,by rw[<-h2];exact h.one,?_,?_⟩
 ·rw[<-h6,<-h2];exact h.exact
 ·intro i hi
  rw[<-h2] at hi
  rw[<-h7 i hi];exact h.cell i hi
 ·rw[<-h5,<-h3];exact h.frz
 ·rw[<-h5,<-h4,<-h3];exact h.frs
theorem zE{o:Obj}{x:LO}(h:isO o x=true):oi o x.obj:=by
 unfold isO at h
 split at h
 ·rename_i r e sz l fz sm own exact
  obtain⟨a1,h⟩:=ZU h
  obtain⟨a2,h⟩:=ZU h
  obtain⟨a3,h⟩:=ZU h
  obtain⟨a4,h⟩:=ZU h
  obtain⟨a5,h⟩:=ZU h
  obtain⟨a6,h⟩:=ZU h
  obtain⟨a7,h⟩:=ZU h
  have a1:=ZT a1
  have a2:=ZT a2
  have a3:=ZT a3
  have a4:=ZT a4
  have a5:=Bd a5
  have a6:=Bd a6
  have a7:=Bd a7
  have a8:=yj h
  have Lz: ∀i,i<r.size->r.get i=(⟨e,sz,YH l,T.ofList l,.unk,fz,sm,own,exact⟩:Row).get i:=by
   intro i hi
   have g1:=SJ r r.size 0 i hi
   rw[a8,Zt] at g1
   rw[Row.get_eq ⟨e,sz,YH l,T.ofList l,.unk,fz,sm,own,exact⟩]
   show _=((T.ofList l).get i).getD .unk
   rw[T.get_ofList,g1]
   rfl
  refine⟨λσ l' c hr=>?_,λσ l' c hr=>?_,?_,λ⟨r',e',h'⟩=>by cases e';exact⟨_,rfl,a6.symm.trans h'⟩,λ⟨r',e',h'⟩=>by cases e';exact⟨_,rfl,a6.trans h'⟩⟩
  ·obtain⟨cs,fr,rfl,hr⟩:=hr
   exact⟨cs,fr,by rw[a1],HN a2 a3 a4 a5 a6 a7 Lz hr⟩
  ·obtain⟨cs,fr,rfl,hr⟩:=hr
   exact⟨cs,fr,by rw[a1],HN a2.symm a3.symm a4.symm a5.symm a6.symm a7.symm (λi hi=>(Lz i (by rw[a3];exact hi)).symm) hr⟩
  ·show r.own=own
   exact a6
 ·rename_i es c fs d
  obtain⟨a1,a2⟩:=ZU h
  have a1:=ZT a1
  have a2:=Be a2
  subst a1;subst a2
  exact⟨λ_ _ _ h=>h,λ_ _ _ h=>h,rfl,Iff.rfl⟩
 ·rename_i es fs
  have a2:=Be h
  subst a2
  exact⟨λ_ _ _ h=>h,λ_ _ _ h=>h,rfl,Iff.rfl⟩
 ·cases h
structure CE where
 args:List AV
 nx:Nat
 ro:Nat
 pre:List (Nat×LO)
 v:AV
 nx2:Nat
 post:List (Nat×LO)
 dead:List Nat
def C2:List (Nat×LO)->T Obj->T Obj
 |[],t=>t
 |x::l,t=>(C2 l t).set x.1 x.2.obj
def Ab:List Nat->T Obj->T Obj
 |[],t=>t
 |b::l,t=>(Ab l t).del b
def UG(b:Nat):List (Nat×LO)->Option LO
 |[]=>none
 |x::l=>cond (Nat.beq x.1 b) (some x.2) (UG b l)
def Kt(b:Nat):List Nat->Bool
 |[]=>false
 |x::l=>cond (Nat.beq x b) true (Kt b l)
def CE.heap(x:CE)(gs:List (Nat×List AV))(e:Nat->Nat):Zc:=⟨x.nx,C2 x.pre (jO e gs .leaf),x.ro⟩
def CE.after(x:CE)(H:Zc):Zc:=⟨x.nx2,C2 x.post (Ab x.dead H.t),H.ro⟩
def rz(H:Zc)(b:Nat)(o:LO):Bool:=match H.t.get b with|some p=>isO p o|none=>false
def xu(H:Zc)(l:List (Nat×LO)):Bool:=List.rec true (λx _ ih=>cond (rz H x.1 x.2) ih false) l
def xY(H:Zc)(l:List Nat):Bool:=List.rec true (λb _ ih=>cond (match H.t.get b with|none=>true|_=>false) ih false) l
def xG(H:Zc)(x:CE)(l:List (Nat×LO)):Bool:=List.rec true (λy _ ih=>cond (cond (Kt y.1 x.dead) true (match UG y.1 x.post with|some _=>true|none=>rz H y.1 y.2)) ih false) l
def CE.out(x:CE)(r:CR):Bool:=match r with
 |.ret v H=>cond (same v x.v) (cond (Nat.beq H.nx x.nx2) (cond (xu H x.post) (cond (xG H x x.pre) (xY H x.dead) false) false) false) false
 |_=>false
def xW(x:CE)(l:List (Nat×LO)):Bool:=List.rec true (λy _ ih=>cond (Nat.ble x.ro y.1) (cond (Kt y.1 x.dead) false
 (cond (match UG y.1 x.pre with|some p=>cond (isO p.obj y.2) false true|none=>cond (Nat.ble x.nx y.1) (wrO y.2.obj) false) ih false)) false) l
def xc(x:CE)(l:List Nat):Bool:=List.rec true (λb _ ih=>cond (Nat.ble x.ro b) (match UG b x.pre with|some _=>ih|none=>false) false) l
def xr(l:List (Nat×LO)):Bool:=List.rec true (λy _ ih=>cond (wrO y.2.obj) ih false) l
def CE.wf(x:CE):Bool:=cond (xW x x.post) (cond (xc x x.dead) (xr x.pre) false) false
def CE.is(x:CE)(gs:List (Nat×List AV))(args:List AV)(H:Zc):Bool:=cond (Nat.beq H.nx x.nx) (cond (Nat.beq H.ro x.ro) (cond (Sg args x.args) (cond (ZfP H gs) (xu H x.pre) false) false) false) false
def fM(gs:List (Nat×List AV))(args:List AV)(H:Zc)(l:List CE):Option CR:=List.rec none (λx _ ih=>cond (x.is gs args H) (some (.ret x.v (x.after H))) ih) l
theorem Pc(e:Nat->Nat)(gs:List (Nat×List AV)): ∀(l:List (Nat×LO)) (t:T Obj) (b:Nat),(C2 l t).get b=match UG b l with|some o=>some o.obj|none=>t.get b
 |[],t,b=>rfl
 |x::l,t,b=>by
  show((C2 l t).set x.1 x.2.obj).get b=match cond (Nat.beq x.1 b) (some x.2) (UG b l) with|some o=>some o.obj|none=>t.get b
  rw[T.get_set,Ym]
  by_cases h:x.1=b
  ·rw[if_pos h,Ze h];rfl
  ·rw[if_neg h,Za h];exact Pc e gs l t b
theorem Hf: ∀(l:List Nat) (t:T Obj) (b:Nat),(Ab l t).get b=cond (Kt b l) none (t.get b)
 |[],t,b=>rfl
 |x::l,t,b=>by
  show((Ab l t).del x).get b=cond (cond (Nat.beq x b) true (Kt b l)) none (t.get b)
  rw[T.get_del,Ym]
  by_cases h:x=b
  ·rw[if_pos h,Ze h];rfl
  ·rw[if_neg h,Za h];exact Hf l t b
theorem Tv{b:Nat}{o:LO}: ∀{l:List (Nat×LO)},UG b l=some o->(b,o)∈l
 |[],h=>by cases h
 |x::l,h=>by
  have h:cond (Nat.beq x.1 b) (some x.2) (UG b l)=some o:=h
  cases e:Nat.beq x.1 b with
  |true=>
   rw[e] at h;cases h
   have:=ZT e
   subst this
   exact Zx ..
  |false=>rw[e] at h;exact ZI _ (Tv h)
theorem Hg{b:Nat}: ∀{l:List Nat},Kt b l=true->b∈l
 |[],h=>by cases h
 |x::l,h=>by
  have h:cond (Nat.beq x b) true (Kt b l)=true:=h
  cases e:Nat.beq x b with
  |true=>
   have:=ZT e
   subst this
   exact Zx ..
  |false=>rw[e] at h;exact ZI _ (Hg h)
theorem J8{H:Zc}: ∀{l:List (Nat×LO)},xu H l=true-> ∀x∈l,∃o,H.t.get x.1=some o∧oi o x.2.obj∧isO o x.2=true
 |[],_,x,hx=>by cases hx
 |y::l,h,x,hx=>by
  obtain⟨h1,h2⟩:=ZU (a:=rz H y.1 y.2) (b:=xu H l) h
  rcases Ya.1 hx with rfl|hx
  ·unfold rz at h1
   split at h1
   ·rename_i p hp
    exact⟨p,hp,zE h1,h1⟩
   ·cases h1
  ·exact J8 h2 x hx
theorem Ep{H:Zc}: ∀{l:List Nat},xY H l=true-> ∀b∈l,H.t.get b=none
 |[],_,x,hx=>by cases hx
 |y::l,h,x,hx=>by
  obtain⟨h1,h2⟩:=ZU (a:=match H.t.get y with|none=>true|_=>false) (b:=xY H l) h
  rcases Ya.1 hx with rfl|hx
  ·split at h1
   ·assumption
   ·cases h1
  ·exact Ep h2 x hx
theorem Em{H:Zc}{x:CE}: ∀{l:List (Nat×LO)},xG H x l=true-> ∀y∈l,Kt y.1 x.dead=true∨(∃o,UG y.1 x.post=some o)∨ ∃o,H.t.get y.1=some o∧oi o y.2.obj
 |[],_,x,hx=>by cases hx
 |z::l,h,y,hy=>by
  obtain⟨h1,h2⟩:=ZU (a:=cond (Kt z.1 x.dead) true (match UG z.1 x.post with|some _=>true|none=>rz H z.1 z.2)) (b:=xG H x l) h
  rcases Ya.1 hy with rfl|hy
  ·cases e:Kt y.1 x.dead with
   |true=>exact .inl rfl
   |false=>
    rw[e] at h1
    cases e2:UG y.1 x.post with
    |some o=>exact .inr (.inl ⟨o,rfl⟩)
    |none=>
     rw[e2] at h1
     have h1:rz H y.1 y.2=true:=h1
     unfold rz at h1
     split at h1
     ·rename_i p hp
      exact .inr (.inr ⟨p,hp,zE h1⟩)
     ·cases h1
  ·exact Em h2 y hy
theorem CO{x:CE}: ∀{l:List (Nat×LO)},xW x l=true-> ∀y∈l,x.ro<=y.1∧Kt y.1 x.dead=false∧((∃p,UG y.1 x.pre=some p∧isO p.obj y.2=false)∨(x.nx<=y.1∧wrO y.2.obj=true))
 |[],_,x,hx=>by cases hx
 |z::l,h,y,hy=>by
  obtain⟨h1,h⟩:=ZU (a:=Nat.ble x.ro z.1) (b:=cond (Kt z.1 x.dead) false
 (cond (match UG z.1 x.pre with|some p=>cond (isO p.obj z.2) false true|none=>cond (Nat.ble x.nx z.1) (wrO z.2.obj) false) (xW x l) false)) h
  cases e:Kt z.1 x.dead with
  |true=>rw[e] at h;cases h
  |false=>
   rw[e] at h
   obtain⟨h2,h3⟩:=ZU (a:=match UG z.1 x.pre with|some p=>cond (isO p.obj z.2) false true|none=>cond (Nat.ble x.nx z.1) (wrO z.2.obj) false) (b:=xW x l) h
   rcases Ya.1 hy with rfl|hy
   ·refine⟨ZN h1,e,?_⟩
    split at h2
    ·rename_i p hp
     refine .inl ⟨p,hp,?_⟩
     cases e3:isO p.obj y.2 with
     |true=>rw[e3] at h2;cases h2
     |false=>rfl
    ·obtain⟨h4,h5⟩:=ZU h2
     exact .inr ⟨ZN h4,h5⟩
   ·exact CO h3 y hy
theorem FU{x:CE}: ∀{l:List Nat},xc x l=true-> ∀b∈l,x.ro<=b∧ ∃p,UG b x.pre=some p
 |[],_,x,hx=>by cases hx
 |z::l,h,b,hb=>by
  obtain⟨h1,h⟩:=ZU (a:=Nat.ble x.ro z) (b:=match UG z x.pre with|some _=>xc x l|none=>false) h
  split at h
  ·rename_i p hp
   rcases Ya.1 hb with rfl|hb
   ·exact⟨ZN h1,p,hp⟩
   ·exact FU h b hb
  ·cases h
theorem AX{gs:List (Nat×List AV)}{args:List AV}{H:Zc}{r:CR}: ∀{l:List CE},fM gs args H l=some r-> ∃x∈l,x.is gs args H=true∧r=.ret x.v (x.after H)
 |[],h=>by cases h
 |x::l,h=>by
  have h:cond (x.is gs args H) (some (.ret x.v (x.after H))) (fM gs args H l)=some r:=h
  cases e:x.is gs args H with
  |true=>rw[e] at h;cases h;exact⟨x,Zx ..,e,rfl⟩
  |false=>
   rw[e] at h
   obtain⟨y,hy,h1⟩:=AX h
   exact⟨y,ZI _ hy,h1⟩
section
variable {P:Program}
theorem Eg: ∀{l:List (Nat×LO)},xr l=true-> ∀y∈l,wrO y.2.obj=true
 |[],_,_,hy=>by cases hy
 |z::l,h,y,hy=>by
  obtain⟨h1,h2⟩:=ZU (a:=wrO z.2.obj) (b:=xr l) h
  rcases Ya.1 hy with rfl|hy
  ·exact h1
  ·exact Eg h2 y hy
theorem LF.wrO{o:Obj}(h:LF o):wrO o=false:=by
 obtain⟨r,rfl,e⟩:=h
 exact e
theorem og{H:Zc}{b:Nat}(h:Wr H b):H.ro<=b∧ ∃o,H.t.get b=some o∧wrO o=true:=by
 obtain⟨h1,o,h2,h3,h4⟩:=h
 refine⟨h1,o,h2,?_⟩
 cases o with
 |row r=>exact h3 r rfl
 |loop=>exact absurd rfl h4
 |_=>rfl
theorem Zfv{call:Nat->List AV->Zc->CR}(SV:SL P call){f:FuncId}{tab:List CE}{gs:List (Nat×List AV)}
  (Zgl: ∀x∈tab,x.wf=true∧ ∀e,x.out (call f x.args (x.heap gs e))=true)
  {args:List AV}{H:Zc}{r:CR}(h:fM gs args H tab=some r){σ:Mp}{w:World}{vs:List Value}(hs:Wh P σ H w)(hv:YM σ args vs):Lq P σ H w r ((callFunc f ⟨vs⟩).run P w):=by
 obtain⟨x,hx,his,rfl⟩:=AX h
 obtain⟨hwf,N9⟩:=Zgl x hx
 obtain⟨i1,his⟩:=ZU his
 obtain⟨i2,his⟩:=ZU his
 obtain⟨i3,his⟩:=ZU his
 obtain⟨i4,i5⟩:=ZU his
 have i1:H.nx=x.nx:=ZT i1
 have i2:H.ro=x.ro:=ZT i2
 have i3:=Nd _ _ i3
 have hpre:=J8 i5
 obtain⟨w1,w2⟩:=ZU hwf
 have Ia:=CO w1
 obtain⟨w2,w3⟩:=ZU w2
 have Zd1:=FU w2
 have ZjJ:=Eg w3
 subst i3
 let e:Nat->Nat:=λy=>match H.t.get y with|some (.row q)=>q.elem|_=>0
 have Ai:=N9 e
 have Lz: ∀y o,(x.heap gs e).t.get y=some o->(∃p,UG y x.pre=some p∧o=p.obj)∨(UG y x.pre=none∧ ∃l,(y,l)∈gs∧o=xR (e y) l):=by
  intro y o hy
  have hy:(C2 x.pre (jO e gs .leaf)).get y=some o:=hy
  rw[Pc e gs] at hy
  cases hf:UG y x.pre with
  |some p=>rw[hf] at hy;cases hy;exact .inl ⟨p,rfl,rfl⟩
  |none=>
   rw[hf] at hy
   rcases uU e gs .leaf y o hy with h|h
   ·exact .inr ⟨rfl,h⟩
   ·rw[T.get_leaf] at h;cases h
 have inH: ∀y o,(x.heap gs e).t.get y=some o-> ∃o',H.t.get y=some o'∧(∀l c,Uz σ o' l c->Uz σ o l c)∧(wrO o=true->wrO o'=true)∧(LF o'->LF o):=by
  intro y o hy
  rcases Lz y o hy with⟨p,hp,rfl⟩|⟨_,l,hl,rfl⟩
  ·obtain⟨o',h1,h2,_⟩:=hpre _ (Tv hp)
   exact⟨o',h1,h2.to σ,λh=>h2.wr.trans h,h2.soft.1⟩
  ·obtain⟨q,g3,g4,g5,g6⟩:=vS i4 _ hl
   have g5:YH l<=q.size:=g5
   have g6:loadN q 0 (YH l)=l:=g6
   have g3:H.t.get y=some (.row q):=g3
   refine⟨_,g3,λl' c hc=>?_,(λh=>by cases h),λ_=>⟨_,rfl,rfl⟩⟩
   obtain⟨cs,fr,rfl,hr⟩:=hc
   have hey:e y=q.elem:=by show(match H.t.get y with|some (.row q)=>q.elem|_=>0)=_;rw[g3]
   refine⟨cs,fr,by rw[hey],?_⟩
   have gsz:l'.sz=1:=by rw[hr.sz,g4]
   refine⟨gsz,hr.sz1,by have:=hr.fits;show YH l<=_;omega,hr.room,(λh=>by cases h),λi hi=>?_,λi v hi hv=>hr.one i v (ZH hi g5) hv,(λh=>by cases h),(λh=>by cases h)⟩
   have hi:i<YH l:=hi
   obtain⟨v,h7,h8⟩:=hr.cell i (by omega)
   refine⟨v,h7,?_⟩
   have g7:=SJ q (YH l) 0 i hi
   rw[g6,Zt] at g7
   rw[Row.get_eq]
   show Ys σ (((T.ofList l).get i).getD .unk) v
   rw[T.get_ofList,g7]
   exact h8
 have di:Wh P σ (x.heap gs e) w:=by
  refine⟨λy l hy=>by show y<x.nx;rw[<-i1];exact hs.dom y l hy,λy o hy=>?_,λy o l hy hl=>?_,λy y' o o' l l' hy hy' hl SS he=>?_,hs.glob,by show x.ro<=x.nx;rw[<-i1,<-i2];exact hs.ro⟩
  ·obtain⟨o',h1,_⟩:=inH y o hy
   show y<x.nx
   rw[<-i1];exact hs.low y o' h1
  ·obtain⟨o',h1,h2,_⟩:=inH y o hy
   obtain⟨c,hc,hr⟩:=hs.alive y o' l h1 hl
   exact⟨c,hc,h2 l c hr⟩
  ·obtain⟨o1,h1,_,_,s1⟩:=inH y o hy
   obtain⟨o2,h2,_,_,s2⟩:=inH y' o' hy'
   exact(hs.inj y y' o1 o2 l l' h1 h2 hl SS he).imp_right λs=>⟨s1 s.1,s2 s.2⟩
 have wrH: ∀y,Wr (x.heap gs e) y->Wr H y∧ ∃p,UG y x.pre=some p:=by
  intro y hy
  obtain⟨h1,o,h2,h3⟩:=og hy
  obtain⟨o',g1,g2,g3,_⟩:=inH y o h2
  refine⟨BX g1 (by rw[i2];exact h1) (g3 h3),?_⟩
  rcases Lz y o h2 with⟨p,hp,_⟩|⟨_,l,_,rfl⟩
  ·exact⟨p,hp⟩
  ·cases h3
 have v4:=SV f x.args (x.heap gs e) σ w vs di hv
 generalize call f x.args (x.heap gs e)=res at v4 Ai
 cases res with
 |fail=>cases Ai
 |pan _ _=>cases Ai
 |ret v H'=>
  obtain⟨o1,Ai⟩:=ZU Ai
  obtain⟨o2,Ai⟩:=ZU Ai
  obtain⟨o3,Ai⟩:=ZU Ai
  obtain⟨o4,o5⟩:=ZU Ai
  have o1:=NA _ _ o1
  subst o1
  have o2:H'.nx=x.nx2:=ZT o2
  have Zef:=J8 o3
  have ZjL:=Em o4
  have ZjX:=Ep o5
  refine Ends.mono (λu' w' hx=>?_) (λ_ _ hx=>hx) v4
  obtain⟨σ',hr,t⟩:=hx
  refine⟨σ',hr,?_⟩
  have tnx:x.nx<=H'.nx:=t.nx
  have Cw: ∀b o,(x.after H).t.get b=some o->
    (∃o',H'.t.get b=some o'∧oi o o'∧((∃p,UG b x.pre=some p)∨(x.nx<=b∧x.ro<=b∧wrO o=true)))
    ∨(UG b x.pre=none∧H.t.get b=some o):=by
   intro b o hb
   have hb:(C2 x.post (Ab x.dead H.t)).get b=some o:=hb
   rw[Pc e gs] at hb
   cases hp:UG b x.post with
   |some p=>
    rw[hp] at hb;cases hb
    obtain⟨o',h1,h2,h3⟩:=Zef _ (Tv hp)
    obtain⟨n1,n2,n3⟩:=Ia _ (Tv hp)
    refine .inl ⟨o',h1,⟨h2.of,h2.to,h2.wr.symm,h2.soft.symm⟩,?_⟩
    rcases n3 with⟨p',n4,_⟩|⟨n4,n5⟩
    ·exact .inl ⟨p',n4⟩
    ·exact .inr ⟨n4,n1,n5⟩
   |none=>
    rw[hp] at hb
    have hb:(Ab x.dead H.t).get b=some o:=hb
    rw[Hf] at hb
    cases hd:Kt b x.dead with
    |true=>rw[hd] at hb;cases hb
    |false=>
     rw[hd] at hb
     have hb:H.t.get b=some o:=hb
     cases hq:UG b x.pre with
     |none=>exact .inr ⟨rfl,hb⟩
     |some p=>
      rcases ZjL _ (Tv hq) with k|⟨_,k⟩|⟨o',k1,k2⟩
      ·have k:Kt b x.dead=true:=k
       rw[hd] at k;cases k
      ·have k:UG b x.post=_:=k
       rw[hp] at k;cases k
      ·obtain⟨o'',q1,q2,_⟩:=hpre _ (Tv hq)
       have q1:H.t.get b=some o'':=q1
       rw[hb] at q1;cases q1
       exact .inl ⟨o',k1,⟨λσ l c h=>k2.of σ l c (q2.to σ l c h),λσ l c h=>q2.of σ l c (k2.to σ l c h),q2.wr.trans k2.wr.symm,q2.soft.trans k2.soft.symm⟩,.inl ⟨p,rfl⟩⟩
  have hold: ∀b o l,UG b x.pre=none->H.t.get b=some o->σ' b=some l->σ b=some l:=by
   intro b o l _ hb hl
   have Y6:=hs.low b o hb
   cases hσ:σ b with
   |none=>
    have:=(t.pend b (by show b<x.nx;omega) hσ).2
    rw[this] at hl;cases hl
   |some l0=>rw[t.ext b l0 hσ] at hl;exact hl
  have Zj3: ∀b p,UG b x.pre=some p-> ∃o,H.t.get b=some o∧b<x.nx:=by
   intro b p hp
   obtain⟨o,q1,_⟩:=hpre _ (Tv hp)
   exact⟨o,q1,by rw[<-i1];exact hs.low b o q1⟩
  have v7: ∀b l,b<x.nx->σ' b=some l->(∃o,H'.t.get b=some o)->σ b=some l:=by
   intro b l Y6 hl _
   cases hσ:σ b with
   |none=>
    have:=(t.pend b Y6 hσ).2
    rw[this] at hl;cases hl
   |some l0=>rw[t.ext b l0 hσ] at hl;exact hl
  have ZjD: ∀b o l y l',UG b x.pre=none->H.t.get b=some o->σ b=some l->Wr (x.heap gs e) y->σ y=some l'->l'.blk=l.blk->False:=by
   intro b o l y l' hb ho hl hw hy he
   obtain⟨h1,p,hp⟩:=wrH y hw
   obtain⟨_,oy,h2,h3⟩:=og h1
   have:=hs.alone h2 ho hy hl he λs=>by rw[s.1.wrO] at h3;cases h3
   subst this
   rw[hb] at hp;cases hp
  have ZjS: ∀b o l b' l' o1,UG b x.pre=none->H.t.get b=some o->σ' b=some l->H'.t.get b'=some o1->σ' b'=some l'->l.blk=l'.blk->
    ((∃p,UG b' x.pre=some p)∨(x.nx<=b'∧x.ro<=b'∧wrO o1=true))->b=b':=by
   intro b o l b' l' o1 hb ho hl ho1 SS he hor
   have Aj:=hold b o l hb ho hl
   rcases hor with⟨p,hp⟩|⟨n1,n2,n3⟩
   ·obtain⟨o2,q1,q2⟩:=Zj3 b' p hp
    refine hs.alone ho q1 Aj (v7 b' l' q2 SS ⟨o1,ho1⟩) he λs=>?_
    obtain⟨o3,g1,g2,_⟩:=hpre _ (Tv hp)
    have g1:H.t.get b'=some o3:=g1
    rw[q1] at g1;cases g1
    have:=ZjJ _ (Tv hp)
    rw[<-g2.wr,s.2.wrO] at this;cases this
   ·exfalso
    obtain⟨c,hc,_⟩:=hs.alive b o l ho Aj
    have Y6:l'.blk<w.heap.size:=by rw[<-he];exact(ZW.1 hc).1
    have YL:H'.ro<=b':=by rw[t.ro];exact n2
    obtain⟨b0,l0,h1,h2,h3⟩:=t.wr b' l' (BX ho1 YL n3) SS Y6
    exact ZjD b o l b0 l0 hb ho Aj h1 h2 (h3.trans he.symm)
  refine⟨t.ext,⟨?_,?_,?_,?_,t.sim.glob,?_⟩,t.size,?_,?_,?_,rfl,?_,t.tape,t.os,t.out,?_⟩
  ·intro b l hb
   show b<x.nx2
   rw[<-o2];exact t.sim.dom b l hb
  ·intro b o hb
   show b<x.nx2
   rw[<-o2]
   rcases Cw b o hb with⟨o',h1,_⟩|⟨_,h1⟩
   ·exact t.sim.low b o' h1
   ·have:=hs.low b o h1;omega
  ·intro b o l hb hl
   rcases Cw b o hb with⟨o',h1,h2,_⟩|⟨h0,h1⟩
   ·obtain⟨c,hc,U5⟩:=t.sim.alive b o' l h1 hl
    exact⟨c,hc,h2.of σ' l c U5⟩
   ·have Aj:=hold b o l h0 h1 hl
    obtain⟨c,hc,U5⟩:=hs.alive b o l h1 Aj
    refine⟨c,?_,U5.mono t.ext⟩
    rw[t.frame l.blk (ZW.1 hc).1 λy ly hw hy he=>ZjD b o l y ly h0 h1 Aj hw hy he]
    exact hc
  ·intro b b' o o' l l' hb B3 hl SS he
   rcases Cw b o hb with⟨p,h1,h2,h3⟩|⟨h0,h1⟩<;>rcases Cw b' o' B3 with⟨p',B2,eB,h3'⟩|⟨eA,B2⟩
   ·exact(t.sim.inj b b' p p' l l' h1 B2 hl SS he).imp_right λs=>⟨h2.soft.2 s.1,eB.soft.2 s.2⟩
   ·exact .inl (ZjS b' o' l' b l p eA B2 SS h1 hl he.symm (h3.imp_right λ⟨a,b,c⟩=>⟨a,b,by rw[<-h2.wr];exact c⟩)).symm
   ·exact .inl<|ZjS b o l b' l' p' h0 h1 hl B2 SS he (h3'.imp_right λ⟨a,b,c⟩=>⟨a,b,by rw[<-eB.wr];exact c⟩)
   ·exact hs.inj b b' o o' l l' h1 B2 (hold b o l h0 h1 hl) (hold b' o' l' eA B2 SS) he
  ·show H.ro<=x.nx2
   have:=hs.ro
   omega
  ·intro k hk hn
   exact t.frame k hk λy l hw hl=>hn y l (wrH y hw).1 hl
  ·intro b l hw hl Y6
   obtain⟨YL,o,ho,hwo⟩:=og hw
   rcases Cw b o ho with⟨o',h1,h2,_⟩|⟨h0,h1⟩
   ·obtain⟨b0,l0,g1,g2,g3⟩:=t.wr b l (BX h1 (by rw[t.ro];show x.ro<=b;rw[<-i2];exact YL) (by rw[<-h2.wr];exact hwo)) hl Y6
    exact⟨b0,l0,(wrH b0 g1).1,g2,g3⟩
   ·exact⟨b,l,BX h1 YL hwo,hold b o l h0 h1 hl,rfl⟩
  ·show H.nx<=x.nx2
   omega
  ·intro b hb
   show(C2 x.post (Ab x.dead H.t)).get b=H.t.get b
   rw[Pc e gs]
   cases hp:UG b x.post with
   |some p=>
    have:=(Ia _ (Tv hp)).1
    omega
   |none=>
    show(Ab x.dead H.t).get b=_
    rw[Hf]
    cases hd:Kt b x.dead with
    |true=>
     have:=(Zd1 _ (Hg hd)).1
     omega
    |false=>rfl
  ·intro b hb hσ
   obtain⟨p1,p2⟩:=t.pend b (by show b<x.nx;omega) hσ
   refine⟨?_,p2⟩
   show(C2 x.post (Ab x.dead H.t)).get b=H.t.get b
   rw[Pc e gs]
   cases hp:UG b x.post with
   |some p=>
    exfalso
    obtain⟨n1,n2,n3⟩:=Ia _ (Tv hp)
    obtain⟨o',h1,h2,h3⟩:=Zef _ (Tv hp)
    have h1:H'.t.get b=some o':=h1
    rcases n3 with⟨q,n4,n5⟩|⟨n4,_⟩
    ·have n4:UG b x.pre=some q:=n4
     have:(x.heap gs e).t.get b=some q.obj:=by
      show(C2 x.pre (jO e gs .leaf)).get b=_
      rw[Pc e gs,n4]
     rw[<-p1,h1] at this
     cases this
     rw[h3] at n5;cases n5
    ·have n4:x.nx<=b:=n4
     omega
   |none=>
    show(Ab x.dead H.t).get b=_
    rw[Hf]
    cases hd:Kt b x.dead with
    |true=>
     exfalso
     obtain⟨_,q,n4⟩:=Zd1 _ (Hg hd)
     have:(x.heap gs e).t.get b=some q.obj:=by
      show(C2 x.pre (jO e gs .leaf)).get b=_
      rw[Pc e gs,n4]
     rw[<-p1,ZjX _ (Hg hd)] at this
     cases this
    |false=>rfl
end
section
variable {P:Program}
noncomputable def wi:List (Nat×List RH)->T Obj->T Obj
 |[],t=>t
 |x::l,t=>wi l (t.set x.1 (.cmap x.2))
theorem KE: ∀(ms:List (Nat×List RH)) (t:T Obj) (b:Nat) (o:Obj),(wi ms t).get b=some o->(∃es,(b,es)∈ms∧o=.cmap es)∨t.get b=some o
 |[],t,b,o,h=>.inr h
 |(b',es)::ms,t,b,o,h=>by
  rcases KE ms _ b o h with⟨es2,h1,h2⟩|h1
  ·exact .inl ⟨es2,ZI _ h1,h2⟩
  ·rw[T.get_set] at h1
   by_cases e3:b'=b
   ·rw[if_pos e3] at h1;cases h1;subst e3;exact .inl ⟨es,Zx ..,rfl⟩
   ·rw[if_neg e3] at h1;exact .inr h1
noncomputable def yZ(n:Nat)(rs:List (Nat×Nat×List AV))(ms:List (Nat×List RH)):Zc:=⟨n,wj rs (wi ms .leaf),n⟩
theorem mM{W:World}{rs:List (Nat×Nat×List AV)}{ms:List (Nat×List RH)}{n:Nat}{σ:Mp}(hσ: ∀g,g<P.globals.size-> ∃l,σ g=some l∧l.blk=g∧l.base=0)(ZfX: ∀b l,σ b=some l->b<n)
  (hr: ∀b e l,(b,e,l)∈rs-> ∃cs fr,σ b=some ⟨b,0,YH l,1⟩∧W.heap[b]? =some (.cells cs e fr)∧YM σ l cs.toList∧ ∀v∈cs,v.oneCell'=true)
  (hm: ∀b es,(b,es)∈ms-> ∃l ents clock fs,σ b=some l∧W.heap[l.blk]? =some (.map ents clock)∧YE σ fs ents.toList∧(fs.map Nf).Perm (es.map Nf)∧es.Pairwise sJ)
  (hi: ∀b es b' es' l l',(b,es)∈ms->(b',es')∈ms->σ b=some l->σ b'=some l'->l.blk=l'.blk->b=b'):Wh P σ (yZ n rs ms) W:=by
 have Lz: ∀b o,(yZ n rs ms).t.get b=some o->(∃e l,(b,e,l)∈rs∧o=.row ⟨e,1,YH l,T.ofList l,.unk,0,false,false,true⟩)∨ ∃es,(b,es)∈ms∧o=.cmap es:=by
  intro b o h
  rcases KF rs _ b o h with h|h
  ·exact .inl h
  ·rcases KE ms _ b o h with h|h
   ·exact .inr h
   ·rw[T.get_leaf] at h;cases h
 refine⟨ZfX,λb o h=>?_,λb o l h hl=>?_,λb b' o o' l l' h h' hl SS e=>?_,hσ,Zj _⟩
 ·rcases Lz b o h with⟨e,l,h1,_⟩|⟨es,h1,_⟩
  ·obtain⟨cs,fr,h2,_⟩:=hr b e l h1
   exact ZfX b _ h2
  ·obtain⟨l,_,_,_,h2,_⟩:=hm b es h1
   exact ZfX b _ h2
 ·rcases Lz b o h with⟨e,l',h1,rfl⟩|⟨es,h1,rfl⟩
  ·obtain⟨cs,fr,h2,h3,h4,h5⟩:=hr b e l' h1
   rw[h2] at hl;cases hl
   refine⟨_,h3,cs,fr,rfl,?_⟩
   have hlen:cs.size=YH l':=by rw[YC,h4.length];simp
   refine⟨rfl,Zj _,by show YH l'<=YH l'*1;omega,by show 0+YH l'*1<=cs.size;omega,λ_=>⟨by show YH l'=YH l'*1;omega,rfl,hlen⟩,λi hi=>?_,λi v _ hv=>h5 v (W0 hv),(λh=>by cases h),(λh=>by cases h)⟩
   have hi:i<YH l':=hi
   have R0:i<l'.length:=by rw[YC] at hi;exact hi
   obtain⟨v,h6,h7⟩:=h4.get (i:=i) (a:=l'[i]) (Zi R0)
   refine⟨v,by rw[Zt,<-Yd];exact h6,?_⟩
   have:(⟨e,1,YH l',T.ofList l',.unk,0,false,false,true⟩:Row).get i=l'[i]:=by
    rw[Row.get_eq]
    show((T.ofList l').get i).getD .unk=_
    rw[T.get_ofList,Zi R0];rfl
   rw[this]
   exact h7
  ·obtain⟨l2,ents,clock,fs,h2,h3,h4,h5,h6⟩:=hm b es h1
   rw[h2] at hl;cases hl
   exact⟨_,h3,ents,clock,fs,rfl,h4,h5,h6⟩
 ·rcases Lz b o h with⟨e1,l1,h1,_⟩|⟨es,h1,_⟩<;>rcases Lz b' o' h' with⟨e2,l2,h2,_⟩|⟨es',h2,_⟩
  ·obtain⟨_,_,h3,_⟩:=hr b e1 l1 h1
   obtain⟨_,_,h4,_⟩:=hr b' e2 l2 h2
   rw[h3] at hl;rw[h4] at SS
   cases hl;cases SS
   exact .inl e
  ·exfalso
   obtain⟨_,_,h3,h5,_⟩:=hr b e1 l1 h1
   obtain⟨_,_,_,_,h4,h6,_⟩:=hm b' es' h2
   rw[h3] at hl;rw[h4] at SS
   cases hl;cases SS
   have e:b=_:=e
   rw[<-e,h5] at h6
   cases h6
  ·exfalso
   obtain⟨_,_,h3,h5,_⟩:=hr b' e2 l2 h2
   obtain⟨_,_,_,_,h4,h6,_⟩:=hm b es h1
   rw[h3] at SS;rw[h4] at hl
   cases hl;cases SS
   have e:_=b':=e
   rw[e,h5] at h6
   cases h6
  ·exact .inl<|hi b es b' es' l l' h1 h2 hl SS e
theorem An{l:List (String×DataW Unit)}{w:World}(h:laidMetH P l w):laidMet P (l.filter λx=>x.2.handleName?.isNone) w:=by
 unfold laidMetH at h
 generalize hfl:(l.filter λx=>x.2.handleName?.isSome)=fl at h
 cases fl with
 |nil=>
  have e:(l.filter λx=>x.2.handleName?.isNone)=l:=by
   rw[List.filter_eq_self]
   intro x hx
   have:=(List.filter_eq_nil_iff.1 hfl) x hx
   cases hn:x.2.handleName? with
   |none=>rfl
   |some s=>rw[hn] at this;exact absurd rfl this
  rw[e]
  exact h
 |cons a as=>exact h.1
theorem En{W:World}: ∀{l:List (String×DataW Unit)} {ps:List MemPlace},DataW.LaidVars P W l ps-> ∃pf:Nat->List MemPlace,
  (∀i n d,l[i]? =some (n,d)-> ∃g t cs fuel,P.globalNamed n=some g∧(P.globals[g]?).map (·.type)=some t∧W.var? P n=some cs∧DataW.trod (λ_=>()) P W 0 (λ_=>true) false fuel t cs.toList=some (d,pf i)∧ ∀x∈MemPlace.row ⟨g,0,none⟩ cs.size,x∈ps)∧
  (∀i x,i<l.length->x∈pf i->x∈ps)∧(ps.Nodup-> ∀i j x,i<j->j<l.length->x∈pf i->x∈pf j->False)
 |[],_,_=>⟨λ_=>[],(λi n d h=>by simp at h),(λi x h=>by simp at h),(λ_ i j x _ h=>by simp at h)⟩
 |(n',d')::r,ps,h=>by
  obtain⟨g,t,cs,fuel,p,q,h1,h2,h3,h4,h5,rfl⟩:=h
  obtain⟨pf,k1,k2,k3⟩:=En h5
  refine⟨λi=>match i with|0=>p|i+1=>pf i,λi n d hi=>?_,λi x hi hx=>?_,λKe i j x eM hj hx hx'=>?_⟩
  ·cases i with
   |zero=>
    simp only[VV,Option.some.injEq,Prod.mk.injEq] at hi
    obtain⟨rfl,rfl⟩:=hi
    exact⟨g,t,cs,fuel,h1,h2,h3,h4,λx hx=>Zs.2 (.inl (Zs.2 (.inl hx)))⟩
   |succ i=>
    simp only[Th] at hi
    obtain⟨g',t',Jm,fuel',m1,m2,m3,m4,m5⟩:=k1 i n d hi
    exact⟨g',t',Jm,fuel',m1,m2,m3,m4,λx hx=>Zs.2 (.inr (m5 x hx))⟩
  ·cases i with
   |zero=>exact Zs.2 (.inl (Zs.2 (.inr hx)))
   |succ i=>exact Zs.2 (.inr (k2 i x (by simpa using hi) hx))
  ·obtain⟨n1,n2,n3⟩:=SU.1 Ke
   cases j with
   |zero=>omega
   |succ j=>
    have hj':j<r.length:=by simpa using hj
    cases i with
    |zero=>exact n3 x (Zs.2 (.inr hx)) x (k2 j x hj' hx') rfl
    |succ i=>exact k3 n2 i j x (by omega) hj' hx hx'
end
def ko(gs:List (Nat×List AV))(base:Nat->List AV->Zc->Option CR):List (Nat×CE)->Nat->List AV->Zc->Option CR
 |[],f,args,H=>base f args H
 |x::l,f,args,H=>cond (Nat.beq x.1 f) (cond (x.2.is gs args H) (some (.ret x.2.v (x.2.after H))) (ko gs base l f args H)) (ko gs base l f args H)
section
variable {P:Program}
def ZdB(P:Program)(gs:List (Nat×List AV))(x:Nat×CE):Prop:= ∃call,SL P call∧x.2.wf=true∧ ∀e,x.2.out (call x.1 x.2.args (x.2.heap gs e))=true
theorem nz{gs:List (Nat×List AV)}{base:Nat->List AV->Zc->Option CR}(hb:NZ P base): ∀l:List (Nat×CE),(∀x∈l,ZdB P gs x)->NZ P (ko gs base l)
 |[],_=>hb
 |x::l,h=>by
  intro f args H r hr σ w vs hs hv
  have ih:=nz hb l (λy hy=>h y (ZI _ hy))
  unfold ko at hr
  cases h1:Nat.beq x.1 f with
  |false=>rw[h1] at hr;exact ih f args H r hr σ w vs hs hv
  |true=>
   rw[h1] at hr
   cases h2:x.2.is gs args H with
   |false=>rw[h2] at hr;exact ih f args H r hr σ w vs hs hv
   |true=>
    rw[h2] at hr
    have h1:=ZT h1
    subst h1
    obtain⟨call,SV,hwf,N9⟩:=h x (Zx ..)
    refine Zfv (P:=P) SV (f:=x.1) (tab:=[x.2]) (gs:=gs) (λy hy=>?_) (args:=args) (H:=H) ?_ hs hv
    ·rcases Ya.1 hy with rfl|hy
     ·exact⟨hwf,N9⟩
     ·cases hy
    ·show cond (x.2.is gs args H) (some (.ret x.2.v (x.2.after H))) none=some r
     rw[h2]
     exact hr
end
section
variable {P:Program}
structure FP where
 loc:Loc
 elem:Nat
 cells:List AV
def FP.row(x:FP):Row:=⟨x.elem,1,YH x.cells,T.ofList x.cells,.unk,0,false,false,false⟩
def FY(b:Nat):List (Nat×FP)->Option FP
 |[]=>none
 |y::l=>if y.1=b then some y.2 else FY b l
theorem A0{b:Nat}{x:FP}: ∀{l:List (Nat×FP)},FY b l=some x->(b,x)∈l
 |[],h=>by cases h
 |y::l,h=>by
  unfold FY at h
  split at h
  ·rename_i e;cases h;rw[<-e];exact Zx ..
  ·exact ZI _ (A0 h)
theorem IR{b:Nat}{x:FP}: ∀{l:List (Nat×FP)},(b,x)∈l->(l.map (·.1)).Nodup->FY b l=some x
 |y::l,h,nd=>by
  rw[Y8,R7] at nd
  unfold FY
  rcases Ya.1 h with rfl|h
  ·rw[if_pos rfl]
  ·rw[if_neg (λe=>nd.1 (by rw[e];exact Tx (f:=Prod.fst) h))]
   exact IR h nd.2
structure hZ(W:World)(σ:Mp)(x:FP):Prop where
 sz:x.loc.sz=1
 fits:x.cells.length<=x.loc.tot
 cells: ∃cs fr,W.heap[x.loc.blk]? =some (.cells cs x.elem fr)∧x.loc.base+x.loc.tot<=cs.size∧ ∀(i:Nat) (a:AV),x.cells[i]? =some a-> ∃v,cs[x.loc.base+i]? =some v∧Ys σ a v∧v.oneCell'=true
theorem FP.get_row{x:FP}{i:Nat}{a:AV}(h:x.cells[i]? =some a):x.row.get i=a:=by
 rw[Row.get_eq]
 show((T.ofList x.cells).get i).getD .unk=a
 rw[T.get_ofList,h];rfl
theorem jD{call:Nat->List AV->Zc->CR}(SV:SL P call){f:FuncId}{fn:Func}{c:Code}(hf:P.funcs[f]? =some fn)(Q6:fn.name≠ "runtime.NumGoroutine")(hb:fn.body=some c)
  {σ:Mp}{H H':Zc}{W:World}(hs:Wh P σ H W)(hw: ∀b,¬Wr H b){as:List AV}{vs:List Value}(ha:YM σ as vs)(hr:call f as H=.ret (.bool true) H'):
  Calls P f ⟨vs⟩ W λe W'=>e=.returned (.bool true)∧W'.os=W.os∧W'.output=W.output∧ ∀i,i<W.heap.size->W'.heap[i]? =W.heap[i]? :=by
 have h:=SV f as H σ W vs hs ha
 rw[hr,Rx hf Q6 hb] at h
 refine Calls.mono h λe W' he=>?_
 cases e with
 |returned v=>
  obtain⟨σ',h1,t⟩:=he
  exact⟨by rw[TI h1],t.os,t.out,λi hi=>t.frame i hi λb _ hb=>absurd hb (hw b)⟩
 |panicked ch=>obtain⟨_,_,h⟩:=he;exact h.elim
 |outgrown=>exact he.elim
end
theorem dC{l w0 w1:List (Nat×FP)}{n i j:Nat}(hl:(l.map (·.1)).Nodup)(Y6: ∀b x,(b,x)∈l->b<n)(hi:n<=i)(hj:i<j)(f0:w0.length<=1)(i0: ∀b x,(b,x)∈w0->b=i)(f1:w1.length<=1)(i1: ∀b x,(b,x)∈w1->b=j):
  ((l++(w0++w1)).map (·.1)).Nodup:=by
 have one: ∀w:List (Nat×FP),w.length<=1->(w.map (·.1)).Nodup:=by
  intro w hw
  match w,hw with
  |[],_=>exact List.nodup_nil
  |[x],_=>exact R7.2 ⟨by simp,List.nodup_nil⟩
  |_::_::_,h=>simp at h
 rw[Xo,Xo,SU,SU]
 refine⟨hl,⟨one w0 f0,one w1 f1,λa ha b hb=>?_⟩,λa ha b hb=>?_⟩
 ·obtain⟨⟨a',x⟩,h1,rfl⟩:=YV.1 ha
  obtain⟨⟨b',y⟩,h2,rfl⟩:=YV.1 hb
  have:=i0 _ _ h1
  have:=i1 _ _ h2
  show a'≠b'
  omega
 ·obtain⟨⟨a',x⟩,h1,rfl⟩:=YV.1 ha
  have:=Y6 _ _ h1
  rcases Zs.1 hb with hb|hb
  ·obtain⟨⟨b',y⟩,h2,rfl⟩:=YV.1 hb
   have:=i0 _ _ h2
   show a'≠b'
   omega
  ·obtain⟨⟨b',y⟩,h2,rfl⟩:=YV.1 hb
   have:=i1 _ _ h2
   show a'≠b'
   omega
section
open Go Go.ChangeShapes Go.WideShapes Go.ChangeAt Go.RowKit
variable {H:Type} {enc:TypeId×Value->H} {P:Program}
theorem Zdm{W W':World}(h: ∀i,i<W.heap.size->W'.heap[i]? =W.heap[i]?){p:MemPlace}(hp:p.block<W.heap.size):W.sameAt W' p:=by
 cases p with
 |cell b off=>
  show W'.cell? ⟨b,off,none⟩=W.cell? ⟨b,off,none⟩
  unfold World.cell?
  rw[h b hp]
 |map b=>exact h b hp
theorem Gl(hl:laidOutB P=true){W W':World}{sp:Nat->Bool}(h: ∀i,i<W.heap.size->W'.heap[i]? =W.heap[i]?): ∀{ts:List TypeId} {vs:List Value} {ds:List (DataW H)} {ps:List MemPlace},
  (∀t∈ts,P.readableRec t=true∧t<P.types.size)->DataW.TrodAll enc P W 0 (λ_=>true) true ts vs ds ps->(∀p∈ps,p.block<W.heap.size∧sp p.block=true)->DataW.TrodAll enc P W' 0 sp true ts vs ds ps
 |[],[],[],ps,_,ht,_=>ht
 |t::ts,v::vs,d::ds,ps,hts,ht,hp=>by
  obtain⟨p,q,h1,h2,rfl⟩:=ht
  obtain⟨r1,r2⟩:=hts t (Zx ..)
  refine⟨p,q,WideElems.Trod_stays hl r1 r2 h1 (λx hx=>Zdm h (hp x (Zs.2 (.inl hx))).1) (λx hx=>(hp x (Zs.2 (.inl hx))).2),?_,rfl⟩
  exact Gl hl h (λt ht=>hts t (ZI _ ht)) h2 λx hx=>hp x (Zs.2 (.inr hx))
 |[],_::_,_,_,_,ht,_=>ht.elim
 |[],[],_::_,_,_,ht,_=>ht.elim
 |_::_,[],_,_,_,ht,_=>ht.elim
 |_::_,_::_,[],_,_,ht,_=>ht.elim
theorem dE{fn:Func}{s:ChangeSpec}{W W':World}{args:Array Value}{ds gs:List (DataW H)}{before:List MemPlace}{tb:TypeId}(hl:laidOutB P=true)(hts: ∀t∈fn.params.toList,P.readableRec t=true∧t<P.types.size)
  (hv:s.vars=[])(hr:fn.resultTypes= #[tb])(nf:P.underlying tb=some .bool)(hW:DataW.Whole enc P fn.params.toList s.vars false W args.toList ds gs before)
  (v8:(s.fn H (ds++gs)).results=[.lit (.bool true)])(Cy:(s.fn H (ds++gs)).args=ds)(Zki:(s.fn H (ds++gs)).vars=[])
  (h1:W'.os=W.os)(h2:W'.output=W.output)(h3: ∀i,i<W.heap.size->W'.heap[i]? =W.heap[i]?):s.post enc P fn false true false false W args (.bool true) W':=by
 have Y6:=hW.lt
 have hW':=hW
 obtain⟨p,q,hA,hV,rfl,_,_⟩:=hW
 rw[hv] at hV
 obtain⟨rfl,rfl⟩:=trodVars_none hV
 refine⟨ds,[],p++[],[],p,[],hW',?_,?_,?_,World.keptBut_mono (λx hx=>hx.elim) (xH (may:=λ_=>False) h1 h2 h3),λh=>by cases h⟩
 ·rw[v8,hr]
  exact trodAll_mk1 (shut_bool nf _)
 ·rw[Cy]
  exact Gl hl h3 hts hA λx hx=>⟨Y6 x (by simpa using hx),by simpa using Y6 x (by simpa using hx)⟩
 ·rw[Zki,hv]
  rfl
end
section
variable {P:Program}
def dO(n:Nat):Obj->Prop
 |.row r=> ∀i,i<r.size->Xt n (r.get i)=true
 |.cmap es=> ∀x∈es,Xt n x.key=true∧Xt n x.val=true
 |_=>False
theorem YE.cutE{σ:Mp}{n:Nat}: ∀{es:List RH} {l:List MapEntry},(∀x∈es,Xt n x.key=true∧Xt n x.val=true)->YE σ es l->YE (σ.cut n) es l
 |[],l,_,r=>by simpa [YE] using r
 |x::es,l,h,r=>by
  simp only[YE] at r ⊢
  obtain⟨e,l',h1,h2,h3⟩:=r
  obtain⟨k1,k2⟩:=h x (Zx ..)
  exact⟨e,l',⟨Ys.cut k1 h1.1,Ys.cut k2 h1.2.1,h1.2.2⟩,YE.cutE (λy hy=>h y (ZI _ hy)) h2,h3⟩
theorem Uz.cutO{σ:Mp}{n:Nat}{o:Obj}{l:Loc}{c:Go.Obj}(h:dO n o)(r:Uz σ o l c):Uz (σ.cut n) o l c:=by
 cases o with
 |row q=>
  obtain⟨cs,fr,rfl,r⟩:=r
  refine⟨cs,fr,rfl,r.sz,r.sz1,r.fits,r.room,r.exact,λi hi=>?_,r.one,r.frz,r.frs⟩
  obtain⟨v,h1,h2⟩:=r.cell i hi
  exact⟨v,h1,Ys.cut (h i hi) h2⟩
 |cmap es=>
  obtain⟨ents,clock,fs,h1,h2,h3,h4⟩:=r
  refine⟨ents,clock,fs,h1,YE.cutE (λx hx=>?_) h2,h3,h4⟩
  have hm:Nf x∈es.map Nf:=h3.subset (Tx (f:=Nf) hx)
  obtain⟨y,hy,e⟩:=YV.1 hm
  have hk:y.key=x.key:=congrArg Prod.fst e
  have hv:y.val=x.val:=congrArg Prod.snd e
  rw[<-hk,<-hv]
  exact h y hy
 |_=>exact h.elim
theorem Wh.cutTo{σ:Mp}{H:Zc}{w:World}{n:Nat}{t:T Obj}(hs:Wh P σ H w)(hn:P.globals.size<=n)(ht: ∀b o,t.get b=some o->b<n∧H.t.get b=some o∧dO n o):Wh P (σ.cut n) ⟨n,t,n⟩ w:=by
 refine⟨λb l h=>(Mp.cut_some h).1,λb o h=>(ht b o h).1,λb o l h hl=>?_,λb b' o o' l l' h h' hl SS e=>?_,λg hg=>?_,Zj _⟩
 ·obtain⟨_,h1,h2⟩:=ht b o h
  obtain⟨c,h3,h4⟩:=hs.alive b o l h1 (Mp.cut_some hl).2
  exact⟨c,h3,h4.cutO h2⟩
 ·exact hs.inj b b' o o' l l' (ht b o h).2.1 (ht b' o' h').2.1 (Mp.cut_some hl).2 (Mp.cut_some SS).2 e
 ·obtain⟨l,h1,h2⟩:=hs.glob g hg
  exact⟨l,by rw[Mp.cut_lt (by omega)];exact h1,h2⟩
def Bears(n:Nat)(t:T Obj)(H:Zc):Prop:=n<=H.nx∧ ∀b o,t.get b=some o->H.t.get b=some o
theorem Bears.keep{n:Nat}{t:T Obj}{H H':Zc}(h:Bears n t H)(Y6: ∀b o,t.get b=some o->b<n)(B5:H.nx<=H'.nx)(hk: ∀c,c<H.nx->H'.t.get c=H.t.get c):Bears n t H':=
 ⟨Yt h.1 B5,λb o hb=>(hk b (ZH (Y6 b o hb) h.1)).trans (h.2 b o hb)⟩
structure hY where
 f:Nat
 args:List AV
 v:AV
def Im(n:Nat)(t:(Nat->Nat)->T Obj)(base:Nat->List AV->Zc->Option CR):List hY->Nat->List AV->Zc->Option CR
 |[],f,args,H=>base f args H
 |x::l,f,args,H=>cond (Nat.beq x.f f) (open Classical in if args=x.args∧ ∃e,Bears n (t e) H then some (.ret x.v H) else Im n t base l f args H) (Im n t base l f args H)
theorem yD{n:Nat}{t:(Nat->Nat)->T Obj}(hn:P.globals.size<=n)(ht: ∀e b o,(t e).get b=some o->b<n∧dO n o∧(LF o∨ ∃es,o=.cmap es)){base:Nat->List AV->Zc->Option CR}(hb:NZ P base): ∀l:List hY,
  (∀x∈l,∃call,SL P call∧Ob 0 x.args=true∧Xt 0 x.v=true∧ ∀e,Zel x.v (call x.f x.args ⟨n,t e,n⟩)=true)->NZ P (Im n t base l)
 |[],_=>hb
 |x::l,hl=>by
  intro f args H r h σ w vs hs hv
  have ih:=yD hn ht hb l λy hy=>hl y (ZI _ hy)
  unfold Im at h
  cases hf:Nat.beq x.f f with
  |false=>rw[hf] at h;exact ih f args H r h σ w vs hs hv
  |true=>
   have:=ZT hf
   subst this
   rw[hf,cond_true] at h
   split at h
   ·rename_i hc
    obtain⟨rfl,e,Tn,Zjr⟩:=hc
    cases h
    obtain⟨call,SV,ZjQ,ZjR,rE⟩:=hl x (Zx ..)
    have di:Wh P (σ.cut n) ⟨n,t e,n⟩ w:=hs.cutTo hn λb o hb=>⟨(ht e b o hb).1,Zjr b o hb,(ht e b o hb).2.1⟩
    have eO: ∀y,¬Wr (⟨n,t e,n⟩:Zc) y:=by
     rintro y ⟨h1,ob,h2,_⟩
     have h1:n<=y:=h1
     have:=(ht e y ob h2).1
     omega
    have U5:YM (σ.cut n) x.args vs:=YM.mono (λb l hb=>by have:=(Mp.cut_some hb).1;omega) (YM.cut (n:=0) ZjQ hv)
    have v4:=SV x.f x.args ⟨n,t e,n⟩ (σ.cut n) w vs di U5
    have ZbT:=rE e
    generalize call x.f x.args ⟨n,t e,n⟩=res at v4 ZbT
    cases res with
    |fail=>cases ZbT
    |pan _ _=>cases ZbT
    |ret v' H''=>
     have:=NA _ _ ZbT
     subst this
     refine Ends.mono (λu' w' hx=>?_) (λ_ _ hx=>hx) v4
     obtain⟨σ2,h1,t'⟩:=hx
     have GZ: ∀j,j<w.heap.size->w'.heap[j]? =w.heap[j]? :=λj hj=>t'.frame j hj λy _ hy _=>absurd hy (eO y)
     refine⟨σ,?_,(yS.mem (Oq.refl σ) t'.size GZ (λ_ _ _ _ h _=>h) t'.tape t'.os t'.out).full (hs.grow GZ) λ_ _ hx=>⟨rfl,hx⟩⟩
     exact(Ys.cut ZjR h1).mono λy _ hy=>by have:=(Mp.cut_some hy).1;omega
   ·exact ih _ _ _ _ h σ w vs hs hv
theorem In{n:Nat}{t:(Nat->Nat)->T Obj}{base:Nat->List AV->Zc->Option CR}{H:Zc}{e:Nat->Nat}(hb:Bears n (t e) H): ∀{l:List hY} {x:hY},x∈l->(∀y∈l,y.f=x.f->y.args=x.args->y.v=x.v)->Im n t base l x.f x.args H=some (.ret x.v H)
 |y::l,x,hx,hu=>by
  unfold Im
  by_cases hf:y.f=x.f
  ·rw[hf,show Nat.beq x.f x.f=true from Yb _,cond_true]
   by_cases ha:y.args=x.args
   ·rw[if_pos ⟨ha.symm,e,hb⟩,hu y (Zx ..) hf ha]
   ·rw[if_neg λh=>ha h.1.symm]
    rcases Ya.1 hx with rfl|hx
    ·exact absurd rfl ha
    ·exact In hb hx λz hz=>hu z (ZI _ hz)
  ·have:Nat.beq y.f x.f=false:=by rw[Ym];exact Za hf
   rw[this]
   rcases Ya.1 hx with rfl|hx
   ·exact absurd rfl hf
   ·exact In hb hx λz hz=>hu z (ZI _ hz)
def JS(t:T Obj):List (Nat×FP)->T Obj
 |[]=>t
 |x::l=>(JS t l).set x.1 (.row x.2.row)
def Ix(σ:Mp)(ws:List (Nat×FP)):Mp:=λb=>match FY b ws with
 |some x=>some x.loc
 |none=>σ b
theorem DK(t:T Obj): ∀(l:List (Nat×FP)) (b:Nat) (o:Obj),(JS t l).get b=some o->(∃x,(b,x)∈l∧o=.row x.row)∨t.get b=some o
 |[],_,_,h=>.inr h
 |y::l,b,o,h=>by
  have h:((JS t l).set y.1 (.row y.2.row)).get b=some o:=h
  rw[T.get_set] at h
  by_cases e:y.1=b
  ·rw[if_pos e] at h;cases h;subst e;exact .inl ⟨y.2,Zx ..,rfl⟩
  ·rw[if_neg e] at h
   rcases DK t l b o h with⟨x,h1,h2⟩|h1
   ·exact .inl ⟨x,ZI _ h1,h2⟩
   ·exact .inr h1
theorem ol(t:T Obj): ∀(l:List (Nat×FP)) (b:Nat) (x:FP),(b,x)∈l->(l.map (·.1)).Nodup->(JS t l).get b=some (.row x.row)
 |y::l,b,x,h,nd=>by
  show((JS t l).set y.1 (.row y.2.row)).get b=some (.row x.row)
  rw[Y8,R7] at nd
  rw[T.get_set]
  rcases Ya.1 h with rfl|h
  ·rw[if_pos rfl]
  ·rw[if_neg (λe=>nd.1 (by rw[e];exact Tx (f:=Prod.fst) h))]
   exact ol t l b x h nd.2
theorem wX(t:T Obj): ∀(l:List (Nat×FP)) (b:Nat),(∀x,(b,x)∉l)->(JS t l).get b=t.get b
 |[],_,_=>rfl
 |y::l,b,h=>by
  show((JS t l).set y.1 (.row y.2.row)).get b=_
  rw[T.get_set,if_neg λe=>h y.2 (by rw[<-e];exact Zx ..)]
  exact wX t l b λx hx=>h x (ZI _ hx)
theorem D8{b:Nat}: ∀{l:List (Nat×FP)},(∀x,(b,x)∉l)->FY b l=none
 |[],_=>rfl
 |y::l,h=>by
  unfold FY
  rw[if_neg λe=>h y.2 (by rw[<-e];exact Zx ..)]
  exact D8 λx hx=>h x (ZI _ hx)
theorem Wh.add{σ:Mp}{H:Zc}{W:World}(hs:Wh P σ H W){n:Nat}{ws:List (Nat×FP)}(hn:H.nx<=n)(nd:(ws.map (·.1)).Nodup)(Y6: ∀b x,(b,x)∈ws->H.nx<=b∧b<n)
  (Zka: ∀b o,H.t.get b=some o->LF o∨ ∃es,o=.cmap es)(hw: ∀b x,(b,x)∈ws->hZ W (Ix σ ws) x):Wh P (Ix σ ws) ⟨n,JS H.t ws,n⟩ W:=by
 have old: ∀b,b<H.nx->Ix σ ws b=σ b:=λb hb=>by
  unfold Ix
  rw[D8 λx hx=>by have:=(Y6 b x hx).1;omega]
 have ext:Oq σ (Ix σ ws):=λb l h=>by rw[old b (hs.dom b l h)];exact h
 have wat: ∀b x,(b,x)∈ws->Ix σ ws b=some x.loc:=λb x h=>by unfold Ix;rw[IR h nd]
 have wal: ∀b x,(b,x)∈ws-> ∃c,W.heap[x.loc.blk]? =some c∧Uz (Ix σ ws) (.row x.row) x.loc c:=by
  intro b x h1
  obtain⟨h2,h3,cs,fr,h4,h5,h6⟩:=hw b x h1
  refine⟨_,h4,cs,fr,rfl,?_⟩
  have key: ∀i,i<YH x.cells-> ∃a,x.cells[i]? =some a:=λi hi=>by
   rw[YC] at hi
   exact⟨_,Zi hi⟩
  refine⟨h2,by omega,by rw[h2];show YH x.cells<=x.loc.tot*1;rw[YC];omega,by rw[h2];omega,(λh=>by cases h),λi hi=>?_,λi v hi hv=>?_,(λh=>by cases h),(λh=>by cases h)⟩
  ·obtain⟨a,ha⟩:=key i hi
   obtain⟨v,h7,h8,_⟩:=h6 i a ha
   rw[FP.get_row ha]
   exact⟨v,h7,h8⟩
  ·obtain⟨a,ha⟩:=key i hi
   obtain⟨v',h7,_,h8⟩:=h6 i a ha
   rw[hv] at h7;cases h7;exact h8
 have all: ∀b o l,(JS H.t ws).get b=some o->Ix σ ws b=some l->(∃c,W.heap[l.blk]? =some c∧Uz (Ix σ ws) o l c)∧((∃r,o=.row r∧r.own=false)∨(H.t.get b=some o∧σ b=some l∧ ∃es,o=.cmap es)):=by
  intro b o l h hl
  rcases DK H.t ws b o h with⟨x,h1,rfl⟩|h1
  ·rw[wat b x h1] at hl;cases hl
   exact⟨wal b x h1,.inl ⟨_,rfl,rfl⟩⟩
  ·have hb:=hs.low b o h1
   rw[old b hb] at hl
   obtain⟨c,h2,h3⟩:=hs.alive b o l h1 hl
   refine⟨⟨c,h2,h3.mono ext⟩,?_⟩
   rcases Zka b o h1 with h4|h4
   ·exact .inl h4
   ·exact .inr ⟨h1,hl,h4⟩
 refine⟨λb l h=>?_,λb o h=>?_,λb o l h hl=>(all b o l h hl).1,λb b' o o' l l' h h' hl SS e=>?_,λg hg=>?_,Zj _⟩
 ·show b<n
  unfold Ix at h
  split at h
  ·rename_i x hx;exact(Y6 b x (A0 hx)).2
  ·exact ZH (hs.dom b l h) hn
 ·show b<n
  rcases DK H.t ws b o h with⟨x,h1,_⟩|h1
  ·exact(Y6 b x h1).2
  ·exact ZH (hs.low b o h1) hn
 ·obtain⟨⟨c,c1,c2⟩,a1⟩:=all b o l h hl
  obtain⟨⟨c',c3,c4⟩,a2⟩:=all b' o' l' h' SS
  rcases a1 with a1|⟨g1,g2,es,rfl⟩<;>rcases a2 with a2|⟨g3,g4,es',rfl⟩
  ·exact .inr ⟨a1,a2⟩
  ·exfalso
   obtain⟨r,rfl,_⟩:=a1
   obtain⟨_,_,rfl,_⟩:=c2
   obtain⟨_,_,_,rfl,_⟩:=c4
   rw[e,c3] at c1;cases c1
  ·exfalso
   obtain⟨r,rfl,_⟩:=a2
   obtain⟨_,_,rfl,_⟩:=c4
   obtain⟨_,_,_,rfl,_⟩:=c2
   rw[e,c3] at c1;cases c1
  ·rcases hs.inj b b' _ _ l l' g1 g3 g2 g4 e with h|⟨⟨_,h,_⟩,_⟩
   ·exact .inl h
   ·cases h
 ·obtain⟨l,h1,h2⟩:=hs.glob g hg
  exact⟨l,ext g l h1,h2⟩
end
section
variable {P:Program} {H:Type} {enc:TypeId×Value->H}
theorem ur{n:Nat}{x:AV}: ∀{l:List AV},Ob n l=true->x∈l->Xt n x=true
 |y::l,h,hx=>by
  have h:cond (Xt n y) (Ob n l) false=true:=h
  cases hy:Xt n y with
  |false=>rw[hy] at h;cases h
  |true=>
   rw[hy] at h
   rcases Ya.1 hx with rfl|hx
   ·exact hy
   ·exact ur h hx
theorem vg{n:Nat}{rs:List (Nat×Nat×List AV)}{ms:List (Nat×List RH)}(hr:(rs.all λx=>Nat.ble (Nat.succ x.1) n&&Ob n x.2.2)=true)(hm:(ms.all λx=>Nat.ble (Nat.succ x.1) n&&x.2.all λy=>Xt n y.key&&Xt n y.val)=true){b:Nat}{o:Obj}
  (h:(yZ n rs ms).t.get b=some o):b<n∧dO n o∧(LF o∨ ∃es,o=.cmap es):=by
 rcases KF rs _ b o h with⟨e,l,Nk,rfl⟩|h
 ·have h2:=Y7.1 hr _ Nk
  rw[XE] at h2
  refine⟨ZN h2.1,λi hi=>?_,.inl ⟨_,rfl,rfl⟩⟩
  have hi:i<l.length:=by rw[<-YC];exact hi
  have e1:(⟨e,1,YH l,T.ofList l,.unk,0,false,false,true⟩:Row).get i=l[i]:=by
   rw[Row.get_eq]
   show((T.ofList l).get i).getD .unk=_
   rw[T.get_ofList,Zi hi];rfl
  rw[e1]
  exact ur h2.2 (YJ hi)
 ·rcases KE ms _ b o h with⟨es,Nk,rfl⟩|h
  ·have h2:=Y7.1 hm _ Nk
   rw[XE] at h2
   refine⟨ZN h2.1,λx hx=>?_,.inr ⟨es,rfl⟩⟩
   have h3:=Y7.1 h2.2 x hx
   rw[XE] at h3
   exact h3
  ·rw[T.get_leaf] at h;cases h
theorem Zdp{σ:Mp}{H:Zc}{W:World}(hs:Wh P σ H W)(h:H.nx<=H.ro)(b:Nat): ¬Wr H b:=by
 rintro ⟨h1,o,h2,_⟩
 have:=hs.low b o h2
 omega
end
end
end Go.AI
