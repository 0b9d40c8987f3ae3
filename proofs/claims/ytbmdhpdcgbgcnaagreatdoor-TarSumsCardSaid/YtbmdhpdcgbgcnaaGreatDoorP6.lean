/- Calls that have been evaluated by themselves may be looked up; worlds of which rows are told; memory that is kept; arguments of any shape: proved for every world that is told. -/
import Derived.Test.YtbmdhpdcgbgcnaaGreatDoorP5
import Derived.WideShapes
import Derived.WideKeyElems2
import Derived.WideKeyArgs
import Derived.OpenShut
import Derived.ProofKit
import Derived.ChangeShapes
import Derived.Deep.Slices
set_option maxRecDepth 1000000
set_option maxHeartbeats 0
set_option linter.unusedVariables false
set_option linter.unusedSimpArgs false
namespace Go.AI
open Go
noncomputable section
section
variable {P:Program}
noncomputable def zD(e:Nat)(l:List AV):Obj:=.row ⟨e,1,Xa l,T.ofList l,.unk,0,false,false,false⟩
noncomputable def oN(e:Nat->Nat):List (Nat×List AV)->T Obj->T Obj
 |[],t=>t
 |(g,l)::gs,t=>oN e gs (t.set g (zD (e g) l))
noncomputable def ZbC(H:Heap)(gs:List (Nat×List AV)):Bool:=List.rec true (λx _ ih=>cond (match H.t.get x.1 with|some (.row r)=>cond (Nat.beq r.sz 1) (cond (Nat.ble (Xa x.2) r.size) (MD (W9 r 0 (Xa x.2)) x.2) false) false|_=>false) ih false) gs
noncomputable def rh(v:AV)(r:CR):Bool:=match r with|.ret u _=>same u v|_=>false
theorem x6(e:Nat->Nat): ∀(gs:List (Nat×List AV)) (t:T Obj) (b:Nat) (o:Obj),(oN e gs t).get b=some o->(∃l,(b,l)∈gs∧o=zD (e b) l)∨t.get b=some o
 |[],t,b,o,h=>.inr h
 |(g,l)::gs,t,b,o,h=>by
  rcases x6 e gs _ b o h with⟨l2,h1,h2⟩|h1
  ·exact .inl ⟨l2,ZQ _ h1,h2⟩
  ·rw[T.get_set] at h1
   by_cases e3:g=b
   ·rw[if_pos e3] at h1;cases h1;subst e3;exact .inl ⟨l,ZE ..,rfl⟩
   ·rw[if_neg e3] at h1;exact .inr h1
theorem y4{H:Heap}: ∀{gs:List (Nat×List AV)},ZbC H gs=true-> ∀x∈gs,∃r,H.t.get x.1=some (.row r)∧r.sz=1∧Xa x.2<=r.size∧W9 r 0 (Xa x.2)=x.2
 |[],_,x,hx=>by cases hx
 |y::gs,h,x,hx=>by
  obtain⟨h1,h2⟩:=Yo (a:=match H.t.get y.1 with|some (.row r)=>cond (Nat.beq r.sz 1) (cond (Nat.ble (Xa y.2) r.size) (MD (W9 r 0 (Xa y.2)) y.2) false) false|_=>false) (b:=ZbC H gs) h
  rcases Ys.1 hx with rfl|hx
  ·cases hg:H.t.get x.1 with
   |none=>rw[hg] at h1;cases h1
   |some o=>
    rw[hg] at h1
    cases o with
    |row r=>
     obtain⟨h3,h4⟩:=Yo h1
     obtain⟨h4,h5⟩:=Yo h4
     exact⟨r,rfl,Ye h3,Yn h4,OK _ _ h5⟩
    |_=>cases h1
  ·exact y4 h2 x hx
end
inductive LO where
 |row (elem sz:Nat) (l:List AV) (fz:Nat) (sm own exact:Bool)
 |map (es:List Sy) (clock:Nat)
 |cmap (es:List Sy)
def LO.obj:LO->Obj
 |.row e sz l fz sm own exact=>.row ⟨e,sz,Xa l,T.ofList l,.unk,fz,sm,own,exact⟩
 |.map es c=>.map es c
 |.cmap es=>.cmap es
def rY(a b:AV):Bool:=match a with|.unk=>(match b with|.unk=>true|_=>false)|a=>same a b
def ya:List AV->List AV->Bool
 |[],[]=>true
 |a::as,b::bs=>cond (rY a b) (ya as bs) false
 |_,_=>false
def rX(a b:Bool):Bool:=cond a b (cond b false true)
def wo:List Sy->List Sy->Bool
 |[],[]=>true
 |a::as,b::bs=>cond (Nat.beq a.born b.born) (cond (same a.key b.key) (cond (same a.val b.val) (wo as bs) false) false) false
 |_,_=>false
def du(o:Obj)(x:LO):Bool:=match o,x with
 |.row r,.row e sz l fz sm own exact=>cond (Nat.beq r.elem e) (cond (Nat.beq r.sz sz) (cond (Nat.beq r.size (Xa l)) (cond (Nat.beq r.fz fz) (cond (rX r.sm sm) (cond (rX r.own own) (cond (rX r.exact exact)
   (ya (W9 r 0 r.size) l) false) false) false) false) false) false) false
 |.map es c,.map fs d=>cond (Nat.beq c d) (wo es fs) false
 |.cmap es,.cmap fs=>wo es fs
 |_,_=>false
theorem iE{a b:AV}(h:rY a b=true):a=b:=by
 unfold rY at h
 split at h
 ·split at h
  ·rfl
  ·cases h
 ·exact Ni _ _ h
theorem Ab: ∀{a b:List AV},ya a b=true->a=b
 |[],[],_=>rfl
 |[],_::_,h=>by cases h
 |_::_,[],h=>by cases h
 |a::as,b::bs,h=>by
  obtain⟨h1,h2⟩:=Yo (a:=rY a b) (b:=ya as bs) h
  rw[iE h1,Ab h2]
theorem DJ{a b:Bool}(h:rX a b=true):a=b:=by
 cases a<;>cases b<;>first|rfl|cases h
theorem DK: ∀{a b:List Sy},wo a b=true->a=b
 |[],[],_=>rfl
 |[],_::_,h=>by cases h
 |_::_,[],h=>by cases h
 |a::as,b::bs,h=>by
  obtain⟨h1,h2⟩:=Yo (a:=Nat.beq a.born b.born) (b:=cond (same a.key b.key) (cond (same a.val b.val) (wo as bs) false) false) h
  obtain⟨h2,h3⟩:=Yo h2
  obtain⟨h3,h4⟩:=Yo h3
  have e1:=Ye h1
  have e2:=Ni _ _ h2
  have e3:=Ni _ _ h3
  rw[DK h4]
  cases a;cases b
  simp only at e1 e2 e3
  rw[e1,e2,e3]
structure tS(o p:Obj):Prop where
 to: ∀σ l c,UI σ o l c->UI σ p l c
 of: ∀σ l c,UI σ p l c->UI σ o l c
 wr:wrO o=wrO p
 soft:MG o↔MG p
theorem Iv{σ:Mp}{r q:Row}{l:Loc}{cs:Array Value}{fr:Nat×Nat}(h1:r.sz=q.sz)(h2:r.size=q.size)(h3:r.fz=q.fz)(h4:r.sm=q.sm)(h5:r.own=q.own)(h6:r.exact=q.exact)
  (h7: ∀i,i<r.size->r.get i=q.get i)(h:RQ σ r l cs fr):RQ σ q l cs fr:=by
 refine⟨h.sz.trans h1,h.sz1,by rw[<-h2];exact h.fits,h.room,?_,?_,by rw[<-h2];exact h.one,?_,?_⟩
 ·rw[<-h6,<-h2];exact h.exact
 ·intro i hi
  rw[<-h2] at hi
  rw[<-h7 i hi];exact h.cell i hi
 ·rw[<-h5,<-h3];exact h.frz
 ·rw[<-h5,<-h4,<-h3];exact h.frs
theorem BK{o:Obj}{x:LO}(h:du o x=true):tS o x.obj:=by
 unfold du at h
 split at h
 ·rename_i r e sz l fz sm own exact
  obtain⟨a1,h⟩:=Yo h
  obtain⟨a2,h⟩:=Yo h
  obtain⟨a3,h⟩:=Yo h
  obtain⟨a4,h⟩:=Yo h
  obtain⟨a5,h⟩:=Yo h
  obtain⟨a6,h⟩:=Yo h
  obtain⟨a7,h⟩:=Yo h
  have a1:=Ye a1
  have a2:=Ye a2
  have a3:=Ye a3
  have a4:=Ye a4
  have a5:=DJ a5
  have a6:=DJ a6
  have a7:=DJ a7
  have a8:=Ab h
  have hget: ∀i,i<r.size->r.get i=(⟨e,sz,Xa l,T.ofList l,.unk,fz,sm,own,exact⟩:Row).get i:=by
   intro i hi
   have g1:=TZ r r.size 0 i hi
   rw[a8,Zb] at g1
   rw[Row.get_eq ⟨e,sz,Xa l,T.ofList l,.unk,fz,sm,own,exact⟩]
   show _=((T.ofList l).get i).getD .unk
   rw[T.get_ofList,g1]
   rfl
  refine⟨λσ l' c hr=>?_,λσ l' c hr=>?_,?_,λ⟨r',e',h'⟩=>by cases e';exact⟨_,rfl,a6.symm.trans h'⟩,λ⟨r',e',h'⟩=>by cases e';exact⟨_,rfl,a6.trans h'⟩⟩
  ·obtain⟨cs,fr,rfl,hr⟩:=hr
   exact⟨cs,fr,by rw[a1],Iv a2 a3 a4 a5 a6 a7 hget hr⟩
  ·obtain⟨cs,fr,rfl,hr⟩:=hr
   exact⟨cs,fr,by rw[a1],Iv a2.symm a3.symm a4.symm a5.symm a6.symm a7.symm (λi hi=>(hget i (by rw[a3];exact hi)).symm) hr⟩
  ·show r.own=own
   exact a6
 ·rename_i es c fs d
  obtain⟨a1,a2⟩:=Yo h
  have a1:=Ye a1
  have a2:=DK a2
  subst a1;subst a2
  exact⟨λ_ _ _ h=>h,λ_ _ _ h=>h,rfl,Iff.rfl⟩
 ·rename_i es fs
  have a2:=DK h
  subst a2
  exact⟨λ_ _ _ h=>h,λ_ _ _ h=>h,rfl,Iff.rfl⟩
 ·cases h
structure CE where
 args:List AV
 nx:Nat
 ro:Nat
 pre:List (Nat×LO)
 v:AV
 nx2:Nat
 post:List (Nat×LO)
 dead:List Nat
def DB:List (Nat×LO)->T Obj->T Obj
 |[],t=>t
 |x::l,t=>(DB l t).set x.1 x.2.obj
def Ch:List Nat->T Obj->T Obj
 |[],t=>t
 |b::l,t=>(Ch l t).del b
def US(b:Nat):List (Nat×LO)->Option LO
 |[]=>none
 |x::l=>cond (Nat.beq x.1 b) (some x.2) (US b l)
def Lr(b:Nat):List Nat->Bool
 |[]=>false
 |x::l=>cond (Nat.beq x b) true (Lr b l)
def CE.heap(x:CE)(gs:List (Nat×List AV))(e:Nat->Nat):Heap:=⟨x.nx,DB x.pre (oN e gs .leaf),x.ro⟩
def CE.after(x:CE)(H:Heap):Heap:=⟨x.nx2,DB x.post (Ch x.dead H.t),H.ro⟩
def vZ(H:Heap)(b:Nat)(o:LO):Bool:=match H.t.get b with|some p=>du p o|none=>false
def ze(H:Heap)(l:List (Nat×LO)):Bool:=List.rec true (λx _ ih=>cond (vZ H x.1 x.2) ih false) l
def zK(H:Heap)(l:List Nat):Bool:=List.rec true (λb _ ih=>cond (match H.t.get b with|none=>true|_=>false) ih false) l
def zl(H:Heap)(x:CE)(l:List (Nat×LO)):Bool:=List.rec true (λy _ ih=>cond (cond (Lr y.1 x.dead) true (match US y.1 x.post with|some _=>true|none=>vZ H y.1 y.2)) ih false) l
def CE.out(x:CE)(r:CR):Bool:=match r with
 |.ret v H=>cond (same v x.v) (cond (Nat.beq H.nx x.nx2) (cond (ze H x.post) (cond (zl H x x.pre) (zK H x.dead) false) false) false) false
 |_=>false
def zG(x:CE)(l:List (Nat×LO)):Bool:=List.rec true (λy _ ih=>cond (Nat.ble x.ro y.1) (cond (Lr y.1 x.dead) false
 (cond (match US y.1 x.pre with|some p=>cond (du p.obj y.2) false true|none=>cond (Nat.ble x.nx y.1) (wrO y.2.obj) false) ih false)) false) l
def AX(x:CE)(l:List Nat):Bool:=List.rec true (λb _ ih=>cond (Nat.ble x.ro b) (match US b x.pre with|some _=>ih|none=>false) false) l
def zd(l:List (Nat×LO)):Bool:=List.rec true (λy _ ih=>cond (wrO y.2.obj) ih false) l
def CE.wf(x:CE):Bool:=cond (zG x x.post) (cond (AX x x.dead) (zd x.pre) false) false
def CE.is(x:CE)(gs:List (Nat×List AV))(args:List AV)(H:Heap):Bool:=cond (Nat.beq H.nx x.nx) (cond (Nat.beq H.ro x.ro) (cond (MD args x.args) (cond (ZbC H gs) (ze H x.pre) false) false) false) false
def lj(gs:List (Nat×List AV))(args:List AV)(H:Heap)(l:List CE):Option CR:=List.rec none (λx _ ih=>cond (x.is gs args H) (some (.ret x.v (x.after H))) ih) l
theorem Q8(e:Nat->Nat)(gs:List (Nat×List AV)): ∀(l:List (Nat×LO)) (t:T Obj) (b:Nat),(DB l t).get b=match US b l with|some o=>some o.obj|none=>t.get b
 |[],t,b=>rfl
 |x::l,t,b=>by
  show((DB l t).set x.1 x.2.obj).get b=match cond (Nat.beq x.1 b) (some x.2) (US b l) with|some o=>some o.obj|none=>t.get b
  rw[T.get_set,YZ]
  by_cases h:x.1=b
  ·rw[if_pos h,Zi h];rfl
  ·rw[if_neg h,Ze h];exact Q8 e gs l t b
theorem J7: ∀(l:List Nat) (t:T Obj) (b:Nat),(Ch l t).get b=cond (Lr b l) none (t.get b)
 |[],t,b=>rfl
 |x::l,t,b=>by
  show((Ch l t).del x).get b=cond (cond (Nat.beq x b) true (Lr b l)) none (t.get b)
  rw[T.get_del,YZ]
  by_cases h:x=b
  ·rw[if_pos h,Zi h];rfl
  ·rw[if_neg h,Ze h];exact J7 l t b
theorem Tv{b:Nat}{o:LO}: ∀{l:List (Nat×LO)},US b l=some o->(b,o)∈l
 |[],h=>by cases h
 |x::l,h=>by
  have h:cond (Nat.beq x.1 b) (some x.2) (US b l)=some o:=h
  cases e:Nat.beq x.1 b with
  |true=>
   rw[e] at h;cases h
   have:=Ye e
   subst this
   exact ZE ..
  |false=>rw[e] at h;exact ZQ _ (Tv h)
theorem J8{b:Nat}: ∀{l:List Nat},Lr b l=true->b∈l
 |[],h=>by cases h
 |x::l,h=>by
  have h:cond (Nat.beq x b) true (Lr b l)=true:=h
  cases e:Nat.beq x b with
  |true=>
   have:=Ye e
   subst this
   exact ZE ..
  |false=>rw[e] at h;exact ZQ _ (J8 h)
theorem K3{H:Heap}: ∀{l:List (Nat×LO)},ze H l=true-> ∀x∈l,∃o,H.t.get x.1=some o∧tS o x.2.obj∧du o x.2=true
 |[],_,x,hx=>by cases hx
 |y::l,h,x,hx=>by
  obtain⟨h1,h2⟩:=Yo (a:=vZ H y.1 y.2) (b:=ze H l) h
  rcases Ys.1 hx with rfl|hx
  ·unfold vZ at h1
   split at h1
   ·rename_i p hp
    exact⟨p,hp,BK h1,h1⟩
   ·cases h1
  ·exact K3 h2 x hx
theorem G1{H:Heap}: ∀{l:List Nat},zK H l=true-> ∀b∈l,H.t.get b=none
 |[],_,x,hx=>by cases hx
 |y::l,h,x,hx=>by
  obtain⟨h1,h2⟩:=Yo (a:=match H.t.get y with|none=>true|_=>false) (b:=zK H l) h
  rcases Ys.1 hx with rfl|hx
  ·split at h1
   ·assumption
   ·cases h1
  ·exact G1 h2 x hx
theorem GY{H:Heap}{x:CE}: ∀{l:List (Nat×LO)},zl H x l=true-> ∀y∈l,Lr y.1 x.dead=true∨(∃o,US y.1 x.post=some o)∨ ∃o,H.t.get y.1=some o∧tS o y.2.obj
 |[],_,x,hx=>by cases hx
 |z::l,h,y,hy=>by
  obtain⟨h1,h2⟩:=Yo (a:=cond (Lr z.1 x.dead) true (match US z.1 x.post with|some _=>true|none=>vZ H z.1 z.2)) (b:=zl H x l) h
  rcases Ys.1 hy with rfl|hy
  ·cases e:Lr y.1 x.dead with
   |true=>exact .inl rfl
   |false=>
    rw[e] at h1
    cases e2:US y.1 x.post with
    |some o=>exact .inr (.inl ⟨o,rfl⟩)
    |none=>
     rw[e2] at h1
     have h1:vZ H y.1 y.2=true:=h1
     unfold vZ at h1
     split at h1
     ·rename_i p hp
      exact .inr (.inr ⟨p,hp,BK h1⟩)
     ·cases h1
  ·exact GY h2 y hy
theorem Dj{x:CE}: ∀{l:List (Nat×LO)},zG x l=true-> ∀y∈l,x.ro<=y.1∧Lr y.1 x.dead=false∧((∃p,US y.1 x.pre=some p∧du p.obj y.2=false)∨(x.nx<=y.1∧wrO y.2.obj=true))
 |[],_,x,hx=>by cases hx
 |z::l,h,y,hy=>by
  obtain⟨h1,h⟩:=Yo (a:=Nat.ble x.ro z.1) (b:=cond (Lr z.1 x.dead) false
 (cond (match US z.1 x.pre with|some p=>cond (du p.obj z.2) false true|none=>cond (Nat.ble x.nx z.1) (wrO z.2.obj) false) (zG x l) false)) h
  cases e:Lr z.1 x.dead with
  |true=>rw[e] at h;cases h
  |false=>
   rw[e] at h
   obtain⟨h2,h3⟩:=Yo (a:=match US z.1 x.pre with|some p=>cond (du p.obj z.2) false true|none=>cond (Nat.ble x.nx z.1) (wrO z.2.obj) false) (b:=zG x l) h
   rcases Ys.1 hy with rfl|hy
   ·refine⟨Yn h1,e,?_⟩
    split at h2
    ·rename_i p hp
     refine .inl ⟨p,hp,?_⟩
     cases e3:du p.obj y.2 with
     |true=>rw[e3] at h2;cases h2
     |false=>rfl
    ·obtain⟨h4,h5⟩:=Yo h2
     exact .inr ⟨Yn h4,h5⟩
   ·exact Dj h3 y hy
theorem GC{x:CE}: ∀{l:List Nat},AX x l=true-> ∀b∈l,x.ro<=b∧ ∃p,US b x.pre=some p
 |[],_,x,hx=>by cases hx
 |z::l,h,b,hb=>by
  obtain⟨h1,h⟩:=Yo (a:=Nat.ble x.ro z) (b:=match US z x.pre with|some _=>AX x l|none=>false) h
  split at h
  ·rename_i p hp
   rcases Ys.1 hb with rfl|hb
   ·exact⟨Yn h1,p,hp⟩
   ·exact GC h b hb
  ·cases h
theorem Be{gs:List (Nat×List AV)}{args:List AV}{H:Heap}{r:CR}: ∀{l:List CE},lj gs args H l=some r-> ∃x∈l,x.is gs args H=true∧r=.ret x.v (x.after H)
 |[],h=>by cases h
 |x::l,h=>by
  have h:cond (x.is gs args H) (some (.ret x.v (x.after H))) (lj gs args H l)=some r:=h
  cases e:x.is gs args H with
  |true=>rw[e] at h;cases h;exact⟨x,ZE ..,e,rfl⟩
  |false=>
   rw[e] at h
   obtain⟨y,hy,h1⟩:=Be h
   exact⟨y,ZQ _ hy,h1⟩
section
variable {P:Program}
theorem GV: ∀{l:List (Nat×LO)},zd l=true-> ∀y∈l,wrO y.2.obj=true
 |[],_,_,hy=>by cases hy
 |z::l,h,y,hy=>by
  obtain⟨h1,h2⟩:=Yo (a:=wrO z.2.obj) (b:=zd l) h
  rcases Ys.1 hy with rfl|hy
  ·exact h1
  ·exact GV h2 y hy
theorem MG.wrO{o:Obj}(h:MG o):wrO o=false:=by
 obtain⟨r,rfl,e⟩:=h
 exact e
theorem tR{H:Heap}{b:Nat}(h:Wr H b):H.ro<=b∧ ∃o,H.t.get b=some o∧wrO o=true:=by
 obtain⟨h1,o,h2,h3,h4⟩:=h
 refine⟨h1,o,h2,?_⟩
 cases o with
 |row r=>exact h3 r rfl
 |loop=>exact absurd rfl h4
 |_=>rfl
theorem Zbf{call:Nat->List AV->Heap->CR}(hcall:Sa P call){f:FuncId}{tab:List CE}{gs:List (Nat×List AV)}
  (htab: ∀x∈tab,x.wf=true∧ ∀e,x.out (call f x.args (x.heap gs e))=true)
  {args:List AV}{H:Heap}{r:CR}(h:lj gs args H tab=some r){σ:Mp}{w:World}{vs:List Value}(hs:WL P σ H w)(hv:Xj σ args vs):N0 P σ H w r ((callFunc f ⟨vs⟩).run P w):=by
 obtain⟨x,hx,his,rfl⟩:=Be h
 obtain⟨hwf,hout⟩:=htab x hx
 obtain⟨i1,his⟩:=Yo his
 obtain⟨i2,his⟩:=Yo his
 obtain⟨i3,his⟩:=Yo his
 obtain⟨i4,i5⟩:=Yo his
 have i1:H.nx=x.nx:=Ye i1
 have i2:H.ro=x.ro:=Ye i2
 have i3:=OK _ _ i3
 have hpre:=K3 i5
 obtain⟨w1,w2⟩:=Yo hwf
 have hnew:=Dj w1
 obtain⟨w2,w3⟩:=Yo w2
 have aN:=GC w2
 have Zei:=GV w3
 subst i3
 let e:Nat->Nat:=λy=>match H.t.get y with|some (.row q)=>q.elem|_=>0
 have Cm:=hout e
 have hget: ∀y o,(x.heap gs e).t.get y=some o->(∃p,US y x.pre=some p∧o=p.obj)∨(US y x.pre=none∧ ∃l,(y,l)∈gs∧o=zD (e y) l):=by
  intro y o hy
  have hy:(DB x.pre (oN e gs .leaf)).get y=some o:=hy
  rw[Q8 e gs] at hy
  cases hf:US y x.pre with
  |some p=>rw[hf] at hy;cases hy;exact .inl ⟨p,rfl,rfl⟩
  |none=>
   rw[hf] at hy
   rcases x6 e gs .leaf y o hy with h|h
   ·exact .inr ⟨rfl,h⟩
   ·rw[T.get_leaf] at h;cases h
 have inH: ∀y o,(x.heap gs e).t.get y=some o-> ∃o',H.t.get y=some o'∧(∀l c,UI σ o' l c->UI σ o l c)∧(wrO o=true->wrO o'=true)∧(MG o'->MG o):=by
  intro y o hy
  rcases hget y o hy with⟨p,hp,rfl⟩|⟨_,l,hl,rfl⟩
  ·obtain⟨o',h1,h2,_⟩:=hpre _ (Tv hp)
   exact⟨o',h1,h2.to σ,λh=>h2.wr.trans h,h2.soft.1⟩
  ·obtain⟨q,g3,g4,g5,g6⟩:=y4 i4 _ hl
   have g5:Xa l<=q.size:=g5
   have g6:W9 q 0 (Xa l)=l:=g6
   have g3:H.t.get y=some (.row q):=g3
   refine⟨_,g3,λl' c hc=>?_,(λh=>by cases h),λ_=>⟨_,rfl,rfl⟩⟩
   obtain⟨cs,fr,rfl,hr⟩:=hc
   have hey:e y=q.elem:=by show(match H.t.get y with|some (.row q)=>q.elem|_=>0)=_;rw[g3]
   refine⟨cs,fr,by rw[hey],?_⟩
   have gsz:l'.sz=1:=by rw[hr.sz,g4]
   refine⟨gsz,hr.sz1,by have:=hr.fits;show Xa l<=_;omega,hr.room,(λh=>by cases h),λi hi=>?_,λi v hi hv=>hr.one i v (Yk hi g5) hv,(λh=>by cases h),(λh=>by cases h)⟩
   have hi:i<Xa l:=hi
   obtain⟨v,h7,h8⟩:=hr.cell i (by omega)
   refine⟨v,h7,?_⟩
   have g7:=TZ q (Xa l) 0 i hi
   rw[g6,Zb] at g7
   rw[Row.get_eq]
   show YU σ (((T.ofList l).get i).getD .unk) v
   rw[T.get_ofList,g7]
   exact h8
 have kn:WL P σ (x.heap gs e) w:=by
  refine⟨λy l hy=>by show y<x.nx;rw[<-i1];exact hs.dom y l hy,λy o hy=>?_,λy o l hy hl=>?_,λy y' o o' l l' hy hy' hl hl' he=>?_,hs.glob,by show x.ro<=x.nx;rw[<-i1,<-i2];exact hs.ro⟩
  ·obtain⟨o',h1,_⟩:=inH y o hy
   show y<x.nx
   rw[<-i1];exact hs.low y o' h1
  ·obtain⟨o',h1,h2,_⟩:=inH y o hy
   obtain⟨c,hc,hr⟩:=hs.alive y o' l h1 hl
   exact⟨c,hc,h2 l c hr⟩
  ·obtain⟨o1,h1,_,_,s1⟩:=inH y o hy
   obtain⟨o2,h2,_,_,s2⟩:=inH y' o' hy'
   exact(hs.inj y y' o1 o2 l l' h1 h2 hl hl' he).imp_right λs=>⟨s1 s.1,s2 s.2⟩
 have wrH: ∀y,Wr (x.heap gs e) y->Wr H y∧ ∃p,US y x.pre=some p:=by
  intro y hy
  obtain⟨h1,o,h2,h3⟩:=tR hy
  obtain⟨o',g1,g2,g3,_⟩:=inH y o h2
  refine⟨D6 g1 (by rw[i2];exact h1) (g3 h3),?_⟩
  rcases hget y o h2 with⟨p,hp,_⟩|⟨_,l,_,rfl⟩
  ·exact⟨p,hp⟩
  ·cases h3
 have hcr:=hcall f x.args (x.heap gs e) σ w vs kn hv
 generalize call f x.args (x.heap gs e)=res at hcr Cm
 cases res with
 |fail=>cases Cm
 |pan _ _=>cases Cm
 |ret v H'=>
  obtain⟨o1,Cm⟩:=Yo Cm
  obtain⟨o2,Cm⟩:=Yo Cm
  obtain⟨o3,Cm⟩:=Yo Cm
  obtain⟨o4,o5⟩:=Yo Cm
  have o1:=Ni _ _ o1
  subst o1
  have o2:H'.nx=x.nx2:=Ye o2
  have hpost:=K3 o3
  have hkeep:=GY o4
  have hnone:=G1 o5
  refine Ends.mono (λu' w' hx=>?_) (λ_ _ hx=>hx) hcr
  obtain⟨σ',hr,t⟩:=hx
  refine⟨σ',hr,?_⟩
  have tnx:x.nx<=H'.nx:=t.nx
  have hafter: ∀b o,(x.after H).t.get b=some o->
    (∃o',H'.t.get b=some o'∧tS o o'∧((∃p,US b x.pre=some p)∨(x.nx<=b∧x.ro<=b∧wrO o=true)))
    ∨(US b x.pre=none∧H.t.get b=some o):=by
   intro b o hb
   have hb:(DB x.post (Ch x.dead H.t)).get b=some o:=hb
   rw[Q8 e gs] at hb
   cases hp:US b x.post with
   |some p=>
    rw[hp] at hb;cases hb
    obtain⟨o',h1,h2,h3⟩:=hpost _ (Tv hp)
    obtain⟨n1,n2,n3⟩:=hnew _ (Tv hp)
    refine .inl ⟨o',h1,⟨h2.of,h2.to,h2.wr.symm,h2.soft.symm⟩,?_⟩
    rcases n3 with⟨p',n4,_⟩|⟨n4,n5⟩
    ·exact .inl ⟨p',n4⟩
    ·exact .inr ⟨n4,n1,n5⟩
   |none=>
    rw[hp] at hb
    have hb:(Ch x.dead H.t).get b=some o:=hb
    rw[J7] at hb
    cases hd:Lr b x.dead with
    |true=>rw[hd] at hb;cases hb
    |false=>
     rw[hd] at hb
     have hb:H.t.get b=some o:=hb
     cases hq:US b x.pre with
     |none=>exact .inr ⟨rfl,hb⟩
     |some p=>
      rcases hkeep _ (Tv hq) with k|⟨_,k⟩|⟨o',k1,k2⟩
      ·have k:Lr b x.dead=true:=k
       rw[hd] at k;cases k
      ·have k:US b x.post=_:=k
       rw[hp] at k;cases k
      ·obtain⟨o'',q1,q2,_⟩:=hpre _ (Tv hq)
       have q1:H.t.get b=some o'':=q1
       rw[hb] at q1;cases q1
       exact .inl ⟨o',k1,⟨λσ l c h=>k2.of σ l c (q2.to σ l c h),λσ l c h=>q2.of σ l c (k2.to σ l c h),q2.wr.trans k2.wr.symm,q2.soft.trans k2.soft.symm⟩,.inl ⟨p,rfl⟩⟩
  have hold: ∀b o l,US b x.pre=none->H.t.get b=some o->σ' b=some l->σ b=some l:=by
   intro b o l _ hb hl
   have hlt:=hs.low b o hb
   cases hσ:σ b with
   |none=>
    have:=(t.pend b (by show b<x.nx;omega) hσ).2
    rw[this] at hl;cases hl
   |some l0=>rw[t.ext b l0 hσ] at hl;exact hl
  have Zer: ∀b p,US b x.pre=some p-> ∃o,H.t.get b=some o∧b<x.nx:=by
   intro b p hp
   obtain⟨o,q1,_⟩:=hpre _ (Tv hp)
   exact⟨o,q1,by rw[<-i1];exact hs.low b o q1⟩
  have xj: ∀b l,b<x.nx->σ' b=some l->(∃o,H'.t.get b=some o)->σ b=some l:=by
   intro b l hlt hl _
   cases hσ:σ b with
   |none=>
    have:=(t.pend b hlt hσ).2
    rw[this] at hl;cases hl
   |some l0=>rw[t.ext b l0 hσ] at hl;exact hl
  have Zef: ∀b o l y l',US b x.pre=none->H.t.get b=some o->σ b=some l->Wr (x.heap gs e) y->σ y=some l'->l'.blk=l.blk->False:=by
   intro b o l y l' hb ho hl hw hy he
   obtain⟨h1,p,hp⟩:=wrH y hw
   obtain⟨_,oy,h2,h3⟩:=tR h1
   have:=hs.alone h2 ho hy hl he λs=>by rw[s.1.wrO] at h3;cases h3
   subst this
   rw[hb] at hp;cases hp
  have Zem: ∀b o l b' l' o1,US b x.pre=none->H.t.get b=some o->σ' b=some l->H'.t.get b'=some o1->σ' b'=some l'->l.blk=l'.blk->
    ((∃p,US b' x.pre=some p)∨(x.nx<=b'∧x.ro<=b'∧wrO o1=true))->b=b':=by
   intro b o l b' l' o1 hb ho hl ho1 hl' he hor
   have hl0:=hold b o l hb ho hl
   rcases hor with⟨p,hp⟩|⟨n1,n2,n3⟩
   ·obtain⟨o2,q1,q2⟩:=Zer b' p hp
    refine hs.alone ho q1 hl0 (xj b' l' q2 hl' ⟨o1,ho1⟩) he λs=>?_
    obtain⟨o3,g1,g2,_⟩:=hpre _ (Tv hp)
    have g1:H.t.get b'=some o3:=g1
    rw[q1] at g1;cases g1
    have:=Zei _ (Tv hp)
    rw[<-g2.wr,s.2.wrO] at this;cases this
   ·exfalso
    obtain⟨c,hc,_⟩:=hs.alive b o l ho hl0
    have hlt:l'.blk<w.heap.size:=by rw[<-he];exact(Ym.1 hc).1
    have hro:H'.ro<=b':=by rw[t.ro];exact n2
    obtain⟨b0,l0,h1,h2,h3⟩:=t.wr b' l' (D6 ho1 hro n3) hl' hlt
    exact Zef b o l b0 l0 hb ho hl0 h1 h2 (h3.trans he.symm)
  refine⟨t.ext,⟨?_,?_,?_,?_,t.sim.glob,?_⟩,t.size,?_,?_,?_,rfl,?_,t.tape,t.os,t.out,?_⟩
  ·intro b l hb
   show b<x.nx2
   rw[<-o2];exact t.sim.dom b l hb
  ·intro b o hb
   show b<x.nx2
   rw[<-o2]
   rcases hafter b o hb with⟨o',h1,_⟩|⟨_,h1⟩
   ·exact t.sim.low b o' h1
   ·have:=hs.low b o h1;omega
  ·intro b o l hb hl
   rcases hafter b o hb with⟨o',h1,h2,_⟩|⟨h0,h1⟩
   ·obtain⟨c,hc,hrel⟩:=t.sim.alive b o' l h1 hl
    exact⟨c,hc,h2.of σ' l c hrel⟩
   ·have hl0:=hold b o l h0 h1 hl
    obtain⟨c,hc,hrel⟩:=hs.alive b o l h1 hl0
    refine⟨c,?_,hrel.mono t.ext⟩
    rw[t.frame l.blk (Ym.1 hc).1 λy ly hw hy he=>Zef b o l y ly h0 h1 hl0 hw hy he]
    exact hc
  ·intro b b' o o' l l' hb hb' hl hl' he
   rcases hafter b o hb with⟨p,h1,h2,h3⟩|⟨h0,h1⟩<;>rcases hafter b' o' hb' with⟨p',h1',h2',h3'⟩|⟨h0',h1'⟩
   ·exact(t.sim.inj b b' p p' l l' h1 h1' hl hl' he).imp_right λs=>⟨h2.soft.2 s.1,h2'.soft.2 s.2⟩
   ·exact .inl (Zem b' o' l' b l p h0' h1' hl' h1 hl he.symm (h3.imp_right λ⟨a,b,c⟩=>⟨a,b,by rw[<-h2.wr];exact c⟩)).symm
   ·exact .inl<|Zem b o l b' l' p' h0 h1 hl h1' hl' he (h3'.imp_right λ⟨a,b,c⟩=>⟨a,b,by rw[<-h2'.wr];exact c⟩)
   ·exact hs.inj b b' o o' l l' h1 h1' (hold b o l h0 h1 hl) (hold b' o' l' h0' h1' hl') he
  ·show H.ro<=x.nx2
   have:=hs.ro
   omega
  ·intro k hk hn
   exact t.frame k hk λy l hw hl=>hn y l (wrH y hw).1 hl
  ·intro b l hw hl hlt
   obtain⟨hro,o,ho,hwo⟩:=tR hw
   rcases hafter b o ho with⟨o',h1,h2,_⟩|⟨h0,h1⟩
   ·obtain⟨b0,l0,g1,g2,g3⟩:=t.wr b l (D6 h1 (by rw[t.ro];show x.ro<=b;rw[<-i2];exact hro) (by rw[<-h2.wr];exact hwo)) hl hlt
    exact⟨b0,l0,(wrH b0 g1).1,g2,g3⟩
   ·exact⟨b,l,D6 h1 hro hwo,hold b o l h0 h1 hl,rfl⟩
  ·show H.nx<=x.nx2
   omega
  ·intro b hb
   show(DB x.post (Ch x.dead H.t)).get b=H.t.get b
   rw[Q8 e gs]
   cases hp:US b x.post with
   |some p=>
    have:=(hnew _ (Tv hp)).1
    have:x.ro<=b:=this
    omega
   |none=>
    show(Ch x.dead H.t).get b=_
    rw[J7]
    cases hd:Lr b x.dead with
    |true=>
     have:=(aN _ (J8 hd)).1
     omega
    |false=>rfl
  ·intro b hb hσ
   obtain⟨p1,p2⟩:=t.pend b (by show b<x.nx;omega) hσ
   refine⟨?_,p2⟩
   show(DB x.post (Ch x.dead H.t)).get b=H.t.get b
   rw[Q8 e gs]
   cases hp:US b x.post with
   |some p=>
    exfalso
    obtain⟨n1,n2,n3⟩:=hnew _ (Tv hp)
    obtain⟨o',h1,h2,h3⟩:=hpost _ (Tv hp)
    have h1:H'.t.get b=some o':=h1
    rcases n3 with⟨q,n4,n5⟩|⟨n4,_⟩
    ·have n4:US b x.pre=some q:=n4
     have:(x.heap gs e).t.get b=some q.obj:=by
      show(DB x.pre (oN e gs .leaf)).get b=_
      rw[Q8 e gs,n4]
     rw[<-p1,h1] at this
     cases this
     rw[h3] at n5;cases n5
    ·have n4:x.nx<=b:=n4
     omega
   |none=>
    show(Ch x.dead H.t).get b=_
    rw[J7]
    cases hd:Lr b x.dead with
    |true=>
     exfalso
     obtain⟨_,q,n4⟩:=aN _ (J8 hd)
     have:(x.heap gs e).t.get b=some q.obj:=by
      show(DB x.pre (oN e gs .leaf)).get b=_
      rw[Q8 e gs,n4]
     rw[<-p1,hnone _ (J8 hd)] at this
     cases this
    |false=>rfl
end
section
variable {P:Program}
theorem sD{H:Type}{R:MapEntry->Option ((Lit×DataW H)×List MemPlace)}{fk:Lit->AV}{fv:DataW H->AV}{σ:Mp}: ∀(l:List MapEntry) (entries:List ((Lit×DataW H)×List MemPlace)),
  l.mapM R=some entries->(∀x∈l,∀y,R x=some y->y∈entries->YU σ (fk y.1.1) x.key∧YU σ (fv y.1.2) x.val)->
  ∃fs,Y3 σ fs l∧fs.map T9=entries.map λz=>(fk z.1.1,fv z.1.2)
 |[],entries,h,_=>by
  simp only[List.mapM_nil] at h
  cases h
  exact⟨[],Na,rfl⟩
 |x::l,entries,h,hr=>by
  rw[List.mapM_cons] at h
  simp only[bind,Option.bind_eq_some_iff,pure] at h
  obtain⟨y,h1,zs,h2,h3⟩:=h
  cases h3
  obtain⟨fs,h4,h5⟩:=sD l zs h2 (λz hz u hu hm=>hr z (ZQ _ hz) u hu (ZQ _ hm))
  obtain⟨h6,h7⟩:=hr x (ZE ..) y h1 (ZE ..)
  refine⟨⟨fk y.1.1,fv y.1.2,x.born⟩::fs,⟨x,l,⟨h6,h7,rfl⟩,h4,rfl⟩,?_⟩
  rw[ZB,ZB,h5]
  rfl
theorem L9{H:Type}{enc:TypeId×Value->H}{W:World}{t k e:TypeId}{held:Bool}{m:Nat}{cs:List Value}{sorted:List (Lit×DataW H)}{p:List MemPlace}(ht:P.underlying t=some (.map k e))
  (h:DataW.trod enc P W 0 (λ_=>true) held m t cs=some (.map sorted,p)){fk:Lit->AV}{fv:DataW H->AV}{σ:Mp}
  (hk: ∀x l,keyOf P k x=some l->YU σ (fk l) x)
  (hv: ∀(x:Value) n y,x.formed P e=true->DataW.trod enc P W 0 (λ_=>true) held n e x.cells.toList=some y->(∃key,(key,y.1)∈sorted)->YU σ (fv y.1) x):
  ∃b es clock fs,cs=[.map (some b)]∧MemPlace.map b∈p∧W.heap[b]? =some (.map es clock)∧Y3 σ fs es.toList∧(fs.map T9).Perm (sorted.map λq=>(fk q.1,fv q.2)):=by
 cases m with
 |zero=>simp[DataW.trod] at h
 |succ m=>
  have key: ∃b,cs=[.map (some b)]:=by
   unfold DataW.trod at h
   rw[ht] at h
   rcases cs with _|⟨c0,_|⟨c1,cs⟩⟩
   ·simp at h
   ·cases c0<;>try (simp at h;done)
    rename_i r
    cases r with
    |none=>simp at h
    |some b=>exact⟨b,rfl⟩
   ·simp at h
  obtain⟨b,rfl⟩:=key
  unfold DataW.trod at h
  rw[ht] at h
  simp only at h
  split at h
  ·rename_i es clock hb
   split at h
   ·obtain⟨entries,h1,h2⟩:=Option.bind_eq_some_iff.1 h
    split at h2
    ·simp only[Option.some.injEq,Prod.mk.injEq,DataW.map.injEq] at h2
     obtain⟨h3,h4⟩:=h2
     have hperm:=WideShapes.sorted_perm (entries.map (·.1))
     rw[h3] at hperm
     obtain⟨fs,h5,h6⟩:=sD (fk:=fk) (fv:=fv) (σ:=σ) es.toList entries h1 (λx hx y hy hm=>by
      obtain⟨key,h7,h8⟩:=Option.bind_eq_some_iff.1 hy
      split at h8
      ·rename_i hf
       obtain⟨z,h9,h10⟩:=Uy.1 h8
       subst h10
       refine⟨hk _ _ h7,hv _ _ z hf h9 ⟨key,?_⟩⟩
       exact hperm.mem_iff.2 (Xq.2 ⟨_,hm,rfl⟩)
      ·cases h8)
     refine⟨b,es,clock,fs,rfl,by rw[<-h4];exact ZE ..,hb,h5,?_⟩
     rw[h6]
     have:=(hperm.map λq:Lit×DataW H=>(fk q.1,fv q.2)).symm
     rw[Sc] at this
     exact this
    ·cases h2
   ·cases h
  ·cases h
def zy:Lit->AV
 |.string s=>.str s
 |.int k n=>.int k n
 |_=>.unk
theorem E9{k:TypeId}{q:IntKind}(hu:P.underlying k=some (.int q)){σ:Mp}(x:Value)(l:Lit)(h:keyOf P k x=some l):YU σ (zy l) x:=by
 unfold keyOf at h
 rw[hu] at h
 unfold mapKey at h
 rw[hu] at h
 cases x<;>simp at h
 obtain⟨⟨rfl,_⟩,rfl⟩:=h
 simp[zy,YU]
theorem kE{k:TypeId}(hu:P.underlying k=some .string){σ:Mp}(x:Value)(l:Lit)(h:keyOf P k x=some l):YU σ (zy l) x:=by
 unfold keyOf at h
 rw[hu] at h
 unfold mapKey at h
 rw[hu] at h
 cases x<;>simp at h
 obtain⟨_,rfl⟩:=h
 simp[zy,YU]
theorem nJ{x:Value}{v:Value}(h:x.cells.toList=[v])(hx: ∀cs,x≠.agg cs):x=v:=by
 cases x with
 |agg cs=>exact absurd rfl (hx cs)
 |_=>simpa [Value.cells] using h
theorem EO{e:TypeId}{d:TypeDesc}(hu:P.underlying e=some d)(hd:(match d with|.struct _|.array _ _=>false|_=>true)=true){x:Value}(h:x.formed P e=true): ∀cs,x≠.agg cs:=by
 rintro cs rfl
 unfold Value.formed at h
 rw[hu] at h
 cases d<;>first|(simp at hd;done)|(simp at h;done)
def xx(d:DataW Unit):AV:=match d with
 |.lit (.int k n)=>.int k n
 |.agg ds=>.agg (HD ds)
 |_=>.unk
theorem qd{e:TypeId}{q:IntKind}(hu:P.underlying e=some (.int q)){σ:Mp}{W:World}(x:Value)(n:Nat)(y:DataW Unit×List MemPlace)(hf:x.formed P e=true)
  (h:DataW.trod (λ_=>()) P W 0 (λ_=>true) false n e x.cells.toList=some y):YU σ (xx y.1) x:=by
 obtain⟨z,h1,rfl,_⟩:=DataW.trod_int hu h
 rw[nJ h1 (EO hu rfl hf)]
 simp[xx,YU]
theorem bN{e:TypeId}{c:Nat}{W:World}(hr:Tj P W e c)(hu: ∃n a,P.underlying e=some (.array n a)){σ:Mp}(x:Value)(n:Nat)(y:DataW Unit×List MemPlace)(hf:x.formed P e=true)
  (h:DataW.trod (λ_=>()) P W 0 (λ_=>true) false n e x.cells.toList=some y)(hy: ∃ds,y.1=.agg ds):YU σ (xx y.1) x:=by
 obtain⟨_,h2,h3⟩:=hr _ _ _ h
 obtain⟨ds,hds⟩:=hy
 obtain⟨k,a,hu⟩:=hu
 have hx: ∃cs,x=.agg cs:=by
  unfold Value.formed at hf
  cases x<;>first|exact⟨_,rfl⟩|(rw[hu] at hf;simp at hf;done)|(simp at hf;done)
 obtain⟨cs,rfl⟩:=hx
 rw[hds] at h2 ⊢
 simp only[xx,YU]
 refine⟨cs.toList,?_,λv hv=>h3 v hv,rfl⟩
 have h2:Xj (λ_=>none) (HD ds) cs.toList:=h2
 exact Xj.mono (λb l h=>by cases h) h2
theorem D5{e:TypeId}{ps rs:Array TypeId}{va:Bool}(hu:P.underlying e=some (.func ps rs va)){σ:Mp}{W:World}{name:String}{f:Nat}(hf:P.funcNamed name=some f)(hne:name.toUTF8.data.toList≠[])
  (x:Value)(n:Nat)(y:DataW (List UInt8)×List MemPlace)(hform:x.formed P e=true)
  (h:DataW.trod (funcToken P) P W 0 (λ_=>true) true n e x.cells.toList=some y)(hy:y.1=.held name.toUTF8.data.toList):YU σ (.func f [] []) x:=by
 have hone:=EO hu rfl hform
 cases n with
 |zero=>simp[DataW.trod] at h
 |succ n=>
  unfold DataW.trod at h
  rw[hu] at h
  have hx:x.cells.toList=[x]:=by cases x<;>first|rfl|exact absurd rfl (hone _)
  rw[hx] at h
  cases x with
  |nilFunc=>simp at h;subst h;cases hy
  |func fn a b=>
   simp at h
   subst h
   simp only[DataW.held.injEq] at hy
   unfold funcToken at hy
   cases fn with
   |func g=>
    simp only at hy
    split at hy
    ·rename_i hab
     simp only[Xf,Array.isEmpty_iff] at hab
     obtain⟨rfl,rfl⟩:=hab
     cases hg:P.funcs[g]? with
     |none=>rw[hg] at hy;exact absurd hy.symm hne
     |some fn=>
      rw[hg] at hy
      simp only at hy
      split at hy
      ·rename_i hn
       have h1:fn.name.toUTF8=name.toUTF8:=by
        have h2:fn.name.toUTF8.data=name.toUTF8.data:=Array.toList_inj.1 hy
        cases h3:fn.name.toUTF8;cases h4:name.toUTF8
        rw[h3,h4] at h2
        simp only at h2
        rw[h2]
       have h5:fn.name=name:=by
        exact String.toByteArray_inj.1 h1
       rw[h5] at hn
       have hn:P.funcNamed name=some g:=by simpa using hn
       rw[hf] at hn
       cases hn
       simp only[YU]
       exact⟨[],[],V1,V1,rfl⟩
      ·exact absurd hy.symm hne
    ·exact absurd hy.symm hne
   |_=>simp at hy;exact absurd hy.symm (by simpa using hne)
  |_=>simp at h
noncomputable def zY:List (Nat×List Sy)->T Obj->T Obj
 |[],t=>t
 |x::l,t=>zY l (t.set x.1 (.cmap x.2))
theorem LD: ∀(ms:List (Nat×List Sy)) (t:T Obj) (b:Nat) (o:Obj),(zY ms t).get b=some o->(∃es,(b,es)∈ms∧o=.cmap es)∨t.get b=some o
 |[],t,b,o,h=>.inr h
 |(b',es)::ms,t,b,o,h=>by
  rcases LD ms _ b o h with⟨es2,h1,h2⟩|h1
  ·exact .inl ⟨es2,ZQ _ h1,h2⟩
  ·rw[T.get_set] at h1
   by_cases e3:b'=b
   ·rw[if_pos e3] at h1;cases h1;subst e3;exact .inl ⟨es,ZE ..,rfl⟩
   ·rw[if_neg e3] at h1;exact .inr h1
noncomputable def AP(n:Nat)(rs:List (Nat×Nat×List AV))(ms:List (Nat×List Sy)):Heap:=⟨n,zZ rs (zY ms .leaf),n⟩
theorem ql{W:World}{rs:List (Nat×Nat×List AV)}{ms:List (Nat×List Sy)}{n:Nat}{σ:Mp}(hσ: ∀g,g<P.globals.size-> ∃l,σ g=some l∧l.blk=g∧l.base=0)(hdom: ∀b l,σ b=some l->b<n)
  (hr: ∀b e l,(b,e,l)∈rs-> ∃cs fr,σ b=some ⟨b,0,Xa l,1⟩∧W.heap[b]? =some (.cells cs e fr)∧Xj σ l cs.toList∧ ∀v∈cs,v.oneCell'=true)
  (hm: ∀b es,(b,es)∈ms-> ∃l ents clock fs,σ b=some l∧W.heap[l.blk]? =some (.map ents clock)∧Y3 σ fs ents.toList∧(fs.map T9).Perm (es.map T9)∧es.Pairwise AM)
  (hi: ∀b es b' es' l l',(b,es)∈ms->(b',es')∈ms->σ b=some l->σ b'=some l'->l.blk=l'.blk->b=b'):WL P σ (AP n rs ms) W:=by
 have hget: ∀b o,(AP n rs ms).t.get b=some o->(∃e l,(b,e,l)∈rs∧o=.row ⟨e,1,Xa l,T.ofList l,.unk,0,false,false,true⟩)∨ ∃es,(b,es)∈ms∧o=.cmap es:=by
  intro b o h
  rcases LF rs _ b o h with h|h
  ·exact .inl h
  ·rcases LD ms _ b o h with h|h
   ·exact .inr h
   ·rw[T.get_leaf] at h;cases h
 refine⟨hdom,λb o h=>?_,λb o l h hl=>?_,λb b' o o' l l' h h' hl hl' e=>?_,hσ,Zz _⟩
 ·rcases hget b o h with⟨e,l,h1,_⟩|⟨es,h1,_⟩
  ·obtain⟨cs,fr,h2,_⟩:=hr b e l h1
   exact hdom b _ h2
  ·obtain⟨l,_,_,_,h2,_⟩:=hm b es h1
   exact hdom b _ h2
 ·rcases hget b o h with⟨e,l',h1,rfl⟩|⟨es,h1,rfl⟩
  ·obtain⟨cs,fr,h2,h3,h4,h5⟩:=hr b e l' h1
   rw[h2] at hl;cases hl
   refine⟨_,h3,cs,fr,rfl,?_⟩
   have hlen:cs.size=Xa l':=by rw[Y6,h4.length];simp
   refine⟨rfl,Zz _,by show Xa l'<=Xa l'*1;omega,by show 0+Xa l'*1<=cs.size;omega,λ_=>⟨by show Xa l'=Xa l'*1;omega,rfl,hlen⟩,λi hi=>?_,λi v _ hv=>h5 v (Vo hv),(λh=>by cases h),(λh=>by cases h)⟩
   have hi:i<Xa l':=hi
   have hi':i<l'.length:=by rw[Y6] at hi;exact hi
   obtain⟨v,h6,h7⟩:=h4.get (i:=i) (a:=l'[i]) (Zp hi')
   refine⟨v,by rw[Zb,<-YE];exact h6,?_⟩
   have:(⟨e,1,Xa l',T.ofList l',.unk,0,false,false,true⟩:Row).get i=l'[i]:=by
    rw[Row.get_eq]
    show((T.ofList l').get i).getD .unk=_
    rw[T.get_ofList,Zp hi'];rfl
   rw[this]
   exact h7
  ·obtain⟨l2,ents,clock,fs,h2,h3,h4,h5,h6⟩:=hm b es h1
   rw[h2] at hl;cases hl
   exact⟨_,h3,ents,clock,fs,rfl,h4,h5,h6⟩
 ·rcases hget b o h with⟨e1,l1,h1,_⟩|⟨es,h1,_⟩<;>rcases hget b' o' h' with⟨e2,l2,h2,_⟩|⟨es',h2,_⟩
  ·obtain⟨_,_,h3,_⟩:=hr b e1 l1 h1
   obtain⟨_,_,h4,_⟩:=hr b' e2 l2 h2
   rw[h3] at hl;rw[h4] at hl'
   cases hl;cases hl'
   exact .inl e
  ·exfalso
   obtain⟨_,_,h3,h5,_⟩:=hr b e1 l1 h1
   obtain⟨_,_,_,_,h4,h6,_⟩:=hm b' es' h2
   rw[h3] at hl;rw[h4] at hl'
   cases hl;cases hl'
   have e:b=_:=e
   rw[<-e,h5] at h6
   cases h6
  ·exfalso
   obtain⟨_,_,h3,h5,_⟩:=hr b' e2 l2 h2
   obtain⟨_,_,_,_,h4,h6,_⟩:=hm b es h1
   rw[h3] at hl';rw[h4] at hl
   cases hl;cases hl'
   have e:_=b':=e
   rw[e,h5] at h6
   cases h6
  ·exact .inl<|hi b es b' es' l l' h1 h2 hl hl' e
theorem Cn{l:List (String×DataW Unit)}{w:World}(h:laidMetH P l w):laidMet P (l.filter λx=>x.2.handleName?.isNone) w:=by
 unfold laidMetH at h
 generalize hfl:(l.filter λx=>x.2.handleName?.isSome)=fl at h
 cases fl with
 |nil=>
  have e:(l.filter λx=>x.2.handleName?.isNone)=l:=by
   rw[List.filter_eq_self]
   intro x hx
   have:=(List.filter_eq_nil_iff.1 hfl) x hx
   cases hn:x.2.handleName? with
   |none=>rfl
   |some s=>rw[hn] at this;exact absurd rfl this
  rw[e]
  exact h
 |cons a as=>exact h.1
theorem GZ{W:World}: ∀{l:List (String×DataW Unit)} {ps:List MemPlace},DataW.LaidVars P W l ps-> ∃pf:Nat->List MemPlace,
  (∀i n d,l[i]? =some (n,d)-> ∃g t cs fuel,P.globalNamed n=some g∧(P.globals[g]?).map (·.type)=some t∧W.var? P n=some cs∧DataW.trod (λ_=>()) P W 0 (λ_=>true) false fuel t cs.toList=some (d,pf i)∧ ∀x∈MemPlace.row ⟨g,0,none⟩ cs.size,x∈ps)∧
  (∀i x,i<l.length->x∈pf i->x∈ps)∧(ps.Nodup-> ∀i j x,i<j->j<l.length->x∈pf i->x∈pf j->False)
 |[],_,_=>⟨λ_=>[],(λi n d h=>by simp at h),(λi x h=>by simp at h),(λ_ i j x _ h=>by simp at h)⟩
 |(n',d')::r,ps,h=>by
  obtain⟨g,t,cs,fuel,p,q,h1,h2,h3,h4,h5,rfl⟩:=h
  obtain⟨pf,k1,k2,k3⟩:=GZ h5
  refine⟨λi=>match i with|0=>p|i+1=>pf i,λi n d hi=>?_,λi x hi hx=>?_,λhnd i j x hij hj hx hx'=>?_⟩
  ·cases i with
   |zero=>
    simp only[Uc,Option.some.injEq,Prod.mk.injEq] at hi
    obtain⟨rfl,rfl⟩:=hi
    exact⟨g,t,cs,fuel,h1,h2,h3,h4,λx hx=>ZD.2 (.inl (ZD.2 (.inl hx)))⟩
   |succ i=>
    simp only[Tk] at hi
    obtain⟨g',t',cs',fuel',m1,m2,m3,m4,m5⟩:=k1 i n d hi
    exact⟨g',t',cs',fuel',m1,m2,m3,m4,λx hx=>ZD.2 (.inr (m5 x hx))⟩
  ·cases i with
   |zero=>exact ZD.2 (.inl (ZD.2 (.inr hx)))
   |succ i=>exact ZD.2 (.inr (k2 i x (by simpa using hi) hx))
  ·obtain⟨n1,n2,n3⟩:=List.nodup_append.1 hnd
   cases j with
   |zero=>omega
   |succ j=>
    have hj':j<r.length:=by simpa using hj
    cases i with
    |zero=>exact n3 x (ZD.2 (.inr hx)) x (k2 j x hj' hx') rfl
    |succ i=>exact k3 n2 i j x (by omega) hj' hx hx'
theorem EG{σ:Mp}{p:AV->Prop}: ∀{fs:List Sy} {l:List MapEntry},Y3 σ fs l->(∀e∈fs,p e.val)-> ∀x∈l,∃a,p a∧YU σ a x.val
 |[],l,h,hp,x,hx=>by simp only[Y3] at h;subst h;cases hx
 |e::fs,l,h,hp,x,hx=>by
  obtain⟨m,ms,g1,g2,rfl⟩:=h.cons_inv
  rcases Ys.1 hx with rfl|hx
  ·exact⟨e.val,hp e (ZE ..),g1.2.1⟩
  ·exact EG g2 (λf hf=>hp f (ZQ _ hf)) x hx
theorem GF{σ:Mp}: ∀{fs:List Sy} {l:List MapEntry},Y3 σ fs l->l.length=fs.length
 |[],l,h=>by simp only[Y3] at h;subst h;rfl
 |e::fs,l,h=>by
  obtain⟨m,ms,g1,g2,rfl⟩:=h.cons_inv
  rw[Zl,Zl,GF g2]
def ZeD:AV->Bool|.func .. =>true|_=>false
def rf:AV->Bool|.int .. =>true|.agg _=>true|_=>false
theorem Q7{σ:Mp}{fs fs':List Sy}{es es':List Sy}{l:List MapEntry}(h:Y3 σ fs l)(h':Y3 σ fs' l)(hp:(fs.map T9).Perm (es.map T9))(hp':(fs'.map T9).Perm (es'.map T9))
  (ha:es.all (λe=>ZeD e.val)=true)(hb:es'.all (λe=>rf e.val)=true)(hne:es≠[]):False:=by
 have all: ∀{fs es:List Sy} {q:AV->Bool},(fs.map T9).Perm (es.map T9)->es.all (λe=>q e.val)=true-> ∀e∈fs,q e.val=true:=by
  intro fs es q hp ha e he
  have h1:T9 e∈es.map T9:=hp.mem_iff.1 (Xq.2 ⟨e,he,rfl⟩)
  obtain⟨e',h2,h3⟩:=Xq.1 h1
  have h4:=Y2.1 ha e' h2
  simp only[T9,Prod.mk.injEq] at h3
  rw[<-h3.2];exact h4
 have hlen:l≠[]:=by
  intro hl
  have h1:=GF h
  have h2:=hp.length_eq
  rw[hl] at h1
  rw[ZW,ZW,<-h1] at h2
  exact hne (XH.1 h2.symm)
 obtain⟨x,l',rfl⟩:=List.exists_cons_of_ne_nil hlen
 obtain⟨a,h1,h2⟩:=EG (p:=λa=>ZeD a=true) h (all hp ha) x (ZE ..)
 obtain⟨b,h3,h4⟩:=EG (p:=λa=>rf a=true) h' (all hp' hb) x (ZE ..)
 cases a<;>first|(cases h1;done)|skip
 obtain⟨_,_,_,_,e⟩:=OI h2
 rw[e] at h4
 cases b<;>first|(cases h3;done)|skip
 ·cases X3 h4
 ·obtain⟨_,_,_,e⟩:=Ml h4;cases e
noncomputable def Ef:List Sy->Bool
 |[]=>true
 |e::l=>(l.all λf=>MX e.key f.key&&MX f.key e.key)&&Ef l
theorem Px: ∀{es:List Sy},Ef es=true->es.Pairwise AM
 |[],_=>List.Pairwise.nil
 |e::l,h=>by
  unfold Ef at h
  obtain⟨h1,h2⟩:=RR.1 h
  refine Sd.2 ⟨λf hf=>?_,Px h2⟩
  have:=Y2.1 h1 f hf
  exact RR.1 this
end
def pF(gs:List (Nat×List AV))(base:Nat->List AV->Heap->Option CR):List (Nat×CE)->Nat->List AV->Heap->Option CR
 |[],f,args,H=>base f args H
 |x::l,f,args,H=>cond (Nat.beq x.1 f) (cond (x.2.is gs args H) (some (.ret x.2.v (x.2.after H))) (pF gs base l f args H)) (pF gs base l f args H)
section
variable {P:Program}
def bQ(P:Program)(gs:List (Nat×List AV))(x:Nat×CE):Prop:= ∃call,Sa P call∧x.2.wf=true∧ ∀e,x.2.out (call x.1 x.2.args (x.2.heap gs e))=true
theorem rn{gs:List (Nat×List AV)}{base:Nat->List AV->Heap->Option CR}(hb:Ou P base): ∀l:List (Nat×CE),(∀x∈l,bQ P gs x)->Ou P (pF gs base l)
 |[],_=>hb
 |x::l,h=>by
  intro f args H r hr σ w vs hs hv
  have ih:=rn hb l (λy hy=>h y (ZQ _ hy))
  unfold pF at hr
  cases h1:Nat.beq x.1 f with
  |false=>rw[h1] at hr;exact ih f args H r hr σ w vs hs hv
  |true=>
   rw[h1] at hr
   cases h2:x.2.is gs args H with
   |false=>rw[h2] at hr;exact ih f args H r hr σ w vs hs hv
   |true=>
    rw[h2] at hr
    have h1:=Ye h1
    subst h1
    obtain⟨call,hcall,hwf,hout⟩:=h x (ZE ..)
    refine Zbf (P:=P) hcall (f:=x.1) (tab:=[x.2]) (gs:=gs) (λy hy=>?_) (args:=args) (H:=H) ?_ hs hv
    ·rcases Ys.1 hy with rfl|hy
     ·exact⟨hwf,hout⟩
     ·cases hy
    ·show cond (x.2.is gs args H) (some (.ret x.2.v (x.2.after H))) none=some r
     rw[h2]
     exact hr
end
section
variable {P:Program}
structure Fv where
 loc:Loc
 elem:Nat
 cells:List AV
def Fv.row(x:Fv):Row:=⟨x.elem,1,Xa x.cells,T.ofList x.cells,.unk,0,false,false,false⟩
def GJ(b:Nat):List (Nat×Fv)->Option Fv
 |[]=>none
 |y::l=>if y.1=b then some y.2 else GJ b l
theorem Bh{b:Nat}{x:Fv}: ∀{l:List (Nat×Fv)},GJ b l=some x->(b,x)∈l
 |[],h=>by cases h
 |y::l,h=>by
  unfold GJ at h
  split at h
  ·rename_i e;cases h;rw[<-e];exact ZE ..
  ·exact ZQ _ (Bh h)
theorem EJ{b:Nat}{x:Fv}: ∀{l:List (Nat×Fv)},(b,x)∈l->(l.map (·.1)).Nodup->GJ b l=some x
 |y::l,h,nd=>by
  rw[ZB,List.nodup_cons] at nd
  unfold GJ
  rcases Ys.1 h with rfl|h
  ·rw[if_pos rfl]
  ·rw[if_neg (λe=>nd.1 (by rw[e];exact Tx (f:=Prod.fst) h))]
   exact EJ h nd.2
structure bT(W:World)(σ:Mp)(x:Fv):Prop where
 sz:x.loc.sz=1
 fits:x.cells.length<=x.loc.tot
 cells: ∃cs fr,W.heap[x.loc.blk]? =some (.cells cs x.elem fr)∧x.loc.base+x.loc.tot<=cs.size∧ ∀(i:Nat) (a:AV),x.cells[i]? =some a-> ∃v,cs[x.loc.base+i]? =some v∧YU σ a v∧v.oneCell'=true
theorem Fv.get_row{x:Fv}{i:Nat}{a:AV}(h:x.cells[i]? =some a):x.row.get i=a:=by
 rw[Row.get_eq]
 show((T.ofList x.cells).get i).getD .unk=a
 rw[T.get_ofList,h];rfl
theorem oA{call:Nat->List AV->Heap->CR}(hcall:Sa P call){f:FuncId}{fn:Func}{c:Code}(hf:P.funcs[f]? =some fn)(hname:fn.name≠ "runtime.NumGoroutine")(hb:fn.body=some c)
  {σ:Mp}{H H':Heap}{W:World}(hs:WL P σ H W)(hw: ∀b,¬Wr H b){as:List AV}{vs:List Value}(ha:Xj σ as vs)(hr:call f as H=.ret (.bool true) H'):
  Calls P f ⟨vs⟩ W λe W'=>e=.returned (.bool true)∧W'.os=W.os∧W'.output=W.output∧ ∀i,i<W.heap.size->W'.heap[i]? =W.heap[i]? :=by
 have h:=hcall f as H σ W vs hs ha
 rw[hr,Rl hf hname hb] at h
 refine Calls.mono h λe W' he=>?_
 cases e with
 |returned v=>
  obtain⟨σ',h1,t⟩:=he
  exact⟨by rw[TE h1],t.os,t.out,λi hi=>t.frame i hi λb _ hb=>absurd hb (hw b)⟩
 |panicked ch=>obtain⟨_,_,h⟩:=he;exact h.elim
 |outgrown=>exact he.elim
end
section
open Go Go.ChangeShapes Go.WideShapes Go.ChangeAt Go.RowKit
variable {H:Type} {enc:TypeId×Value->H} {P:Program}
theorem bn{W W':World}(h: ∀i,i<W.heap.size->W'.heap[i]? =W.heap[i]?){p:MemPlace}(hp:p.block<W.heap.size):W.sameAt W' p:=by
 cases p with
 |cell b off=>
  show W'.cell? ⟨b,off,none⟩=W.cell? ⟨b,off,none⟩
  unfold World.cell?
  rw[h b hp]
 |map b=>exact h b hp
theorem IT(hl:laidOutB P=true){W W':World}{sp:Nat->Bool}(h: ∀i,i<W.heap.size->W'.heap[i]? =W.heap[i]?): ∀{ts:List TypeId} {vs:List Value} {ds:List (DataW H)} {ps:List MemPlace},
  (∀t∈ts,P.readableRec t=true∧t<P.types.size)->DataW.TrodAll enc P W 0 (λ_=>true) true ts vs ds ps->(∀p∈ps,p.block<W.heap.size∧sp p.block=true)->DataW.TrodAll enc P W' 0 sp true ts vs ds ps
 |[],[],[],ps,_,ht,_=>ht
 |t::ts,v::vs,d::ds,ps,hts,ht,hp=>by
  obtain⟨p,q,h1,h2,rfl⟩:=ht
  obtain⟨r1,r2⟩:=hts t (ZE ..)
  refine⟨p,q,WideElems.Trod_stays hl r1 r2 h1 (λx hx=>bn h (hp x (ZD.2 (.inl hx))).1) (λx hx=>(hp x (ZD.2 (.inl hx))).2),?_,rfl⟩
  exact IT hl h (λt ht=>hts t (ZQ _ ht)) h2 λx hx=>hp x (ZD.2 (.inr hx))
 |[],_::_,_,_,_,ht,_=>ht.elim
 |[],[],_::_,_,_,ht,_=>ht.elim
 |_::_,[],_,_,_,ht,_=>ht.elim
 |_::_,_::_,[],_,_,ht,_=>ht.elim
theorem kK{fn:Func}{s:ChangeSpec}{W W':World}{args:Array Value}{ds gs:List (DataW H)}{before:List MemPlace}{tb:TypeId}(hl:laidOutB P=true)(hts: ∀t∈fn.params.toList,P.readableRec t=true∧t<P.types.size)
  (hv:s.vars=[])(hr:fn.resultTypes= #[tb])(htb:P.underlying tb=some .bool)(hW:DataW.Whole enc P fn.params.toList s.vars false W args.toList ds gs before)
  (hres:(s.fn H (ds++gs)).results=[.lit (.bool true)])(hargs:(s.fn H (ds++gs)).args=ds)(hvars:(s.fn H (ds++gs)).vars=[])
  (h1:W'.os=W.os)(h2:W'.output=W.output)(h3: ∀i,i<W.heap.size->W'.heap[i]? =W.heap[i]?):s.post enc P fn false true false false W args (.bool true) W':=by
 have hlt:=hW.lt
 have hW':=hW
 obtain⟨p,q,hA,hV,rfl,_,_⟩:=hW
 rw[hv] at hV
 obtain⟨rfl,rfl⟩:=trodVars_none hV
 refine⟨ds,[],p++[],[],p,[],hW',?_,?_,?_,World.keptBut_mono (λx hx=>hx.elim) (zm (may:=λ_=>False) h1 h2 h3),λh=>by cases h⟩
 ·rw[hres,hr]
  exact trodAll_mk1 (shut_bool htb _)
 ·rw[hargs]
  exact IT hl h3 hts hA λx hx=>⟨hlt x (by simpa using hx),by simpa using hlt x (by simpa using hx)⟩
 ·rw[hvars,hv]
  rfl
end
section
variable {P:Program}
def kV(n:Nat):Obj->Prop
 |.row r=> ∀i,i<r.size->WC n (r.get i)=true
 |.cmap es=> ∀x∈es,WC n x.key=true∧WC n x.val=true
 |_=>False
theorem Y3.cutE{σ:Mp}{n:Nat}: ∀{es:List Sy} {l:List MapEntry},(∀x∈es,WC n x.key=true∧WC n x.val=true)->Y3 σ es l->Y3 (σ.cut n) es l
 |[],l,_,r=>by simpa [Y3] using r
 |x::es,l,h,r=>by
  simp only[Y3] at r ⊢
  obtain⟨e,l',h1,h2,h3⟩:=r
  obtain⟨k1,k2⟩:=h x (ZE ..)
  exact⟨e,l',⟨YU.cut k1 h1.1,YU.cut k2 h1.2.1,h1.2.2⟩,Y3.cutE (λy hy=>h y (ZQ _ hy)) h2,h3⟩
theorem UI.cutO{σ:Mp}{n:Nat}{o:Obj}{l:Loc}{c:Go.Obj}(h:kV n o)(r:UI σ o l c):UI (σ.cut n) o l c:=by
 cases o with
 |row q=>
  obtain⟨cs,fr,rfl,r⟩:=r
  refine⟨cs,fr,rfl,r.sz,r.sz1,r.fits,r.room,r.exact,λi hi=>?_,r.one,r.frz,r.frs⟩
  obtain⟨v,h1,h2⟩:=r.cell i hi
  exact⟨v,h1,YU.cut (h i hi) h2⟩
 |cmap es=>
  obtain⟨ents,clock,fs,h1,h2,h3,h4⟩:=r
  refine⟨ents,clock,fs,h1,Y3.cutE (λx hx=>?_) h2,h3,h4⟩
  have hm:T9 x∈es.map T9:=h3.subset (Tx (f:=T9) hx)
  obtain⟨y,hy,e⟩:=Xq.1 hm
  have hk:y.key=x.key:=congrArg Prod.fst e
  have hv:y.val=x.val:=congrArg Prod.snd e
  rw[<-hk,<-hv]
  exact h y hy
 |_=>exact h.elim
theorem WL.cutTo{σ:Mp}{H:Heap}{w:World}{n:Nat}{t:T Obj}(hs:WL P σ H w)(hn:P.globals.size<=n)(ht: ∀b o,t.get b=some o->b<n∧H.t.get b=some o∧kV n o):WL P (σ.cut n) ⟨n,t,n⟩ w:=by
 refine⟨λb l h=>(Mp.cut_some h).1,λb o h=>(ht b o h).1,λb o l h hl=>?_,λb b' o o' l l' h h' hl hl' e=>?_,λg hg=>?_,Zz _⟩
 ·obtain⟨_,h1,h2⟩:=ht b o h
  obtain⟨c,h3,h4⟩:=hs.alive b o l h1 (Mp.cut_some hl).2
  exact⟨c,h3,h4.cutO h2⟩
 ·exact hs.inj b b' o o' l l' (ht b o h).2.1 (ht b' o' h').2.1 (Mp.cut_some hl).2 (Mp.cut_some hl').2 e
 ·obtain⟨l,h1,h2⟩:=hs.glob g hg
  exact⟨l,by rw[Mp.cut_lt (by omega)];exact h1,h2⟩
def Bears(n:Nat)(t:T Obj)(H:Heap):Prop:=n<=H.nx∧ ∀b o,t.get b=some o->H.t.get b=some o
theorem Bears.keep{n:Nat}{t:T Obj}{H H':Heap}(h:Bears n t H)(hlt: ∀b o,t.get b=some o->b<n)(hnx:H.nx<=H'.nx)(hk: ∀c,c<H.nx->H'.t.get c=H.t.get c):Bears n t H':=
 ⟨YR h.1 hnx,λb o hb=>(hk b (Yk (hlt b o hb) h.1)).trans (h.2 b o hb)⟩
structure vl where
 f:Nat
 args:List AV
 v:AV
def P5(n:Nat)(t:(Nat->Nat)->T Obj)(base:Nat->List AV->Heap->Option CR):List vl->Nat->List AV->Heap->Option CR
 |[],f,args,H=>base f args H
 |x::l,f,args,H=>cond (Nat.beq x.f f) (open Classical in if args=x.args∧ ∃e,Bears n (t e) H then some (.ret x.v H) else P5 n t base l f args H) (P5 n t base l f args H)
theorem Gp{n:Nat}{t:(Nat->Nat)->T Obj}(hn:P.globals.size<=n)(ht: ∀e b o,(t e).get b=some o->b<n∧kV n o∧(MG o∨ ∃es,o=.cmap es)){base:Nat->List AV->Heap->Option CR}(hb:Ou P base): ∀l:List vl,
  (∀x∈l,∃call,Sa P call∧Rv 0 x.args=true∧WC 0 x.v=true∧ ∀e,rh x.v (call x.f x.args ⟨n,t e,n⟩)=true)->Ou P (P5 n t base l)
 |[],_=>hb
 |x::l,hl=>by
  intro f args H r h σ w vs hs hv
  have ih:=Gp hn ht hb l λy hy=>hl y (ZQ _ hy)
  unfold P5 at h
  cases hf:Nat.beq x.f f with
  |false=>rw[hf] at h;exact ih f args H r h σ w vs hs hv
  |true=>
   have:=Ye hf
   subst this
   rw[hf,cond_true] at h
   split at h
   ·rename_i hc
    obtain⟨rfl,e,hle,Zd9⟩:=hc
    cases h
    obtain⟨call,hcall,Zej,Zek,hev⟩:=hl x (ZE ..)
    have kn:WL P (σ.cut n) ⟨n,t e,n⟩ w:=hs.cutTo hn λb o hb=>⟨(ht e b o hb).1,Zd9 b o hb,(ht e b o hb).2.1⟩
    have kl: ∀y,¬Wr (⟨n,t e,n⟩:Heap) y:=by
     rintro y ⟨h1,ob,h2,_⟩
     have h1:n<=y:=h1
     have:=(ht e y ob h2).1
     omega
    have hrel:Xj (σ.cut n) x.args vs:=Xj.mono (λb l hb=>by have:=(Mp.cut_some hb).1;omega) (Xj.cut (n:=0) Zej hv)
    have hcr:=hcall x.f x.args ⟨n,t e,n⟩ (σ.cut n) w vs kn hrel
    have hret:=hev e
    generalize call x.f x.args ⟨n,t e,n⟩=res at hcr hret
    cases res with
    |fail=>cases hret
    |pan _ _=>cases hret
    |ret v' H''=>
     have:=Ni _ _ hret
     subst this
     refine Ends.mono (λu' w' hx=>?_) (λ_ _ hx=>hx) hcr
     obtain⟨σ2,h1,t'⟩:=hx
     have hfr: ∀j,j<w.heap.size->w'.heap[j]? =w.heap[j]? :=λj hj=>t'.frame j hj λy _ hy _=>absurd hy (kl y)
     refine⟨σ,?_,(AK.mem (Ext.refl σ) t'.size hfr (λ_ _ _ _ h _=>h) t'.tape t'.os t'.out).full (hs.grow hfr) λ_ _ hx=>⟨rfl,hx⟩⟩
     exact(YU.cut Zek h1).mono λy _ hy=>by have:=(Mp.cut_some hy).1;omega
   ·exact ih _ _ _ _ h σ w vs hs hv
theorem OO{n:Nat}{t:(Nat->Nat)->T Obj}{base:Nat->List AV->Heap->Option CR}{H:Heap}{e:Nat->Nat}(hb:Bears n (t e) H): ∀{l:List vl} {x:vl},x∈l->(∀y∈l,y.f=x.f->y.args=x.args->y.v=x.v)->P5 n t base l x.f x.args H=some (.ret x.v H)
 |y::l,x,hx,hu=>by
  unfold P5
  by_cases hf:y.f=x.f
  ·rw[hf,show Nat.beq x.f x.f=true from Xu _,cond_true]
   by_cases ha:y.args=x.args
   ·rw[if_pos ⟨ha.symm,e,hb⟩,hu y (ZE ..) hf ha]
   ·rw[if_neg λh=>ha h.1.symm]
    rcases Ys.1 hx with rfl|hx
    ·exact absurd rfl ha
    ·exact OO hb hx λz hz=>hu z (ZQ _ hz)
  ·have:Nat.beq y.f x.f=false:=by rw[YZ];exact Ze hf
   rw[this]
   rcases Ys.1 hx with rfl|hx
   ·exact absurd rfl hf
   ·exact OO hb hx λz hz=>hu z (ZQ _ hz)
def Ju(t:T Obj):List (Nat×Fv)->T Obj
 |[]=>t
 |x::l=>(Ju t l).set x.1 (.row x.2.row)
def KI(σ:Mp)(ws:List (Nat×Fv)):Mp:=λb=>match GJ b ws with
 |some x=>some x.loc
 |none=>σ b
theorem Eb(t:T Obj): ∀(l:List (Nat×Fv)) (b:Nat) (o:Obj),(Ju t l).get b=some o->(∃x,(b,x)∈l∧o=.row x.row)∨t.get b=some o
 |[],_,_,h=>.inr h
 |y::l,b,o,h=>by
  have h:((Ju t l).set y.1 (.row y.2.row)).get b=some o:=h
  rw[T.get_set] at h
  by_cases e:y.1=b
  ·rw[if_pos e] at h;cases h;subst e;exact .inl ⟨y.2,ZE ..,rfl⟩
  ·rw[if_neg e] at h
   rcases Eb t l b o h with⟨x,h1,h2⟩|h1
   ·exact .inl ⟨x,ZQ _ h1,h2⟩
   ·exact .inr h1
theorem tU(t:T Obj): ∀(l:List (Nat×Fv)) (b:Nat) (x:Fv),(b,x)∈l->(l.map (·.1)).Nodup->(Ju t l).get b=some (.row x.row)
 |y::l,b,x,h,nd=>by
  show((Ju t l).set y.1 (.row y.2.row)).get b=some (.row x.row)
  rw[ZB,List.nodup_cons] at nd
  rw[T.get_set]
  rcases Ys.1 h with rfl|h
  ·rw[if_pos rfl]
  ·rw[if_neg (λe=>nd.1 (by rw[e];exact Tx (f:=Prod.fst) h))]
   exact tU t l b x h nd.2
theorem yq(t:T Obj): ∀(l:List (Nat×Fv)) (b:Nat),(∀x,(b,x)∉l)->(Ju t l).get b=t.get b
 |[],_,_=>rfl
 |y::l,b,h=>by
  show((Ju t l).set y.1 (.row y.2.row)).get b=_
  rw[T.get_set,if_neg λe=>h y.2 (by rw[<-e];exact ZE ..)]
  exact yq t l b λx hx=>h x (ZQ _ hx)
theorem EK{b:Nat}: ∀{l:List (Nat×Fv)},(∀x,(b,x)∉l)->GJ b l=none
 |[],_=>rfl
 |y::l,h=>by
  unfold GJ
  rw[if_neg λe=>h y.2 (by rw[<-e];exact ZE ..)]
  exact EK λx hx=>h x (ZQ _ hx)
theorem WL.add{σ:Mp}{H:Heap}{W:World}(hs:WL P σ H W){n:Nat}{ws:List (Nat×Fv)}(hn:H.nx<=n)(nd:(ws.map (·.1)).Nodup)(hlt: ∀b x,(b,x)∈ws->H.nx<=b∧b<n)
  (Zev: ∀b o,H.t.get b=some o->MG o∨ ∃es,o=.cmap es)(hw: ∀b x,(b,x)∈ws->bT W (KI σ ws) x):WL P (KI σ ws) ⟨n,Ju H.t ws,n⟩ W:=by
 have old: ∀b,b<H.nx->KI σ ws b=σ b:=λb hb=>by
  unfold KI
  rw[EK λx hx=>by have:=(hlt b x hx).1;omega]
 have ext:Ext σ (KI σ ws):=λb l h=>by rw[old b (hs.dom b l h)];exact h
 have wat: ∀b x,(b,x)∈ws->KI σ ws b=some x.loc:=λb x h=>by unfold KI;rw[EJ h nd]
 have wal: ∀b x,(b,x)∈ws-> ∃c,W.heap[x.loc.blk]? =some c∧UI (KI σ ws) (.row x.row) x.loc c:=by
  intro b x h1
  obtain⟨h2,h3,cs,fr,h4,h5,h6⟩:=hw b x h1
  refine⟨_,h4,cs,fr,rfl,?_⟩
  have key: ∀i,i<Xa x.cells-> ∃a,x.cells[i]? =some a:=λi hi=>by
   rw[Y6] at hi
   exact⟨_,Zp hi⟩
  refine⟨h2,by omega,by rw[h2];show Xa x.cells<=x.loc.tot*1;rw[Y6];omega,by rw[h2];omega,(λh=>by cases h),λi hi=>?_,λi v hi hv=>?_,(λh=>by cases h),(λh=>by cases h)⟩
  ·obtain⟨a,ha⟩:=key i hi
   obtain⟨v,h7,h8,_⟩:=h6 i a ha
   rw[Fv.get_row ha]
   exact⟨v,h7,h8⟩
  ·obtain⟨a,ha⟩:=key i hi
   obtain⟨v',h7,_,h8⟩:=h6 i a ha
   rw[hv] at h7;cases h7;exact h8
 have all: ∀b o l,(Ju H.t ws).get b=some o->KI σ ws b=some l->(∃c,W.heap[l.blk]? =some c∧UI (KI σ ws) o l c)∧((∃r,o=.row r∧r.own=false)∨(H.t.get b=some o∧σ b=some l∧ ∃es,o=.cmap es)):=by
  intro b o l h hl
  rcases Eb H.t ws b o h with⟨x,h1,rfl⟩|h1
  ·rw[wat b x h1] at hl;cases hl
   exact⟨wal b x h1,.inl ⟨_,rfl,rfl⟩⟩
  ·have hb:=hs.low b o h1
   rw[old b hb] at hl
   obtain⟨c,h2,h3⟩:=hs.alive b o l h1 hl
   refine⟨⟨c,h2,h3.mono ext⟩,?_⟩
   rcases Zev b o h1 with h4|h4
   ·exact .inl h4
   ·exact .inr ⟨h1,hl,h4⟩
 refine⟨λb l h=>?_,λb o h=>?_,λb o l h hl=>(all b o l h hl).1,λb b' o o' l l' h h' hl hl' e=>?_,λg hg=>?_,Zz _⟩
 ·show b<n
  unfold KI at h
  split at h
  ·rename_i x hx;exact(hlt b x (Bh hx)).2
  ·exact Yk (hs.dom b l h) hn
 ·show b<n
  rcases Eb H.t ws b o h with⟨x,h1,_⟩|h1
  ·exact(hlt b x h1).2
  ·exact Yk (hs.low b o h1) hn
 ·obtain⟨⟨c,c1,c2⟩,a1⟩:=all b o l h hl
  obtain⟨⟨c',c3,c4⟩,a2⟩:=all b' o' l' h' hl'
  rcases a1 with a1|⟨g1,g2,es,rfl⟩<;>rcases a2 with a2|⟨g3,g4,es',rfl⟩
  ·exact .inr ⟨a1,a2⟩
  ·exfalso
   obtain⟨r,rfl,_⟩:=a1
   obtain⟨_,_,rfl,_⟩:=c2
   obtain⟨_,_,_,rfl,_⟩:=c4
   rw[e,c3] at c1;cases c1
  ·exfalso
   obtain⟨r,rfl,_⟩:=a2
   obtain⟨_,_,rfl,_⟩:=c4
   obtain⟨_,_,_,rfl,_⟩:=c2
   rw[e,c3] at c1;cases c1
  ·rcases hs.inj b b' _ _ l l' g1 g3 g2 g4 e with h|⟨⟨_,h,_⟩,_⟩
   ·exact .inl h
   ·cases h
 ·obtain⟨l,h1,h2⟩:=hs.glob g hg
  exact⟨l,ext g l h1,h2⟩
end
section
variable {P:Program} {H:Type} {enc:TypeId×Value->H}
theorem trodAll_three{w:World}{base:Nat}{spare:Nat->Bool}{held:Bool}{t t' t2:TypeId}{args:Array Value}{ds:List (DataW H)}{ps:List MemPlace}(h:DataW.TrodAll enc P w base spare held [t,t',t2] args.toList ds ps):
  ∃v v' v2 d d' d2 p p' p2,args= #[v,v',v2]∧ds=[d,d',d2]∧ps=p++(p'++p2)∧DataW.Trod enc P w base spare held t v d p∧DataW.Trod enc P w base spare held t' v' d' p'∧DataW.Trod enc P w base spare held t2 v2 d2 p2:=by
 obtain⟨v,vs,d,ds',p,q,hargs,rfl,rfl,hd,hrest⟩:=Go.ChangeShapes.trodAll_cons h
 obtain⟨v',vs',d',ds'',p',q',rfl,rfl,rfl,hd',hrest'⟩:=Go.ChangeShapes.trodAll_cons hrest
 obtain⟨v2,vs2,d2,ds2,p2,q2,rfl,rfl,rfl,hd2,ZbR⟩:=Go.ChangeShapes.trodAll_cons hrest'
 obtain⟨rfl,rfl,rfl⟩:=Go.ChangeShapes.trodAll_nil ZbR
 exact⟨v,v',v2,d,d',d2,p,p',p2,by cases args;simp_all,rfl,by simp,hd,hd',hd2⟩
theorem kz{W:World}{r:Reach}{base:Nat}{t:TypeId}{v:Value}{k:IntKind}(ht:P.underlying t=some (.int k))(hok:Cell.okWide P W r base t v): ∃n,v=.int k n∧k.has n:=by
 have hk:Cell.ok P W r base t v:=by
  unfold Cell.okWide at hok
  rw[ht] at hok
  simpa using hok
 unfold Cell.ok at hk
 rw[ht] at hk
 cases v with
 |int k' n=>exact⟨n,by rw[hk.1],hk.2⟩
 |_=>simp at hk
theorem re{W:World}{r:Reach}{base:Nat}{t:TypeId}{v:Value}{k:IntKind}(ht:P.underlying t=some (.int k))(hok:Value.okWide P W r base t v): ∃n,v=.int k n∧k.has n:=by
 unfold Value.okWide at hok
 rw[ht] at hok
 exact kz ht hok
theorem xA{n:Nat}{x:AV}: ∀{l:List AV},Rv n l=true->x∈l->WC n x=true
 |y::l,h,hx=>by
  have h:cond (WC n y) (Rv n l) false=true:=h
  cases hy:WC n y with
  |false=>rw[hy] at h;cases h
  |true=>
   rw[hy] at h
   rcases Ys.1 hx with rfl|hx
   ·exact hy
   ·exact xA h hx
theorem yx{n:Nat}{rs:List (Nat×Nat×List AV)}{ms:List (Nat×List Sy)}(hr:(rs.all λx=>Nat.ble (Nat.succ x.1) n&&Rv n x.2.2)=true)(hm:(ms.all λx=>Nat.ble (Nat.succ x.1) n&&x.2.all λy=>WC n y.key&&WC n y.val)=true){b:Nat}{o:Obj}
  (h:(AP n rs ms).t.get b=some o):b<n∧kV n o∧(MG o∨ ∃es,o=.cmap es):=by
 rcases LF rs _ b o h with⟨e,l,hin,rfl⟩|h
 ·have h2:=Y2.1 hr _ hin
  rw[Xf] at h2
  refine⟨Yn h2.1,λi hi=>?_,.inl ⟨_,rfl,rfl⟩⟩
  have hi:i<l.length:=by rw[<-Y6];exact hi
  have e1:(⟨e,1,Xa l,T.ofList l,.unk,0,false,false,true⟩:Row).get i=l[i]:=by
   rw[Row.get_eq]
   show((T.ofList l).get i).getD .unk=_
   rw[T.get_ofList,Zp hi];rfl
  rw[e1]
  exact xA h2.2 (Wz hi)
 ·rcases LD ms _ b o h with⟨es,hin,rfl⟩|h
  ·have h2:=Y2.1 hm _ hin
   rw[Xf] at h2
   refine⟨Yn h2.1,λx hx=>?_,.inr ⟨es,rfl⟩⟩
   have h3:=Y2.1 h2.2 x hx
   rw[Xf] at h3
   exact h3
  ·rw[T.get_leaf] at h;cases h
theorem br{σ:Mp}{H:Heap}{W:World}(hs:WL P σ H W)(h:H.nx<=H.ro)(b:Nat): ¬Wr H b:=by
 rintro ⟨h1,o,h2,_⟩
 have:=hs.low b o h2
 omega
end
section
open Go Go.Deep
inductive Sh where
 |int (k:IntKind)
 |bool
 |str
 |sl (es:List Sh)
variable {P:Program}
def JN(P:Program)(sh:TypeId->Option (List Sh)):List Field->Nat->Option (List Sh)
 |[],_=>some []
 |f::fs,off=>match sh f.type with
  |some es=>if f.offset=off∧es.length=P.cellsOf f.type then(JN P sh fs (off+es.length)).map (es++ ·) else none
  |none=>none
def Mn(P:Program):Nat->TypeId->Option (List Sh)
 |0,_=>none
 |n+1,t=>match P.underlying t with
  |some (.int k)=>some [.int k]
  |some .bool=>some [.bool]
  |some .string=>some [.str]
  |some (.slice e)=>match Mn P n e with
   |some es=>if es.length=P.cellsOf e∧1<=es.length then some [.sl es] else none
   |none=>none
  |some (.struct fs)=>match JN P (Mn P n) fs.toList 0 with
   |some es=>if es.length=P.cellsOf t then some es else none
   |none=>none
  |some (.array m e)=>match Mn P n e with
   |some es=>if es.length=P.cellsOf e∧m*es.length=P.cellsOf t∧1<=es.length then some (List.replicate m es).flatten else none
   |none=>none
  |_=>none
inductive Q3(W:World):Sh->Value->Prop
 |int {k:IntKind} {n:Int} (h:k.min<=n∧n<=k.max):Q3 W (.int k) (.int k n)
 |bool (b:Bool):Q3 W .bool (.bool b)
 |str (s:ByteArray) (h:s.size<=maxLen):Q3 W .str (.string s)
 |nils {es:List Sh}:Q3 W (.sl es) (.slice none 0 0)
 |slice {es:List Sh} {a:Addr} {len cap:Nat} (V:Nat->Value) (h1:1<=es.length) (hl:len<=cap) (hc:cap<=maxLen) (hV: ∀i,i<cap*es.length->W.cell? (a.add i)=some (V i))
  (hok: ∀i e,i<cap*es.length->es[i % es.length]? =some e->Q3 W e (V i)):Q3 W (.sl es) (.slice (some a) len cap)
section
variable {W:World} {H:Type} {enc:TypeId×Value->H} {base:Nat}
theorem GI{sh:TypeId->Option (List Sh)}{cs:List Value}: ∀(l:List Field) (off:Nat) (es:List Sh),JN P sh l off=some es->
  (∀f∈l,∀es',sh f.type=some es'-> ∀(j:Nat) (e:Sh) (v:Value),es'[j]? =some e->((cs.drop f.offset).take (P.cellsOf f.type))[j]? =some v->Q3 W e v)->
  ∀(j:Nat) (e:Sh) (v:Value),es[j]? =some e->cs[off+j]? =some v->Q3 W e v
 |[],off,es,h,_,j,e,v,h1,_=>by cases h;simp at h1
 |f::l,off,es,h,hf,j,e,v,h1,h2=>by
  unfold JN at h
  split at h
  ·rename_i es' hs
   split at h
   ·rename_i hc
    obtain⟨es2,h3,rfl⟩:=Uy.1 h
    by_cases hj:j<es'.length
    ·rw[YN hj] at h1
     refine hf f (ZE ..) es' hs j e v h1 ?_
     rw[List.getElem?_take,if_pos (by omega),XN,hc.1]
     exact h2
    ·rw[YY (by omega)] at h1
     refine GI l _ es2 h3 (λg hg=>hf g (ZQ _ hg)) (j - es'.length) e v h1 ?_
     rw[show off+es'.length+(j - es'.length)=off+j by omega]
     exact h2
   ·cases h
  ·cases h
theorem F6{es:List Sh}(h1:1<=es.length): ∀(m j:Nat) (e:Sh),((List.replicate m es).flatten)[j]? =some e->j<m*es.length∧es[j % es.length]? =some e
 |0,j,e,h=>by simp at h
 |m+1,j,e,h=>by
  rw[Ww,WD] at h
  by_cases hj:j<es.length
  ·rw[YN hj] at h
   refine⟨by rw[WH];omega,?_⟩
   rw[YH hj];exact h
  ·rw[YY (by omega)] at h
   obtain⟨h2,h3⟩:=F6 h1 m _ e h
   refine⟨by rw[WH];omega,?_⟩
   rw[Nat.mod_eq_sub_mod (by omega)];exact h3
theorem Ms: ∀(n:Nat) (t:TypeId) (es:List Sh) (fuel:Nat) (cs:List Value) (x:DataW H×List MemPlace),Mn P n t=some es->DataW.trod enc P W base (λ_=>true) true fuel t cs=some x->
  cs.length=es.length∧ ∀(j:Nat) (e:Sh) (v:Value),es[j]? =some e->cs[j]? =some v->Q3 W e v
 |0,t,es,fuel,cs,x,hs,h=>by cases hs
 |n+1,t,es,fuel,cs,x,hs,h=>by
  unfold Mn at hs
  split at hs
  ·rename_i k ht
   cases hs
   obtain⟨m,rfl,_,hw⟩:=DataW.trod_int ht h
   refine⟨rfl,λj e v h1 h2=>?_⟩
   cases j with
   |zero=>
    cases h1;cases h2
    unfold Lit.wf at hw
    rw[Xf] at hw
    exact .int ⟨Zm hw.1,Zm hw.2⟩
   |succ j=>simp at h1
  ·rename_i ht
   cases hs
   obtain⟨b,rfl,_⟩:=DataW.trod_bool ht h
   refine⟨rfl,λj e v h1 h2=>?_⟩
   cases j with
   |zero=>cases h1;cases h2;exact .bool b
   |succ j=>simp at h1
  ·rename_i ht
   cases hs
   obtain⟨s,rfl,_,hw⟩:=DataW.trod_string ht h
   refine⟨rfl,λj e v h1 h2=>?_⟩
   cases j with
   |zero=>cases h1;cases h2;exact .str s hw
   |succ j=>simp at h1
  ·rename_i te ht
   split at hs
   ·rename_i es' he
    split at hs
    ·rename_i hc
     cases hs
     have key: ∀v,cs=[v]->Q3 W (.sl es') v->cs.length=[Sh.sl es'].length∧ ∀(j:Nat) (e:Sh) (v:Value),[Sh.sl es'][j]? =some e->cs[j]? =some v->Q3 W e v:=by
      rintro v rfl hv
      refine⟨rfl,λj e u h1 h2=>?_⟩
      cases j with
      |zero=>cases h1;cases h2;exact hv
      |succ j=>simp at h1
     rcases open_slice ht h with⟨e1,_⟩|⟨a,len,cap,m,k,D,Pl,e1,_,hl,hcap,hm,_,hV⟩
     ·exact key _ e1 .nils
     ·have hm:m=cap:=by rw[hm];exact if_pos rfl
      subst hm
      have hcell: ∀i,i<m*es'.length-> ∃v,W.cell? (a.add i)=some v∧ ∀e,es'[i % es'.length]? =some e->Q3 W e v:=by
       intro i hi
       have hq:i/es'.length<m:=Qp (by rw[VB];exact hi)
       obtain⟨cs',h1,h2⟩:=hV (i/es'.length) hq
       rw[<-hc.1] at h1
       obtain⟨_,hlen,hcc⟩:=World.cells?_some h1
       obtain⟨_,h4⟩:=Ms n te es' k cs' _ he h2
       have hr:i % es'.length<es'.length:=X7 _ (by omega)
       have g:=hcc (i % es'.length) hr
       rw[add_add,show i/es'.length*es'.length+i % es'.length=i by rw[VB];exact SN i es'.length] at g
       rw[Zp (by omega)] at g
       exact⟨_,g,λe h5=>h4 _ e _ h5 (Zp (by omega))⟩
      obtain⟨V,hV'⟩:=choose_lt (α:=Value) hcell
      exact key _ e1 (.slice V hc.2 hl hcap (λi hi=>(hV' i hi).1) λi e hi h5=>(hV' i hi).2 e h5)
    ·cases hs
   ·cases hs
  ·rename_i fs ht
   split at hs
   ·rename_i es' he
    split at hs
    ·rename_i hc
     cases hs
     obtain⟨xs,m,_,_,hlen,hxl,hx⟩:=DataW.trod_struct ht h
     refine⟨by rw[hlen,hc],λj e v h1 h2=>?_⟩
     refine GI (P:=P) (cs:=cs) fs.toList 0 es he (λf hf es2 h3=>?_) j e v h1 (by rw[Zb];exact h2)
     obtain⟨i,hi⟩:=List.getElem?_of_mem hf
     rw[YE] at hi
     have hlt:i<xs.length:=by rw[hxl];exact(Ym.1 hi).1
     have h4:=hx i f hi
     rw[Zp hlt] at h4
     exact(Ms n f.type es2 m _ _ h3 h4).2
    ·cases hs
   ·cases hs
  ·rename_i m te ht
   split at hs
   ·rename_i es' he
    split at hs
    ·rename_i hc
     cases hs
     obtain⟨xs,q,_,_,hlen,hxl,hx⟩:=DataW.trod_array ht h
     refine⟨by rw[hlen,<-hc.2.1];simp,λj e v h1 h2=>?_⟩
     obtain⟨h3,h4⟩:=F6 hc.2.2 m j e h1
     have hq:j/es'.length<m:=Qp (by rw[VB];exact h3)
     have hr:j % es'.length<es'.length:=X7 _ (by omega)
     have h5:=hx _ hq
     rw[Zp (by omega)] at h5
     refine(Ms n te es' q _ _ he h5).2 (j % es'.length) e v h4 ?_
     rw[List.getElem?_take,if_pos (by omega),XN,<-hc.1,show j/es'.length*es'.length+j % es'.length=j by rw[VB];exact SN j es'.length]
     exact h2
    ·cases hs
   ·cases hs
  ·cases hs
end
inductive Told(G:Heap):Sh->AV->Prop
 |int {k:IntKind} {n:Int} (h:k.min<=n∧n<=k.max):Told G (.int k) (.int k n)
 |bool (b:Bool):Told G .bool (.bool b)
 |str (s:List UInt8) (h:s.length<=maxLen):Told G .str (.str s)
 |nils {es:List Sh}:Told G (.sl es) .nils
 |slice0 {es:List Sh}:Told G (.sl es) .slice0
 |slice {es:List Sh} {b len cap:Nat} {r:Row} (h1:1<=es.length) (hl:len<=cap) (h0:1<=cap) (hc:cap<=maxLen) (hb:b<G.nx) (hr:G.t.get b=some (.row r)) (hs:cap*es.length<=r.size) (ho:r.own=false) (hz:r.sz=1)
  (hok: ∀i e,i<cap*es.length->es[i % es.length]? =some e->Told G e (r.get i)):Told G (.sl es) (.slice b 0 len (some cap))
theorem Told.keep{G G':Heap}{e:Sh}{a:AV}(h:Told G e a)(hn:G.nx<=G'.nx)(hk: ∀c r,c<G.nx->G.t.get c=some (.row r)->r.own=false->G'.t.get c=some (.row r)):Told G' e a:=by
 induction h with
 |int h=>exact .int h
 |bool b=>exact .bool b
 |str s h=>exact .str s h
 |nils=>exact .nils
 |slice0=>exact .slice0
 |slice h1 hl h0 hc hb hr hs ho hz _ ih=>exact .slice h1 hl h0 hc (Yk hb hn) (hk _ _ hb hr ho) hs ho hz ih
structure MV(W:World)(es:List Sh)(vs:List Value)(n0:Nat)(as:List AV)(ws:List (Nat×Fv))(n1:Nat):Prop where
 le:n0<=n1
 ids: ∀b x,(b,x)∈ws->n0<=b∧b<n1
 nd:(ws.map (·.1)).Nodup
 win: ∀σ:Mp,(∀b x,(b,x)∈ws->σ b=some x.loc)-> ∀b x,(b,x)∈ws->bT W σ x
 rel: ∀σ:Mp,(∀b x,(b,x)∈ws->σ b=some x.loc)->Xj σ as vs
 told: ∀G:Heap,(∀b x,(b,x)∈ws->G.t.get b=some (.row x.row)∧b<G.nx)-> ∀(j:Nat) e a,es[j]? =some e->as[j]? =some a->Told G e a
 one: ∀a∈as,a.cells=[a]
 onev: ∀v∈vs,v.oneCell'=true
theorem MV.nil{W:World}{n0:Nat}:MV W [] [] n0 [] [] n0 where
 le:=Zz _
 ids:=λ_ _ h=>by cases h
 nd:=List.nodup_nil
 win:=λ_ _ _ _ h=>by cases h
 rel:=λ_ _=>V1
 told:=λ_ _ j e a h=>by simp at h
 one:=λ_ h=>by cases h
 onev:=λ_ h=>by cases h
theorem MV.cons{W:World}{e:Sh}{es:List Sh}{v:Value}{vs:List Value}{n0 n1 n2:Nat}{a:AV}{as:List AV}{ws ws':List (Nat×Fv)}(h:MV W [e] [v] n0 [a] ws n1)(h':MV W es vs n1 as ws' n2):
  MV W (e::es) (v::vs) n0 (a::as) (ws++ws') n2:=by
 refine⟨YR h.le h'.le,λb x hx=>?_,?_,λσ hσ b x hx=>?_,λσ hσ=>?_,λG hG j u w h1 h2=>?_,λu hu=>?_,λu hu=>?_⟩
 ·rcases ZD.1 hx with hx|hx
  ·have:=h.ids b x hx;have:=h'.le;omega
  ·have:=h'.ids b x hx;have:=h.le;omega
 ·rw[Wn,List.nodup_append]
  refine⟨h.nd,h'.nd,λb hb c hc hbc=>?_⟩
  subst hbc
  obtain⟨⟨b1,x1⟩,m1,rfl⟩:=Xq.1 hb
  obtain⟨⟨b2,x2⟩,m2,e2⟩:=Xq.1 hc
  have:=h.ids _ _ m1
  have:=h'.ids _ _ m2
  simp only at e2
  omega
 ·rcases ZD.1 hx with hx|hx
  ·exact h.win σ (λc y hy=>hσ c y (ZD.2 (.inl hy))) b x hx
  ·exact h'.win σ (λc y hy=>hσ c y (ZD.2 (.inr hy))) b x hx
 ·have r1:=h.rel σ λc y hy=>hσ c y (ZD.2 (.inl hy))
  have r2:=h'.rel σ λc y hy=>hσ c y (ZD.2 (.inr hy))
  obtain⟨_,_,r3,_,r4⟩:=r1.cons_inv
  rw[(List.cons.inj r4).1]
  exact WB r3 r2
 ·cases j with
  |zero=>cases h1;cases h2;exact h.told G (λc y hy=>hG c y (ZD.2 (.inl hy))) 0 e a rfl rfl
  |succ j=>exact h'.told G (λc y hy=>hG c y (ZD.2 (.inr hy))) j u w (by simpa using h1) (by simpa using h2)
 ·rcases Ys.1 hu with rfl|hu
  ·exact h.one _ (ZE ..)
  ·exact h'.one u hu
 ·rcases Ys.1 hu with rfl|hu
  ·exact h.onev _ (ZE ..)
  ·exact h'.onev u hu
theorem Eh{W:World}: ∀(vs:List Value) (es:List Sh),vs.length=es.length->(∀(j:Nat) e v,es[j]? =some e->vs[j]? =some v-> ∀n0,∃a ws n1,MV W [e] [v] n0 [a] ws n1)-> ∀n0,∃as ws n1,MV W es vs n0 as ws n1∧as.length=es.length
 |[],[],_,_,n0=>⟨[],[],n0,MV.nil,rfl⟩
 |[],_::_,h,_,_=>by simp at h
 |_::_,[],h,_,_=>by simp at h
 |v::vs,e::es,hl,h,n0=>by
  obtain⟨a,ws,n1,h1⟩:=h 0 e v rfl rfl n0
  obtain⟨as,ws',n2,h2,h3⟩:=Eh vs es (by simpa using hl) (λj e v h1 h2=>h (j+1) e v (by simpa using h1) (by simpa using h2)) n1
  exact⟨_,_,_,h1.cons h2,by simp[h3]⟩
theorem Ox{W:World}{e:Sh}{v:Value}{a:AV}(hr: ∀σ,YU σ a v)(ht: ∀G,Told G e a)(h1:a.cells=[a])(h2:v.oneCell'=true)(n0:Nat): ∃a ws n1,MV W [e] [v] n0 [a] ws n1:=
 ⟨a,[],n0,{
  le:=Zz _
  ids:=λ_ _ h=>by cases h
  nd:=List.nodup_nil
  win:=λ_ _ _ _ h=>by cases h
  rel:=λσ _=>V2 (hr σ)
  told:=λG _ j u w h1 h2=>by
   cases j with
   |zero=>cases h1;cases h2;exact ht G
   |succ j=>simp at h1
  one:=λu hu=>by rw[Zv.1 hu];exact h1
  onev:=λu hu=>by rw[Zv.1 hu];exact h2}⟩
theorem qr{W:World}{e:Sh}{v:Value}(h:Q3 W e v): ∀n0,∃a ws n1,MV W [e] [v] n0 [a] ws n1:=by
 induction h with
 | @int k n h=>exact Ox (a:=.int k n) (λσ=>by simp[YU]) (λG=>.int h) rfl rfl
 |bool b=>exact Ox (a:=.bool b) (λσ=>by simp[YU]) (λG=>.bool b) rfl rfl
 |str s h=>exact Ox (a:=.str s.data.toList) (λσ=>by simp only[YU]) (λG=>.str _ (by simpa using h)) rfl rfl
 |nils=>exact Ox (a:=.nils) (λσ=>by simp[YU]) (λG=>.nils) rfl rfl
 | @slice es a len cap V h1 hl hc hV hok ih=>
  by_cases h0:cap=0
  ·subst h0
   have:len=0:=by omega
   subst this
   exact Ox (a:=.slice0) (λσ=>by simp[YU]) (λG=>.slice0) rfl rfl
  ·intro n0
   have hpos:0<cap*es.length:=Nat.mul_pos (by omega) (by omega)
   have hVl:((List.range (cap*es.length)).map V).length=((List.replicate cap es).flatten).length:=by simp
   obtain⟨as,ws,n1,hA,hAl⟩:=Eh (W:=W) ((List.range (cap*es.length)).map V) ((List.replicate cap es).flatten) hVl (λj e v h2 h3=>by
    obtain⟨h4,h5⟩:=F6 h1 cap j e h2
    rw[Xb,VF h4] at h3
    cases h3
    exact ih j e h4 h5) (n0+1)
   have hAl:as.length=cap*es.length:=by rw[hAl];simp
   obtain⟨ab,ao,asp⟩:=a
   obtain⟨cs,el,fr,hcs,hsp⟩: ∃cs el fr,W.heap[ab]? =some (.cells cs el fr)∧asp=none:=by
    have g:=hV 0 hpos
    unfold Addr.add World.cell? at g
    simp only[if_true] at g
    split at g
    ·rename_i c e2 f e1
     cases asp with
     |none=>exact⟨c,e2,f,e1,rfl⟩
     |some x=>simp at g
    ·cases g
   subst hsp
   have hget: ∀i,i<cap*es.length->cs[ao+i]? =some (V i):=λi hi=>by
    have g:=hV i hi
    have ea:Addr.add ⟨ab,ao,none⟩ i=⟨ab,ao+i,none⟩:=by
     unfold Addr.add
     split
     ·rename_i h0;subst h0;rfl
     ·rfl
    rw[ea] at g
    unfold World.cell? at g
    rw[hcs] at g
    exact g
   have hsz:ao+cap*es.length<=cs.size:=by
    have g:=hget (cap*es.length - 1) (by omega)
    have:=(Ym.1 g).1
    omega
   refine⟨.slice n0 0 len (some cap),(n0,⟨⟨ab,ao,cap*es.length,1⟩,el,as⟩)::ws,n1,?_⟩
   have hle:=hA.le
   refine⟨by omega,λb x hx=>?_,?_,λσ hσ b x hx=>?_,λσ hσ=>?_,λG hG j u w h2 h3=>?_,λu hu=>?_,λu hu=>?_⟩
   ·rcases Ys.1 hx with hx|hx
    ·cases hx;omega
    ·have:=hA.ids b x hx;omega
   ·rw[ZB,List.nodup_cons]
    refine⟨λhm=>?_,hA.nd⟩
    obtain⟨⟨b1,x1⟩,m1,e1⟩:=Xq.1 hm
    have:=hA.ids _ _ m1
    simp only at e1
    omega
   ·have hσ': ∀c y,(c,y)∈ws->σ c=some y.loc:=λc y hy=>hσ c y (ZQ _ hy)
    rcases Ys.1 hx with hx|hx
    ·cases hx
     refine⟨rfl,by show as.length<=cap*es.length;omega,cs,fr,hcs,hsz,λi c hc'=>?_⟩
     have hi:i<cap*es.length:=by rw[<-hAl];exact(Vg.1 hc').1
     obtain⟨v,h4,h5⟩:=Xj.get (hA.rel σ hσ') hc'
     rw[Xb,VF hi] at h4
     cases h4
     refine⟨V i,hget i hi,h5,hA.onev _ (Xq.2 ⟨i,Tc.2 hi,rfl⟩)⟩
    ·exact hA.win σ hσ' b x hx
   ·refine V2 ?_
    simp only[YU]
    exact⟨_,hσ _ _ (ZE ..),rfl⟩
   ·cases j with
    |succ j=>simp at h2
    |zero=>
     cases h2;cases h3
     have hG': ∀c y,(c,y)∈ws->G.t.get c=some (.row y.row)∧c<G.nx:=λc y hy=>hG c y (ZQ _ hy)
     obtain⟨g1,g2⟩:=hG _ _ (ZE ..)
     refine .slice h1 hl (by omega) hc g2 g1 (by show cap*es.length<=Xa as;rw[Y6,hAl];exact Zz _) rfl rfl λi e hi he=>?_
     have e1:as[i]? =some (as[i]'(by omega)):=Zp (by omega)
     rw[Fv.get_row e1]
     refine hA.told G hG' i e _ ?_ e1
     have hq:((List.replicate cap es).flatten)[i]? =some (((List.replicate cap es).flatten)[i]'(by rw[<-hVl];simpa using hi)):=Zp _
     have:=(F6 h1 cap i _ hq).2
     rw[this] at he
     rw[hq,he]
   ·rw[Zv.1 hu];rfl
   ·rw[Zv.1 hu];rfl
theorem qk{W:World}{H:Type}{enc:TypeId×Value->H}{t:TypeId}{n:Nat}{es:List Sh}{v:Value}{d:DataW H}{p:List MemPlace}(hs:Mn P n t=some es)(h:DataW.Trod enc P W 0 (λ_=>true) true t v d p)(n0:Nat):
  ∃as ws n1,MV W es v.cells.toList n0 as ws n1∧as.length=es.length:=by
 obtain⟨fuel,h⟩:=h
 obtain⟨h1,h2⟩:=Ms n t es fuel _ _ hs h
 exact Eh _ _ h1 (λj e u h3 h4=>qr (h2 j e u h3 h4)) n0
end
section
variable {P:Program}
theorem gV{W:World}{r:Reach}{base:Nat}{t:TypeId}{v:Value}{fs:Array Field}(ht:P.underlying t=some (.struct fs))(hok:Value.okWide P W r base t v): ∃cs,v=.agg cs:=by
 unfold Value.okWide at hok
 rw[ht] at hok
 obtain⟨cs,h,_⟩:=hok
 exact⟨cs,h⟩
theorem ie{σ:Mp}{as:List AV}{cs:Array Value}(h:Xj σ as cs.toList)(h1: ∀x∈cs.toList,x.oneCell'=true):YU σ (.agg as) (.agg cs):=by
 simp only[YU]
 exact⟨cs.toList,h,h1,by cases cs;rfl⟩
theorem vx{σ:Mp}{n n1:Nat}{t:T Obj}{W:World}(hs:WL P σ ⟨n,t,n⟩ W){es:List Sh}{vs:List Value}{as:List AV}{ws:List (Nat×Fv)}(hp: ∀b o,t.get b=some o->b<n∧(MG o∨ ∃es,o=.cmap es))(hA:MV W es vs n as ws n1):
  WL P (KI σ ws) ⟨n1,Ju t ws,n1⟩ W∧Bears n t ⟨n1,Ju t ws,n1⟩∧Xj (KI σ ws) as vs∧ ∀(j:Nat) e a,es[j]? =some e->as[j]? =some a->Told ⟨n1,Ju t ws,n1⟩ e a:=by
 have at_: ∀b x,(b,x)∈ws->KI σ ws b=some x.loc:=λb x h=>by unfold KI;rw[EJ h hA.nd]
 refine⟨hs.add (show n<=n1 from hA.le) hA.nd (λb x h=>hA.ids b x h) (λb o h=>(hp b o h).2) (hA.win _ at_),⟨hA.le,λb o h=>?_⟩,hA.rel _ at_,hA.told _ λb x h=>⟨tU _ _ b x h hA.nd,(hA.ids b x h).2⟩⟩
 show(Ju t ws).get b=_
 rw[yq _ _ b λx hx=>by have:=hA.ids b x hx;have:=(hp b o h).1;omega];exact h
theorem MV.app{W:World}{es es':List Sh}{vs vs':List Value}{n0 n1 n2:Nat}{as as':List AV}{ws ws':List (Nat×Fv)}(h:MV W es vs n0 as ws n1)(hl:as.length=es.length)(h':MV W es' vs' n1 as' ws' n2):
  MV W (es++es') (vs++vs') n0 (as++as') (ws++ws') n2:=by
 refine⟨YR h.le h'.le,λb x hx=>?_,?_,λσ hσ b x hx=>?_,λσ hσ=>?_,λG hG j u w h1 h2=>?_,λu hu=>?_,λu hu=>?_⟩
 ·rcases ZD.1 hx with hx|hx
  ·have:=h.ids b x hx;have:=h'.le;omega
  ·have:=h'.ids b x hx;have:=h.le;omega
 ·rw[Wn,List.nodup_append]
  refine⟨h.nd,h'.nd,λb hb c hc hbc=>?_⟩
  subst hbc
  obtain⟨⟨b1,x1⟩,m1,rfl⟩:=Xq.1 hb
  obtain⟨⟨b2,x2⟩,m2,e2⟩:=Xq.1 hc
  have:=h.ids _ _ m1
  have:=h'.ids _ _ m2
  simp only at e2
  omega
 ·rcases ZD.1 hx with hx|hx
  ·exact h.win σ (λc y hy=>hσ c y (ZD.2 (.inl hy))) b x hx
  ·exact h'.win σ (λc y hy=>hσ c y (ZD.2 (.inr hy))) b x hx
 ·have r1:=h.rel σ λc y hy=>hσ c y (ZD.2 (.inl hy))
  have r2:=h'.rel σ λc y hy=>hσ c y (ZD.2 (.inr hy))
  clear h h' hl
  induction as generalizing vs with
  |nil=>obtain rfl:=r1.nil_inv;exact r2
  |cons a as ih=>
   obtain⟨v,vs2,r3,r4,rfl⟩:=r1.cons_inv
   exact WB r3 (ih r4)
 ·by_cases hj:j<es.length
  ·rw[YN hj] at h1
   rw[YN (by omega)] at h2
   exact h.told G (λc y hy=>hG c y (ZD.2 (.inl hy))) j u w h1 h2
  ·rw[YY (by omega)] at h1
   rw[YY (by omega),hl] at h2
   exact h'.told G (λc y hy=>hG c y (ZD.2 (.inr hy))) _ u w h1 h2
 ·rcases ZD.1 hu with hu|hu
  ·exact h.one _ hu
  ·exact h'.one u hu
 ·rcases ZD.1 hu with hu|hu
  ·exact h.onev _ hu
  ·exact h'.onev u hu
end
end
end Go.AI
