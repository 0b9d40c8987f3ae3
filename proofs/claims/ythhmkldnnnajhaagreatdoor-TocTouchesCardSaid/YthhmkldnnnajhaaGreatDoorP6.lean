/- Calls that have been evaluated by themselves may be looked up; worlds of which rows are told; memory that is kept; arguments of any shape: proved for every world that is told. -/
import Derived.Test.YthhmkldnnnajhaaGreatDoorP5
import Derived.WideShapes
import Derived.WideKeyElems2
import Derived.WideKeyArgs
import Derived.OpenShut
import Derived.ProofKit
import Derived.ChangeShapes
import Derived.Deep.Slices
set_option maxRecDepth 1000000
set_option maxHeartbeats 0
set_option linter.unusedVariables false
set_option linter.unusedSimpArgs false
namespace Go.AI
open Go
noncomputable section
section
variable {P:Program}
noncomputable def CM(e:Nat)(l:List AV):Obj:=.row ⟨e,1,XX l,T.ofList l,.unk,0,false,false,false⟩
noncomputable def uq(e:Nat->Nat):List (Nat×List AV)->T Obj->T Obj
 |[],t=>t
 |(g,l)::gs,t=>uq e gs (t.set g (CM (e g) l))
noncomputable def kG(H:Heap)(gs:List (Nat×List AV)):Bool:=List.rec true (λx _ ih=>cond (match H.t.get x.1 with|some (.row r)=>cond (Nat.beq r.sz 1) (cond (Nat.ble (XX x.2) r.size) (sameL (U5 r 0 (XX x.2)) x.2) false) false|_=>false) ih false) gs
noncomputable def lj(v:AV)(r:CR):Bool:=match r with|.ret u _=>same u v|_=>false
theorem Ah(e:Nat->Nat): ∀(gs:List (Nat×List AV)) (t:T Obj) (b:Nat) (o:Obj),(uq e gs t).get b=some o->(∃l,(b,l)∈gs∧o=CM (e b) l)∨t.get b=some o
 |[],t,b,o,h=>.inr h
 |(g,l)::gs,t,b,o,h=>by
  rcases Ah e gs _ b o h with⟨l2,h1,h2⟩|h1
  ·exact .inl ⟨l2,Yd _ h1,h2⟩
  ·rw[T.get_set] at h1
   by_cases e3:g=b
   ·rw[if_pos e3] at h1;cases h1;subst e3;exact .inl ⟨l,Z5 ..,rfl⟩
   ·rw[if_neg e3] at h1;exact .inr h1
theorem BF{H:Heap}: ∀{gs:List (Nat×List AV)},kG H gs=true-> ∀x∈gs,∃r,H.t.get x.1=some (.row r)∧r.sz=1∧XX x.2<=r.size∧U5 r 0 (XX x.2)=x.2
 |[],_,x,hx=>by cases hx
 |y::gs,h,x,hx=>by
  obtain⟨h1,h2⟩:=YC (a:=match H.t.get y.1 with|some (.row r)=>cond (Nat.beq r.sz 1) (cond (Nat.ble (XX y.2) r.size) (sameL (U5 r 0 (XX y.2)) y.2) false) false|_=>false) (b:=kG H gs) h
  rcases Yv.1 hx with rfl|hx
  ·cases hg:H.t.get x.1 with
   |none=>rw[hg] at h1;cases h1
   |some o=>
    rw[hg] at h1
    cases o with
    |row r=>
     obtain⟨h3,h4⟩:=YC h1
     obtain⟨h4,h5⟩:=YC h4
     exact⟨r,rfl,Yt h3,YE h4,N0 _ _ h5⟩
    |_=>cases h1
  ·exact BF h2 x hx
end
inductive LO where
 |row (elem sz:Nat) (l:List AV) (fz:Nat) (sm own exact:Bool)
 |map (es:List RP) (clock:Nat)
 |cmap (es:List RP)
def LO.obj:LO->Obj
 |.row e sz l fz sm own exact=>.row ⟨e,sz,XX l,T.ofList l,.unk,fz,sm,own,exact⟩
 |.map es c=>.map es c
 |.cmap es=>.cmap es
def xP(a b:AV):Bool:=match a with|.unk=>(match b with|.unk=>true|_=>false)|a=>same a b
def C6:List AV->List AV->Bool
 |[],[]=>true
 |a::as,b::bs=>cond (xP a b) (C6 as bs) false
 |_,_=>false
def xN(a b:Bool):Bool:=cond a b (cond b false true)
def Av:List RP->List RP->Bool
 |[],[]=>true
 |a::as,b::bs=>cond (Nat.beq a.born b.born) (cond (same a.key b.key) (cond (same a.val b.val) (Av as bs) false) false) false
 |_,_=>false
def oP(o:Obj)(x:LO):Bool:=match o,x with
 |.row r,.row e sz l fz sm own exact=>cond (Nat.beq r.elem e) (cond (Nat.beq r.sz sz) (cond (Nat.beq r.size (XX l)) (cond (Nat.beq r.fz fz) (cond (xN r.sm sm) (cond (xN r.own own) (cond (xN r.exact exact)
   (C6 (U5 r 0 r.size) l) false) false) false) false) false) false) false
 |.map es c,.map fs d=>cond (Nat.beq c d) (Av es fs) false
 |.cmap es,.cmap fs=>Av es fs
 |_,_=>false
theorem qL{a b:AV}(h:xP a b=true):a=b:=by
 unfold xP at h
 split at h
 ·split at h
  ·rfl
  ·cases h
 ·exact Mj _ _ h
theorem DI: ∀{a b:List AV},C6 a b=true->a=b
 |[],[],_=>rfl
 |[],_::_,h=>by cases h
 |_::_,[],h=>by cases h
 |a::as,b::bs,h=>by
  obtain⟨h1,h2⟩:=YC (a:=xP a b) (b:=C6 as bs) h
  rw[qL h1,DI h2]
theorem FY{a b:Bool}(h:xN a b=true):a=b:=by
 cases a<;>cases b<;>first|rfl|cases h
theorem FZ: ∀{a b:List RP},Av a b=true->a=b
 |[],[],_=>rfl
 |[],_::_,h=>by cases h
 |_::_,[],h=>by cases h
 |a::as,b::bs,h=>by
  obtain⟨h1,h2⟩:=YC (a:=Nat.beq a.born b.born) (b:=cond (same a.key b.key) (cond (same a.val b.val) (Av as bs) false) false) h
  obtain⟨h2,h3⟩:=YC h2
  obtain⟨h3,h4⟩:=YC h3
  have e1:=Yt h1
  have e2:=Mj _ _ h2
  have e3:=Mj _ _ h3
  rw[FZ h4]
  cases a;cases b
  simp only at e1 e2 e3
  rw[e1,e2,e3]
structure yO(o p:Obj):Prop where
 to: ∀σ l c,TN σ o l c->TN σ p l c
 of: ∀σ l c,TN σ p l c->TN σ o l c
 wr:wrO o=wrO p
 soft:Lw o↔Lw p
theorem II{σ:Mp}{r q:Row}{l:Loc}{cs:Array Value}{fr:Nat×Nat}(h1:r.sz=q.sz)(h2:r.size=q.size)(h3:r.fz=q.fz)(h4:r.sm=q.sm)(h5:r.own=q.own)(h6:r.exact=q.exact)
  (h7: ∀i,i<r.size->r.get i=q.get i)(h:Q6 σ r l cs fr):Q6 σ q l cs fr:=by
 refine⟨h.sz.trans h1,h.sz1,by rw[<-h2];exact h.fits,h.room,?_,?_,by rw[<-h2];exact h.one,?_,?_⟩
 ·rw[<-h6,<-h2];exact h.exact
 ·intro i hi
  rw[<-h2] at hi
  rw[<-h7 i hi];exact h.cell i hi
 ·rw[<-h5,<-h3];exact h.frz
 ·rw[<-h5,<-h4,<-h3];exact h.frs
theorem Dj{o:Obj}{x:LO}(h:oP o x=true):yO o x.obj:=by
 unfold oP at h
 split at h
 ·rename_i r e sz l fz sm own exact
  obtain⟨a1,h⟩:=YC h
  obtain⟨a2,h⟩:=YC h
  obtain⟨a3,h⟩:=YC h
  obtain⟨a4,h⟩:=YC h
  obtain⟨a5,h⟩:=YC h
  obtain⟨a6,h⟩:=YC h
  obtain⟨a7,h⟩:=YC h
  have a1:=Yt a1
  have a2:=Yt a2
  have a3:=Yt a3
  have a4:=Yt a4
  have a5:=FY a5
  have a6:=FY a6
  have a7:=FY a7
  have a8:=DI h
  have hget: ∀i,i<r.size->r.get i=(⟨e,sz,XX l,T.ofList l,.unk,fz,sm,own,exact⟩:Row).get i:=by
   intro i hi
   have g1:=Pk r r.size 0 i hi
   rw[a8,Zd] at g1
   rw[Row.get_eq ⟨e,sz,XX l,T.ofList l,.unk,fz,sm,own,exact⟩]
   show _=((T.ofList l).get i).getD .unk
   rw[T.get_ofList,g1]
   rfl
  refine⟨λσ l' c hr=>?_,λσ l' c hr=>?_,?_,λ⟨r',e',h'⟩=>by cases e';exact⟨_,rfl,a6.symm.trans h'⟩,λ⟨r',e',h'⟩=>by cases e';exact⟨_,rfl,a6.trans h'⟩⟩
  ·obtain⟨cs,fr,rfl,hr⟩:=hr
   exact⟨cs,fr,by rw[a1],II a2 a3 a4 a5 a6 a7 hget hr⟩
  ·obtain⟨cs,fr,rfl,hr⟩:=hr
   exact⟨cs,fr,by rw[a1],II a2.symm a3.symm a4.symm a5.symm a6.symm a7.symm (λi hi=>(hget i (by rw[a3];exact hi)).symm) hr⟩
  ·show r.own=own
   exact a6
 ·rename_i es c fs d
  obtain⟨a1,a2⟩:=YC h
  have a1:=Yt a1
  have a2:=FZ a2
  subst a1;subst a2
  exact⟨λ_ _ _ h=>h,λ_ _ _ h=>h,rfl,Iff.rfl⟩
 ·rename_i es fs
  have a2:=FZ h
  subst a2
  exact⟨λ_ _ _ h=>h,λ_ _ _ h=>h,rfl,Iff.rfl⟩
 ·cases h
structure CE where
 args:List AV
 nx:Nat
 ro:Nat
 pre:List (Nat×LO)
 v:AV
 nx2:Nat
 post:List (Nat×LO)
 dead:List Nat
def FS:List (Nat×LO)->T Obj->T Obj
 |[],t=>t
 |x::l,t=>(FS l t).set x.1 x.2.obj
def Er:List Nat->T Obj->T Obj
 |[],t=>t
 |b::l,t=>(Er l t).del b
def TY(b:Nat):List (Nat×LO)->Option LO
 |[]=>none
 |x::l=>cond (Nat.beq x.1 b) (some x.2) (TY b l)
def L9(b:Nat):List Nat->Bool
 |[]=>false
 |x::l=>cond (Nat.beq x b) true (L9 b l)
def CE.heap(x:CE)(gs:List (Nat×List AV))(e:Nat->Nat):Heap:=⟨x.nx,FS x.pre (uq e gs .leaf),x.ro⟩
def CE.after(x:CE)(H:Heap):Heap:=⟨x.nx2,FS x.post (Er x.dead H.t),H.ro⟩
def zy(H:Heap)(b:Nat)(o:LO):Bool:=match H.t.get b with|some p=>oP p o|none=>false
def Cs(H:Heap)(l:List (Nat×LO)):Bool:=List.rec true (λx _ ih=>cond (zy H x.1 x.2) ih false) l
def CQ(H:Heap)(l:List Nat):Bool:=List.rec true (λb _ ih=>cond (match H.t.get b with|none=>true|_=>false) ih false) l
def Cx(H:Heap)(x:CE)(l:List (Nat×LO)):Bool:=List.rec true (λy _ ih=>cond (cond (L9 y.1 x.dead) true (match TY y.1 x.post with|some _=>true|none=>zy H y.1 y.2)) ih false) l
def CE.out(x:CE)(r:CR):Bool:=match r with
 |.ret v H=>cond (same v x.v) (cond (Nat.beq H.nx x.nx2) (cond (Cs H x.post) (cond (Cx H x x.pre) (CQ H x.dead) false) false) false) false
 |_=>false
def CN(x:CE)(l:List (Nat×LO)):Bool:=List.rec true (λy _ ih=>cond (Nat.ble x.ro y.1) (cond (L9 y.1 x.dead) false
 (cond (match TY y.1 x.pre with|some p=>cond (oP p.obj y.2) false true|none=>cond (Nat.ble x.nx y.1) (wrO y.2.obj) false) ih false)) false) l
def Cg(x:CE)(l:List Nat):Bool:=List.rec true (λb _ ih=>cond (Nat.ble x.ro b) (match TY b x.pre with|some _=>ih|none=>false) false) l
def Cr(l:List (Nat×LO)):Bool:=List.rec true (λy _ ih=>cond (wrO y.2.obj) ih false) l
def CE.wf(x:CE):Bool:=cond (CN x x.post) (cond (Cg x x.dead) (Cr x.pre) false) false
def CE.is(x:CE)(gs:List (Nat×List AV))(args:List AV)(H:Heap):Bool:=cond (Nat.beq H.nx x.nx) (cond (Nat.beq H.ro x.ro) (cond (sameL args x.args) (cond (kG H gs) (Cs H x.pre) false) false) false) false
def sv(gs:List (Nat×List AV))(args:List AV)(H:Heap)(l:List CE):Option CR:=List.rec none (λx _ ih=>cond (x.is gs args H) (some (.ret x.v (x.after H))) ih) l
theorem OD(e:Nat->Nat)(gs:List (Nat×List AV)): ∀(l:List (Nat×LO)) (t:T Obj) (b:Nat),(FS l t).get b=match TY b l with|some o=>some o.obj|none=>t.get b
 |[],t,b=>rfl
 |x::l,t,b=>by
  show((FS l t).set x.1 x.2.obj).get b=match cond (Nat.beq x.1 b) (some x.2) (TY b l) with|some o=>some o.obj|none=>t.get b
  rw[T.get_set,Xx]
  by_cases h:x.1=b
  ·rw[if_pos h,Zr h];rfl
  ·rw[if_neg h,Zj h];exact OD e gs l t b
theorem Ip: ∀(l:List Nat) (t:T Obj) (b:Nat),(Er l t).get b=cond (L9 b l) none (t.get b)
 |[],t,b=>rfl
 |x::l,t,b=>by
  show((Er l t).del x).get b=cond (cond (Nat.beq x b) true (L9 b l)) none (t.get b)
  rw[T.get_del,Xx]
  by_cases h:x=b
  ·rw[if_pos h,Zr h];rfl
  ·rw[if_neg h,Zj h];exact Ip l t b
theorem Ss{b:Nat}{o:LO}: ∀{l:List (Nat×LO)},TY b l=some o->(b,o)∈l
 |[],h=>by cases h
 |x::l,h=>by
  have h:cond (Nat.beq x.1 b) (some x.2) (TY b l)=some o:=h
  cases e:Nat.beq x.1 b with
  |true=>
   rw[e] at h;cases h
   have:=Yt e
   subst this
   exact Z5 ..
  |false=>rw[e] at h;exact Yd _ (Ss h)
theorem Iq{b:Nat}: ∀{l:List Nat},L9 b l=true->b∈l
 |[],h=>by cases h
 |x::l,h=>by
  have h:cond (Nat.beq x b) true (L9 b l)=true:=h
  cases e:Nat.beq x b with
  |true=>
   have:=Yt e
   subst this
   exact Z5 ..
  |false=>rw[e] at h;exact Yd _ (Iq h)
theorem JB{H:Heap}: ∀{l:List (Nat×LO)},Cs H l=true-> ∀x∈l,∃o,H.t.get x.1=some o∧yO o x.2.obj∧oP o x.2=true
 |[],_,x,hx=>by cases hx
 |y::l,h,x,hx=>by
  obtain⟨h1,h2⟩:=YC (a:=zy H y.1 y.2) (b:=Cs H l) h
  rcases Yv.1 hx with rfl|hx
  ·unfold zy at h1
   split at h1
   ·rename_i p hp
    exact⟨p,hp,Dj h1,h1⟩
   ·cases h1
  ·exact JB h2 x hx
theorem Gd{H:Heap}: ∀{l:List Nat},CQ H l=true-> ∀b∈l,H.t.get b=none
 |[],_,x,hx=>by cases hx
 |y::l,h,x,hx=>by
  obtain⟨h1,h2⟩:=YC (a:=match H.t.get y with|none=>true|_=>false) (b:=CQ H l) h
  rcases Yv.1 hx with rfl|hx
  ·split at h1
   ·assumption
   ·cases h1
  ·exact Gd h2 x hx
theorem Ga{H:Heap}{x:CE}: ∀{l:List (Nat×LO)},Cx H x l=true-> ∀y∈l,L9 y.1 x.dead=true∨(∃o,TY y.1 x.post=some o)∨ ∃o,H.t.get y.1=some o∧yO o y.2.obj
 |[],_,x,hx=>by cases hx
 |z::l,h,y,hy=>by
  obtain⟨h1,h2⟩:=YC (a:=cond (L9 z.1 x.dead) true (match TY z.1 x.post with|some _=>true|none=>zy H z.1 z.2)) (b:=Cx H x l) h
  rcases Yv.1 hy with rfl|hy
  ·cases e:L9 y.1 x.dead with
   |true=>exact .inl rfl
   |false=>
    rw[e] at h1
    cases e2:TY y.1 x.post with
    |some o=>exact .inr (.inl ⟨o,rfl⟩)
    |none=>
     rw[e2] at h1
     have h1:zy H y.1 y.2=true:=h1
     unfold zy at h1
     split at h1
     ·rename_i p hp
      exact .inr (.inr ⟨p,hp,Dj h1⟩)
     ·cases h1
  ·exact Ga h2 y hy
theorem FE{x:CE}: ∀{l:List (Nat×LO)},CN x l=true-> ∀y∈l,x.ro<=y.1∧L9 y.1 x.dead=false∧((∃p,TY y.1 x.pre=some p∧oP p.obj y.2=false)∨(x.nx<=y.1∧wrO y.2.obj=true))
 |[],_,x,hx=>by cases hx
 |z::l,h,y,hy=>by
  obtain⟨h1,h⟩:=YC (a:=Nat.ble x.ro z.1) (b:=cond (L9 z.1 x.dead) false
 (cond (match TY z.1 x.pre with|some p=>cond (oP p.obj z.2) false true|none=>cond (Nat.ble x.nx z.1) (wrO z.2.obj) false) (CN x l) false)) h
  cases e:L9 z.1 x.dead with
  |true=>rw[e] at h;cases h
  |false=>
   rw[e] at h
   obtain⟨h2,h3⟩:=YC (a:=match TY z.1 x.pre with|some p=>cond (oP p.obj z.2) false true|none=>cond (Nat.ble x.nx z.1) (wrO z.2.obj) false) (b:=CN x l) h
   rcases Yv.1 hy with rfl|hy
   ·refine⟨YE h1,e,?_⟩
    split at h2
    ·rename_i p hp
     refine .inl ⟨p,hp,?_⟩
     cases e3:oP p.obj y.2 with
     |true=>rw[e3] at h2;cases h2
     |false=>rfl
    ·obtain⟨h4,h5⟩:=YC h2
     exact .inr ⟨YE h4,h5⟩
   ·exact FE h3 y hy
theorem HI{x:CE}: ∀{l:List Nat},Cg x l=true-> ∀b∈l,x.ro<=b∧ ∃p,TY b x.pre=some p
 |[],_,x,hx=>by cases hx
 |z::l,h,b,hb=>by
  obtain⟨h1,h⟩:=YC (a:=Nat.ble x.ro z) (b:=match TY z x.pre with|some _=>Cg x l|none=>false) h
  split at h
  ·rename_i p hp
   rcases Yv.1 hb with rfl|hb
   ·exact⟨YE h1,p,hp⟩
   ·exact HI h b hb
  ·cases h
theorem E0{gs:List (Nat×List AV)}{args:List AV}{H:Heap}{r:CR}: ∀{l:List CE},sv gs args H l=some r-> ∃x∈l,x.is gs args H=true∧r=.ret x.v (x.after H)
 |[],h=>by cases h
 |x::l,h=>by
  have h:cond (x.is gs args H) (some (.ret x.v (x.after H))) (sv gs args H l)=some r:=h
  cases e:x.is gs args H with
  |true=>rw[e] at h;cases h;exact⟨x,Z5 ..,e,rfl⟩
  |false=>
   rw[e] at h
   obtain⟨y,hy,h1⟩:=E0 h
   exact⟨y,Yd _ hy,h1⟩
section
variable {P:Program}
theorem H8: ∀{l:List (Nat×LO)},Cr l=true-> ∀y∈l,wrO y.2.obj=true
 |[],_,_,hy=>by cases hy
 |z::l,h,y,hy=>by
  obtain⟨h1,h2⟩:=YC (a:=wrO z.2.obj) (b:=Cr l) h
  rcases Yv.1 hy with rfl|hy
  ·exact h1
  ·exact H8 h2 y hy
theorem Lw.wrO{o:Obj}(h:Lw o):wrO o=false:=by
 obtain⟨r,rfl,e⟩:=h
 exact e
theorem yN{H:Heap}{b:Nat}(h:Wr H b):H.ro<=b∧ ∃o,H.t.get b=some o∧wrO o=true:=by
 obtain⟨h1,o,h2,h3,h4⟩:=h
 refine⟨h1,o,h2,?_⟩
 cases o with
 |row r=>exact h3 r rfl
 |loop=>exact absurd rfl h4
 |_=>rfl
theorem kj{call:Nat->List AV->Heap->CR}(hcall:RF P call){f:FuncId}{tab:List CE}{gs:List (Nat×List AV)}
  (htab: ∀x∈tab,x.wf=true∧ ∀e,x.out (call f x.args (x.heap gs e))=true)
  {args:List AV}{H:Heap}{r:CR}(h:sv gs args H tab=some r){σ:Mp}{w:World}{vs:List Value}(hs:VP P σ H w)(hv:XG σ args vs):MV P σ H w r ((callFunc f ⟨vs⟩).run P w):=by
 obtain⟨x,hx,his,rfl⟩:=E0 h
 obtain⟨hwf,hout⟩:=htab x hx
 obtain⟨i1,his⟩:=YC his
 obtain⟨i2,his⟩:=YC his
 obtain⟨i3,his⟩:=YC his
 obtain⟨i4,i5⟩:=YC his
 have i1:H.nx=x.nx:=Yt i1
 have i2:H.ro=x.ro:=Yt i2
 have i3:=N0 _ _ i3
 have hpre:=JB i5
 obtain⟨w1,w2⟩:=YC hwf
 have hnew:=FE w1
 obtain⟨w2,w3⟩:=YC w2
 have m6:=HI w2
 have cG:=H8 w3
 subst i3
 let e:Nat->Nat:=λy=>match H.t.get y with|some (.row q)=>q.elem|_=>0
 have Et:=hout e
 have hget: ∀y o,(x.heap gs e).t.get y=some o->(∃p,TY y x.pre=some p∧o=p.obj)∨(TY y x.pre=none∧ ∃l,(y,l)∈gs∧o=CM (e y) l):=by
  intro y o hy
  have hy:(FS x.pre (uq e gs .leaf)).get y=some o:=hy
  rw[OD e gs] at hy
  cases hf:TY y x.pre with
  |some p=>rw[hf] at hy;cases hy;exact .inl ⟨p,rfl,rfl⟩
  |none=>
   rw[hf] at hy
   rcases Ah e gs .leaf y o hy with h|h
   ·exact .inr ⟨rfl,h⟩
   ·rw[T.get_leaf] at h;cases h
 have ba: ∀y o,(x.heap gs e).t.get y=some o-> ∃o',H.t.get y=some o'∧(∀l c,TN σ o' l c->TN σ o l c)∧(wrO o=true->wrO o'=true)∧(Lw o'->Lw o):=by
  intro y o hy
  rcases hget y o hy with⟨p,hp,rfl⟩|⟨_,l,hl,rfl⟩
  ·obtain⟨o',h1,h2,_⟩:=hpre _ (Ss hp)
   exact⟨o',h1,h2.to σ,λh=>h2.wr.trans h,h2.soft.1⟩
  ·obtain⟨q,g3,g4,g5,g6⟩:=BF i4 _ hl
   have g5:XX l<=q.size:=g5
   have g6:U5 q 0 (XX l)=l:=g6
   have g3:H.t.get y=some (.row q):=g3
   refine⟨_,g3,λl' c hc=>?_,(λh=>by cases h),λ_=>⟨_,rfl,rfl⟩⟩
   obtain⟨cs,fr,rfl,hr⟩:=hc
   have hey:e y=q.elem:=by show(match H.t.get y with|some (.row q)=>q.elem|_=>0)=_;rw[g3]
   refine⟨cs,fr,by rw[hey],?_⟩
   have gsz:l'.sz=1:=by rw[hr.sz,g4]
   refine⟨gsz,hr.sz1,by have:=hr.fits;show XX l<=_;omega,hr.room,(λh=>by cases h),λi hi=>?_,λi v hi hv=>hr.one i v (YV hi g5) hv,(λh=>by cases h),(λh=>by cases h)⟩
   have hi:i<XX l:=hi
   obtain⟨v,h7,h8⟩:=hr.cell i (by omega)
   refine⟨v,h7,?_⟩
   have g7:=Pk q (XX l) 0 i hi
   rw[g6,Zd] at g7
   rw[Row.get_eq]
   show Y2 σ (((T.ofList l).get i).getD .unk) v
   rw[T.get_ofList,g7]
   exact h8
 have sW:VP P σ (x.heap gs e) w:=by
  refine⟨λy l hy=>by show y<x.nx;rw[<-i1];exact hs.dom y l hy,λy o hy=>?_,λy o l hy hl=>?_,λy y' o o' l l' hy hy' hl hl' he=>?_,hs.glob,by show x.ro<=x.nx;rw[<-i1,<-i2];exact hs.ro⟩
  ·obtain⟨o',h1,_⟩:=ba y o hy
   show y<x.nx
   rw[<-i1];exact hs.low y o' h1
  ·obtain⟨o',h1,h2,_⟩:=ba y o hy
   obtain⟨c,hc,hr⟩:=hs.alive y o' l h1 hl
   exact⟨c,hc,h2 l c hr⟩
  ·obtain⟨o1,h1,_,_,s1⟩:=ba y o hy
   obtain⟨o2,h2,_,_,s2⟩:=ba y' o' hy'
   exact(hs.inj y y' o1 o2 l l' h1 h2 hl hl' he).imp_right λs=>⟨s1 s.1,s2 s.2⟩
 have wrH: ∀y,Wr (x.heap gs e) y->Wr H y∧ ∃p,TY y x.pre=some p:=by
  intro y hy
  obtain⟨h1,o,h2,h3⟩:=yN hy
  obtain⟨o',g1,g2,g3,_⟩:=ba y o h2
  refine⟨Eh g1 (by rw[i2];exact h1) (g3 h3),?_⟩
  rcases hget y o h2 with⟨p,hp,_⟩|⟨_,l,_,rfl⟩
  ·exact⟨p,hp⟩
  ·cases h3
 have hcr:=hcall f x.args (x.heap gs e) σ w vs sW hv
 generalize call f x.args (x.heap gs e)=res at hcr Et
 cases res with
 |fail=>cases Et
 |pan _ _=>cases Et
 |ret v H'=>
  obtain⟨o1,Et⟩:=YC Et
  obtain⟨o2,Et⟩:=YC Et
  obtain⟨o3,Et⟩:=YC Et
  obtain⟨o4,o5⟩:=YC Et
  have o1:=Mj _ _ o1
  subst o1
  have o2:H'.nx=x.nx2:=Yt o2
  have hpost:=JB o3
  have hkeep:=Ga o4
  have hnone:=Gd o5
  refine Ends.mono (λu' w' hx=>?_) (λ_ _ hx=>hx) hcr
  obtain⟨σ',hr,t⟩:=hx
  refine⟨σ',hr,?_⟩
  have tnx:x.nx<=H'.nx:=t.nx
  have hafter: ∀b o,(x.after H).t.get b=some o->
    (∃o',H'.t.get b=some o'∧yO o o'∧((∃p,TY b x.pre=some p)∨(x.nx<=b∧x.ro<=b∧wrO o=true)))
    ∨(TY b x.pre=none∧H.t.get b=some o):=by
   intro b o hb
   have hb:(FS x.post (Er x.dead H.t)).get b=some o:=hb
   rw[OD e gs] at hb
   cases hp:TY b x.post with
   |some p=>
    rw[hp] at hb;cases hb
    obtain⟨o',h1,h2,h3⟩:=hpost _ (Ss hp)
    obtain⟨n1,n2,n3⟩:=hnew _ (Ss hp)
    refine .inl ⟨o',h1,⟨h2.of,h2.to,h2.wr.symm,h2.soft.symm⟩,?_⟩
    rcases n3 with⟨p',n4,_⟩|⟨n4,n5⟩
    ·exact .inl ⟨p',n4⟩
    ·exact .inr ⟨n4,n1,n5⟩
   |none=>
    rw[hp] at hb
    have hb:(Er x.dead H.t).get b=some o:=hb
    rw[Ip] at hb
    cases hd:L9 b x.dead with
    |true=>rw[hd] at hb;cases hb
    |false=>
     rw[hd] at hb
     have hb:H.t.get b=some o:=hb
     cases hq:TY b x.pre with
     |none=>exact .inr ⟨rfl,hb⟩
     |some p=>
      rcases hkeep _ (Ss hq) with k|⟨_,k⟩|⟨o',k1,k2⟩
      ·have k:L9 b x.dead=true:=k
       rw[hd] at k;cases k
      ·have k:TY b x.post=_:=k
       rw[hp] at k;cases k
      ·obtain⟨o'',q1,q2,_⟩:=hpre _ (Ss hq)
       have q1:H.t.get b=some o'':=q1
       rw[hb] at q1;cases q1
       exact .inl ⟨o',k1,⟨λσ l c h=>k2.of σ l c (q2.to σ l c h),λσ l c h=>q2.of σ l c (k2.to σ l c h),q2.wr.trans k2.wr.symm,q2.soft.trans k2.soft.symm⟩,.inl ⟨p,rfl⟩⟩
  have hold: ∀b o l,TY b x.pre=none->H.t.get b=some o->σ' b=some l->σ b=some l:=by
   intro b o l _ hb hl
   have hlt:=hs.low b o hb
   cases hσ:σ b with
   |none=>
    have:=(t.pend b (by show b<x.nx;omega) hσ).2
    rw[this] at hl;cases hl
   |some l0=>rw[t.ext b l0 hσ] at hl;exact hl
  have cS: ∀b p,TY b x.pre=some p-> ∃o,H.t.get b=some o∧b<x.nx:=by
   intro b p hp
   obtain⟨o,q1,_⟩:=hpre _ (Ss hp)
   exact⟨o,q1,by rw[<-i1];exact hs.low b o q1⟩
  have BI: ∀b l,b<x.nx->σ' b=some l->(∃o,H'.t.get b=some o)->σ b=some l:=by
   intro b l hlt hl _
   cases hσ:σ b with
   |none=>
    have:=(t.pend b hlt hσ).2
    rw[this] at hl;cases hl
   |some l0=>rw[t.ext b l0 hσ] at hl;exact hl
  have cE: ∀b o l y l',TY b x.pre=none->H.t.get b=some o->σ b=some l->Wr (x.heap gs e) y->σ y=some l'->l'.blk=l.blk->False:=by
   intro b o l y l' hb ho hl hw hy he
   obtain⟨h1,p,hp⟩:=wrH y hw
   obtain⟨_,oy,h2,h3⟩:=yN h1
   have:=hs.alone h2 ho hy hl he λs=>by rw[s.1.wrO] at h3;cases h3
   subst this
   rw[hb] at hp;cases hp
  have cL: ∀b o l b' l' o1,TY b x.pre=none->H.t.get b=some o->σ' b=some l->H'.t.get b'=some o1->σ' b'=some l'->l.blk=l'.blk->
    ((∃p,TY b' x.pre=some p)∨(x.nx<=b'∧x.ro<=b'∧wrO o1=true))->b=b':=by
   intro b o l b' l' o1 hb ho hl ho1 hl' he hor
   have hl0:=hold b o l hb ho hl
   rcases hor with⟨p,hp⟩|⟨n1,n2,n3⟩
   ·obtain⟨o2,q1,q2⟩:=cS b' p hp
    refine hs.alone ho q1 hl0 (BI b' l' q2 hl' ⟨o1,ho1⟩) he λs=>?_
    obtain⟨o3,g1,g2,_⟩:=hpre _ (Ss hp)
    have g1:H.t.get b'=some o3:=g1
    rw[q1] at g1;cases g1
    have:=cG _ (Ss hp)
    rw[<-g2.wr,s.2.wrO] at this;cases this
   ·exfalso
    obtain⟨c,hc,_⟩:=hs.alive b o l ho hl0
    have hlt:l'.blk<w.heap.size:=by rw[<-he];exact(Yy.1 hc).1
    have hro:H'.ro<=b':=by rw[t.ro];exact n2
    obtain⟨b0,l0,h1,h2,h3⟩:=t.wr b' l' (Eh ho1 hro n3) hl' hlt
    exact cE b o l b0 l0 hb ho hl0 h1 h2 (h3.trans he.symm)
  refine⟨t.ext,⟨?_,?_,?_,?_,t.sim.glob,?_⟩,t.size,?_,?_,?_,rfl,?_,t.tape,t.os,t.out,?_⟩
  ·intro b l hb
   show b<x.nx2
   rw[<-o2];exact t.sim.dom b l hb
  ·intro b o hb
   show b<x.nx2
   rw[<-o2]
   rcases hafter b o hb with⟨o',h1,_⟩|⟨_,h1⟩
   ·exact t.sim.low b o' h1
   ·have:=hs.low b o h1;omega
  ·intro b o l hb hl
   rcases hafter b o hb with⟨o',h1,h2,_⟩|⟨h0,h1⟩
   ·obtain⟨c,hc,hrel⟩:=t.sim.alive b o' l h1 hl
    exact⟨c,hc,h2.of σ' l c hrel⟩
   ·have hl0:=hold b o l h0 h1 hl
    obtain⟨c,hc,hrel⟩:=hs.alive b o l h1 hl0
    refine⟨c,?_,hrel.mono t.ext⟩
    rw[t.frame l.blk (Yy.1 hc).1 λy ly hw hy he=>cE b o l y ly h0 h1 hl0 hw hy he]
    exact hc
  ·intro b b' o o' l l' hb hb' hl hl' he
   rcases hafter b o hb with⟨p,h1,h2,h3⟩|⟨h0,h1⟩<;>rcases hafter b' o' hb' with⟨p',h1',h2',h3'⟩|⟨h0',h1'⟩
   ·exact(t.sim.inj b b' p p' l l' h1 h1' hl hl' he).imp_right λs=>⟨h2.soft.2 s.1,h2'.soft.2 s.2⟩
   ·exact .inl (cL b' o' l' b l p h0' h1' hl' h1 hl he.symm (h3.imp_right λ⟨a,b,c⟩=>⟨a,b,by rw[<-h2.wr];exact c⟩)).symm
   ·exact .inl<|cL b o l b' l' p' h0 h1 hl h1' hl' he (h3'.imp_right λ⟨a,b,c⟩=>⟨a,b,by rw[<-h2'.wr];exact c⟩)
   ·exact hs.inj b b' o o' l l' h1 h1' (hold b o l h0 h1 hl) (hold b' o' l' h0' h1' hl') he
  ·show H.ro<=x.nx2
   have:=hs.ro
   omega
  ·intro k hk hn
   exact t.frame k hk λy l hw hl=>hn y l (wrH y hw).1 hl
  ·intro b l hw hl hlt
   obtain⟨hro,o,ho,hwo⟩:=yN hw
   rcases hafter b o ho with⟨o',h1,h2,_⟩|⟨h0,h1⟩
   ·obtain⟨b0,l0,g1,g2,g3⟩:=t.wr b l (Eh h1 (by rw[t.ro];show x.ro<=b;rw[<-i2];exact hro) (by rw[<-h2.wr];exact hwo)) hl hlt
    exact⟨b0,l0,(wrH b0 g1).1,g2,g3⟩
   ·exact⟨b,l,Eh h1 hro hwo,hold b o l h0 h1 hl,rfl⟩
  ·show H.nx<=x.nx2
   omega
  ·intro b hb
   show(FS x.post (Er x.dead H.t)).get b=H.t.get b
   rw[OD e gs]
   cases hp:TY b x.post with
   |some p=>
    have:=(hnew _ (Ss hp)).1
    have:x.ro<=b:=this
    omega
   |none=>
    show(Er x.dead H.t).get b=_
    rw[Ip]
    cases hd:L9 b x.dead with
    |true=>
     have:=(m6 _ (Iq hd)).1
     omega
    |false=>rfl
  ·intro b hb hσ
   obtain⟨p1,p2⟩:=t.pend b (by show b<x.nx;omega) hσ
   refine⟨?_,p2⟩
   show(FS x.post (Er x.dead H.t)).get b=H.t.get b
   rw[OD e gs]
   cases hp:TY b x.post with
   |some p=>
    exfalso
    obtain⟨n1,n2,n3⟩:=hnew _ (Ss hp)
    obtain⟨o',h1,h2,h3⟩:=hpost _ (Ss hp)
    have h1:H'.t.get b=some o':=h1
    rcases n3 with⟨q,n4,n5⟩|⟨n4,_⟩
    ·have n4:TY b x.pre=some q:=n4
     have:(x.heap gs e).t.get b=some q.obj:=by
      show(FS x.pre (uq e gs .leaf)).get b=_
      rw[OD e gs,n4]
     rw[<-p1,h1] at this
     cases this
     rw[h3] at n5;cases n5
    ·have n4:x.nx<=b:=n4
     omega
   |none=>
    show(Er x.dead H.t).get b=_
    rw[Ip]
    cases hd:L9 b x.dead with
    |true=>
     exfalso
     obtain⟨_,q,n4⟩:=m6 _ (Iq hd)
     have:(x.heap gs e).t.get b=some q.obj:=by
      show(FS x.pre (uq e gs .leaf)).get b=_
      rw[OD e gs,n4]
     rw[<-p1,hnone _ (Iq hd)] at this
     cases this
    |false=>rfl
end
section
variable {P:Program}
theorem y3{H:Type}{R:MapEntry->Option ((Lit×DataW H)×List MemPlace)}{fk:Lit->AV}{fv:DataW H->AV}{σ:Mp}: ∀(l:List MapEntry) (entries:List ((Lit×DataW H)×List MemPlace)),
  l.mapM R=some entries->(∀x∈l,∀y,R x=some y->y∈entries->Y2 σ (fk y.1.1) x.key∧Y2 σ (fv y.1.2) x.val)->
  ∃fs,Xf σ fs l∧fs.map Rh=entries.map λz=>(fk z.1.1,fv z.1.2)
 |[],entries,h,_=>by
  simp only[List.mapM_nil] at h
  cases h
  exact⟨[],N9,rfl⟩
 |x::l,entries,h,hr=>by
  rw[List.mapM_cons] at h
  simp only[bind,Option.bind_eq_some_iff,pure] at h
  obtain⟨y,h1,zs,h2,h3⟩:=h
  cases h3
  obtain⟨fs,h4,h5⟩:=y3 l zs h2 (λz hz u hu hm=>hr z (Yd _ hz) u hu (Yd _ hm))
  obtain⟨h6,h7⟩:=hr x (Z5 ..) y h1 (Z5 ..)
  refine⟨⟨fk y.1.1,fv y.1.2,x.born⟩::fs,⟨x,l,⟨h6,h7,rfl⟩,h4,rfl⟩,?_⟩
  rw[VC,VC,h5]
  rfl
theorem Dx{H:Type}{enc:TypeId×Value->H}{W:World}{t k e:TypeId}{held:Bool}{m:Nat}{cs:List Value}{sorted:List (Lit×DataW H)}{p:List MemPlace}(ht:P.underlying t=some (.map k e))
  (h:DataW.trod enc P W 0 (λ_=>true) held m t cs=some (.map sorted,p)){fk:Lit->AV}{fv:DataW H->AV}{σ:Mp}
  (hk: ∀x l,keyOf P k x=some l->Y2 σ (fk l) x)
  (hv: ∀(x:Value) n y,x.formed P e=true->DataW.trod enc P W 0 (λ_=>true) held n e x.cells.toList=some y->(∃key,(key,y.1)∈sorted)->Y2 σ (fv y.1) x):
  ∃b es clock fs,cs=[.map (some b)]∧MemPlace.map b∈p∧W.heap[b]? =some (.map es clock)∧Xf σ fs es.toList∧(fs.map Rh).Perm (sorted.map λq=>(fk q.1,fv q.2)):=by
 cases m with
 |zero=>simp[DataW.trod] at h
 |succ m=>
  have key: ∃b,cs=[.map (some b)]:=by
   unfold DataW.trod at h
   rw[ht] at h
   rcases cs with _|⟨c0,_|⟨c1,cs⟩⟩
   ·simp at h
   ·cases c0<;>try (simp at h;done)
    rename_i r
    cases r with
    |none=>simp at h
    |some b=>exact⟨b,rfl⟩
   ·simp at h
  obtain⟨b,rfl⟩:=key
  unfold DataW.trod at h
  rw[ht] at h
  simp only at h
  split at h
  ·rename_i es clock hb
   split at h
   ·obtain⟨entries,h1,h2⟩:=Option.bind_eq_some_iff.1 h
    split at h2
    ·simp only[Option.some.injEq,Prod.mk.injEq,DataW.map.injEq] at h2
     obtain⟨h3,h4⟩:=h2
     have hperm:=WideShapes.sorted_perm (entries.map (·.1))
     rw[h3] at hperm
     obtain⟨fs,h5,h6⟩:=y3 (fk:=fk) (fv:=fv) (σ:=σ) es.toList entries h1 (λx hx y hy hm=>by
      obtain⟨key,h7,h8⟩:=Option.bind_eq_some_iff.1 hy
      split at h8
      ·rename_i hf
       obtain⟨z,h9,h10⟩:=TD.1 h8
       subst h10
       refine⟨hk _ _ h7,hv _ _ z hf h9 ⟨key,?_⟩⟩
       exact hperm.mem_iff.2 (Wj.2 ⟨_,hm,rfl⟩)
      ·cases h8)
     refine⟨b,es,clock,fs,rfl,by rw[<-h4];exact Z5 ..,hb,h5,?_⟩
     rw[h6]
     have:=(hperm.map λq:Lit×DataW H=>(fk q.1,fv q.2)).symm
     rw[Ri] at this
     exact this
    ·cases h2
   ·cases h
  ·cases h
def rq:Lit->AV
 |.string s=>.str s
 |.int k n=>.int k n
 |_=>.unk
theorem BM{k:TypeId}{q:IntKind}(hu:P.underlying k=some (.int q)){σ:Mp}(x:Value)(l:Lit)(h:keyOf P k x=some l):Y2 σ (rq l) x:=by
 unfold keyOf at h
 rw[hu] at h
 unfold mapKey at h
 rw[hu] at h
 cases x<;>simp at h
 obtain⟨⟨rfl,_⟩,rfl⟩:=h
 simp[rq,Y2]
theorem uX{x:Value}{v:Value}(h:x.cells.toList=[v])(hx: ∀cs,x≠.agg cs):x=v:=by
 cases x with
 |agg cs=>exact absurd rfl (hx cs)
 |_=>simpa [Value.cells] using h
theorem Fg{e:TypeId}{d:TypeDesc}(hu:P.underlying e=some d)(hd:(match d with|.struct _|.array _ _=>false|_=>true)=true){x:Value}(h:x.formed P e=true): ∀cs,x≠.agg cs:=by
 rintro cs rfl
 unfold Value.formed at h
 rw[hu] at h
 cases d<;>first|(simp at hd;done)|(simp at h;done)
def nc(d:DataW Unit):AV:=match d with
 |.lit (.int k n)=>.int k n
 |.agg ds=>.agg (FA ds)
 |_=>.unk
theorem mq{e:TypeId}{q:IntKind}(hu:P.underlying e=some (.int q)){σ:Mp}{W:World}(x:Value)(n:Nat)(y:DataW Unit×List MemPlace)(hf:x.formed P e=true)
  (h:DataW.trod (λ_=>()) P W 0 (λ_=>true) false n e x.cells.toList=some y):Y2 σ (nc y.1) x:=by
 obtain⟨z,h1,rfl,_⟩:=DataW.trod_int hu h
 rw[uX h1 (Fg hu rfl hf)]
 simp[nc,Y2]
theorem Eg{e:TypeId}{ps rs:Array TypeId}{va:Bool}(hu:P.underlying e=some (.func ps rs va)){σ:Mp}{W:World}{name:String}{f:Nat}(hf:P.funcNamed name=some f)(hne:name.toUTF8.data.toList≠[])
  (x:Value)(n:Nat)(y:DataW (List UInt8)×List MemPlace)(hform:x.formed P e=true)
  (h:DataW.trod (funcToken P) P W 0 (λ_=>true) true n e x.cells.toList=some y)(hy:y.1=.held name.toUTF8.data.toList):Y2 σ (.func f [] []) x:=by
 have hone:=Fg hu rfl hform
 cases n with
 |zero=>simp[DataW.trod] at h
 |succ n=>
  unfold DataW.trod at h
  rw[hu] at h
  have hx:x.cells.toList=[x]:=by cases x<;>first|rfl|exact absurd rfl (hone _)
  rw[hx] at h
  cases x with
  |nilFunc=>simp at h;subst h;cases hy
  |func fn a b=>
   simp at h
   subst h
   simp only[DataW.held.injEq] at hy
   unfold funcToken at hy
   cases fn with
   |func g=>
    simp only at hy
    split at hy
    ·rename_i hab
     simp only[Xv,Array.isEmpty_iff] at hab
     obtain⟨rfl,rfl⟩:=hab
     cases hg:P.funcs[g]? with
     |none=>rw[hg] at hy;exact absurd hy.symm hne
     |some fn=>
      rw[hg] at hy
      simp only at hy
      split at hy
      ·rename_i hn
       have h1:fn.name.toUTF8=name.toUTF8:=by
        have h2:fn.name.toUTF8.data=name.toUTF8.data:=Array.toList_inj.1 hy
        cases h3:fn.name.toUTF8;cases h4:name.toUTF8
        rw[h3,h4] at h2
        simp only at h2
        rw[h2]
       have h5:fn.name=name:=by
        exact String.toByteArray_inj.1 h1
       rw[h5] at hn
       have hn:P.funcNamed name=some g:=by simpa using hn
       rw[hf] at hn
       cases hn
       simp only[Y2]
       exact⟨[],[],U8,U8,rfl⟩
      ·exact absurd hy.symm hne
    ·exact absurd hy.symm hne
   |_=>simp at hy;exact absurd hy.symm (by simpa using hne)
  |_=>simp at h
noncomputable def C1:List (Nat×List RP)->T Obj->T Obj
 |[],t=>t
 |x::l,t=>C1 l (t.set x.1 (.cmap x.2))
theorem Kk: ∀(ms:List (Nat×List RP)) (t:T Obj) (b:Nat) (o:Obj),(C1 ms t).get b=some o->(∃es,(b,es)∈ms∧o=.cmap es)∨t.get b=some o
 |[],t,b,o,h=>.inr h
 |(b',es)::ms,t,b,o,h=>by
  rcases Kk ms _ b o h with⟨es2,h1,h2⟩|h1
  ·exact .inl ⟨es2,Yd _ h1,h2⟩
  ·rw[T.get_set] at h1
   by_cases e3:b'=b
   ·rw[if_pos e3] at h1;cases h1;subst e3;exact .inl ⟨es,Z5 ..,rfl⟩
   ·rw[if_neg e3] at h1;exact .inr h1
noncomputable def D8(n:Nat)(rs:List (Nat×Nat×List AV))(ms:List (Nat×List RP)):Heap:=⟨n,C2 rs (C1 ms .leaf),n⟩
theorem x6{W:World}{rs:List (Nat×Nat×List AV)}{ms:List (Nat×List RP)}{n:Nat}{σ:Mp}(hσ: ∀g,g<P.globals.size-> ∃l,σ g=some l∧l.blk=g∧l.base=0)(hdom: ∀b l,σ b=some l->b<n)
  (hr: ∀b e l,(b,e,l)∈rs-> ∃cs fr,σ b=some ⟨b,0,XX l,1⟩∧W.heap[b]? =some (.cells cs e fr)∧XG σ l cs.toList∧ ∀v∈cs,v.oneCell'=true)
  (hm: ∀b es,(b,es)∈ms-> ∃l ents clock fs,σ b=some l∧W.heap[l.blk]? =some (.map ents clock)∧Xf σ fs ents.toList∧(fs.map Rh).Perm (es.map Rh)∧es.Pairwise D3)
  (hi: ∀b es b' es' l l',(b,es)∈ms->(b',es')∈ms->σ b=some l->σ b'=some l'->l.blk=l'.blk->b=b'):VP P σ (D8 n rs ms) W:=by
 have hget: ∀b o,(D8 n rs ms).t.get b=some o->(∃e l,(b,e,l)∈rs∧o=.row ⟨e,1,XX l,T.ofList l,.unk,0,false,false,true⟩)∨ ∃es,(b,es)∈ms∧o=.cmap es:=by
  intro b o h
  rcases Kl rs _ b o h with h|h
  ·exact .inl h
  ·rcases Kk ms _ b o h with h|h
   ·exact .inr h
   ·rw[T.get_leaf] at h;cases h
 refine⟨hdom,λb o h=>?_,λb o l h hl=>?_,λb b' o o' l l' h h' hl hl' e=>?_,hσ,Z2 _⟩
 ·rcases hget b o h with⟨e,l,h1,_⟩|⟨es,h1,_⟩
  ·obtain⟨cs,fr,h2,_⟩:=hr b e l h1
   exact hdom b _ h2
  ·obtain⟨l,_,_,_,h2,_⟩:=hm b es h1
   exact hdom b _ h2
 ·rcases hget b o h with⟨e,l',h1,rfl⟩|⟨es,h1,rfl⟩
  ·obtain⟨cs,fr,h2,h3,h4,h5⟩:=hr b e l' h1
   rw[h2] at hl;cases hl
   refine⟨_,h3,cs,fr,rfl,?_⟩
   have hlen:cs.size=XX l':=by rw[XK,h4.length];simp
   refine⟨rfl,Z2 _,by show XX l'<=XX l'*1;omega,by show 0+XX l'*1<=cs.size;omega,λ_=>⟨by show XX l'=XX l'*1;omega,rfl,hlen⟩,λi hi=>?_,λi v _ hv=>h5 v (Ux hv),(λh=>by cases h),(λh=>by cases h)⟩
   have hi:i<XX l':=hi
   have hi':i<l'.length:=by rw[XK] at hi;exact hi
   obtain⟨v,h6,h7⟩:=h4.get (i:=i) (a:=l'[i]) (ZW hi')
   refine⟨v,by rw[Zd,<-YO];exact h6,?_⟩
   have:(⟨e,1,XX l',T.ofList l',.unk,0,false,false,true⟩:Row).get i=l'[i]:=by
    rw[Row.get_eq]
    show((T.ofList l').get i).getD .unk=_
    rw[T.get_ofList,ZW hi'];rfl
   rw[this]
   exact h7
  ·obtain⟨l2,ents,clock,fs,h2,h3,h4,h5,h6⟩:=hm b es h1
   rw[h2] at hl;cases hl
   exact⟨_,h3,ents,clock,fs,rfl,h4,h5,h6⟩
 ·rcases hget b o h with⟨e1,l1,h1,_⟩|⟨es,h1,_⟩<;>rcases hget b' o' h' with⟨e2,l2,h2,_⟩|⟨es',h2,_⟩
  ·obtain⟨_,_,h3,_⟩:=hr b e1 l1 h1
   obtain⟨_,_,h4,_⟩:=hr b' e2 l2 h2
   rw[h3] at hl;rw[h4] at hl'
   cases hl;cases hl'
   exact .inl e
  ·exfalso
   obtain⟨_,_,h3,h5,_⟩:=hr b e1 l1 h1
   obtain⟨_,_,_,_,h4,h6,_⟩:=hm b' es' h2
   rw[h3] at hl;rw[h4] at hl'
   cases hl;cases hl'
   have e:b=_:=e
   rw[<-e,h5] at h6
   cases h6
  ·exfalso
   obtain⟨_,_,h3,h5,_⟩:=hr b' e2 l2 h2
   obtain⟨_,_,_,_,h4,h6,_⟩:=hm b es h1
   rw[h3] at hl';rw[h4] at hl
   cases hl;cases hl'
   have e:_=b':=e
   rw[e,h5] at h6
   cases h6
  ·exact .inl<|hi b es b' es' l l' h1 h2 hl hl' e
theorem Ev{l:List (String×DataW Unit)}{w:World}(h:laidMetH P l w):laidMet P (l.filter λx=>x.2.handleName?.isNone) w:=by
 unfold laidMetH at h
 generalize hfl:(l.filter λx=>x.2.handleName?.isSome)=fl at h
 cases fl with
 |nil=>
  have e:(l.filter λx=>x.2.handleName?.isNone)=l:=by
   rw[List.filter_eq_self]
   intro x hx
   have:=(List.filter_eq_nil_iff.1 hfl) x hx
   cases hn:x.2.handleName? with
   |none=>rfl
   |some s=>rw[hn] at this;exact absurd rfl this
  rw[e]
  exact h
 |cons a as=>exact h.1
theorem Gb{W:World}: ∀{l:List (String×DataW Unit)} {ps:List MemPlace},DataW.LaidVars P W l ps-> ∃pf:Nat->List MemPlace,
  (∀i n d,l[i]? =some (n,d)-> ∃g t cs fuel,P.globalNamed n=some g∧(P.globals[g]?).map (·.type)=some t∧W.var? P n=some cs∧DataW.trod (λ_=>()) P W 0 (λ_=>true) false fuel t cs.toList=some (d,pf i)∧ ∀x∈MemPlace.row ⟨g,0,none⟩ cs.size,x∈ps)∧
  (∀i x,i<l.length->x∈pf i->x∈ps)∧(ps.Nodup-> ∀i j x,i<j->j<l.length->x∈pf i->x∈pf j->False)
 |[],_,_=>⟨λ_=>[],(λi n d h=>by simp at h),(λi x h=>by simp at h),(λ_ i j x _ h=>by simp at h)⟩
 |(n',d')::r,ps,h=>by
  obtain⟨g,t,cs,fuel,p,q,h1,h2,h3,h4,h5,rfl⟩:=h
  obtain⟨pf,k1,k2,k3⟩:=Gb h5
  refine⟨λi=>match i with|0=>p|i+1=>pf i,λi n d hi=>?_,λi x hi hx=>?_,λhnd i j x hij hj hx hx'=>?_⟩
  ·cases i with
   |zero=>
    simp only[Tg,Option.some.injEq,Prod.mk.injEq] at hi
    obtain⟨rfl,rfl⟩:=hi
    exact⟨g,t,cs,fuel,h1,h2,h3,h4,λx hx=>Z6.2 (.inl (Z6.2 (.inl hx)))⟩
   |succ i=>
    simp only[Tf] at hi
    obtain⟨g',t',cs',fuel',m1,m2,m3,m4,m5⟩:=k1 i n d hi
    exact⟨g',t',cs',fuel',m1,m2,m3,m4,λx hx=>Z6.2 (.inr (m5 x hx))⟩
  ·cases i with
   |zero=>exact Z6.2 (.inl (Z6.2 (.inr hx)))
   |succ i=>exact Z6.2 (.inr (k2 i x (by simpa using hi) hx))
  ·obtain⟨n1,n2,n3⟩:=List.nodup_append.1 hnd
   cases j with
   |zero=>omega
   |succ j=>
    have hj':j<r.length:=by simpa using hj
    cases i with
    |zero=>exact n3 x (Z6.2 (.inr hx)) x (k2 j x hj' hx') rfl
    |succ i=>exact k3 n2 i j x (by omega) hj' hx hx'
theorem G9{σ:Mp}{p:AV->Prop}: ∀{fs:List RP} {l:List MapEntry},Xf σ fs l->(∀e∈fs,p e.val)-> ∀x∈l,∃a,p a∧Y2 σ a x.val
 |[],l,h,hp,x,hx=>by simp only[Xf] at h;subst h;cases hx
 |e::fs,l,h,hp,x,hx=>by
  obtain⟨m,ms,g1,g2,rfl⟩:=h.cons_inv
  rcases Yv.1 hx with rfl|hx
  ·exact⟨e.val,hp e (Z5 ..),g1.2.1⟩
  ·exact G9 g2 (λf hf=>hp f (Yd _ hf)) x hx
theorem HL{σ:Mp}: ∀{fs:List RP} {l:List MapEntry},Xf σ fs l->l.length=fs.length
 |[],l,h=>by simp only[Xf] at h;subst h;rfl
 |e::fs,l,h=>by
  obtain⟨m,ms,g1,g2,rfl⟩:=h.cons_inv
  rw[Zm,Zm,HL g2]
def bf:AV->Bool|.func .. =>true|_=>false
def xn:AV->Bool|.int .. =>true|.agg _=>true|_=>false
theorem Fa{σ:Mp}{fs fs':List RP}{es es':List RP}{l:List MapEntry}(h:Xf σ fs l)(h':Xf σ fs' l)(hp:(fs.map Rh).Perm (es.map Rh))(hp':(fs'.map Rh).Perm (es'.map Rh))
  (ha:es.all (λe=>bf e.val)=true)(hb:es'.all (λe=>xn e.val)=true)(hne:es≠[]):False:=by
 have all: ∀{fs es:List RP} {q:AV->Bool},(fs.map Rh).Perm (es.map Rh)->es.all (λe=>q e.val)=true-> ∀e∈fs,q e.val=true:=by
  intro fs es q hp ha e he
  have h1:Rh e∈es.map Rh:=hp.mem_iff.1 (Wj.2 ⟨e,he,rfl⟩)
  obtain⟨e',h2,h3⟩:=Wj.1 h1
  have h4:=Xw.1 ha e' h2
  simp only[Rh,Prod.mk.injEq] at h3
  rw[<-h3.2];exact h4
 have hlen:l≠[]:=by
  intro hl
  have h1:=HL h
  have h2:=hp.length_eq
  rw[hl] at h1
  rw[VU,VU,<-h1] at h2
  exact hne (Vs.1 h2.symm)
 obtain⟨x,l',rfl⟩:=List.exists_cons_of_ne_nil hlen
 obtain⟨a,h1,h2⟩:=G9 (p:=λa=>bf a=true) h (all hp ha) x (Z5 ..)
 obtain⟨b,h3,h4⟩:=G9 (p:=λa=>xn a=true) h' (all hp' hb) x (Z5 ..)
 cases a<;>first|(cases h1;done)|skip
 obtain⟨_,_,_,_,e⟩:=NY h2
 rw[e] at h4
 cases b<;>first|(cases h3;done)|skip
 ·cases W3 h4
 ·obtain⟨_,_,_,e⟩:=Lf h4;cases e
noncomputable def GR:List RP->Bool
 |[]=>true
 |e::l=>(l.all λf=>LG e.key f.key&&LG f.key e.key)&&GR l
theorem LF: ∀{es:List RP},GR es=true->es.Pairwise D3
 |[],_=>List.Pairwise.nil
 |e::l,h=>by
  unfold GR at h
  obtain⟨h1,h2⟩:=Q8.1 h
  refine Rj.2 ⟨λf hf=>?_,LF h2⟩
  have:=Xw.1 h1 f hf
  exact Q8.1 this
end
def vq(gs:List (Nat×List AV))(base:Nat->List AV->Heap->Option CR):List (Nat×CE)->Nat->List AV->Heap->Option CR
 |[],f,args,H=>base f args H
 |x::l,f,args,H=>cond (Nat.beq x.1 f) (cond (x.2.is gs args H) (some (.ret x.2.v (x.2.after H))) (vq gs base l f args H)) (vq gs base l f args H)
section
variable {P:Program}
def mt(P:Program)(gs:List (Nat×List AV))(x:Nat×CE):Prop:= ∃call,RF P call∧x.2.wf=true∧ ∀e,x.2.out (call x.1 x.2.args (x.2.heap gs e))=true
theorem xu{gs:List (Nat×List AV)}{base:Nat->List AV->Heap->Option CR}(hb:MD P base): ∀l:List (Nat×CE),(∀x∈l,mt P gs x)->MD P (vq gs base l)
 |[],_=>hb
 |x::l,h=>by
  intro f args H r hr σ w vs hs hv
  have ih:=xu hb l (λy hy=>h y (Yd _ hy))
  unfold vq at hr
  cases h1:Nat.beq x.1 f with
  |false=>rw[h1] at hr;exact ih f args H r hr σ w vs hs hv
  |true=>
   rw[h1] at hr
   cases h2:x.2.is gs args H with
   |false=>rw[h2] at hr;exact ih f args H r hr σ w vs hs hv
   |true=>
    rw[h2] at hr
    have h1:=Yt h1
    subst h1
    obtain⟨call,hcall,hwf,hout⟩:=h x (Z5 ..)
    refine kj (P:=P) hcall (f:=x.1) (tab:=[x.2]) (gs:=gs) (λy hy=>?_) (args:=args) (H:=H) ?_ hs hv
    ·rcases Yv.1 hy with rfl|hy
     ·exact⟨hwf,hout⟩
     ·cases hy
    ·show cond (x.2.is gs args H) (some (.ret x.2.v (x.2.after H))) none=some r
     rw[h2]
     exact hr
end
section
variable {P:Program}
structure Gr where
 loc:Loc
 elem:Nat
 cells:List AV
def Gr.row(x:Gr):Row:=⟨x.elem,1,XX x.cells,T.ofList x.cells,.unk,0,false,false,false⟩
def HS(b:Nat):List (Nat×Gr)->Option Gr
 |[]=>none
 |y::l=>if y.1=b then some y.2 else HS b l
theorem E3{b:Nat}{x:Gr}: ∀{l:List (Nat×Gr)},HS b l=some x->(b,x)∈l
 |[],h=>by cases h
 |y::l,h=>by
  unfold HS at h
  split at h
  ·rename_i e;cases h;rw[<-e];exact Z5 ..
  ·exact Yd _ (E3 h)
theorem Fd{b:Nat}{x:Gr}: ∀{l:List (Nat×Gr)},(b,x)∈l->(l.map (·.1)).Nodup->HS b l=some x
 |y::l,h,nd=>by
  rw[VC,List.nodup_cons] at nd
  unfold HS
  rcases Yv.1 h with rfl|h
  ·rw[if_pos rfl]
  ·rw[if_neg (λe=>nd.1 (by rw[e];exact Sy (f:=Prod.fst) h))]
   exact Fd h nd.2
structure mA(W:World)(σ:Mp)(x:Gr):Prop where
 sz:x.loc.sz=1
 fits:x.cells.length<=x.loc.tot
 cells: ∃cs fr,W.heap[x.loc.blk]? =some (.cells cs x.elem fr)∧x.loc.base+x.loc.tot<=cs.size∧ ∀(i:Nat) (a:AV),x.cells[i]? =some a-> ∃v,cs[x.loc.base+i]? =some v∧Y2 σ a v∧v.oneCell'=true
theorem Gr.get_row{x:Gr}{i:Nat}{a:AV}(h:x.cells[i]? =some a):x.row.get i=a:=by
 rw[Row.get_eq]
 show((T.ofList x.cells).get i).getD .unk=a
 rw[T.get_ofList,h];rfl
theorem ue{call:Nat->List AV->Heap->CR}(hcall:RF P call){f:FuncId}{fn:Func}{c:Code}(hf:P.funcs[f]? =some fn)(hname:fn.name≠ "runtime.NumGoroutine")(hb:fn.body=some c)
  {σ:Mp}{H H':Heap}{W:World}(hs:VP P σ H W)(hw: ∀b,¬Wr H b){as:List AV}{vs:List Value}(ha:XG σ as vs)(hr:call f as H=.ret (.bool true) H'):
  Calls P f ⟨vs⟩ W λe W'=>e=.returned (.bool true)∧W'.os=W.os∧W'.output=W.output∧ ∀i,i<W.heap.size->W'.heap[i]? =W.heap[i]? :=by
 have h:=hcall f as H σ W vs hs ha
 rw[hr,Qt hf hname hb] at h
 refine Calls.mono h λe W' he=>?_
 cases e with
 |returned v=>
  obtain⟨σ',h1,t⟩:=he
  exact⟨by rw[SJ h1],t.os,t.out,λi hi=>t.frame i hi λb _ hb=>absurd hb (hw b)⟩
 |panicked ch=>obtain⟨_,_,h⟩:=he;exact h.elim
 |outgrown=>exact he.elim
end
section
open Go Go.ChangeShapes Go.WideShapes Go.ChangeAt Go.RowKit
variable {H:Type} {enc:TypeId×Value->H} {P:Program}
theorem n9{W W':World}(h: ∀i,i<W.heap.size->W'.heap[i]? =W.heap[i]?){p:MemPlace}(hp:p.block<W.heap.size):W.sameAt W' p:=by
 cases p with
 |cell b off=>
  show W'.cell? ⟨b,off,none⟩=W.cell? ⟨b,off,none⟩
  unfold World.cell?
  rw[h b hp]
 |map b=>exact h b hp
theorem IW(hl:laidOutB P=true){W W':World}{sp:Nat->Bool}(h: ∀i,i<W.heap.size->W'.heap[i]? =W.heap[i]?): ∀{ts:List TypeId} {vs:List Value} {ds:List (DataW H)} {ps:List MemPlace},
  (∀t∈ts,P.readableRec t=true∧t<P.types.size)->DataW.TrodAll enc P W 0 (λ_=>true) true ts vs ds ps->(∀p∈ps,p.block<W.heap.size∧sp p.block=true)->DataW.TrodAll enc P W' 0 sp true ts vs ds ps
 |[],[],[],ps,_,ht,_=>ht
 |t::ts,v::vs,d::ds,ps,hts,ht,hp=>by
  obtain⟨p,q,h1,h2,rfl⟩:=ht
  obtain⟨r1,r2⟩:=hts t (Z5 ..)
  refine⟨p,q,WideElems.Trod_stays hl r1 r2 h1 (λx hx=>n9 h (hp x (Z6.2 (.inl hx))).1) (λx hx=>(hp x (Z6.2 (.inl hx))).2),?_,rfl⟩
  exact IW hl h (λt ht=>hts t (Yd _ ht)) h2 λx hx=>hp x (Z6.2 (.inr hx))
 |[],_::_,_,_,_,ht,_=>ht.elim
 |[],[],_::_,_,_,ht,_=>ht.elim
 |_::_,[],_,_,_,ht,_=>ht.elim
 |_::_,_::_,[],_,_,ht,_=>ht.elim
theorem rl{fn:Func}{s:ChangeSpec}{W W':World}{args:Array Value}{ds gs:List (DataW H)}{before:List MemPlace}{tb:TypeId}(hl:laidOutB P=true)(hts: ∀t∈fn.params.toList,P.readableRec t=true∧t<P.types.size)
  (hv:s.vars=[])(hr:fn.resultTypes= #[tb])(htb:P.underlying tb=some .bool)(hW:DataW.Whole enc P fn.params.toList s.vars false W args.toList ds gs before)
  (hres:(s.fn H (ds++gs)).results=[.lit (.bool true)])(hargs:(s.fn H (ds++gs)).args=ds)(hvars:(s.fn H (ds++gs)).vars=[])
  (h1:W'.os=W.os)(h2:W'.output=W.output)(h3: ∀i,i<W.heap.size->W'.heap[i]? =W.heap[i]?):s.post enc P fn false true false false W args (.bool true) W':=by
 have hlt:=hW.lt
 have hW':=hW
 obtain⟨p,q,hA,hV,rfl,_,_⟩:=hW
 rw[hv] at hV
 obtain⟨rfl,rfl⟩:=trodVars_none hV
 refine⟨ds,[],p++[],[],p,[],hW',?_,?_,?_,World.keptBut_mono (λx hx=>hx.elim) (Cy (may:=λ_=>False) h1 h2 h3),λh=>by cases h⟩
 ·rw[hres,hr]
  exact trodAll_mk1 (shut_bool htb _)
 ·rw[hargs]
  exact IW hl h3 hts hA λx hx=>⟨hlt x (by simpa using hx),by simpa using hlt x (by simpa using hx)⟩
 ·rw[hvars,hv]
  rfl
end
section
variable {P:Program}
def rx(n:Nat):Obj->Prop
 |.row r=> ∀i,i<r.size->VB n (r.get i)=true
 |.cmap es=> ∀x∈es,VB n x.key=true∧VB n x.val=true
 |_=>False
theorem Xf.cutE{σ:Mp}{n:Nat}: ∀{es:List RP} {l:List MapEntry},(∀x∈es,VB n x.key=true∧VB n x.val=true)->Xf σ es l->Xf (σ.cut n) es l
 |[],l,_,r=>by simpa [Xf] using r
 |x::es,l,h,r=>by
  simp only[Xf] at r ⊢
  obtain⟨e,l',h1,h2,h3⟩:=r
  obtain⟨k1,k2⟩:=h x (Z5 ..)
  exact⟨e,l',⟨Y2.cut k1 h1.1,Y2.cut k2 h1.2.1,h1.2.2⟩,Xf.cutE (λy hy=>h y (Yd _ hy)) h2,h3⟩
theorem TN.cutO{σ:Mp}{n:Nat}{o:Obj}{l:Loc}{c:Go.Obj}(h:rx n o)(r:TN σ o l c):TN (σ.cut n) o l c:=by
 cases o with
 |row q=>
  obtain⟨cs,fr,rfl,r⟩:=r
  refine⟨cs,fr,rfl,r.sz,r.sz1,r.fits,r.room,r.exact,λi hi=>?_,r.one,r.frz,r.frs⟩
  obtain⟨v,h1,h2⟩:=r.cell i hi
  exact⟨v,h1,Y2.cut (h i hi) h2⟩
 |cmap es=>
  obtain⟨ents,clock,fs,h1,h2,h3,h4⟩:=r
  refine⟨ents,clock,fs,h1,Xf.cutE (λx hx=>?_) h2,h3,h4⟩
  have hm:Rh x∈es.map Rh:=h3.subset (Sy (f:=Rh) hx)
  obtain⟨y,hy,e⟩:=Wj.1 hm
  have hk:y.key=x.key:=congrArg Prod.fst e
  have hv:y.val=x.val:=congrArg Prod.snd e
  rw[<-hk,<-hv]
  exact h y hy
 |_=>exact h.elim
theorem VP.cutTo{σ:Mp}{H:Heap}{w:World}{n:Nat}{t:T Obj}(hs:VP P σ H w)(hn:P.globals.size<=n)(ht: ∀b o,t.get b=some o->b<n∧H.t.get b=some o∧rx n o):VP P (σ.cut n) ⟨n,t,n⟩ w:=by
 refine⟨λb l h=>(Mp.cut_some h).1,λb o h=>(ht b o h).1,λb o l h hl=>?_,λb b' o o' l l' h h' hl hl' e=>?_,λg hg=>?_,Z2 _⟩
 ·obtain⟨_,h1,h2⟩:=ht b o h
  obtain⟨c,h3,h4⟩:=hs.alive b o l h1 (Mp.cut_some hl).2
  exact⟨c,h3,h4.cutO h2⟩
 ·exact hs.inj b b' o o' l l' (ht b o h).2.1 (ht b' o' h').2.1 (Mp.cut_some hl).2 (Mp.cut_some hl').2 e
 ·obtain⟨l,h1,h2⟩:=hs.glob g hg
  exact⟨l,by rw[Mp.cut_lt (by omega)];exact h1,h2⟩
def Bears(n:Nat)(t:T Obj)(H:Heap):Prop:=n<=H.nx∧ ∀b o,t.get b=some o->H.t.get b=some o
theorem Bears.keep{n:Nat}{t:T Obj}{H H':Heap}(h:Bears n t H)(hlt: ∀b o,t.get b=some o->b<n)(hnx:H.nx<=H'.nx)(hk: ∀c,c<H.nx->H'.t.get c=H.t.get c):Bears n t H':=
 ⟨YZ h.1 hnx,λb o hb=>(hk b (YV (hlt b o hb) h.1)).trans (h.2 b o hb)⟩
structure tu where
 f:Nat
 args:List AV
 v:AV
def JO(n:Nat)(t:(Nat->Nat)->T Obj)(base:Nat->List AV->Heap->Option CR):List tu->Nat->List AV->Heap->Option CR
 |[],f,args,H=>base f args H
 |x::l,f,args,H=>cond (Nat.beq x.f f) (open Classical in if args=x.args∧ ∃e,Bears n (t e) H then some (.ret x.v H) else JO n t base l f args H) (JO n t base l f args H)
theorem DS{n:Nat}{t:(Nat->Nat)->T Obj}(hn:P.globals.size<=n)(ht: ∀e b o,(t e).get b=some o->b<n∧rx n o∧(Lw o∨ ∃es,o=.cmap es)){base:Nat->List AV->Heap->Option CR}(hb:MD P base): ∀l:List tu,
  (∀x∈l,∃call,RF P call∧Pb 0 x.args=true∧VB 0 x.v=true∧ ∀e,lj x.v (call x.f x.args ⟨n,t e,n⟩)=true)->MD P (JO n t base l)
 |[],_=>hb
 |x::l,hl=>by
  intro f args H r h σ w vs hs hv
  have ih:=DS hn ht hb l λy hy=>hl y (Yd _ hy)
  unfold JO at h
  cases hf:Nat.beq x.f f with
  |false=>rw[hf] at h;exact ih f args H r h σ w vs hs hv
  |true=>
   have:=Yt hf
   subst this
   rw[hf,cond_true] at h
   split at h
   ·rename_i hc
    obtain⟨rfl,e,hle,cA⟩:=hc
    cases h
    obtain⟨call,hcall,cH,cI,hev⟩:=hl x (Z5 ..)
    have sW:VP P (σ.cut n) ⟨n,t e,n⟩ w:=hs.cutTo hn λb o hb=>⟨(ht e b o hb).1,cA b o hb,(ht e b o hb).2.1⟩
    have sU: ∀y,¬Wr (⟨n,t e,n⟩:Heap) y:=by
     rintro y ⟨h1,ob,h2,_⟩
     have h1:n<=y:=h1
     have:=(ht e y ob h2).1
     omega
    have hrel:XG (σ.cut n) x.args vs:=XG.mono (λb l hb=>by have:=(Mp.cut_some hb).1;omega) (XG.cut (n:=0) cH hv)
    have hcr:=hcall x.f x.args ⟨n,t e,n⟩ (σ.cut n) w vs sW hrel
    have hret:=hev e
    generalize call x.f x.args ⟨n,t e,n⟩=res at hcr hret
    cases res with
    |fail=>cases hret
    |pan _ _=>cases hret
    |ret v' H''=>
     have:=Mj _ _ hret
     subst this
     refine Ends.mono (λu' w' hx=>?_) (λ_ _ hx=>hx) hcr
     obtain⟨σ2,h1,t'⟩:=hx
     have hfr: ∀j,j<w.heap.size->w'.heap[j]? =w.heap[j]? :=λj hj=>t'.frame j hj λy _ hy _=>absurd hy (sU y)
     refine⟨σ,?_,(D0.mem (Ext.refl σ) t'.size hfr (λ_ _ _ _ h _=>h) t'.tape t'.os t'.out).full (hs.grow hfr) λ_ _ hx=>⟨rfl,hx⟩⟩
     exact(Y2.cut cI h1).mono λy _ hy=>by have:=(Mp.cut_some hy).1;omega
   ·exact ih _ _ _ _ h σ w vs hs hv
theorem JP{n:Nat}{t:(Nat->Nat)->T Obj}{base:Nat->List AV->Heap->Option CR}{H:Heap}{e:Nat->Nat}(hb:Bears n (t e) H): ∀{l:List tu} {x:tu},x∈l->(∀y∈l,y.f=x.f->y.args=x.args->y.v=x.v)->JO n t base l x.f x.args H=some (.ret x.v H)
 |y::l,x,hx,hu=>by
  unfold JO
  by_cases hf:y.f=x.f
  ·rw[hf,show Nat.beq x.f x.f=true from Xt _,cond_true]
   by_cases ha:y.args=x.args
   ·rw[if_pos ⟨ha.symm,e,hb⟩,hu y (Z5 ..) hf ha]
   ·rw[if_neg λh=>ha h.1.symm]
    rcases Yv.1 hx with rfl|hx
    ·exact absurd rfl ha
    ·exact JP hb hx λz hz=>hu z (Yd _ hz)
  ·have:Nat.beq y.f x.f=false:=by rw[Xx];exact Zj hf
   rw[this]
   rcases Yv.1 hx with rfl|hx
   ·exact absurd rfl hf
   ·exact JP hb hx λz hz=>hu z (Yd _ hz)
def I1(t:T Obj):List (Nat×Gr)->T Obj
 |[]=>t
 |x::l=>(I1 t l).set x.1 (.row x.2.row)
def Jl(σ:Mp)(ws:List (Nat×Gr)):Mp:=λb=>match HS b ws with
 |some x=>some x.loc
 |none=>σ b
theorem GN(t:T Obj): ∀(l:List (Nat×Gr)) (b:Nat) (o:Obj),(I1 t l).get b=some o->(∃x,(b,x)∈l∧o=.row x.row)∨t.get b=some o
 |[],_,_,h=>.inr h
 |y::l,b,o,h=>by
  have h:((I1 t l).set y.1 (.row y.2.row)).get b=some o:=h
  rw[T.get_set] at h
  by_cases e:y.1=b
  ·rw[if_pos e] at h;cases h;subst e;exact .inl ⟨y.2,Z5 ..,rfl⟩
  ·rw[if_neg e] at h
   rcases GN t l b o h with⟨x,h1,h2⟩|h1
   ·exact .inl ⟨x,Yd _ h1,h2⟩
   ·exact .inr h1
theorem yR(t:T Obj): ∀(l:List (Nat×Gr)) (b:Nat) (x:Gr),(b,x)∈l->(l.map (·.1)).Nodup->(I1 t l).get b=some (.row x.row)
 |y::l,b,x,h,nd=>by
  show((I1 t l).set y.1 (.row y.2.row)).get b=some (.row x.row)
  rw[VC,List.nodup_cons] at nd
  rw[T.get_set]
  rcases Yv.1 h with rfl|h
  ·rw[if_pos rfl]
  ·rw[if_neg (λe=>nd.1 (by rw[e];exact Sy (f:=Prod.fst) h))]
   exact yR t l b x h nd.2
theorem Bh(t:T Obj): ∀(l:List (Nat×Gr)) (b:Nat),(∀x,(b,x)∉l)->(I1 t l).get b=t.get b
 |[],_,_=>rfl
 |y::l,b,h=>by
  show((I1 t l).set y.1 (.row y.2.row)).get b=_
  rw[T.get_set,if_neg λe=>h y.2 (by rw[<-e];exact Z5 ..)]
  exact Bh t l b λx hx=>h x (Yd _ hx)
theorem Fe{b:Nat}: ∀{l:List (Nat×Gr)},(∀x,(b,x)∉l)->HS b l=none
 |[],_=>rfl
 |y::l,h=>by
  unfold HS
  rw[if_neg λe=>h y.2 (by rw[<-e];exact Z5 ..)]
  exact Fe λx hx=>h x (Yd _ hx)
theorem VP.add{σ:Mp}{H:Heap}{W:World}(hs:VP P σ H W){n:Nat}{ws:List (Nat×Gr)}(hn:H.nx<=n)(nd:(ws.map (·.1)).Nodup)(hlt: ∀b x,(b,x)∈ws->H.nx<=b∧b<n)
  (cV: ∀b o,H.t.get b=some o->Lw o∨ ∃es,o=.cmap es)(hw: ∀b x,(b,x)∈ws->mA W (Jl σ ws) x):VP P (Jl σ ws) ⟨n,I1 H.t ws,n⟩ W:=by
 have old: ∀b,b<H.nx->Jl σ ws b=σ b:=λb hb=>by
  unfold Jl
  rw[Fe λx hx=>by have:=(hlt b x hx).1;omega]
 have ext:Ext σ (Jl σ ws):=λb l h=>by rw[old b (hs.dom b l h)];exact h
 have wat: ∀b x,(b,x)∈ws->Jl σ ws b=some x.loc:=λb x h=>by unfold Jl;rw[Fd h nd]
 have wal: ∀b x,(b,x)∈ws-> ∃c,W.heap[x.loc.blk]? =some c∧TN (Jl σ ws) (.row x.row) x.loc c:=by
  intro b x h1
  obtain⟨h2,h3,cs,fr,h4,h5,h6⟩:=hw b x h1
  refine⟨_,h4,cs,fr,rfl,?_⟩
  have key: ∀i,i<XX x.cells-> ∃a,x.cells[i]? =some a:=λi hi=>by
   rw[XK] at hi
   exact⟨_,ZW hi⟩
  refine⟨h2,by omega,by rw[h2];show XX x.cells<=x.loc.tot*1;rw[XK];omega,by rw[h2];omega,(λh=>by cases h),λi hi=>?_,λi v hi hv=>?_,(λh=>by cases h),(λh=>by cases h)⟩
  ·obtain⟨a,ha⟩:=key i hi
   obtain⟨v,h7,h8,_⟩:=h6 i a ha
   rw[Gr.get_row ha]
   exact⟨v,h7,h8⟩
  ·obtain⟨a,ha⟩:=key i hi
   obtain⟨v',h7,_,h8⟩:=h6 i a ha
   rw[hv] at h7;cases h7;exact h8
 have all: ∀b o l,(I1 H.t ws).get b=some o->Jl σ ws b=some l->(∃c,W.heap[l.blk]? =some c∧TN (Jl σ ws) o l c)∧((∃r,o=.row r∧r.own=false)∨(H.t.get b=some o∧σ b=some l∧ ∃es,o=.cmap es)):=by
  intro b o l h hl
  rcases GN H.t ws b o h with⟨x,h1,rfl⟩|h1
  ·rw[wat b x h1] at hl;cases hl
   exact⟨wal b x h1,.inl ⟨_,rfl,rfl⟩⟩
  ·have hb:=hs.low b o h1
   rw[old b hb] at hl
   obtain⟨c,h2,h3⟩:=hs.alive b o l h1 hl
   refine⟨⟨c,h2,h3.mono ext⟩,?_⟩
   rcases cV b o h1 with h4|h4
   ·exact .inl h4
   ·exact .inr ⟨h1,hl,h4⟩
 refine⟨λb l h=>?_,λb o h=>?_,λb o l h hl=>(all b o l h hl).1,λb b' o o' l l' h h' hl hl' e=>?_,λg hg=>?_,Z2 _⟩
 ·show b<n
  unfold Jl at h
  split at h
  ·rename_i x hx;exact(hlt b x (E3 hx)).2
  ·exact YV (hs.dom b l h) hn
 ·show b<n
  rcases GN H.t ws b o h with⟨x,h1,_⟩|h1
  ·exact(hlt b x h1).2
  ·exact YV (hs.low b o h1) hn
 ·obtain⟨⟨c,c1,c2⟩,a1⟩:=all b o l h hl
  obtain⟨⟨c',c3,c4⟩,a2⟩:=all b' o' l' h' hl'
  rcases a1 with a1|⟨g1,g2,es,rfl⟩<;>rcases a2 with a2|⟨g3,g4,es',rfl⟩
  ·exact .inr ⟨a1,a2⟩
  ·exfalso
   obtain⟨r,rfl,_⟩:=a1
   obtain⟨_,_,rfl,_⟩:=c2
   obtain⟨_,_,_,rfl,_⟩:=c4
   rw[e,c3] at c1;cases c1
  ·exfalso
   obtain⟨r,rfl,_⟩:=a2
   obtain⟨_,_,rfl,_⟩:=c4
   obtain⟨_,_,_,rfl,_⟩:=c2
   rw[e,c3] at c1;cases c1
  ·rcases hs.inj b b' _ _ l l' g1 g3 g2 g4 e with h|⟨⟨_,h,_⟩,_⟩
   ·exact .inl h
   ·cases h
 ·obtain⟨l,h1,h2⟩:=hs.glob g hg
  exact⟨l,ext g l h1,h2⟩
end
section
variable {P:Program} {H:Type} {enc:TypeId×Value->H}
theorem trodAll_three{w:World}{base:Nat}{spare:Nat->Bool}{held:Bool}{t t' t2:TypeId}{args:Array Value}{ds:List (DataW H)}{ps:List MemPlace}(h:DataW.TrodAll enc P w base spare held [t,t',t2] args.toList ds ps):
  ∃v v' v2 d d' d2 p p' p2,args= #[v,v',v2]∧ds=[d,d',d2]∧ps=p++(p'++p2)∧DataW.Trod enc P w base spare held t v d p∧DataW.Trod enc P w base spare held t' v' d' p'∧DataW.Trod enc P w base spare held t2 v2 d2 p2:=by
 obtain⟨v,vs,d,ds',p,q,hargs,rfl,rfl,hd,hrest⟩:=Go.ChangeShapes.trodAll_cons h
 obtain⟨v',vs',d',ds'',p',q',rfl,rfl,rfl,hd',hrest'⟩:=Go.ChangeShapes.trodAll_cons hrest
 obtain⟨v2,vs2,d2,aF,p2,q2,rfl,rfl,rfl,hd2,kT⟩:=Go.ChangeShapes.trodAll_cons hrest'
 obtain⟨rfl,rfl,rfl⟩:=Go.ChangeShapes.trodAll_nil kT
 exact⟨v,v',v2,d,d',d2,p,p',p2,by cases args;simp_all,rfl,by simp,hd,hd',hd2⟩
theorem re{W:World}{r:Reach}{base:Nat}{t:TypeId}{v:Value}{k:IntKind}(ht:P.underlying t=some (.int k))(hok:Cell.okWide P W r base t v): ∃n,v=.int k n∧k.has n:=by
 have hk:Cell.ok P W r base t v:=by
  unfold Cell.okWide at hok
  rw[ht] at hok
  simpa using hok
 unfold Cell.ok at hk
 rw[ht] at hk
 cases v with
 |int k' n=>exact⟨n,by rw[hk.1],hk.2⟩
 |_=>simp at hk
theorem xm{W:World}{r:Reach}{base:Nat}{t:TypeId}{v:Value}{k:IntKind}(ht:P.underlying t=some (.int k))(hok:Value.okWide P W r base t v): ∃n,v=.int k n∧k.has n:=by
 unfold Value.okWide at hok
 rw[ht] at hok
 exact re ht hok
theorem BR{n:Nat}{x:AV}: ∀{l:List AV},Pb n l=true->x∈l->VB n x=true
 |y::l,h,hx=>by
  have h:cond (VB n y) (Pb n l) false=true:=h
  cases hy:VB n y with
  |false=>rw[hy] at h;cases h
  |true=>
   rw[hy] at h
   rcases Yv.1 hx with rfl|hx
   ·exact hy
   ·exact BR h hx
theorem Bl{n:Nat}{rs:List (Nat×Nat×List AV)}{ms:List (Nat×List RP)}(hr:(rs.all λx=>Nat.ble (Nat.succ x.1) n&&Pb n x.2.2)=true)(hm:(ms.all λx=>Nat.ble (Nat.succ x.1) n&&x.2.all λy=>VB n y.key&&VB n y.val)=true){b:Nat}{o:Obj}
  (h:(D8 n rs ms).t.get b=some o):b<n∧rx n o∧(Lw o∨ ∃es,o=.cmap es):=by
 rcases Kl rs _ b o h with⟨e,l,hin,rfl⟩|h
 ·have h2:=Xw.1 hr _ hin
  rw[Xv] at h2
  refine⟨YE h2.1,λi hi=>?_,.inl ⟨_,rfl,rfl⟩⟩
  have hi:i<l.length:=by rw[<-XK];exact hi
  have e1:(⟨e,1,XX l,T.ofList l,.unk,0,false,false,true⟩:Row).get i=l[i]:=by
   rw[Row.get_eq]
   show((T.ofList l).get i).getD .unk=_
   rw[T.get_ofList,ZW hi];rfl
  rw[e1]
  exact BR h2.2 (Vc hi)
 ·rcases Kk ms _ b o h with⟨es,hin,rfl⟩|h
  ·have h2:=Xw.1 hm _ hin
   rw[Xv] at h2
   refine⟨YE h2.1,λx hx=>?_,.inr ⟨es,rfl⟩⟩
   have h3:=Xw.1 h2.2 x hx
   rw[Xv] at h3
   exact h3
  ·rw[T.get_leaf] at h;cases h
theorem md{σ:Mp}{H:Heap}{W:World}(hs:VP P σ H W)(h:H.nx<=H.ro)(b:Nat): ¬Wr H b:=by
 rintro ⟨h1,o,h2,_⟩
 have:=hs.low b o h2
 omega
end
section
open Go Go.Deep
inductive Sh where
 |int (k:IntKind)
 |bool
 |str
 |sl (es:List Sh)
variable {P:Program}
def Ia(P:Program)(sh:TypeId->Option (List Sh)):List Field->Nat->Option (List Sh)
 |[],_=>some []
 |f::fs,off=>match sh f.type with
  |some es=>if f.offset=off∧es.length=P.cellsOf f.type then(Ia P sh fs (off+es.length)).map (es++ ·) else none
  |none=>none
def Lh(P:Program):Nat->TypeId->Option (List Sh)
 |0,_=>none
 |n+1,t=>match P.underlying t with
  |some (.int k)=>some [.int k]
  |some .bool=>some [.bool]
  |some .string=>some [.str]
  |some (.slice e)=>match Lh P n e with
   |some es=>if es.length=P.cellsOf e∧1<=es.length then some [.sl es] else none
   |none=>none
  |some (.struct fs)=>match Ia P (Lh P n) fs.toList 0 with
   |some es=>if es.length=P.cellsOf t then some es else none
   |none=>none
  |some (.array m e)=>match Lh P n e with
   |some es=>if es.length=P.cellsOf e∧m*es.length=P.cellsOf t∧1<=es.length then some (List.replicate m es).flatten else none
   |none=>none
  |_=>none
inductive Oz(W:World):Sh->Value->Prop
 |int {k:IntKind} {n:Int} (h:k.min<=n∧n<=k.max):Oz W (.int k) (.int k n)
 |bool (b:Bool):Oz W .bool (.bool b)
 |str (s:ByteArray) (h:s.size<=maxLen):Oz W .str (.string s)
 |nils {es:List Sh}:Oz W (.sl es) (.slice none 0 0)
 |slice {es:List Sh} {a:Addr} {len cap:Nat} (V:Nat->Value) (h1:1<=es.length) (hl:len<=cap) (hc:cap<=maxLen) (hV: ∀i,i<cap*es.length->W.cell? (a.add i)=some (V i))
  (hok: ∀i e,i<cap*es.length->es[i % es.length]? =some e->Oz W e (V i)):Oz W (.sl es) (.slice (some a) len cap)
section
variable {W:World} {H:Type} {enc:TypeId×Value->H} {base:Nat}
theorem HR{sh:TypeId->Option (List Sh)}{cs:List Value}: ∀(l:List Field) (off:Nat) (es:List Sh),Ia P sh l off=some es->
  (∀f∈l,∀es',sh f.type=some es'-> ∀(j:Nat) (e:Sh) (v:Value),es'[j]? =some e->((cs.drop f.offset).take (P.cellsOf f.type))[j]? =some v->Oz W e v)->
  ∀(j:Nat) (e:Sh) (v:Value),es[j]? =some e->cs[off+j]? =some v->Oz W e v
 |[],off,es,h,_,j,e,v,h1,_=>by cases h;simp at h1
 |f::l,off,es,h,hf,j,e,v,h1,h2=>by
  unfold Ia at h
  split at h
  ·rename_i es' hs
   split at h
   ·rename_i hc
    obtain⟨es2,h3,rfl⟩:=TD.1 h
    by_cases hj:j<es'.length
    ·rw[Xb hj] at h1
     refine hf f (Z5 ..) es' hs j e v h1 ?_
     rw[List.getElem?_take,if_pos (by omega),Ua,hc.1]
     exact h2
    ·rw[Xs (by omega)] at h1
     refine HR l _ es2 h3 (λg hg=>hf g (Yd _ hg)) (j - es'.length) e v h1 ?_
     rw[show off+es'.length+(j - es'.length)=off+j by omega]
     exact h2
   ·cases h
  ·cases h
theorem GI{es:List Sh}(h1:1<=es.length): ∀(m j:Nat) (e:Sh),((List.replicate m es).flatten)[j]? =some e->j<m*es.length∧es[j % es.length]? =some e
 |0,j,e,h=>by simp at h
 |m+1,j,e,h=>by
  rw[TV,Sx] at h
  by_cases hj:j<es.length
  ·rw[Xb hj] at h
   refine⟨by rw[VJ];omega,?_⟩
   rw[Sf hj];exact h
  ·rw[Xs (by omega)] at h
   obtain⟨h2,h3⟩:=GI h1 m _ e h
   refine⟨by rw[VJ];omega,?_⟩
   rw[Nat.mod_eq_sub_mod (by omega)];exact h3
theorem Lj: ∀(n:Nat) (t:TypeId) (es:List Sh) (fuel:Nat) (cs:List Value) (x:DataW H×List MemPlace),Lh P n t=some es->DataW.trod enc P W base (λ_=>true) true fuel t cs=some x->
  cs.length=es.length∧ ∀(j:Nat) (e:Sh) (v:Value),es[j]? =some e->cs[j]? =some v->Oz W e v
 |0,t,es,fuel,cs,x,hs,h=>by cases hs
 |n+1,t,es,fuel,cs,x,hs,h=>by
  unfold Lh at hs
  split at hs
  ·rename_i k ht
   cases hs
   obtain⟨m,rfl,_,hw⟩:=DataW.trod_int ht h
   refine⟨rfl,λj e v h1 h2=>?_⟩
   cases j with
   |zero=>
    cases h1;cases h2
    unfold Lit.wf at hw
    rw[Xv] at hw
    exact .int ⟨ZB hw.1,ZB hw.2⟩
   |succ j=>simp at h1
  ·rename_i ht
   cases hs
   obtain⟨b,rfl,_⟩:=DataW.trod_bool ht h
   refine⟨rfl,λj e v h1 h2=>?_⟩
   cases j with
   |zero=>cases h1;cases h2;exact .bool b
   |succ j=>simp at h1
  ·rename_i ht
   cases hs
   obtain⟨s,rfl,_,hw⟩:=DataW.trod_string ht h
   refine⟨rfl,λj e v h1 h2=>?_⟩
   cases j with
   |zero=>cases h1;cases h2;exact .str s hw
   |succ j=>simp at h1
  ·rename_i te ht
   split at hs
   ·rename_i es' he
    split at hs
    ·rename_i hc
     cases hs
     have key: ∀v,cs=[v]->Oz W (.sl es') v->cs.length=[Sh.sl es'].length∧ ∀(j:Nat) (e:Sh) (v:Value),[Sh.sl es'][j]? =some e->cs[j]? =some v->Oz W e v:=by
      rintro v rfl hv
      refine⟨rfl,λj e u h1 h2=>?_⟩
      cases j with
      |zero=>cases h1;cases h2;exact hv
      |succ j=>simp at h1
     rcases open_slice ht h with⟨e1,_⟩|⟨a,len,cap,m,k,D,Pl,e1,_,hl,hcap,hm,_,hV⟩
     ·exact key _ e1 .nils
     ·have hm:m=cap:=by rw[hm];exact if_pos rfl
      subst hm
      have hcell: ∀i,i<m*es'.length-> ∃v,W.cell? (a.add i)=some v∧ ∀e,es'[i % es'.length]? =some e->Oz W e v:=by
       intro i hi
       have hq:i/es'.length<m:=PC (by rw[T1];exact hi)
       obtain⟨cs',h1,h2⟩:=hV (i/es'.length) hq
       rw[<-hc.1] at h1
       obtain⟨_,hlen,hcc⟩:=World.cells?_some h1
       obtain⟨_,h4⟩:=Lj n te es' k cs' _ he h2
       have hr:i % es'.length<es'.length:=Rk _ (by omega)
       have g:=hcc (i % es'.length) hr
       rw[add_add,show i/es'.length*es'.length+i % es'.length=i by rw[T1];exact RT i es'.length] at g
       rw[ZW (by omega)] at g
       exact⟨_,g,λe h5=>h4 _ e _ h5 (ZW (by omega))⟩
      obtain⟨V,hV'⟩:=choose_lt (α:=Value) hcell
      exact key _ e1 (.slice V hc.2 hl hcap (λi hi=>(hV' i hi).1) λi e hi h5=>(hV' i hi).2 e h5)
    ·cases hs
   ·cases hs
  ·rename_i fs ht
   split at hs
   ·rename_i es' he
    split at hs
    ·rename_i hc
     cases hs
     obtain⟨xs,m,_,_,hlen,hxl,hx⟩:=DataW.trod_struct ht h
     refine⟨by rw[hlen,hc],λj e v h1 h2=>?_⟩
     refine HR (P:=P) (cs:=cs) fs.toList 0 es he (λf hf es2 h3=>?_) j e v h1 (by rw[Zd];exact h2)
     obtain⟨i,hi⟩:=List.getElem?_of_mem hf
     rw[YO] at hi
     have hlt:i<xs.length:=by rw[hxl];exact(Yy.1 hi).1
     have h4:=hx i f hi
     rw[ZW hlt] at h4
     exact(Lj n f.type es2 m _ _ h3 h4).2
    ·cases hs
   ·cases hs
  ·rename_i m te ht
   split at hs
   ·rename_i es' he
    split at hs
    ·rename_i hc
     cases hs
     obtain⟨xs,q,_,_,hlen,hxl,hx⟩:=DataW.trod_array ht h
     refine⟨by rw[hlen,<-hc.2.1];simp,λj e v h1 h2=>?_⟩
     obtain⟨h3,h4⟩:=GI hc.2.2 m j e h1
     have hq:j/es'.length<m:=PC (by rw[T1];exact h3)
     have hr:j % es'.length<es'.length:=Rk _ (by omega)
     have h5:=hx _ hq
     rw[ZW (by omega)] at h5
     refine(Lj n te es' q _ _ he h5).2 (j % es'.length) e v h4 ?_
     rw[List.getElem?_take,if_pos (by omega),Ua,<-hc.1,show j/es'.length*es'.length+j % es'.length=j by rw[T1];exact RT j es'.length]
     exact h2
    ·cases hs
   ·cases hs
  ·cases hs
end
inductive Told(G:Heap):Sh->AV->Prop
 |int {k:IntKind} {n:Int} (h:k.min<=n∧n<=k.max):Told G (.int k) (.int k n)
 |bool (b:Bool):Told G .bool (.bool b)
 |str (s:List UInt8) (h:s.length<=maxLen):Told G .str (.str s)
 |nils {es:List Sh}:Told G (.sl es) .nils
 |slice0 {es:List Sh}:Told G (.sl es) .slice0
 |slice {es:List Sh} {b len cap:Nat} {r:Row} (h1:1<=es.length) (hl:len<=cap) (h0:1<=cap) (hc:cap<=maxLen) (hb:b<G.nx) (hr:G.t.get b=some (.row r)) (hs:cap*es.length<=r.size) (ho:r.own=false)
  (hok: ∀i e,i<cap*es.length->es[i % es.length]? =some e->Told G e (r.get i)):Told G (.sl es) (.slice b 0 len (some cap))
theorem Told.keep{G G':Heap}{e:Sh}{a:AV}(h:Told G e a)(hn:G.nx<=G'.nx)(hk: ∀c r,c<G.nx->G.t.get c=some (.row r)->r.own=false->G'.t.get c=some (.row r)):Told G' e a:=by
 induction h with
 |int h=>exact .int h
 |bool b=>exact .bool b
 |str s h=>exact .str s h
 |nils=>exact .nils
 |slice0=>exact .slice0
 |slice h1 hl h0 hc hb hr hs ho _ ih=>exact .slice h1 hl h0 hc (YV hb hn) (hk _ _ hb hr ho) hs ho ih
structure LB(W:World)(es:List Sh)(vs:List Value)(n0:Nat)(as:List AV)(ws:List (Nat×Gr))(n1:Nat):Prop where
 le:n0<=n1
 ids: ∀b x,(b,x)∈ws->n0<=b∧b<n1
 nd:(ws.map (·.1)).Nodup
 win: ∀σ:Mp,(∀b x,(b,x)∈ws->σ b=some x.loc)-> ∀b x,(b,x)∈ws->mA W σ x
 rel: ∀σ:Mp,(∀b x,(b,x)∈ws->σ b=some x.loc)->XG σ as vs
 told: ∀G:Heap,(∀b x,(b,x)∈ws->G.t.get b=some (.row x.row)∧b<G.nx)-> ∀(j:Nat) e a,es[j]? =some e->as[j]? =some a->Told G e a
 one: ∀a∈as,a.cells=[a]
 onev: ∀v∈vs,v.oneCell'=true
theorem LB.nil{W:World}{n0:Nat}:LB W [] [] n0 [] [] n0 where
 le:=Z2 _
 ids:=λ_ _ h=>by cases h
 nd:=List.nodup_nil
 win:=λ_ _ _ _ h=>by cases h
 rel:=λ_ _=>U8
 told:=λ_ _ j e a h=>by simp at h
 one:=λ_ h=>by cases h
 onev:=λ_ h=>by cases h
theorem LB.cons{W:World}{e:Sh}{es:List Sh}{v:Value}{vs:List Value}{n0 n1 n2:Nat}{a:AV}{as:List AV}{ws ws':List (Nat×Gr)}(h:LB W [e] [v] n0 [a] ws n1)(h':LB W es vs n1 as ws' n2):
  LB W (e::es) (v::vs) n0 (a::as) (ws++ws') n2:=by
 refine⟨YZ h.le h'.le,λb x hx=>?_,?_,λσ hσ b x hx=>?_,λσ hσ=>?_,λG hG j u w h1 h2=>?_,λu hu=>?_,λu hu=>?_⟩
 ·rcases Z6.1 hx with hx|hx
  ·have:=h.ids b x hx;have:=h'.le;omega
  ·have:=h'.ids b x hx;have:=h.le;omega
 ·rw[TP,List.nodup_append]
  refine⟨h.nd,h'.nd,λb hb c hc hbc=>?_⟩
  subst hbc
  obtain⟨⟨b1,x1⟩,m1,rfl⟩:=Wj.1 hb
  obtain⟨⟨b2,x2⟩,m2,e2⟩:=Wj.1 hc
  have:=h.ids _ _ m1
  have:=h'.ids _ _ m2
  simp only at e2
  omega
 ·rcases Z6.1 hx with hx|hx
  ·exact h.win σ (λc y hy=>hσ c y (Z6.2 (.inl hy))) b x hx
  ·exact h'.win σ (λc y hy=>hσ c y (Z6.2 (.inr hy))) b x hx
 ·have r1:=h.rel σ λc y hy=>hσ c y (Z6.2 (.inl hy))
  have r2:=h'.rel σ λc y hy=>hσ c y (Z6.2 (.inr hy))
  obtain⟨_,_,r3,_,r4⟩:=r1.cons_inv
  rw[(List.cons.inj r4).1]
  exact VA r3 r2
 ·cases j with
  |zero=>cases h1;cases h2;exact h.told G (λc y hy=>hG c y (Z6.2 (.inl hy))) 0 e a rfl rfl
  |succ j=>exact h'.told G (λc y hy=>hG c y (Z6.2 (.inr hy))) j u w (by simpa using h1) (by simpa using h2)
 ·rcases Yv.1 hu with rfl|hu
  ·exact h.one _ (Z5 ..)
  ·exact h'.one u hu
 ·rcases Yv.1 hu with rfl|hu
  ·exact h.onev _ (Z5 ..)
  ·exact h'.onev u hu
theorem GS{W:World}: ∀(vs:List Value) (es:List Sh),vs.length=es.length->(∀(j:Nat) e v,es[j]? =some e->vs[j]? =some v-> ∀n0,∃a ws n1,LB W [e] [v] n0 [a] ws n1)-> ∀n0,∃as ws n1,LB W es vs n0 as ws n1∧as.length=es.length
 |[],[],_,_,n0=>⟨[],[],n0,LB.nil,rfl⟩
 |[],_::_,h,_,_=>by simp at h
 |_::_,[],h,_,_=>by simp at h
 |v::vs,e::es,hl,h,n0=>by
  obtain⟨a,ws,n1,h1⟩:=h 0 e v rfl rfl n0
  obtain⟨as,ws',n2,h2,h3⟩:=GS vs es (by simpa using hl) (λj e v h1 h2=>h (j+1) e v (by simpa using h1) (by simpa using h2)) n1
  exact⟨_,_,_,h1.cons h2,by simp[h3]⟩
theorem NR{W:World}{e:Sh}{v:Value}{a:AV}(hr: ∀σ,Y2 σ a v)(ht: ∀G,Told G e a)(h1:a.cells=[a])(h2:v.oneCell'=true)(n0:Nat): ∃a ws n1,LB W [e] [v] n0 [a] ws n1:=
 ⟨a,[],n0,{
  le:=Z2 _
  ids:=λ_ _ h=>by cases h
  nd:=List.nodup_nil
  win:=λ_ _ _ _ h=>by cases h
  rel:=λσ _=>Tl (hr σ)
  told:=λG _ j u w h1 h2=>by
   cases j with
   |zero=>cases h1;cases h2;exact ht G
   |succ j=>simp at h1
  one:=λu hu=>by rw[YM.1 hu];exact h1
  onev:=λu hu=>by rw[YM.1 hu];exact h2}⟩
theorem wc{W:World}{e:Sh}{v:Value}(h:Oz W e v): ∀n0,∃a ws n1,LB W [e] [v] n0 [a] ws n1:=by
 induction h with
 | @int k n h=>exact NR (a:=.int k n) (λσ=>by simp[Y2]) (λG=>.int h) rfl rfl
 |bool b=>exact NR (a:=.bool b) (λσ=>by simp[Y2]) (λG=>.bool b) rfl rfl
 |str s h=>exact NR (a:=.str s.data.toList) (λσ=>by simp only[Y2]) (λG=>.str _ (by simpa using h)) rfl rfl
 |nils=>exact NR (a:=.nils) (λσ=>by simp[Y2]) (λG=>.nils) rfl rfl
 | @slice es a len cap V h1 hl hc hV hok ih=>
  by_cases h0:cap=0
  ·subst h0
   have:len=0:=by omega
   subst this
   exact NR (a:=.slice0) (λσ=>by simp[Y2]) (λG=>.slice0) rfl rfl
  ·intro n0
   have hpos:0<cap*es.length:=Nat.mul_pos (by omega) (by omega)
   have hVl:((List.range (cap*es.length)).map V).length=((List.replicate cap es).flatten).length:=by simp
   obtain⟨as,ws,n1,hA,aH⟩:=GS (W:=W) ((List.range (cap*es.length)).map V) ((List.replicate cap es).flatten) hVl (λj e v h2 h3=>by
    obtain⟨h4,h5⟩:=GI h1 cap j e h2
    rw[Vx,UN h4] at h3
    cases h3
    exact ih j e h4 h5) (n0+1)
   have aH:as.length=cap*es.length:=by rw[aH];simp
   obtain⟨ab,ao,asp⟩:=a
   obtain⟨cs,el,fr,hcs,hsp⟩: ∃cs el fr,W.heap[ab]? =some (.cells cs el fr)∧asp=none:=by
    have g:=hV 0 hpos
    unfold Addr.add World.cell? at g
    simp only[if_true] at g
    split at g
    ·rename_i c e2 f e1
     cases asp with
     |none=>exact⟨c,e2,f,e1,rfl⟩
     |some x=>simp at g
    ·cases g
   subst hsp
   have hget: ∀i,i<cap*es.length->cs[ao+i]? =some (V i):=λi hi=>by
    have g:=hV i hi
    have ea:Addr.add ⟨ab,ao,none⟩ i=⟨ab,ao+i,none⟩:=by
     unfold Addr.add
     split
     ·rename_i h0;subst h0;rfl
     ·rfl
    rw[ea] at g
    unfold World.cell? at g
    rw[hcs] at g
    exact g
   have hsz:ao+cap*es.length<=cs.size:=by
    have g:=hget (cap*es.length - 1) (by omega)
    have:=(Yy.1 g).1
    omega
   refine⟨.slice n0 0 len (some cap),(n0,⟨⟨ab,ao,cap*es.length,1⟩,el,as⟩)::ws,n1,?_⟩
   have hle:=hA.le
   refine⟨by omega,λb x hx=>?_,?_,λσ hσ b x hx=>?_,λσ hσ=>?_,λG hG j u w h2 h3=>?_,λu hu=>?_,λu hu=>?_⟩
   ·rcases Yv.1 hx with hx|hx
    ·cases hx;omega
    ·have:=hA.ids b x hx;omega
   ·rw[VC,List.nodup_cons]
    refine⟨λhm=>?_,hA.nd⟩
    obtain⟨⟨b1,x1⟩,m1,e1⟩:=Wj.1 hm
    have:=hA.ids _ _ m1
    simp only at e1
    omega
   ·have hσ': ∀c y,(c,y)∈ws->σ c=some y.loc:=λc y hy=>hσ c y (Yd _ hy)
    rcases Yv.1 hx with hx|hx
    ·cases hx
     refine⟨rfl,by show as.length<=cap*es.length;omega,cs,fr,hcs,hsz,λi c hc'=>?_⟩
     have hi:i<cap*es.length:=by rw[<-aH];exact(Ut.1 hc').1
     obtain⟨v,h4,h5⟩:=XG.get (hA.rel σ hσ') hc'
     rw[Vx,UN hi] at h4
     cases h4
     refine⟨V i,hget i hi,h5,hA.onev _ (Wj.2 ⟨i,SU.2 hi,rfl⟩)⟩
    ·exact hA.win σ hσ' b x hx
   ·refine Tl ?_
    simp only[Y2]
    exact⟨_,hσ _ _ (Z5 ..),rfl⟩
   ·cases j with
    |succ j=>simp at h2
    |zero=>
     cases h2;cases h3
     have hG': ∀c y,(c,y)∈ws->G.t.get c=some (.row y.row)∧c<G.nx:=λc y hy=>hG c y (Yd _ hy)
     obtain⟨g1,g2⟩:=hG _ _ (Z5 ..)
     refine .slice h1 hl (by omega) hc g2 g1 (by show cap*es.length<=XX as;rw[XK,aH];exact Z2 _) rfl λi e hi he=>?_
     have e1:as[i]? =some (as[i]'(by omega)):=ZW (by omega)
     rw[Gr.get_row e1]
     refine hA.told G hG' i e _ ?_ e1
     have hq:((List.replicate cap es).flatten)[i]? =some (((List.replicate cap es).flatten)[i]'(by rw[<-hVl];simpa using hi)):=ZW _
     have:=(GI h1 cap i _ hq).2
     rw[this] at he
     rw[hq,he]
   ·rw[YM.1 hu];rfl
   ·rw[YM.1 hu];rfl
theorem x5{W:World}{H:Type}{enc:TypeId×Value->H}{t:TypeId}{n:Nat}{es:List Sh}{v:Value}{d:DataW H}{p:List MemPlace}(hs:Lh P n t=some es)(h:DataW.Trod enc P W 0 (λ_=>true) true t v d p)(n0:Nat):
  ∃as ws n1,LB W es v.cells.toList n0 as ws n1∧as.length=es.length:=by
 obtain⟨fuel,h⟩:=h
 obtain⟨h1,h2⟩:=Lj n t es fuel _ _ hs h
 exact GS _ _ h1 (λj e u h3 h4=>wc (h2 j e u h3 h4)) n0
end
section
variable {P:Program}
theorem px{W:World}{r:Reach}{base:Nat}{t:TypeId}{v:Value}{fs:Array Field}(ht:P.underlying t=some (.struct fs))(hok:Value.okWide P W r base t v): ∃cs,v=.agg cs:=by
 unfold Value.okWide at hok
 rw[ht] at hok
 obtain⟨cs,h,_⟩:=hok
 exact⟨cs,h⟩
theorem qA{σ:Mp}{as:List AV}{cs:Array Value}(h:XG σ as cs.toList)(h1: ∀x∈cs.toList,x.oneCell'=true):Y2 σ (.agg as) (.agg cs):=by
 simp only[Y2]
 exact⟨cs.toList,h,h1,by cases cs;rfl⟩
theorem A9{σ:Mp}{n n1:Nat}{t:T Obj}{W:World}(hs:VP P σ ⟨n,t,n⟩ W){es:List Sh}{vs:List Value}{as:List AV}{ws:List (Nat×Gr)}(hp: ∀b o,t.get b=some o->b<n∧(Lw o∨ ∃es,o=.cmap es))(hA:LB W es vs n as ws n1):
  VP P (Jl σ ws) ⟨n1,I1 t ws,n1⟩ W∧Bears n t ⟨n1,I1 t ws,n1⟩∧XG (Jl σ ws) as vs∧ ∀(j:Nat) e a,es[j]? =some e->as[j]? =some a->Told ⟨n1,I1 t ws,n1⟩ e a:=by
 have at_: ∀b x,(b,x)∈ws->Jl σ ws b=some x.loc:=λb x h=>by unfold Jl;rw[Fd h hA.nd]
 refine⟨hs.add (show n<=n1 from hA.le) hA.nd (λb x h=>hA.ids b x h) (λb o h=>(hp b o h).2) (hA.win _ at_),⟨hA.le,λb o h=>?_⟩,hA.rel _ at_,hA.told _ λb x h=>⟨yR _ _ b x h hA.nd,(hA.ids b x h).2⟩⟩
 show(I1 t ws).get b=_
 rw[Bh _ _ b λx hx=>by have:=hA.ids b x hx;have:=(hp b o h).1;omega];exact h
theorem LB.app{W:World}{es es':List Sh}{vs vs':List Value}{n0 n1 n2:Nat}{as as':List AV}{ws ws':List (Nat×Gr)}(h:LB W es vs n0 as ws n1)(hl:as.length=es.length)(h':LB W es' vs' n1 as' ws' n2):
  LB W (es++es') (vs++vs') n0 (as++as') (ws++ws') n2:=by
 refine⟨YZ h.le h'.le,λb x hx=>?_,?_,λσ hσ b x hx=>?_,λσ hσ=>?_,λG hG j u w h1 h2=>?_,λu hu=>?_,λu hu=>?_⟩
 ·rcases Z6.1 hx with hx|hx
  ·have:=h.ids b x hx;have:=h'.le;omega
  ·have:=h'.ids b x hx;have:=h.le;omega
 ·rw[TP,List.nodup_append]
  refine⟨h.nd,h'.nd,λb hb c hc hbc=>?_⟩
  subst hbc
  obtain⟨⟨b1,x1⟩,m1,rfl⟩:=Wj.1 hb
  obtain⟨⟨b2,x2⟩,m2,e2⟩:=Wj.1 hc
  have:=h.ids _ _ m1
  have:=h'.ids _ _ m2
  simp only at e2
  omega
 ·rcases Z6.1 hx with hx|hx
  ·exact h.win σ (λc y hy=>hσ c y (Z6.2 (.inl hy))) b x hx
  ·exact h'.win σ (λc y hy=>hσ c y (Z6.2 (.inr hy))) b x hx
 ·have r1:=h.rel σ λc y hy=>hσ c y (Z6.2 (.inl hy))
  have r2:=h'.rel σ λc y hy=>hσ c y (Z6.2 (.inr hy))
  clear h h' hl
  induction as generalizing vs with
  |nil=>obtain rfl:=r1.nil_inv;exact r2
  |cons a as ih=>
   obtain⟨v,vs2,r3,r4,rfl⟩:=r1.cons_inv
   exact VA r3 (ih r4)
 ·by_cases hj:j<es.length
  ·rw[Xb hj] at h1
   rw[Xb (by omega)] at h2
   exact h.told G (λc y hy=>hG c y (Z6.2 (.inl hy))) j u w h1 h2
  ·rw[Xs (by omega)] at h1
   rw[Xs (by omega),hl] at h2
   exact h'.told G (λc y hy=>hG c y (Z6.2 (.inr hy))) _ u w h1 h2
 ·rcases Z6.1 hu with hu|hu
  ·exact h.one _ hu
  ·exact h'.one u hu
 ·rcases Z6.1 hu with hu|hu
  ·exact h.onev _ hu
  ·exact h'.onev u hu
end
end
end Go.AI
