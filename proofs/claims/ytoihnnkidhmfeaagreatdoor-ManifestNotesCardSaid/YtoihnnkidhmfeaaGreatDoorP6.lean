/- Calls that have been evaluated by themselves may be looked up; worlds of which rows are told; memory that is kept: proved for every world that is told. -/
import Derived.Test.YtoihnnkidhmfeaaGreatDoorP5
import Derived.WideShapes
import Derived.WideKeyElems2
import Derived.WideKeyArgs
import Derived.OpenShut
import Derived.ProofKit
import Derived.ChangeShapes
set_option maxRecDepth 1000000
set_option maxHeartbeats 0
set_option linter.unusedVariables false
set_option linter.unusedSimpArgs false
namespace Go.AI
open Go
noncomputable section
section
variable {P:Program}
noncomputable def xp(e:Nat)(l:List AV):Obj:=.row ⟨e,1,YF l,T.ofList l,.unk,0,false,false,false⟩
noncomputable def nk(e:Nat->Nat):List (Nat×List AV)->T Obj->T Obj
 |[],t=>t
 |(g,l)::gs,t=>nk e gs (t.set g (xp (e g) l))
noncomputable def ZaQ(H:Heap)(gs:List (Nat×List AV)):Bool:=List.rec true (λx _ ih=>cond (match H.t.get x.1 with|some (.row r)=>cond (Nat.beq r.sz 1) (cond (Nat.ble (YF x.2) r.size) (RN (loadN r 0 (YF x.2)) x.2) false) false|_=>false) ih false) gs
noncomputable def bD(v:AV)(r:CR):Bool:=match r with|.ret u _=>same u v|_=>false
theorem vQ(e:Nat->Nat): ∀(gs:List (Nat×List AV)) (t:T Obj) (b:Nat) (o:Obj),(nk e gs t).get b=some o->(∃l,(b,l)∈gs∧o=xp (e b) l)∨t.get b=some o
 |[],t,b,o,h=>.inr h
 |(g,l)::gs,t,b,o,h=>by
  rcases vQ e gs _ b o h with⟨l2,h1,h2⟩|h1
  ·exact .inl ⟨l2,ZF _ h1,h2⟩
  ·rw[T.get_set] at h1
   by_cases e3:g=b
   ·rw[if_pos e3] at h1;cases h1;subst e3;exact .inl ⟨l,Zv ..,rfl⟩
   ·rw[if_neg e3] at h1;exact .inr h1
theorem wV{H:Heap}: ∀{gs:List (Nat×List AV)},ZaQ H gs=true-> ∀x∈gs,∃r,H.t.get x.1=some (.row r)∧r.sz=1∧YF x.2<=r.size∧loadN r 0 (YF x.2)=x.2
 |[],_,x,hx=>by cases hx
 |y::gs,h,x,hx=>by
  obtain⟨h1,h2⟩:=ZL (a:=match H.t.get y.1 with|some (.row r)=>cond (Nat.beq r.sz 1) (cond (Nat.ble (YF y.2) r.size) (RN (loadN r 0 (YF y.2)) y.2) false) false|_=>false) (b:=ZaQ H gs) h
  rcases Yb.1 hx with rfl|hx
  ·cases hg:H.t.get x.1 with
   |none=>rw[hg] at h1;cases h1
   |some o=>
    rw[hg] at h1
    cases o with
    |row r=>
     obtain⟨h3,h4⟩:=ZL h1
     obtain⟨h4,h5⟩:=ZL h4
     exact⟨r,rfl,ZJ h3,ZQ h4,Ma _ _ h5⟩
    |_=>cases h1
  ·exact wV h2 x hx
end
inductive LO where
 |row (elem sz:Nat) (l:List AV) (fz:Nat) (sm own exact:Bool)
 |map (es:List Q7) (clock:Nat)
 |cmap (es:List Q7)
def LO.obj:LO->Obj
 |.row e sz l fz sm own exact=>.row ⟨e,sz,YF l,T.ofList l,.unk,fz,sm,own,exact⟩
 |.map es c=>.map es c
 |.cmap es=>.cmap es
def pa(a b:AV):Bool:=match a with|.unk=>(match b with|.unk=>true|_=>false)|a=>same a b
def xP:List AV->List AV->Bool
 |[],[]=>true
 |a::as,b::bs=>cond (pa a b) (xP as bs) false
 |_,_=>false
def q9(a b:Bool):Bool:=cond a b (cond b false true)
def ub:List Q7->List Q7->Bool
 |[],[]=>true
 |a::as,b::bs=>cond (Nat.beq a.born b.born) (cond (same a.key b.key) (cond (same a.val b.val) (ub as bs) false) false) false
 |_,_=>false
def gZ(o:Obj)(x:LO):Bool:=match o,x with
 |.row r,.row e sz l fz sm own exact=>cond (Nat.beq r.elem e) (cond (Nat.beq r.sz sz) (cond (Nat.beq r.size (YF l)) (cond (Nat.beq r.fz fz) (cond (q9 r.sm sm) (cond (q9 r.own own) (cond (q9 r.exact exact)
   (xP (loadN r 0 r.size) l) false) false) false) false) false) false) false
 |.map es c,.map fs d=>cond (Nat.beq c d) (ub es fs) false
 |.cmap es,.cmap fs=>ub es fs
 |_,_=>false
theorem jI{a b:AV}(h:pa a b=true):a=b:=by
 unfold pa at h
 split at h
 ·split at h
  ·rfl
  ·cases h
 ·exact MN _ _ h
theorem yb: ∀{a b:List AV},xP a b=true->a=b
 |[],[],_=>rfl
 |[],_::_,h=>by cases h
 |_::_,[],h=>by cases h
 |a::as,b::bs,h=>by
  obtain⟨h1,h2⟩:=ZL (a:=pa a b) (b:=xP as bs) h
  rw[jI h1,yb h2]
theorem Br{a b:Bool}(h:q9 a b=true):a=b:=by
 cases a<;>cases b<;>first|rfl|cases h
theorem Bs: ∀{a b:List Q7},ub a b=true->a=b
 |[],[],_=>rfl
 |[],_::_,h=>by cases h
 |_::_,[],h=>by cases h
 |a::as,b::bs,h=>by
  obtain⟨h1,h2⟩:=ZL (a:=Nat.beq a.born b.born) (b:=cond (same a.key b.key) (cond (same a.val b.val) (ub as bs) false) false) h
  obtain⟨h2,h3⟩:=ZL h2
  obtain⟨h3,h4⟩:=ZL h3
  have e1:=ZJ h1
  have e2:=MN _ _ h2
  have e3:=MN _ _ h3
  rw[Bs h4]
  cases a;cases b
  simp only at e1 e2 e3
  rw[e1,e2,e3]
structure rE(o p:Obj):Prop where
 to: ∀σ l c,Tk σ o l c->Tk σ p l c
 of: ∀σ l c,Tk σ p l c->Tk σ o l c
 wr:wrO o=wrO p
 soft:KZ o↔KZ p
theorem GV{σ:Mp}{r q:Row}{l:Loc}{cs:Array Value}{fr:Nat×Nat}(h1:r.sz=q.sz)(h2:r.size=q.size)(h3:r.fz=q.fz)(h4:r.sm=q.sm)(h5:r.own=q.own)(h6:r.exact=q.exact)
  (h7: ∀i,i<r.size->r.get i=q.get i)(h:QO σ r l cs fr):QO σ q l cs fr:=by
 refine⟨h.sz.trans h1,h.sz1,by rw[<-h2];exact h.fits,h.room,?_,?_,by rw[<-h2];exact h.one,?_,?_⟩
 ·rw[<-h6,<-h2];exact h.exact
 ·intro i hi
  rw[<-h2] at hi
  rw[<-h7 i hi];exact h.cell i hi
 ·rw[<-h5,<-h3];exact h.frz
 ·rw[<-h5,<-h4,<-h3];exact h.frs
theorem zN{o:Obj}{x:LO}(h:gZ o x=true):rE o x.obj:=by
 unfold gZ at h
 split at h
 ·rename_i r e sz l fz sm own exact
  obtain⟨a1,h⟩:=ZL h
  obtain⟨a2,h⟩:=ZL h
  obtain⟨a3,h⟩:=ZL h
  obtain⟨a4,h⟩:=ZL h
  obtain⟨a5,h⟩:=ZL h
  obtain⟨a6,h⟩:=ZL h
  obtain⟨a7,h⟩:=ZL h
  have a1:=ZJ a1
  have a2:=ZJ a2
  have a3:=ZJ a3
  have a4:=ZJ a4
  have a5:=Br a5
  have a6:=Br a6
  have a7:=Br a7
  have a8:=yb h
  have hget: ∀i,i<r.size->r.get i=(⟨e,sz,YF l,T.ofList l,.unk,fz,sm,own,exact⟩:Row).get i:=by
   intro i hi
   have g1:=Qs r r.size 0 i hi
   rw[a8,Zn] at g1
   rw[Row.get_eq ⟨e,sz,YF l,T.ofList l,.unk,fz,sm,own,exact⟩]
   show _=((T.ofList l).get i).getD .unk
   rw[T.get_ofList,g1]
   rfl
  refine⟨λσ l' c hr=>?_,λσ l' c hr=>?_,?_,λ⟨r',e',h'⟩=>by cases e';exact⟨_,rfl,a6.symm.trans h'⟩,λ⟨r',e',h'⟩=>by cases e';exact⟨_,rfl,a6.trans h'⟩⟩
  ·obtain⟨cs,fr,rfl,hr⟩:=hr
   exact⟨cs,fr,by rw[a1],GV a2 a3 a4 a5 a6 a7 hget hr⟩
  ·obtain⟨cs,fr,rfl,hr⟩:=hr
   exact⟨cs,fr,by rw[a1],GV a2.symm a3.symm a4.symm a5.symm a6.symm a7.symm (λi hi=>(hget i (by rw[a3];exact hi)).symm) hr⟩
  ·show r.own=own
   exact a6
 ·rename_i es c fs d
  obtain⟨a1,a2⟩:=ZL h
  have a1:=ZJ a1
  have a2:=Bs a2
  subst a1;subst a2
  exact⟨λ_ _ _ h=>h,λ_ _ _ h=>h,rfl,Iff.rfl⟩
 ·rename_i es fs
  have a2:=Bs h
  subst a2
  exact⟨λ_ _ _ h=>h,λ_ _ _ h=>h,rfl,Iff.rfl⟩
 ·cases h
structure CE where
 args:List AV
 nx:Nat
 ro:Nat
 pre:List (Nat×LO)
 v:AV
 nx2:Nat
 post:List (Nat×LO)
 dead:List Nat
def Bm:List (Nat×LO)->T Obj->T Obj
 |[],t=>t
 |x::l,t=>(Bm l t).set x.1 x.2.obj
def AH:List Nat->T Obj->T Obj
 |[],t=>t
 |b::l,t=>(AH l t).del b
def Tx(b:Nat):List (Nat×LO)->Option LO
 |[]=>none
 |x::l=>cond (Nat.beq x.1 b) (some x.2) (Tx b l)
def Jt(b:Nat):List Nat->Bool
 |[]=>false
 |x::l=>cond (Nat.beq x b) true (Jt b l)
def CE.heap(x:CE)(gs:List (Nat×List AV))(e:Nat->Nat):Heap:=⟨x.nx,Bm x.pre (nk e gs .leaf),x.ro⟩
def CE.after(x:CE)(H:Heap):Heap:=⟨x.nx2,Bm x.post (AH x.dead H.t),H.ro⟩
def tO(H:Heap)(b:Nat)(o:LO):Bool:=match H.t.get b with|some p=>gZ p o|none=>false
def y4(H:Heap)(l:List (Nat×LO)):Bool:=List.rec true (λx _ ih=>cond (tO H x.1 x.2) ih false) l
def xu(H:Heap)(l:List Nat):Bool:=List.rec true (λb _ ih=>cond (match H.t.get b with|none=>true|_=>false) ih false) l
def xd(H:Heap)(x:CE)(l:List (Nat×LO)):Bool:=List.rec true (λy _ ih=>cond (cond (Jt y.1 x.dead) true (match Tx y.1 x.post with|some _=>true|none=>tO H y.1 y.2)) ih false) l
def CE.out(x:CE)(r:CR):Bool:=match r with
 |.ret v H=>cond (same v x.v) (cond (Nat.beq H.nx x.nx2) (cond (y4 H x.post) (cond (xd H x x.pre) (xu H x.dead) false) false) false) false
 |_=>false
def xq(x:CE)(l:List (Nat×LO)):Bool:=List.rec true (λy _ ih=>cond (Nat.ble x.ro y.1) (cond (Jt y.1 x.dead) false
 (cond (match Tx y.1 x.pre with|some p=>cond (gZ p.obj y.2) false true|none=>cond (Nat.ble x.nx y.1) (wrO y.2.obj) false) ih false)) false) l
def yQ(x:CE)(l:List Nat):Bool:=List.rec true (λb _ ih=>cond (Nat.ble x.ro b) (match Tx b x.pre with|some _=>ih|none=>false) false) l
def yZ(l:List (Nat×LO)):Bool:=List.rec true (λy _ ih=>cond (wrO y.2.obj) ih false) l
def CE.wf(x:CE):Bool:=cond (xq x x.post) (cond (yQ x x.dead) (yZ x.pre) false) false
def CE.is(x:CE)(gs:List (Nat×List AV))(args:List AV)(H:Heap):Bool:=cond (Nat.beq H.nx x.nx) (cond (Nat.beq H.ro x.ro) (cond (RN args x.args) (cond (ZaQ H gs) (y4 H x.pre) false) false) false) false
def lD(gs:List (Nat×List AV))(args:List AV)(H:Heap)(l:List CE):Option CR:=List.rec none (λx _ ih=>cond (x.is gs args H) (some (.ret x.v (x.after H))) ih) l
theorem P7(e:Nat->Nat)(gs:List (Nat×List AV)): ∀(l:List (Nat×LO)) (t:T Obj) (b:Nat),(Bm l t).get b=match Tx b l with|some o=>some o.obj|none=>t.get b
 |[],t,b=>rfl
 |x::l,t,b=>by
  show((Bm l t).set x.1 x.2.obj).get b=match cond (Nat.beq x.1 b) (some x.2) (Tx b l) with|some o=>some o.obj|none=>t.get b
  rw[T.get_set,Yx]
  by_cases h:x.1=b
  ·rw[if_pos h,Zg h];rfl
  ·rw[if_neg h,Zd h];exact P7 e gs l t b
theorem GA: ∀(l:List Nat) (t:T Obj) (b:Nat),(AH l t).get b=cond (Jt b l) none (t.get b)
 |[],t,b=>rfl
 |x::l,t,b=>by
  show((AH l t).del x).get b=cond (cond (Nat.beq x b) true (Jt b l)) none (t.get b)
  rw[T.get_del,Yx]
  by_cases h:x=b
  ·rw[if_pos h,Zg h];rfl
  ·rw[if_neg h,Zd h];exact GA l t b
theorem Sn{b:Nat}{o:LO}: ∀{l:List (Nat×LO)},Tx b l=some o->(b,o)∈l
 |[],h=>by cases h
 |x::l,h=>by
  have h:cond (Nat.beq x.1 b) (some x.2) (Tx b l)=some o:=h
  cases e:Nat.beq x.1 b with
  |true=>
   rw[e] at h;cases h
   have:=ZJ e
   subst this
   exact Zv ..
  |false=>rw[e] at h;exact ZF _ (Sn h)
theorem GB{b:Nat}: ∀{l:List Nat},Jt b l=true->b∈l
 |[],h=>by cases h
 |x::l,h=>by
  have h:cond (Nat.beq x b) true (Jt b l)=true:=h
  cases e:Nat.beq x b with
  |true=>
   have:=ZJ e
   subst this
   exact Zv ..
  |false=>rw[e] at h;exact ZF _ (GB h)
theorem I6{H:Heap}: ∀{l:List (Nat×LO)},y4 H l=true-> ∀x∈l,∃o,H.t.get x.1=some o∧rE o x.2.obj∧gZ o x.2=true
 |[],_,x,hx=>by cases hx
 |y::l,h,x,hx=>by
  obtain⟨h1,h2⟩:=ZL (a:=tO H y.1 y.2) (b:=y4 H l) h
  rcases Yb.1 hx with rfl|hx
  ·unfold tO at h1
   split at h1
   ·rename_i p hp
    exact⟨p,hp,zN h1,h1⟩
   ·cases h1
  ·exact I6 h2 x hx
theorem EJ{H:Heap}: ∀{l:List Nat},xu H l=true-> ∀b∈l,H.t.get b=none
 |[],_,x,hx=>by cases hx
 |y::l,h,x,hx=>by
  obtain⟨h1,h2⟩:=ZL (a:=match H.t.get y with|none=>true|_=>false) (b:=xu H l) h
  rcases Yb.1 hx with rfl|hx
  ·split at h1
   ·assumption
   ·cases h1
  ·exact EJ h2 x hx
theorem EG{H:Heap}{x:CE}: ∀{l:List (Nat×LO)},xd H x l=true-> ∀y∈l,Jt y.1 x.dead=true∨(∃o,Tx y.1 x.post=some o)∨ ∃o,H.t.get y.1=some o∧rE o y.2.obj
 |[],_,x,hx=>by cases hx
 |z::l,h,y,hy=>by
  obtain⟨h1,h2⟩:=ZL (a:=cond (Jt z.1 x.dead) true (match Tx z.1 x.post with|some _=>true|none=>tO H z.1 z.2)) (b:=xd H x l) h
  rcases Yb.1 hy with rfl|hy
  ·cases e:Jt y.1 x.dead with
   |true=>exact .inl rfl
   |false=>
    rw[e] at h1
    cases e2:Tx y.1 x.post with
    |some o=>exact .inr (.inl ⟨o,rfl⟩)
    |none=>
     rw[e2] at h1
     have h1:tO H y.1 y.2=true:=h1
     unfold tO at h1
     split at h1
     ·rename_i p hp
      exact .inr (.inr ⟨p,hp,zN h1⟩)
     ·cases h1
  ·exact EG h2 y hy
theorem C7{x:CE}: ∀{l:List (Nat×LO)},xq x l=true-> ∀y∈l,x.ro<=y.1∧Jt y.1 x.dead=false∧((∃p,Tx y.1 x.pre=some p∧gZ p.obj y.2=false)∨(x.nx<=y.1∧wrO y.2.obj=true))
 |[],_,x,hx=>by cases hx
 |z::l,h,y,hy=>by
  obtain⟨h1,h⟩:=ZL (a:=Nat.ble x.ro z.1) (b:=cond (Jt z.1 x.dead) false
 (cond (match Tx z.1 x.pre with|some p=>cond (gZ p.obj z.2) false true|none=>cond (Nat.ble x.nx z.1) (wrO z.2.obj) false) (xq x l) false)) h
  cases e:Jt z.1 x.dead with
  |true=>rw[e] at h;cases h
  |false=>
   rw[e] at h
   obtain⟨h2,h3⟩:=ZL (a:=match Tx z.1 x.pre with|some p=>cond (gZ p.obj z.2) false true|none=>cond (Nat.ble x.nx z.1) (wrO z.2.obj) false) (b:=xq x l) h
   rcases Yb.1 hy with rfl|hy
   ·refine⟨ZQ h1,e,?_⟩
    split at h2
    ·rename_i p hp
     refine .inl ⟨p,hp,?_⟩
     cases e3:gZ p.obj y.2 with
     |true=>rw[e3] at h2;cases h2
     |false=>rfl
    ·obtain⟨h4,h5⟩:=ZL h2
     exact .inr ⟨ZQ h4,h5⟩
   ·exact C7 h3 y hy
theorem El{x:CE}: ∀{l:List Nat},yQ x l=true-> ∀b∈l,x.ro<=b∧ ∃p,Tx b x.pre=some p
 |[],_,x,hx=>by cases hx
 |z::l,h,b,hb=>by
  obtain⟨h1,h⟩:=ZL (a:=Nat.ble x.ro z) (b:=match Tx z x.pre with|some _=>yQ x l|none=>false) h
  split at h
  ·rename_i p hp
   rcases Yb.1 hb with rfl|hb
   ·exact⟨ZQ h1,p,hp⟩
   ·exact El h b hb
  ·cases h
theorem zn{gs:List (Nat×List AV)}{args:List AV}{H:Heap}{r:CR}: ∀{l:List CE},lD gs args H l=some r-> ∃x∈l,x.is gs args H=true∧r=.ret x.v (x.after H)
 |[],h=>by cases h
 |x::l,h=>by
  have h:cond (x.is gs args H) (some (.ret x.v (x.after H))) (lD gs args H l)=some r:=h
  cases e:x.is gs args H with
  |true=>rw[e] at h;cases h;exact⟨x,Zv ..,e,rfl⟩
  |false=>
   rw[e] at h
   obtain⟨y,hy,h1⟩:=zn h
   exact⟨y,ZF _ hy,h1⟩
section
variable {P:Program}
theorem ED: ∀{l:List (Nat×LO)},yZ l=true-> ∀y∈l,wrO y.2.obj=true
 |[],_,_,hy=>by cases hy
 |z::l,h,y,hy=>by
  obtain⟨h1,h2⟩:=ZL (a:=wrO z.2.obj) (b:=yZ l) h
  rcases Yb.1 hy with rfl|hy
  ·exact h1
  ·exact ED h2 y hy
theorem KZ.wrO{o:Obj}(h:KZ o):wrO o=false:=by
 obtain⟨r,rfl,e⟩:=h
 exact e
theorem rC{H:Heap}{b:Nat}(h:Wr H b):H.ro<=b∧ ∃o,H.t.get b=some o∧wrO o=true:=by
 obtain⟨h1,o,h2,h3,h4⟩:=h
 refine⟨h1,o,h2,?_⟩
 cases o with
 |row r=>exact h3 r rfl
 |loop=>exact absurd rfl h4
 |_=>rfl
theorem Zaw{call:Nat->List AV->Heap->CR}(hcall:SS P call){f:FuncId}{tab:List CE}{gs:List (Nat×List AV)}
  (htab: ∀x∈tab,x.wf=true∧ ∀e,x.out (call f x.args (x.heap gs e))=true)
  {args:List AV}{H:Heap}{r:CR}(h:lD gs args H tab=some r){σ:Mp}{w:World}{vs:List Value}(hs:W8 P σ H w)(hv:YO σ args vs):KX P σ H w r ((callFunc f ⟨vs⟩).run P w):=by
 obtain⟨x,hx,his,rfl⟩:=zn h
 obtain⟨hwf,hout⟩:=htab x hx
 obtain⟨i1,his⟩:=ZL his
 obtain⟨i2,his⟩:=ZL his
 obtain⟨i3,his⟩:=ZL his
 obtain⟨i4,i5⟩:=ZL his
 have i1:H.nx=x.nx:=ZJ i1
 have i2:H.ro=x.ro:=ZJ i2
 have i3:=Ma _ _ i3
 have hpre:=I6 i5
 obtain⟨w1,w2⟩:=ZL hwf
 have hnew:=C7 w1
 obtain⟨w2,w3⟩:=ZL w2
 have bq:=El w2
 have ZdM:=ED w3
 subst i3
 let e:Nat->Nat:=λy=>match H.t.get y with|some (.row q)=>q.elem|_=>0
 have AJ:=hout e
 have hget: ∀y o,(x.heap gs e).t.get y=some o->(∃p,Tx y x.pre=some p∧o=p.obj)∨(Tx y x.pre=none∧ ∃l,(y,l)∈gs∧o=xp (e y) l):=by
  intro y o hy
  have hy:(Bm x.pre (nk e gs .leaf)).get y=some o:=hy
  rw[P7 e gs] at hy
  cases hf:Tx y x.pre with
  |some p=>rw[hf] at hy;cases hy;exact .inl ⟨p,rfl,rfl⟩
  |none=>
   rw[hf] at hy
   rcases vQ e gs .leaf y o hy with h|h
   ·exact .inr ⟨rfl,h⟩
   ·rw[T.get_leaf] at h;cases h
 have inH: ∀y o,(x.heap gs e).t.get y=some o-> ∃o',H.t.get y=some o'∧(∀l c,Tk σ o' l c->Tk σ o l c)∧(wrO o=true->wrO o'=true)∧(KZ o'->KZ o):=by
  intro y o hy
  rcases hget y o hy with⟨p,hp,rfl⟩|⟨_,l,hl,rfl⟩
  ·obtain⟨o',h1,h2,_⟩:=hpre _ (Sn hp)
   exact⟨o',h1,h2.to σ,λh=>h2.wr.trans h,h2.soft.1⟩
  ·obtain⟨q,g3,g4,g5,g6⟩:=wV i4 _ hl
   have g5:YF l<=q.size:=g5
   have g6:loadN q 0 (YF l)=l:=g6
   have g3:H.t.get y=some (.row q):=g3
   refine⟨_,g3,λl' c hc=>?_,(λh=>by cases h),λ_=>⟨_,rfl,rfl⟩⟩
   obtain⟨cs,fr,rfl,hr⟩:=hc
   have hey:e y=q.elem:=by show(match H.t.get y with|some (.row q)=>q.elem|_=>0)=_;rw[g3]
   refine⟨cs,fr,by rw[hey],?_⟩
   have gsz:l'.sz=1:=by rw[hr.sz,g4]
   refine⟨gsz,hr.sz1,by have:=hr.fits;show YF l<=_;omega,hr.room,(λh=>by cases h),λi hi=>?_,λi v hi hv=>hr.one i v (ZI hi g5) hv,(λh=>by cases h),(λh=>by cases h)⟩
   have hi:i<YF l:=hi
   obtain⟨v,h7,h8⟩:=hr.cell i (by omega)
   refine⟨v,h7,?_⟩
   have g7:=Qs q (YF l) 0 i hi
   rw[g6,Zn] at g7
   rw[Row.get_eq]
   show Yl σ (((T.ofList l).get i).getD .unk) v
   rw[T.get_ofList,g7]
   exact h8
 have km:W8 P σ (x.heap gs e) w:=by
  refine⟨λy l hy=>by show y<x.nx;rw[<-i1];exact hs.dom y l hy,λy o hy=>?_,λy o l hy hl=>?_,λy y' o o' l l' hy hy' hl hl' he=>?_,hs.glob,by show x.ro<=x.nx;rw[<-i1,<-i2];exact hs.ro⟩
  ·obtain⟨o',h1,_⟩:=inH y o hy
   show y<x.nx
   rw[<-i1];exact hs.low y o' h1
  ·obtain⟨o',h1,h2,_⟩:=inH y o hy
   obtain⟨c,hc,hr⟩:=hs.alive y o' l h1 hl
   exact⟨c,hc,h2 l c hr⟩
  ·obtain⟨o1,h1,_,_,s1⟩:=inH y o hy
   obtain⟨o2,h2,_,_,s2⟩:=inH y' o' hy'
   exact(hs.inj y y' o1 o2 l l' h1 h2 hl hl' he).imp_right λs=>⟨s1 s.1,s2 s.2⟩
 have wrH: ∀y,Wr (x.heap gs e) y->Wr H y∧ ∃p,Tx y x.pre=some p:=by
  intro y hy
  obtain⟨h1,o,h2,h3⟩:=rC hy
  obtain⟨o',g1,g2,g3,_⟩:=inH y o h2
  refine⟨AD g1 (by rw[i2];exact h1) (g3 h3),?_⟩
  rcases hget y o h2 with⟨p,hp,_⟩|⟨_,l,_,rfl⟩
  ·exact⟨p,hp⟩
  ·cases h3
 have hcr:=hcall f x.args (x.heap gs e) σ w vs km hv
 generalize call f x.args (x.heap gs e)=res at hcr AJ
 cases res with
 |fail=>cases AJ
 |pan _ _=>cases AJ
 |ret v H'=>
  obtain⟨o1,AJ⟩:=ZL AJ
  obtain⟨o2,AJ⟩:=ZL AJ
  obtain⟨o3,AJ⟩:=ZL AJ
  obtain⟨o4,o5⟩:=ZL AJ
  have o1:=MN _ _ o1
  subst o1
  have o2:H'.nx=x.nx2:=ZJ o2
  have hpost:=I6 o3
  have hkeep:=EG o4
  have hnone:=EJ o5
  refine Ends.mono (λu' w' hx=>?_) (λ_ _ hx=>hx) hcr
  obtain⟨σ',hr,t⟩:=hx
  refine⟨σ',hr,?_⟩
  have tnx:x.nx<=H'.nx:=t.nx
  have hafter: ∀b o,(x.after H).t.get b=some o->
    (∃o',H'.t.get b=some o'∧rE o o'∧((∃p,Tx b x.pre=some p)∨(x.nx<=b∧x.ro<=b∧wrO o=true)))
    ∨(Tx b x.pre=none∧H.t.get b=some o):=by
   intro b o hb
   have hb:(Bm x.post (AH x.dead H.t)).get b=some o:=hb
   rw[P7 e gs] at hb
   cases hp:Tx b x.post with
   |some p=>
    rw[hp] at hb;cases hb
    obtain⟨o',h1,h2,h3⟩:=hpost _ (Sn hp)
    obtain⟨n1,n2,n3⟩:=hnew _ (Sn hp)
    refine .inl ⟨o',h1,⟨h2.of,h2.to,h2.wr.symm,h2.soft.symm⟩,?_⟩
    rcases n3 with⟨p',n4,_⟩|⟨n4,n5⟩
    ·exact .inl ⟨p',n4⟩
    ·exact .inr ⟨n4,n1,n5⟩
   |none=>
    rw[hp] at hb
    have hb:(AH x.dead H.t).get b=some o:=hb
    rw[GA] at hb
    cases hd:Jt b x.dead with
    |true=>rw[hd] at hb;cases hb
    |false=>
     rw[hd] at hb
     have hb:H.t.get b=some o:=hb
     cases hq:Tx b x.pre with
     |none=>exact .inr ⟨rfl,hb⟩
     |some p=>
      rcases hkeep _ (Sn hq) with k|⟨_,k⟩|⟨o',k1,k2⟩
      ·have k:Jt b x.dead=true:=k
       rw[hd] at k;cases k
      ·have k:Tx b x.post=_:=k
       rw[hp] at k;cases k
      ·obtain⟨o'',q1,q2,_⟩:=hpre _ (Sn hq)
       have q1:H.t.get b=some o'':=q1
       rw[hb] at q1;cases q1
       exact .inl ⟨o',k1,⟨λσ l c h=>k2.of σ l c (q2.to σ l c h),λσ l c h=>q2.of σ l c (k2.to σ l c h),q2.wr.trans k2.wr.symm,q2.soft.trans k2.soft.symm⟩,.inl ⟨p,rfl⟩⟩
  have hold: ∀b o l,Tx b x.pre=none->H.t.get b=some o->σ' b=some l->σ b=some l:=by
   intro b o l _ hb hl
   have hlt:=hs.low b o hb
   cases hσ:σ b with
   |none=>
    have:=(t.pend b (by show b<x.nx;omega) hσ).2
    rw[this] at hl;cases hl
   |some l0=>rw[t.ext b l0 hσ] at hl;exact hl
  have ZdY: ∀b p,Tx b x.pre=some p-> ∃o,H.t.get b=some o∧b<x.nx:=by
   intro b p hp
   obtain⟨o,q1,_⟩:=hpre _ (Sn hp)
   exact⟨o,q1,by rw[<-i1];exact hs.low b o q1⟩
  have vf: ∀b l,b<x.nx->σ' b=some l->(∃o,H'.t.get b=some o)->σ b=some l:=by
   intro b l hlt hl _
   cases hσ:σ b with
   |none=>
    have:=(t.pend b hlt hσ).2
    rw[this] at hl;cases hl
   |some l0=>rw[t.ext b l0 hσ] at hl;exact hl
  have ZdK: ∀b o l y l',Tx b x.pre=none->H.t.get b=some o->σ b=some l->Wr (x.heap gs e) y->σ y=some l'->l'.blk=l.blk->False:=by
   intro b o l y l' hb ho hl hw hy he
   obtain⟨h1,p,hp⟩:=wrH y hw
   obtain⟨_,oy,h2,h3⟩:=rC h1
   have:=hs.alone h2 ho hy hl he λs=>by rw[s.1.wrO] at h3;cases h3
   subst this
   rw[hb] at hp;cases hp
  have ZdS: ∀b o l b' l' o1,Tx b x.pre=none->H.t.get b=some o->σ' b=some l->H'.t.get b'=some o1->σ' b'=some l'->l.blk=l'.blk->
    ((∃p,Tx b' x.pre=some p)∨(x.nx<=b'∧x.ro<=b'∧wrO o1=true))->b=b':=by
   intro b o l b' l' o1 hb ho hl ho1 hl' he hor
   have hl0:=hold b o l hb ho hl
   rcases hor with⟨p,hp⟩|⟨n1,n2,n3⟩
   ·obtain⟨o2,q1,q2⟩:=ZdY b' p hp
    refine hs.alone ho q1 hl0 (vf b' l' q2 hl' ⟨o1,ho1⟩) he λs=>?_
    obtain⟨o3,g1,g2,_⟩:=hpre _ (Sn hp)
    have g1:H.t.get b'=some o3:=g1
    rw[q1] at g1;cases g1
    have:=ZdM _ (Sn hp)
    rw[<-g2.wr,s.2.wrO] at this;cases this
   ·exfalso
    obtain⟨c,hc,_⟩:=hs.alive b o l ho hl0
    have hlt:l'.blk<w.heap.size:=by rw[<-he];exact(ZN.1 hc).1
    have hro:H'.ro<=b':=by rw[t.ro];exact n2
    obtain⟨b0,l0,h1,h2,h3⟩:=t.wr b' l' (AD ho1 hro n3) hl' hlt
    exact ZdK b o l b0 l0 hb ho hl0 h1 h2 (h3.trans he.symm)
  refine⟨t.ext,⟨?_,?_,?_,?_,t.sim.glob,?_⟩,t.size,?_,?_,?_,rfl,?_,t.tape,t.os,t.out,?_⟩
  ·intro b l hb
   show b<x.nx2
   rw[<-o2];exact t.sim.dom b l hb
  ·intro b o hb
   show b<x.nx2
   rw[<-o2]
   rcases hafter b o hb with⟨o',h1,_⟩|⟨_,h1⟩
   ·exact t.sim.low b o' h1
   ·have:=hs.low b o h1;omega
  ·intro b o l hb hl
   rcases hafter b o hb with⟨o',h1,h2,_⟩|⟨h0,h1⟩
   ·obtain⟨c,hc,hrel⟩:=t.sim.alive b o' l h1 hl
    exact⟨c,hc,h2.of σ' l c hrel⟩
   ·have hl0:=hold b o l h0 h1 hl
    obtain⟨c,hc,hrel⟩:=hs.alive b o l h1 hl0
    refine⟨c,?_,hrel.mono t.ext⟩
    rw[t.frame l.blk (ZN.1 hc).1 λy ly hw hy he=>ZdK b o l y ly h0 h1 hl0 hw hy he]
    exact hc
  ·intro b b' o o' l l' hb hb' hl hl' he
   rcases hafter b o hb with⟨p,h1,h2,h3⟩|⟨h0,h1⟩<;>rcases hafter b' o' hb' with⟨p',h1',h2',h3'⟩|⟨h0',h1'⟩
   ·exact(t.sim.inj b b' p p' l l' h1 h1' hl hl' he).imp_right λs=>⟨h2.soft.2 s.1,h2'.soft.2 s.2⟩
   ·exact .inl (ZdS b' o' l' b l p h0' h1' hl' h1 hl he.symm (h3.imp_right λ⟨a,b,c⟩=>⟨a,b,by rw[<-h2.wr];exact c⟩)).symm
   ·exact .inl<|ZdS b o l b' l' p' h0 h1 hl h1' hl' he (h3'.imp_right λ⟨a,b,c⟩=>⟨a,b,by rw[<-h2'.wr];exact c⟩)
   ·exact hs.inj b b' o o' l l' h1 h1' (hold b o l h0 h1 hl) (hold b' o' l' h0' h1' hl') he
  ·show H.ro<=x.nx2
   have:=hs.ro
   omega
  ·intro k hk hn
   exact t.frame k hk λy l hw hl=>hn y l (wrH y hw).1 hl
  ·intro b l hw hl hlt
   obtain⟨hro,o,ho,hwo⟩:=rC hw
   rcases hafter b o ho with⟨o',h1,h2,_⟩|⟨h0,h1⟩
   ·obtain⟨b0,l0,g1,g2,g3⟩:=t.wr b l (AD h1 (by rw[t.ro];show x.ro<=b;rw[<-i2];exact hro) (by rw[<-h2.wr];exact hwo)) hl hlt
    exact⟨b0,l0,(wrH b0 g1).1,g2,g3⟩
   ·exact⟨b,l,AD h1 hro hwo,hold b o l h0 h1 hl,rfl⟩
  ·show H.nx<=x.nx2
   omega
  ·intro b hb
   show(Bm x.post (AH x.dead H.t)).get b=H.t.get b
   rw[P7 e gs]
   cases hp:Tx b x.post with
   |some p=>
    have:=(hnew _ (Sn hp)).1
    have:x.ro<=b:=this
    omega
   |none=>
    show(AH x.dead H.t).get b=_
    rw[GA]
    cases hd:Jt b x.dead with
    |true=>
     have:=(bq _ (GB hd)).1
     omega
    |false=>rfl
  ·intro b hb hσ
   obtain⟨p1,p2⟩:=t.pend b (by show b<x.nx;omega) hσ
   refine⟨?_,p2⟩
   show(Bm x.post (AH x.dead H.t)).get b=H.t.get b
   rw[P7 e gs]
   cases hp:Tx b x.post with
   |some p=>
    exfalso
    obtain⟨n1,n2,n3⟩:=hnew _ (Sn hp)
    obtain⟨o',h1,h2,h3⟩:=hpost _ (Sn hp)
    have h1:H'.t.get b=some o':=h1
    rcases n3 with⟨q,n4,n5⟩|⟨n4,_⟩
    ·have n4:Tx b x.pre=some q:=n4
     have:(x.heap gs e).t.get b=some q.obj:=by
      show(Bm x.pre (nk e gs .leaf)).get b=_
      rw[P7 e gs,n4]
     rw[<-p1,h1] at this
     cases this
     rw[h3] at n5;cases n5
    ·have n4:x.nx<=b:=n4
     omega
   |none=>
    show(AH x.dead H.t).get b=_
    rw[GA]
    cases hd:Jt b x.dead with
    |true=>
     exfalso
     obtain⟨_,q,n4⟩:=bq _ (GB hd)
     have:(x.heap gs e).t.get b=some q.obj:=by
      show(Bm x.pre (nk e gs .leaf)).get b=_
      rw[P7 e gs,n4]
     rw[<-p1,hnone _ (GB hd)] at this
     cases this
    |false=>rfl
end
section
variable {P:Program}
noncomputable def xG:List (Nat×List Q7)->T Obj->T Obj
 |[],t=>t
 |x::l,t=>xG l (t.set x.1 (.cmap x.2))
theorem JD: ∀(ms:List (Nat×List Q7)) (t:T Obj) (b:Nat) (o:Obj),(xG ms t).get b=some o->(∃es,(b,es)∈ms∧o=.cmap es)∨t.get b=some o
 |[],t,b,o,h=>.inr h
 |(b',es)::ms,t,b,o,h=>by
  rcases JD ms _ b o h with⟨es2,h1,h2⟩|h1
  ·exact .inl ⟨es2,ZF _ h1,h2⟩
  ·rw[T.get_set] at h1
   by_cases e3:b'=b
   ·rw[if_pos e3] at h1;cases h1;subst e3;exact .inl ⟨es,Zv ..,rfl⟩
   ·rw[if_neg e3] at h1;exact .inr h1
noncomputable def yJ(n:Nat)(rs:List (Nat×Nat×List AV))(ms:List (Nat×List Q7)):Heap:=⟨n,xH rs (xG ms .leaf),n⟩
theorem pE{W:World}{rs:List (Nat×Nat×List AV)}{ms:List (Nat×List Q7)}{n:Nat}{σ:Mp}(hσ: ∀g,g<P.globals.size-> ∃l,σ g=some l∧l.blk=g∧l.base=0)(hdom: ∀b l,σ b=some l->b<n)
  (hr: ∀b e l,(b,e,l)∈rs-> ∃cs fr,σ b=some ⟨b,0,YF l,1⟩∧W.heap[b]? =some (.cells cs e fr)∧YO σ l cs.toList∧ ∀v∈cs,v.oneCell'=true)
  (hm: ∀b es,(b,es)∈ms-> ∃l ents clock fs,σ b=some l∧W.heap[l.blk]? =some (.map ents clock)∧YG σ fs ents.toList∧(fs.map Mj).Perm (es.map Mj)∧es.Pairwise te)
  (hi: ∀b es b' es' l l',(b,es)∈ms->(b',es')∈ms->σ b=some l->σ b'=some l'->l.blk=l'.blk->b=b'):W8 P σ (yJ n rs ms) W:=by
 have hget: ∀b o,(yJ n rs ms).t.get b=some o->(∃e l,(b,e,l)∈rs∧o=.row ⟨e,1,YF l,T.ofList l,.unk,0,false,false,true⟩)∨ ∃es,(b,es)∈ms∧o=.cmap es:=by
  intro b o h
  rcases JE rs _ b o h with h|h
  ·exact .inl h
  ·rcases JD ms _ b o h with h|h
   ·exact .inr h
   ·rw[T.get_leaf] at h;cases h
 refine⟨hdom,λb o h=>?_,λb o l h hl=>?_,λb b' o o' l l' h h' hl hl' e=>?_,hσ,Zq _⟩
 ·rcases hget b o h with⟨e,l,h1,_⟩|⟨es,h1,_⟩
  ·obtain⟨cs,fr,h2,_⟩:=hr b e l h1
   exact hdom b _ h2
  ·obtain⟨l,_,_,_,h2,_⟩:=hm b es h1
   exact hdom b _ h2
 ·rcases hget b o h with⟨e,l',h1,rfl⟩|⟨es,h1,rfl⟩
  ·obtain⟨cs,fr,h2,h3,h4,h5⟩:=hr b e l' h1
   rw[h2] at hl;cases hl
   refine⟨_,h3,cs,fr,rfl,?_⟩
   have hlen:cs.size=YF l':=by rw[Yt,h4.length];simp
   refine⟨rfl,Zq _,by show YF l'<=YF l'*1;omega,by show 0+YF l'*1<=cs.size;omega,λ_=>⟨by show YF l'=YF l'*1;omega,rfl,hlen⟩,λi hi=>?_,λi v _ hv=>h5 v (VJ hv),(λh=>by cases h),(λh=>by cases h)⟩
   have hi:i<YF l':=hi
   have hi':i<l'.length:=by rw[Yt] at hi;exact hi
   obtain⟨v,h6,h7⟩:=h4.get (i:=i) (a:=l'[i]) (Zr hi')
   refine⟨v,by rw[Zn,<-Yh];exact h6,?_⟩
   have:(⟨e,1,YF l',T.ofList l',.unk,0,false,false,true⟩:Row).get i=l'[i]:=by
    rw[Row.get_eq]
    show((T.ofList l').get i).getD .unk=_
    rw[T.get_ofList,Zr hi'];rfl
   rw[this]
   exact h7
  ·obtain⟨l2,ents,clock,fs,h2,h3,h4,h5,h6⟩:=hm b es h1
   rw[h2] at hl;cases hl
   exact⟨_,h3,ents,clock,fs,rfl,h4,h5,h6⟩
 ·rcases hget b o h with⟨e1,l1,h1,_⟩|⟨es,h1,_⟩<;>rcases hget b' o' h' with⟨e2,l2,h2,_⟩|⟨es',h2,_⟩
  ·obtain⟨_,_,h3,_⟩:=hr b e1 l1 h1
   obtain⟨_,_,h4,_⟩:=hr b' e2 l2 h2
   rw[h3] at hl;rw[h4] at hl'
   cases hl;cases hl'
   exact .inl e
  ·exfalso
   obtain⟨_,_,h3,h5,_⟩:=hr b e1 l1 h1
   obtain⟨_,_,_,_,h4,h6,_⟩:=hm b' es' h2
   rw[h3] at hl;rw[h4] at hl'
   cases hl;cases hl'
   have e:b=_:=e
   rw[<-e,h5] at h6
   cases h6
  ·exfalso
   obtain⟨_,_,h3,h5,_⟩:=hr b' e2 l2 h2
   obtain⟨_,_,_,_,h4,h6,_⟩:=hm b es h1
   rw[h3] at hl';rw[h4] at hl
   cases hl;cases hl'
   have e:_=b':=e
   rw[e,h5] at h6
   cases h6
  ·exact .inl<|hi b es b' es' l l' h1 h2 hl hl' e
theorem AK{l:List (String×DataW Unit)}{w:World}(h:laidMetH P l w):laidMet P (l.filter λx=>x.2.handleName?.isNone) w:=by
 unfold laidMetH at h
 generalize hfl:(l.filter λx=>x.2.handleName?.isSome)=fl at h
 cases fl with
 |nil=>
  have e:(l.filter λx=>x.2.handleName?.isNone)=l:=by
   rw[List.filter_eq_self]
   intro x hx
   have:=(List.filter_eq_nil_iff.1 hfl) x hx
   cases hn:x.2.handleName? with
   |none=>rfl
   |some s=>rw[hn] at this;exact absurd rfl this
  rw[e]
  exact h
 |cons a as=>exact h.1
theorem EH{W:World}: ∀{l:List (String×DataW Unit)} {ps:List MemPlace},DataW.LaidVars P W l ps-> ∃pf:Nat->List MemPlace,
  (∀i n d,l[i]? =some (n,d)-> ∃g t cs fuel,P.globalNamed n=some g∧(P.globals[g]?).map (·.type)=some t∧W.var? P n=some cs∧DataW.trod (λ_=>()) P W 0 (λ_=>true) false fuel t cs.toList=some (d,pf i)∧ ∀x∈MemPlace.row ⟨g,0,none⟩ cs.size,x∈ps)∧
  (∀i x,i<l.length->x∈pf i->x∈ps)∧(ps.Nodup-> ∀i j x,i<j->j<l.length->x∈pf i->x∈pf j->False)
 |[],_,_=>⟨λ_=>[],(λi n d h=>by simp at h),(λi x h=>by simp at h),(λ_ i j x _ h=>by simp at h)⟩
 |(n',d')::r,ps,h=>by
  obtain⟨g,t,cs,fuel,p,q,h1,h2,h3,h4,h5,rfl⟩:=h
  obtain⟨pf,k1,k2,k3⟩:=EH h5
  refine⟨λi=>match i with|0=>p|i+1=>pf i,λi n d hi=>?_,λi x hi hx=>?_,λhnd i j x hij hj hx hx'=>?_⟩
  ·cases i with
   |zero=>
    simp only[UD,Option.some.injEq,Prod.mk.injEq] at hi
    obtain⟨rfl,rfl⟩:=hi
    exact⟨g,t,cs,fuel,h1,h2,h3,h4,λx hx=>Zu.2 (.inl (Zu.2 (.inl hx)))⟩
   |succ i=>
    simp only[Y7] at hi
    obtain⟨g',t',cs',fuel',m1,m2,m3,m4,m5⟩:=k1 i n d hi
    exact⟨g',t',cs',fuel',m1,m2,m3,m4,λx hx=>Zu.2 (.inr (m5 x hx))⟩
  ·cases i with
   |zero=>exact Zu.2 (.inl (Zu.2 (.inr hx)))
   |succ i=>exact Zu.2 (.inr (k2 i x (by simpa using hi) hx))
  ·obtain⟨n1,n2,n3⟩:=List.nodup_append.1 hnd
   cases j with
   |zero=>omega
   |succ j=>
    have hj':j<r.length:=by simpa using hj
    cases i with
    |zero=>exact n3 x (Zu.2 (.inr hx)) x (k2 j x hj' hx') rfl
    |succ i=>exact k3 n2 i j x (by omega) hj' hx hx'
end
def oA(gs:List (Nat×List AV))(base:Nat->List AV->Heap->Option CR):List (Nat×CE)->Nat->List AV->Heap->Option CR
 |[],f,args,H=>base f args H
 |x::l,f,args,H=>cond (Nat.beq x.1 f) (cond (x.2.is gs args H) (some (.ret x.2.v (x.2.after H))) (oA gs base l f args H)) (oA gs base l f args H)
section
variable {P:Program}
def dA(P:Program)(gs:List (Nat×List AV))(x:Nat×CE):Prop:= ∃call,SS P call∧x.2.wf=true∧ ∀e,x.2.out (call x.1 x.2.args (x.2.heap gs e))=true
theorem qG{gs:List (Nat×List AV)}{base:Nat->List AV->Heap->Option CR}(hb:Np P base): ∀l:List (Nat×CE),(∀x∈l,dA P gs x)->Np P (oA gs base l)
 |[],_=>hb
 |x::l,h=>by
  intro f args H r hr σ w vs hs hv
  have ih:=qG hb l (λy hy=>h y (ZF _ hy))
  unfold oA at hr
  cases h1:Nat.beq x.1 f with
  |false=>rw[h1] at hr;exact ih f args H r hr σ w vs hs hv
  |true=>
   rw[h1] at hr
   cases h2:x.2.is gs args H with
   |false=>rw[h2] at hr;exact ih f args H r hr σ w vs hs hv
   |true=>
    rw[h2] at hr
    have h1:=ZJ h1
    subst h1
    obtain⟨call,hcall,hwf,hout⟩:=h x (Zv ..)
    refine Zaw (P:=P) hcall (f:=x.1) (tab:=[x.2]) (gs:=gs) (λy hy=>?_) (args:=args) (H:=H) ?_ hs hv
    ·rcases Yb.1 hy with rfl|hy
     ·exact⟨hwf,hout⟩
     ·cases hy
    ·show cond (x.2.is gs args H) (some (.ret x.2.v (x.2.after H))) none=some r
     rw[h2]
     exact hr
end
section
variable {P:Program}
structure Fr where
 loc:Loc
 elem:Nat
 cells:List AV
def Fr.row(x:Fr):Row:=⟨x.elem,1,YF x.cells,T.ofList x.cells,.unk,0,false,false,false⟩
def Er(b:Nat):List (Nat×Fr)->Option Fr
 |[]=>none
 |y::l=>if y.1=b then some y.2 else Er b l
theorem zr{b:Nat}{x:Fr}: ∀{l:List (Nat×Fr)},Er b l=some x->(b,x)∈l
 |[],h=>by cases h
 |y::l,h=>by
  unfold Er at h
  split at h
  ·rename_i e;cases h;rw[<-e];exact Zv ..
  ·exact ZF _ (zr h)
theorem HZ{b:Nat}{x:Fr}: ∀{l:List (Nat×Fr)},(b,x)∈l->(l.map (·.1)).Nodup->Er b l=some x
 |y::l,h,nd=>by
  rw[Ym,List.nodup_cons] at nd
  unfold Er
  rcases Yb.1 h with rfl|h
  ·rw[if_pos rfl]
  ·rw[if_neg (λe=>nd.1 (by rw[e];exact Sr (f:=Prod.fst) h))]
   exact HZ h nd.2
structure mw(W:World)(σ:Mp)(x:Fr):Prop where
 sz:x.loc.sz=1
 fits:x.cells.length<=x.loc.tot
 cells: ∃cs fr,W.heap[x.loc.blk]? =some (.cells cs x.elem fr)∧x.loc.base+x.loc.tot<=cs.size∧ ∀(i:Nat) (a:AV),x.cells[i]? =some a-> ∃v,cs[x.loc.base+i]? =some v∧Yl σ a v∧v.oneCell'=true
theorem Fr.get_row{x:Fr}{i:Nat}{a:AV}(h:x.cells[i]? =some a):x.row.get i=a:=by
 rw[Row.get_eq]
 show((T.ofList x.cells).get i).getD .unk=a
 rw[T.get_ofList,h];rfl
theorem o8{call:Nat->List AV->Heap->CR}(hcall:SS P call){f:FuncId}{fn:Func}{c:Code}(hf:P.funcs[f]? =some fn)(hname:fn.name≠ "runtime.NumGoroutine")(hb:fn.body=some c)
  {σ:Mp}{H H':Heap}{W:World}(hs:W8 P σ H W)(hw: ∀b,¬Wr H b){as:List AV}{vs:List Value}(ha:YO σ as vs)(hr:call f as H=.ret (.bool true) H'):
  Calls P f ⟨vs⟩ W λe W'=>e=.returned (.bool true)∧W'.os=W.os∧W'.output=W.output∧ ∀i,i<W.heap.size->W'.heap[i]? =W.heap[i]? :=by
 have h:=hcall f as H σ W vs hs ha
 rw[hr,Qu hf hname hb] at h
 refine Calls.mono h λe W' he=>?_
 cases e with
 |returned v=>
  obtain⟨σ',h1,t⟩:=he
  exact⟨by rw[SB h1],t.os,t.out,λi hi=>t.frame i hi λb _ hb=>absurd hb (hw b)⟩
 |panicked ch=>obtain⟨_,_,h⟩:=he;exact h.elim
 |outgrown=>exact he.elim
end
theorem kw{l w0 w1:List (Nat×Fr)}{n i j:Nat}(hl:(l.map (·.1)).Nodup)(hlt: ∀b x,(b,x)∈l->b<n)(hi:n<=i)(hj:i<j)(f0:w0.length<=1)(i0: ∀b x,(b,x)∈w0->b=i)(f1:w1.length<=1)(i1: ∀b x,(b,x)∈w1->b=j):
  ((l++(w0++w1)).map (·.1)).Nodup:=by
 have one: ∀w:List (Nat×Fr),w.length<=1->(w.map (·.1)).Nodup:=by
  intro w hw
  match w,hw with
  |[],_=>exact List.nodup_nil
  |[x],_=>exact List.nodup_cons.2 ⟨by simp,List.nodup_nil⟩
  |_::_::_,h=>simp at h
 rw[YX,YX,List.nodup_append,List.nodup_append]
 refine⟨hl,⟨one w0 f0,one w1 f1,λa ha b hb=>?_⟩,λa ha b hb=>?_⟩
 ·obtain⟨⟨a',x⟩,h1,rfl⟩:=Wx.1 ha
  obtain⟨⟨b',y⟩,h2,rfl⟩:=Wx.1 hb
  have:=i0 _ _ h1
  have:=i1 _ _ h2
  show a'≠b'
  omega
 ·obtain⟨⟨a',x⟩,h1,rfl⟩:=Wx.1 ha
  have:=hlt _ _ h1
  rcases Zu.1 hb with hb|hb
  ·obtain⟨⟨b',y⟩,h2,rfl⟩:=Wx.1 hb
   have:=i0 _ _ h2
   show a'≠b'
   omega
  ·obtain⟨⟨b',y⟩,h2,rfl⟩:=Wx.1 hb
   have:=i1 _ _ h2
   show a'≠b'
   omega
section
open Go Go.ChangeShapes Go.WideShapes Go.ChangeAt Go.RowKit
variable {H:Type} {enc:TypeId×Value->H} {P:Program}
theorem eV{W W':World}(h: ∀i,i<W.heap.size->W'.heap[i]? =W.heap[i]?){p:MemPlace}(hp:p.block<W.heap.size):W.sameAt W' p:=by
 cases p with
 |cell b off=>
  show W'.cell? ⟨b,off,none⟩=W.cell? ⟨b,off,none⟩
  unfold World.cell?
  rw[h b hp]
 |map b=>exact h b hp
theorem Fi(hl:laidOutB P=true){W W':World}{sp:Nat->Bool}(h: ∀i,i<W.heap.size->W'.heap[i]? =W.heap[i]?): ∀{ts:List TypeId} {vs:List Value} {ds:List (DataW H)} {ps:List MemPlace},
  (∀t∈ts,P.readableRec t=true∧t<P.types.size)->DataW.TrodAll enc P W 0 (λ_=>true) true ts vs ds ps->(∀p∈ps,p.block<W.heap.size∧sp p.block=true)->DataW.TrodAll enc P W' 0 sp true ts vs ds ps
 |[],[],[],ps,_,ht,_=>ht
 |t::ts,v::vs,d::ds,ps,hts,ht,hp=>by
  obtain⟨p,q,h1,h2,rfl⟩:=ht
  obtain⟨r1,r2⟩:=hts t (Zv ..)
  refine⟨p,q,WideElems.Trod_stays hl r1 r2 h1 (λx hx=>eV h (hp x (Zu.2 (.inl hx))).1) (λx hx=>(hp x (Zu.2 (.inl hx))).2),?_,rfl⟩
  exact Fi hl h (λt ht=>hts t (ZF _ ht)) h2 λx hx=>hp x (Zu.2 (.inr hx))
 |[],_::_,_,_,_,ht,_=>ht.elim
 |[],[],_::_,_,_,ht,_=>ht.elim
 |_::_,[],_,_,_,ht,_=>ht.elim
 |_::_,_::_,[],_,_,ht,_=>ht.elim
theorem kz{fn:Func}{s:ChangeSpec}{W W':World}{args:Array Value}{ds gs:List (DataW H)}{before:List MemPlace}{tb:TypeId}(hl:laidOutB P=true)(hts: ∀t∈fn.params.toList,P.readableRec t=true∧t<P.types.size)
  (hv:s.vars=[])(hr:fn.resultTypes= #[tb])(htb:P.underlying tb=some .bool)(hW:DataW.Whole enc P fn.params.toList s.vars false W args.toList ds gs before)
  (hres:(s.fn H (ds++gs)).results=[.lit (.bool true)])(hargs:(s.fn H (ds++gs)).args=ds)(hvars:(s.fn H (ds++gs)).vars=[])
  (h1:W'.os=W.os)(h2:W'.output=W.output)(h3: ∀i,i<W.heap.size->W'.heap[i]? =W.heap[i]?):s.post enc P fn false true false false W args (.bool true) W':=by
 have hlt:=hW.lt
 have hW':=hW
 obtain⟨p,q,hA,hV,rfl,_,_⟩:=hW
 rw[hv] at hV
 obtain⟨rfl,rfl⟩:=trodVars_none hV
 refine⟨ds,[],p++[],[],p,[],hW',?_,?_,?_,World.keptBut_mono (λx hx=>hx.elim) (xe (may:=λ_=>False) h1 h2 h3),λh=>by cases h⟩
 ·rw[hres,hr]
  exact trodAll_mk1 (shut_bool htb _)
 ·rw[hargs]
  exact Fi hl h3 hts hA λx hx=>⟨hlt x (by simpa using hx),by simpa using hlt x (by simpa using hx)⟩
 ·rw[hvars,hv]
  rfl
end
section
variable {P:Program}
def kI(n:Nat):Obj->Prop
 |.row r=> ∀i,i<r.size->Va n (r.get i)=true
 |.cmap es=> ∀x∈es,Va n x.key=true∧Va n x.val=true
 |_=>False
theorem YG.cutE{σ:Mp}{n:Nat}: ∀{es:List Q7} {l:List MapEntry},(∀x∈es,Va n x.key=true∧Va n x.val=true)->YG σ es l->YG (σ.cut n) es l
 |[],l,_,r=>by simpa [YG] using r
 |x::es,l,h,r=>by
  simp only[YG] at r ⊢
  obtain⟨e,l',h1,h2,h3⟩:=r
  obtain⟨k1,k2⟩:=h x (Zv ..)
  exact⟨e,l',⟨Yl.cut k1 h1.1,Yl.cut k2 h1.2.1,h1.2.2⟩,YG.cutE (λy hy=>h y (ZF _ hy)) h2,h3⟩
theorem Tk.cutO{σ:Mp}{n:Nat}{o:Obj}{l:Loc}{c:Go.Obj}(h:kI n o)(r:Tk σ o l c):Tk (σ.cut n) o l c:=by
 cases o with
 |row q=>
  obtain⟨cs,fr,rfl,r⟩:=r
  refine⟨cs,fr,rfl,r.sz,r.sz1,r.fits,r.room,r.exact,λi hi=>?_,r.one,r.frz,r.frs⟩
  obtain⟨v,h1,h2⟩:=r.cell i hi
  exact⟨v,h1,Yl.cut (h i hi) h2⟩
 |cmap es=>
  obtain⟨ents,clock,fs,h1,h2,h3,h4⟩:=r
  refine⟨ents,clock,fs,h1,YG.cutE (λx hx=>?_) h2,h3,h4⟩
  have hm:Mj x∈es.map Mj:=h3.subset (Sr (f:=Mj) hx)
  obtain⟨y,hy,e⟩:=Wx.1 hm
  have hk:y.key=x.key:=congrArg Prod.fst e
  have hv:y.val=x.val:=congrArg Prod.snd e
  rw[<-hk,<-hv]
  exact h y hy
 |_=>exact h.elim
theorem W8.cutTo{σ:Mp}{H:Heap}{w:World}{n:Nat}{t:T Obj}(hs:W8 P σ H w)(hn:P.globals.size<=n)(ht: ∀b o,t.get b=some o->b<n∧H.t.get b=some o∧kI n o):W8 P (σ.cut n) ⟨n,t,n⟩ w:=by
 refine⟨λb l h=>(Mp.cut_some h).1,λb o h=>(ht b o h).1,λb o l h hl=>?_,λb b' o o' l l' h h' hl hl' e=>?_,λg hg=>?_,Zq _⟩
 ·obtain⟨_,h1,h2⟩:=ht b o h
  obtain⟨c,h3,h4⟩:=hs.alive b o l h1 (Mp.cut_some hl).2
  exact⟨c,h3,h4.cutO h2⟩
 ·exact hs.inj b b' o o' l l' (ht b o h).2.1 (ht b' o' h').2.1 (Mp.cut_some hl).2 (Mp.cut_some hl').2 e
 ·obtain⟨l,h1,h2⟩:=hs.glob g hg
  exact⟨l,by rw[Mp.cut_lt (by omega)];exact h1,h2⟩
def Bears(n:Nat)(t:T Obj)(H:Heap):Prop:=n<=H.nx∧ ∀b o,t.get b=some o->H.t.get b=some o
theorem Bears.keep{n:Nat}{t:T Obj}{H H':Heap}(h:Bears n t H)(hlt: ∀b o,t.get b=some o->b<n)(hnx:H.nx<=H'.nx)(hk: ∀c,c<H.nx->H'.t.get c=H.t.get c):Bears n t H':=
 ⟨YN h.1 hnx,λb o hb=>(hk b (ZI (hlt b o hb) h.1)).trans (h.2 b o hb)⟩
structure mv where
 f:Nat
 args:List AV
 v:AV
def Hw(n:Nat)(t:(Nat->Nat)->T Obj)(base:Nat->List AV->Heap->Option CR):List mv->Nat->List AV->Heap->Option CR
 |[],f,args,H=>base f args H
 |x::l,f,args,H=>cond (Nat.beq x.f f) (open Classical in if args=x.args∧ ∃e,Bears n (t e) H then some (.ret x.v H) else Hw n t base l f args H) (Hw n t base l f args H)
theorem yt{n:Nat}{t:(Nat->Nat)->T Obj}(hn:P.globals.size<=n)(ht: ∀e b o,(t e).get b=some o->b<n∧kI n o∧(KZ o∨ ∃es,o=.cmap es)){base:Nat->List AV->Heap->Option CR}(hb:Np P base): ∀l:List mv,
  (∀x∈l,∃call,SS P call∧Pd 0 x.args=true∧Va 0 x.v=true∧ ∀e,bD x.v (call x.f x.args ⟨n,t e,n⟩)=true)->Np P (Hw n t base l)
 |[],_=>hb
 |x::l,hl=>by
  intro f args H r h σ w vs hs hv
  have ih:=yt hn ht hb l λy hy=>hl y (ZF _ hy)
  unfold Hw at h
  cases hf:Nat.beq x.f f with
  |false=>rw[hf] at h;exact ih f args H r h σ w vs hs hv
  |true=>
   have:=ZJ hf
   subst this
   rw[hf,cond_true] at h
   split at h
   ·rename_i hc
    obtain⟨rfl,e,hle,ZdE⟩:=hc
    cases h
    obtain⟨call,hcall,ZdQ,ZdR,hev⟩:=hl x (Zv ..)
    have km:W8 P (σ.cut n) ⟨n,t e,n⟩ w:=hs.cutTo hn λb o hb=>⟨(ht e b o hb).1,ZdE b o hb,(ht e b o hb).2.1⟩
    have ki: ∀y,¬Wr (⟨n,t e,n⟩:Heap) y:=by
     rintro y ⟨h1,ob,h2,_⟩
     have h1:n<=y:=h1
     have:=(ht e y ob h2).1
     omega
    have hrel:YO (σ.cut n) x.args vs:=YO.mono (λb l hb=>by have:=(Mp.cut_some hb).1;omega) (YO.cut (n:=0) ZdQ hv)
    have hcr:=hcall x.f x.args ⟨n,t e,n⟩ (σ.cut n) w vs km hrel
    have hret:=hev e
    generalize call x.f x.args ⟨n,t e,n⟩=res at hcr hret
    cases res with
    |fail=>cases hret
    |pan _ _=>cases hret
    |ret v' H''=>
     have:=MN _ _ hret
     subst this
     refine Ends.mono (λu' w' hx=>?_) (λ_ _ hx=>hx) hcr
     obtain⟨σ2,h1,t'⟩:=hx
     have hfr: ∀j,j<w.heap.size->w'.heap[j]? =w.heap[j]? :=λj hj=>t'.frame j hj λy _ hy _=>absurd hy (ki y)
     refine⟨σ,?_,(yD.mem (Ext.refl σ) t'.size hfr (λ_ _ _ _ h _=>h) t'.tape t'.os t'.out).full (hs.grow hfr) λ_ _ hx=>⟨rfl,hx⟩⟩
     exact(Yl.cut ZdR h1).mono λy _ hy=>by have:=(Mp.cut_some hy).1;omega
   ·exact ih _ _ _ _ h σ w vs hs hv
theorem Hz{n:Nat}{t:(Nat->Nat)->T Obj}{base:Nat->List AV->Heap->Option CR}{H:Heap}{e:Nat->Nat}(hb:Bears n (t e) H): ∀{l:List mv} {x:mv},x∈l->(∀y∈l,y.f=x.f->y.args=x.args->y.v=x.v)->Hw n t base l x.f x.args H=some (.ret x.v H)
 |y::l,x,hx,hu=>by
  unfold Hw
  by_cases hf:y.f=x.f
  ·rw[hf,show Nat.beq x.f x.f=true from YC _,cond_true]
   by_cases ha:y.args=x.args
   ·rw[if_pos ⟨ha.symm,e,hb⟩,hu y (Zv ..) hf ha]
   ·rw[if_neg λh=>ha h.1.symm]
    rcases Yb.1 hx with rfl|hx
    ·exact absurd rfl ha
    ·exact Hz hb hx λz hz=>hu z (ZF _ hz)
  ·have:Nat.beq y.f x.f=false:=by rw[Yx];exact Zd hf
   rw[this]
   rcases Yb.1 hx with rfl|hx
   ·exact absurd rfl hf
   ·exact Hz hb hx λz hz=>hu z (ZF _ hz)
def Ih(t:T Obj):List (Nat×Fr)->T Obj
 |[]=>t
 |x::l=>(Ih t l).set x.1 (.row x.2.row)
def HI(σ:Mp)(ws:List (Nat×Fr)):Mp:=λb=>match Er b ws with
 |some x=>some x.loc
 |none=>σ b
theorem Dv(t:T Obj): ∀(l:List (Nat×Fr)) (b:Nat) (o:Obj),(Ih t l).get b=some o->(∃x,(b,x)∈l∧o=.row x.row)∨t.get b=some o
 |[],_,_,h=>.inr h
 |y::l,b,o,h=>by
  have h:((Ih t l).set y.1 (.row y.2.row)).get b=some o:=h
  rw[T.get_set] at h
  by_cases e:y.1=b
  ·rw[if_pos e] at h;cases h;subst e;exact .inl ⟨y.2,Zv ..,rfl⟩
  ·rw[if_neg e] at h
   rcases Dv t l b o h with⟨x,h1,h2⟩|h1
   ·exact .inl ⟨x,ZF _ h1,h2⟩
   ·exact .inr h1
theorem rM(t:T Obj): ∀(l:List (Nat×Fr)) (b:Nat) (x:Fr),(b,x)∈l->(l.map (·.1)).Nodup->(Ih t l).get b=some (.row x.row)
 |y::l,b,x,h,nd=>by
  show((Ih t l).set y.1 (.row y.2.row)).get b=some (.row x.row)
  rw[Ym,List.nodup_cons] at nd
  rw[T.get_set]
  rcases Yb.1 h with rfl|h
  ·rw[if_pos rfl]
  ·rw[if_neg (λe=>nd.1 (by rw[e];exact Sr (f:=Prod.fst) h))]
   exact rM t l b x h nd.2
theorem we(t:T Obj): ∀(l:List (Nat×Fr)) (b:Nat),(∀x,(b,x)∉l)->(Ih t l).get b=t.get b
 |[],_,_=>rfl
 |y::l,b,h=>by
  show((Ih t l).set y.1 (.row y.2.row)).get b=_
  rw[T.get_set,if_neg λe=>h y.2 (by rw[<-e];exact Zv ..)]
  exact we t l b λx hx=>h x (ZF _ hx)
theorem DS{b:Nat}: ∀{l:List (Nat×Fr)},(∀x,(b,x)∉l)->Er b l=none
 |[],_=>rfl
 |y::l,h=>by
  unfold Er
  rw[if_neg λe=>h y.2 (by rw[<-e];exact Zv ..)]
  exact DS λx hx=>h x (ZF _ hx)
theorem W8.add{σ:Mp}{H:Heap}{W:World}(hs:W8 P σ H W){n:Nat}{ws:List (Nat×Fr)}(hn:H.nx<=n)(nd:(ws.map (·.1)).Nodup)(hlt: ∀b x,(b,x)∈ws->H.nx<=b∧b<n)
  (Zd1: ∀b o,H.t.get b=some o->KZ o∨ ∃es,o=.cmap es)(hw: ∀b x,(b,x)∈ws->mw W (HI σ ws) x):W8 P (HI σ ws) ⟨n,Ih H.t ws,n⟩ W:=by
 have old: ∀b,b<H.nx->HI σ ws b=σ b:=λb hb=>by
  unfold HI
  rw[DS λx hx=>by have:=(hlt b x hx).1;omega]
 have ext:Ext σ (HI σ ws):=λb l h=>by rw[old b (hs.dom b l h)];exact h
 have wat: ∀b x,(b,x)∈ws->HI σ ws b=some x.loc:=λb x h=>by unfold HI;rw[HZ h nd]
 have wal: ∀b x,(b,x)∈ws-> ∃c,W.heap[x.loc.blk]? =some c∧Tk (HI σ ws) (.row x.row) x.loc c:=by
  intro b x h1
  obtain⟨h2,h3,cs,fr,h4,h5,h6⟩:=hw b x h1
  refine⟨_,h4,cs,fr,rfl,?_⟩
  have key: ∀i,i<YF x.cells-> ∃a,x.cells[i]? =some a:=λi hi=>by
   rw[Yt] at hi
   exact⟨_,Zr hi⟩
  refine⟨h2,by omega,by rw[h2];show YF x.cells<=x.loc.tot*1;rw[Yt];omega,by rw[h2];omega,(λh=>by cases h),λi hi=>?_,λi v hi hv=>?_,(λh=>by cases h),(λh=>by cases h)⟩
  ·obtain⟨a,ha⟩:=key i hi
   obtain⟨v,h7,h8,_⟩:=h6 i a ha
   rw[Fr.get_row ha]
   exact⟨v,h7,h8⟩
  ·obtain⟨a,ha⟩:=key i hi
   obtain⟨v',h7,_,h8⟩:=h6 i a ha
   rw[hv] at h7;cases h7;exact h8
 have all: ∀b o l,(Ih H.t ws).get b=some o->HI σ ws b=some l->(∃c,W.heap[l.blk]? =some c∧Tk (HI σ ws) o l c)∧((∃r,o=.row r∧r.own=false)∨(H.t.get b=some o∧σ b=some l∧ ∃es,o=.cmap es)):=by
  intro b o l h hl
  rcases Dv H.t ws b o h with⟨x,h1,rfl⟩|h1
  ·rw[wat b x h1] at hl;cases hl
   exact⟨wal b x h1,.inl ⟨_,rfl,rfl⟩⟩
  ·have hb:=hs.low b o h1
   rw[old b hb] at hl
   obtain⟨c,h2,h3⟩:=hs.alive b o l h1 hl
   refine⟨⟨c,h2,h3.mono ext⟩,?_⟩
   rcases Zd1 b o h1 with h4|h4
   ·exact .inl h4
   ·exact .inr ⟨h1,hl,h4⟩
 refine⟨λb l h=>?_,λb o h=>?_,λb o l h hl=>(all b o l h hl).1,λb b' o o' l l' h h' hl hl' e=>?_,λg hg=>?_,Zq _⟩
 ·show b<n
  unfold HI at h
  split at h
  ·rename_i x hx;exact(hlt b x (zr hx)).2
  ·exact ZI (hs.dom b l h) hn
 ·show b<n
  rcases Dv H.t ws b o h with⟨x,h1,_⟩|h1
  ·exact(hlt b x h1).2
  ·exact ZI (hs.low b o h1) hn
 ·obtain⟨⟨c,c1,c2⟩,a1⟩:=all b o l h hl
  obtain⟨⟨c',c3,c4⟩,a2⟩:=all b' o' l' h' hl'
  rcases a1 with a1|⟨g1,g2,es,rfl⟩<;>rcases a2 with a2|⟨g3,g4,es',rfl⟩
  ·exact .inr ⟨a1,a2⟩
  ·exfalso
   obtain⟨r,rfl,_⟩:=a1
   obtain⟨_,_,rfl,_⟩:=c2
   obtain⟨_,_,_,rfl,_⟩:=c4
   rw[e,c3] at c1;cases c1
  ·exfalso
   obtain⟨r,rfl,_⟩:=a2
   obtain⟨_,_,rfl,_⟩:=c4
   obtain⟨_,_,_,rfl,_⟩:=c2
   rw[e,c3] at c1;cases c1
  ·rcases hs.inj b b' _ _ l l' g1 g3 g2 g4 e with h|⟨⟨_,h,_⟩,_⟩
   ·exact .inl h
   ·cases h
 ·obtain⟨l,h1,h2⟩:=hs.glob g hg
  exact⟨l,ext g l h1,h2⟩
end
section
variable {P:Program} {H:Type} {enc:TypeId×Value->H}
theorem vm{n:Nat}{x:AV}: ∀{l:List AV},Pd n l=true->x∈l->Va n x=true
 |y::l,h,hx=>by
  have h:cond (Va n y) (Pd n l) false=true:=h
  cases hy:Va n y with
  |false=>rw[hy] at h;cases h
  |true=>
   rw[hy] at h
   rcases Yb.1 hx with rfl|hx
   ·exact hy
   ·exact vm h hx
theorem wk{n:Nat}{rs:List (Nat×Nat×List AV)}{ms:List (Nat×List Q7)}(hr:(rs.all λx=>Nat.ble (Nat.succ x.1) n&&Pd n x.2.2)=true)(hm:(ms.all λx=>Nat.ble (Nat.succ x.1) n&&x.2.all λy=>Va n y.key&&Va n y.val)=true){b:Nat}{o:Obj}
  (h:(yJ n rs ms).t.get b=some o):b<n∧kI n o∧(KZ o∨ ∃es,o=.cmap es):=by
 rcases JE rs _ b o h with⟨e,l,hin,rfl⟩|h
 ·have h2:=Xc.1 hr _ hin
  rw[Xn] at h2
  refine⟨ZQ h2.1,λi hi=>?_,.inl ⟨_,rfl,rfl⟩⟩
  have hi:i<l.length:=by rw[<-Yt];exact hi
  have e1:(⟨e,1,YF l,T.ofList l,.unk,0,false,false,true⟩:Row).get i=l[i]:=by
   rw[Row.get_eq]
   show((T.ofList l).get i).getD .unk=_
   rw[T.get_ofList,Zr hi];rfl
  rw[e1]
  exact vm h2.2 (Fu hi)
 ·rcases JD ms _ b o h with⟨es,hin,rfl⟩|h
  ·have h2:=Xc.1 hm _ hin
   rw[Xn] at h2
   refine⟨ZQ h2.1,λx hx=>?_,.inr ⟨es,rfl⟩⟩
   have h3:=Xc.1 h2.2 x hx
   rw[Xn] at h3
   exact h3
  ·rw[T.get_leaf] at h;cases h
theorem eY{σ:Mp}{H:Heap}{W:World}(hs:W8 P σ H W)(h:H.nx<=H.ro)(b:Nat): ¬Wr H b:=by
 rintro ⟨h1,o,h2,_⟩
 have:=hs.low b o h2
 omega
end
end
end Go.AI
