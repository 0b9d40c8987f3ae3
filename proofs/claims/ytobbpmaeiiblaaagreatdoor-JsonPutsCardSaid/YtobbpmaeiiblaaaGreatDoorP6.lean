/- Calls that have been evaluated by themselves may be looked up; worlds of which rows are told; memory that is kept: proved for every world that is told. -/
import Derived.Test.YtobbpmaeiiblaaaGreatDoorP5
import Derived.WideShapes
import Derived.WideKeyElems2
import Derived.WideKeyArgs
import Derived.OpenShut
import Derived.ProofKit
import Derived.ChangeShapes
set_option maxRecDepth 1000000
set_option maxHeartbeats 0
set_option linter.unusedVariables false
set_option linter.unusedSimpArgs false
namespace Go.AI
open Go
section
variable {P:Program}
noncomputable def Zom(e:Nat)(l:List AV):Obj:= .row ⟨e,1,Yt l,T.ofList l, .unk,0,false,false,false⟩
noncomputable def Zum(e:Nat→Nat):List (Nat×List AV)→T Obj→T Obj
 |[],t=>t
 |(g,l)::gs,t=>Zum e gs (t.set g (Zom (e g) l))
noncomputable def ZCn(H:Heap)(gs:List (Nat×List AV)):Bool:=List.rec true (fun x _ ih=>cond (match H.t.get x.1 with|some (.row r)=>cond (Nat.beq r.sz 1) (cond (Nat.ble (Yt x.2) r.size) (UM (loadN r 0 (Yt x.2)) x.2) false) false|_=>false) ih false) gs
noncomputable def Zs6(v:AV)(r:CR):Bool:=match r with| .ret u _=>same u v|_=>false
theorem Zp0(e:Nat→Nat): ∀(gs:List (Nat×List AV)) (t:T Obj) (b:Nat) (o:Obj),(Zum e gs t).get b=some o→(∃l,(b,l)∈gs∧o=Zom (e b) l)∨t.get b=some o
 |[],t,b,o,h=> .inr h
 |(g,l)::gs,t,b,o,h=>by
  rcases Zp0 e gs _ b o h with⟨l2,h1,h2⟩|h1
  ·exact .inl ⟨l2,ZB _ h1,h2⟩
  ·rw[T.get_set] at h1
   by_cases e3:g=b
   ·rw[if_pos e3] at h1;cases h1;subst e3;exact .inl ⟨l,Zy ..,rfl⟩
   ·rw[if_neg e3] at h1;exact .inr h1
theorem Zp1{H:Heap}: ∀{gs:List (Nat×List AV)},ZCn H gs=true→ ∀x∈gs,∃r,H.t.get x.1=some (.row r)∧r.sz=1∧Yt x.2≤r.size∧loadN r 0 (Yt x.2)=x.2
 |[],_,x,hx=>by cases hx
 |y::gs,h,x,hx=>by
  obtain⟨h1,h2⟩:=ZM (a:=match H.t.get y.1 with|some (.row r)=>cond (Nat.beq r.sz 1) (cond (Nat.ble (Yt y.2) r.size) (UM (loadN r 0 (Yt y.2)) y.2) false) false|_=>false) (b:=ZCn H gs) h
  rcases List.mem_cons.1 hx with rfl|hx
  ·cases hg:H.t.get x.1 with
   |none=>rw[hg] at h1;cases h1
   |some o=>
    rw[hg] at h1
    cases o with
    |row r=>
     obtain⟨h3,h4⟩:=ZM h1
     obtain⟨h4,h5⟩:=ZM h4
     exact⟨r,rfl,ZG h3,ZO h4,Zcb _ _ h5⟩
    |_=>cases h1
  ·exact Zp1 h2 x hx
end
end Go.AI
namespace Go.AI
open Go
noncomputable section
inductive LO where
 |row (elem sz:Nat) (l:List AV) (fz:Nat) (sm own exact:Bool)
 |map (es:List Ent) (clock:Nat)
 |cmap (es:List Ent)
def LO.obj:LO→Obj
 | .row e sz l fz sm own exact=> .row ⟨e,sz,Yt l,T.ofList l, .unk,fz,sm,own,exact⟩
 | .map es c=> .map es c
 | .cmap es=> .cmap es
def Zs7(a b:AV):Bool:=match a with| .unk=>(match b with| .unk=>true|_=>false)|a=>same a b
def Zon:List AV→List AV→Bool
 |[],[]=>true
 |a::as,b::bs=>cond (Zs7 a b) (Zon as bs) false
 |_,_=>false
def Zs8(a b:Bool):Bool:=cond a b (cond b false true)
def Zp2:List Ent→List Ent→Bool
 |[],[]=>true
 |a::as,b::bs=>cond (Nat.beq a.born b.born) (cond (same a.key b.key) (cond (same a.val b.val) (Zp2 as bs) false) false) false
 |_,_=>false
def isO(o:Obj)(x:LO):Bool:=match o,x with
 | .row r, .row e sz l fz sm own exact=>cond (Nat.beq r.elem e) (cond (Nat.beq r.sz sz) (cond (Nat.beq r.size (Yt l)) (cond (Nat.beq r.fz fz) (cond (Zs8 r.sm sm) (cond (Zs8 r.own own) (cond (Zs8 r.exact exact)
   (Zon (loadN r 0 r.size) l) false) false) false) false) false) false) false
 | .map es c, .map fs d=>cond (Nat.beq c d) (Zp2 es fs) false
 | .cmap es, .cmap fs=>Zp2 es fs
 |_,_=>false
theorem ZwO{a b:AV}(h:Zs7 a b=true):a=b:=by
 unfold Zs7 at h
 split at h
 ·split at h
  ·rfl
  ·cases h
 ·exact Zcz _ _ h
theorem Znb: ∀{a b:List AV},Zon a b=true→a=b
 |[],[],_=>rfl
 |[],_::_,h=>by cases h
 |_::_,[],h=>by cases h
 |a::as,b::bs,h=>by
  obtain⟨h1,h2⟩:=ZM (a:=Zs7 a b) (b:=Zon as bs) h
  rw[ZwO h1,Znb h2]
theorem Zlm{a b:Bool}(h:Zs8 a b=true):a=b:=by
 cases a<;>cases b<;>first|rfl|cases h
theorem Zln: ∀{a b:List Ent},Zp2 a b=true→a=b
 |[],[],_=>rfl
 |[],_::_,h=>by cases h
 |_::_,[],h=>by cases h
 |a::as,b::bs,h=>by
  obtain⟨h1,h2⟩:=ZM (a:=Nat.beq a.born b.born) (b:=cond (same a.key b.key) (cond (same a.val b.val) (Zp2 as bs) false) false) h
  obtain⟨h2,h3⟩:=ZM h2
  obtain⟨h3,h4⟩:=ZM h3
  have e1:=ZG h1
  have e2:=Zcz _ _ h2
  have e3:=Zcz _ _ h3
  rw[Zln h4]
  cases a;cases b
  simp only at e1 e2 e3
  rw[e1,e2,e3]
structure Zs9(o p:Obj):Prop where
 to: ∀σ l c,ObjRel σ o l c→ObjRel σ p l c
 of: ∀σ l c,ObjRel σ p l c→ObjRel σ o l c
 wr:wrO o=wrO p
 soft:Soft o↔Soft p
theorem ZhU{σ:Mp}{r q:Row}{l:Loc}{cs:Array Value}{fr:Nat×Nat}(h1:r.sz=q.sz)(h2:r.size=q.size)(h3:r.fz=q.fz)(h4:r.sm=q.sm)(h5:r.own=q.own)(h6:r.exact=q.exact)
  (h7: ∀i,i<r.size→r.get i=q.get i)(h:RowRel σ r l cs fr):RowRel σ q l cs fr:=by
 refine⟨h.sz.trans h1,h.sz1,by rw[←h2];exact h.fits,h.room,?_,?_,by rw[←h2];exact h.one,?_,?_⟩
 ·rw[←h6,←h2];exact h.exact
 ·intro i hi
  rw[←h2] at hi
  rw[←h7 i hi];exact h.cell i hi
 ·rw[←h5,←h3];exact h.frz
 ·rw[←h5,←h4,←h3];exact h.frs
theorem Znc{o:Obj}{x:LO}(h:isO o x=true):Zs9 o x.obj:=by
 unfold isO at h
 split at h
 ·rename_i r e sz l fz sm own exact
  obtain⟨a1,h⟩:=ZM h
  obtain⟨a2,h⟩:=ZM h
  obtain⟨a3,h⟩:=ZM h
  obtain⟨a4,h⟩:=ZM h
  obtain⟨a5,h⟩:=ZM h
  obtain⟨a6,h⟩:=ZM h
  obtain⟨a7,h⟩:=ZM h
  have a1:=ZG a1
  have a2:=ZG a2
  have a3:=ZG a3
  have a4:=ZG a4
  have a5:=Zlm a5
  have a6:=Zlm a6
  have a7:=Zlm a7
  have a8:=Znb h
  have hget: ∀i,i<r.size→r.get i=(⟨e,sz,Yt l,T.ofList l, .unk,fz,sm,own,exact⟩:Row).get i:=by
   intro i hi
   have g1:=UD r r.size 0 i hi
   rw[a8,Zi] at g1
   rw[Row.get_eq ⟨e,sz,Yt l,T.ofList l, .unk,fz,sm,own,exact⟩]
   show _=((T.ofList l).get i).getD .unk
   rw[T.get_ofList,g1]
   rfl
  refine⟨fun σ l' c hr=>?_,fun σ l' c hr=>?_,?_,fun⟨r',e',h'⟩=>by cases e';exact⟨_,rfl,a6.symm.trans h'⟩,fun⟨r',e',h'⟩=>by cases e';exact⟨_,rfl,a6.trans h'⟩⟩
  ·obtain⟨cs,fr,rfl,hr⟩:=hr
   exact⟨cs,fr,by rw[a1],ZhU a2 a3 a4 a5 a6 a7 hget hr⟩
  ·obtain⟨cs,fr,rfl,hr⟩:=hr
   exact⟨cs,fr,by rw[a1],ZhU a2.symm a3.symm a4.symm a5.symm a6.symm a7.symm (fun i hi=>(hget i (by rw[a3];exact hi)).symm) hr⟩
  ·show r.own=own
   exact a6
 ·rename_i es c fs d
  obtain⟨a1,a2⟩:=ZM h
  have a1:=ZG a1
  have a2:=Zln a2
  subst a1;subst a2
  exact⟨fun _ _ _ h=>h,fun _ _ _ h=>h,rfl,Iff.rfl⟩
 ·rename_i es fs
  have a2:=Zln h
  subst a2
  exact⟨fun _ _ _ h=>h,fun _ _ _ h=>h,rfl,Iff.rfl⟩
 ·cases h
structure CE where
 args:List AV
 nx:Nat
 ro:Nat
 pre:List (Nat×LO)
 v:AV
 nx2:Nat
 post:List (Nat×LO)
 dead:List Nat
def Zlo:List (Nat×LO)→T Obj→T Obj
 |[],t=>t
 |x::l,t=>(Zlo l t).set x.1 x.2.obj
def Zl5:List Nat→T Obj→T Obj
 |[],t=>t
 |b::l,t=>(Zl5 l t).del b
def VQ(b:Nat):List (Nat×LO)→Option LO
 |[]=>none
 |x::l=>cond (Nat.beq x.1 b) (some x.2) (VQ b l)
def Zfg(b:Nat):List Nat→Bool
 |[]=>false
 |x::l=>cond (Nat.beq x b) true (Zfg b l)
def CE.heap(x:CE)(gs:List (Nat×List AV))(e:Nat→Nat):Heap:=⟨x.nx,Zlo x.pre (Zum e gs .leaf),x.ro⟩
def CE.after(x:CE)(H:Heap):Heap:=⟨x.nx2,Zlo x.post (Zl5 x.dead H.t),H.ro⟩
def Zru(H:Heap)(b:Nat)(o:LO):Bool:=match H.t.get b with|some p=>isO p o|none=>false
def Zoo(H:Heap)(l:List (Nat×LO)):Bool:=List.rec true (fun x _ ih=>cond (Zru H x.1 x.2) ih false) l
def Zop(H:Heap)(l:List Nat):Bool:=List.rec true (fun b _ ih=>cond (match H.t.get b with|none=>true|_=>false) ih false) l
def Zoq(H:Heap)(x:CE)(l:List (Nat×LO)):Bool:=List.rec true (fun y _ ih=>cond (cond (Zfg y.1 x.dead) true (match VQ y.1 x.post with|some _=>true|none=>Zru H y.1 y.2)) ih false) l
def CE.out(x:CE)(r:CR):Bool:=match r with
 | .ret v H=>cond (same v x.v) (cond (Nat.beq H.nx x.nx2) (cond (Zoo H x.post) (cond (Zoq H x x.pre) (Zop H x.dead) false) false) false) false
 |_=>false
def Zor(x:CE)(l:List (Nat×LO)):Bool:=List.rec true (fun y _ ih=>cond (Nat.ble x.ro y.1) (cond (Zfg y.1 x.dead) false
 (cond (match VQ y.1 x.pre with|some p=>cond (isO p.obj y.2) false true|none=>cond (Nat.ble x.nx y.1) (wrO y.2.obj) false) ih false)) false) l
def Zos(x:CE)(l:List Nat):Bool:=List.rec true (fun b _ ih=>cond (Nat.ble x.ro b) (match VQ b x.pre with|some _=>ih|none=>false) false) l
def Zot(l:List (Nat×LO)):Bool:=List.rec true (fun y _ ih=>cond (wrO y.2.obj) ih false) l
def CE.wf(x:CE):Bool:=cond (Zor x x.post) (cond (Zos x x.dead) (Zot x.pre) false) false
def CE.is(x:CE)(gs:List (Nat×List AV))(args:List AV)(H:Heap):Bool:=cond (Nat.beq H.nx x.nx) (cond (Nat.beq H.ro x.ro) (cond (UM args x.args) (cond (ZCn H gs) (Zoo H x.pre) false) false) false) false
def ZwP(gs:List (Nat×List AV))(args:List AV)(H:Heap)(l:List CE):Option CR:=List.rec none (fun x _ ih=>cond (x.is gs args H) (some (.ret x.v (x.after H))) ih) l
theorem Za8(e:Nat→Nat)(gs:List (Nat×List AV)): ∀(l:List (Nat×LO)) (t:T Obj) (b:Nat),(Zlo l t).get b=match VQ b l with|some o=>some o.obj|none=>t.get b
 |[],t,b=>rfl
 |x::l,t,b=>by
  show((Zlo l t).set x.1 x.2.obj).get b=match cond (Nat.beq x.1 b) (some x.2) (VQ b l) with|some o=>some o.obj|none=>t.get b
  rw[T.get_set,Ye]
  by_cases h:x.1=b
  ·rw[if_pos h,Zh h];rfl
  ·rw[if_neg h,Zc h];exact Za8 e gs l t b
theorem ZhV: ∀(l:List Nat) (t:T Obj) (b:Nat),(Zl5 l t).get b=cond (Zfg b l) none (t.get b)
 |[],t,b=>rfl
 |x::l,t,b=>by
  show((Zl5 l t).del x).get b=cond (cond (Nat.beq x b) true (Zfg b l)) none (t.get b)
  rw[T.get_del,Ye]
  by_cases h:x=b
  ·rw[if_pos h,Zh h];rfl
  ·rw[if_neg h,Zc h];exact ZhV l t b
theorem Ug{b:Nat}{o:LO}: ∀{l:List (Nat×LO)},VQ b l=some o→(b,o)∈l
 |[],h=>by cases h
 |x::l,h=>by
  have h:cond (Nat.beq x.1 b) (some x.2) (VQ b l)=some o:=h
  cases e:Nat.beq x.1 b with
  |true=>
   rw[e] at h;cases h
   have:=ZG e
   subst this
   exact Zy ..
  |false=>rw[e] at h;exact ZB _ (Ug h)
theorem ZhW{b:Nat}: ∀{l:List Nat},Zfg b l=true→b∈l
 |[],h=>by cases h
 |x::l,h=>by
  have h:cond (Nat.beq x b) true (Zfg b l)=true:=h
  cases e:Nat.beq x b with
  |true=>
   have:=ZG e
   subst this
   exact Zy ..
  |false=>rw[e] at h;exact ZB _ (ZhW h)
theorem ZgT{H:Heap}: ∀{l:List (Nat×LO)},Zoo H l=true→ ∀x∈l,∃o,H.t.get x.1=some o∧Zs9 o x.2.obj∧isO o x.2=true
 |[],_,x,hx=>by cases hx
 |y::l,h,x,hx=>by
  obtain⟨h1,h2⟩:=ZM (a:=Zru H y.1 y.2) (b:=Zoo H l) h
  rcases List.mem_cons.1 hx with rfl|hx
  ·unfold Zru at h1
   split at h1
   ·rename_i p hp
    exact⟨p,hp,Znc h1,h1⟩
   ·cases h1
  ·exact ZgT h2 x hx
theorem ZjJ{H:Heap}: ∀{l:List Nat},Zop H l=true→ ∀b∈l,H.t.get b=none
 |[],_,x,hx=>by cases hx
 |y::l,h,x,hx=>by
  obtain⟨h1,h2⟩:=ZM (a:=match H.t.get y with|none=>true|_=>false) (b:=Zop H l) h
  rcases List.mem_cons.1 hx with rfl|hx
  ·split at h1
   ·assumption
   ·cases h1
  ·exact ZjJ h2 x hx
theorem ZjK{H:Heap}{x:CE}: ∀{l:List (Nat×LO)},Zoq H x l=true→ ∀y∈l,Zfg y.1 x.dead=true∨(∃o,VQ y.1 x.post=some o)∨ ∃o,H.t.get y.1=some o∧Zs9 o y.2.obj
 |[],_,x,hx=>by cases hx
 |z::l,h,y,hy=>by
  obtain⟨h1,h2⟩:=ZM (a:=cond (Zfg z.1 x.dead) true (match VQ z.1 x.post with|some _=>true|none=>Zru H z.1 z.2)) (b:=Zoq H x l) h
  rcases List.mem_cons.1 hy with rfl|hy
  ·cases e:Zfg y.1 x.dead with
   |true=>exact .inl rfl
   |false=>
    rw[e] at h1
    cases e2:VQ y.1 x.post with
    |some o=>exact .inr (.inl ⟨o,rfl⟩)
    |none=>
     rw[e2] at h1
     have h1:Zru H y.1 y.2=true:=h1
     unfold Zru at h1
     split at h1
     ·rename_i p hp
      exact .inr (.inr ⟨p,hp,Znc h1⟩)
     ·cases h1
  ·exact ZjK h2 y hy
theorem Zlp{x:CE}: ∀{l:List (Nat×LO)},Zor x l=true→ ∀y∈l,x.ro≤y.1∧Zfg y.1 x.dead=false∧((∃p,VQ y.1 x.pre=some p∧isO p.obj y.2=false)∨(x.nx≤y.1∧wrO y.2.obj=true))
 |[],_,x,hx=>by cases hx
 |z::l,h,y,hy=>by
  obtain⟨h1,h⟩:=ZM (a:=Nat.ble x.ro z.1) (b:=cond (Zfg z.1 x.dead) false
 (cond (match VQ z.1 x.pre with|some p=>cond (isO p.obj z.2) false true|none=>cond (Nat.ble x.nx z.1) (wrO z.2.obj) false) (Zor x l) false)) h
  cases e:Zfg z.1 x.dead with
  |true=>rw[e] at h;cases h
  |false=>
   rw[e] at h
   obtain⟨h2,h3⟩:=ZM (a:=match VQ z.1 x.pre with|some p=>cond (isO p.obj z.2) false true|none=>cond (Nat.ble x.nx z.1) (wrO z.2.obj) false) (b:=Zor x l) h
   rcases List.mem_cons.1 hy with rfl|hy
   ·refine⟨ZO h1,e,?_⟩
    split at h2
    ·rename_i p hp
     refine .inl ⟨p,hp,?_⟩
     cases e3:isO p.obj y.2 with
     |true=>rw[e3] at h2;cases h2
     |false=>rfl
    ·obtain⟨h4,h5⟩:=ZM h2
     exact .inr ⟨ZO h4,h5⟩
   ·exact Zlp h3 y hy
theorem ZjL{x:CE}: ∀{l:List Nat},Zos x l=true→ ∀b∈l,x.ro≤b∧ ∃p,VQ b x.pre=some p
 |[],_,x,hx=>by cases hx
 |z::l,h,b,hb=>by
  obtain⟨h1,h⟩:=ZM (a:=Nat.ble x.ro z) (b:=match VQ z x.pre with|some _=>Zos x l|none=>false) h
  split at h
  ·rename_i p hp
   rcases List.mem_cons.1 hb with rfl|hb
   ·exact⟨ZO h1,p,hp⟩
   ·exact ZjL h b hb
  ·cases h
theorem Znd{gs:List (Nat×List AV)}{args:List AV}{H:Heap}{r:CR}: ∀{l:List CE},ZwP gs args H l=some r→ ∃x∈l,x.is gs args H=true∧r= .ret x.v (x.after H)
 |[],h=>by cases h
 |x::l,h=>by
  have h:cond (x.is gs args H) (some (.ret x.v (x.after H))) (ZwP gs args H l)=some r:=h
  cases e:x.is gs args H with
  |true=>rw[e] at h;cases h;exact⟨x,Zy ..,e,rfl⟩
  |false=>
   rw[e] at h
   obtain⟨y,hy,h1⟩:=Znd h
   exact⟨y,ZB _ hy,h1⟩
section
variable {P:Program}
theorem ZjM: ∀{l:List (Nat×LO)},Zot l=true→ ∀y∈l,wrO y.2.obj=true
 |[],_,_,hy=>by cases hy
 |z::l,h,y,hy=>by
  obtain⟨h1,h2⟩:=ZM (a:=wrO z.2.obj) (b:=Zot l) h
  rcases List.mem_cons.1 hy with rfl|hy
  ·exact h1
  ·exact ZjM h2 y hy
theorem Soft.wrO{o:Obj}(h:Soft o):wrO o=false:=by
 obtain⟨r,rfl,e⟩:=h
 exact e
theorem Zrv{H:Heap}{b:Nat}(h:Wr H b):H.ro≤b∧ ∃o,H.t.get b=some o∧wrO o=true:=by
 obtain⟨h1,o,h2,h3,h4⟩:=h
 refine⟨h1,o,h2,?_⟩
 cases o with
 |row r=>exact h3 r rfl
 |loop=>exact absurd rfl h4
 |_=>rfl
theorem ZCo{call:Nat→List AV→Heap→CR}(hcall:Qd P call){f:FuncId}{tab:List CE}{gs:List (Nat×List AV)}
  (htab: ∀x∈tab,x.wf=true∧ ∀e,x.out (call f x.args (x.heap gs e))=true)
  {args:List AV}{H:Heap}{r:CR}(h:ZwP gs args H tab=some r){σ:Mp}{w:World}{vs:List Value}(hs:Sim P σ H w)(hv:RelL σ args vs):Zdw P σ H w r ((callFunc f ⟨vs⟩).run P w):=by
 obtain⟨x,hx,his,rfl⟩:=Znd h
 obtain⟨hwf,hout⟩:=htab x hx
 obtain⟨i1,his⟩:=ZM his
 obtain⟨i2,his⟩:=ZM his
 obtain⟨i3,his⟩:=ZM his
 obtain⟨i4,i5⟩:=ZM his
 have i1:H.nx=x.nx:=ZG i1
 have i2:H.ro=x.ro:=ZG i2
 have i3:=Zcb _ _ i3
 have hpre:=ZgT i5
 obtain⟨w1,w2⟩:=ZM hwf
 have hnew:=Zlp w1
 obtain⟨w2,w3⟩:=ZM w2
 have hdead:=ZjL w2
 have hhard:=ZjM w3
 subst i3
 let e:Nat→Nat:=fun y=>match H.t.get y with|some (.row q)=>q.elem|_=>0
 have hcr0:=hout e
 have hget: ∀y o,(x.heap gs e).t.get y=some o→(∃p,VQ y x.pre=some p∧o=p.obj)∨(VQ y x.pre=none∧ ∃l,(y,l)∈gs∧o=Zom (e y) l):=by
  intro y o hy
  have hy:(Zlo x.pre (Zum e gs .leaf)).get y=some o:=hy
  rw[Za8 e gs] at hy
  cases hf:VQ y x.pre with
  |some p=>rw[hf] at hy;cases hy;exact .inl ⟨p,rfl,rfl⟩
  |none=>
   rw[hf] at hy
   rcases Zp0 e gs .leaf y o hy with h|h
   ·exact .inr ⟨rfl,h⟩
   ·rw[T.get_leaf] at h;cases h
 have inH: ∀y o,(x.heap gs e).t.get y=some o→ ∃o',H.t.get y=some o'∧(∀l c,ObjRel σ o' l c→ObjRel σ o l c)∧(wrO o=true→wrO o'=true)∧(Soft o'→Soft o):=by
  intro y o hy
  rcases hget y o hy with⟨p,hp,rfl⟩|⟨_,l,hl,rfl⟩
  ·obtain⟨o',h1,h2,_⟩:=hpre _ (Ug hp)
   exact⟨o',h1,h2.to σ,fun h=>h2.wr.trans h,h2.soft.1⟩
  ·obtain⟨q,g3,g4,g5,g6⟩:=Zp1 i4 _ hl
   have g5:Yt l≤q.size:=g5
   have g6:loadN q 0 (Yt l)=l:=g6
   have g3:H.t.get y=some (.row q):=g3
   refine⟨_,g3,fun l' c hc=>?_,(fun h=>by cases h),fun _=>⟨_,rfl,rfl⟩⟩
   obtain⟨cs,fr,rfl,hr⟩:=hc
   have hey:e y=q.elem:=by show(match H.t.get y with|some (.row q)=>q.elem|_=>0)=_;rw[g3]
   refine⟨cs,fr,by rw[hey],?_⟩
   have gsz:l'.sz=1:=by rw[hr.sz,g4]
   refine⟨gsz,hr.sz1,by have:=hr.fits;show Yt l≤_;omega,hr.room,(fun h=>by cases h),fun i hi=>?_,fun i v hi hv=>hr.one i v (ZF hi g5) hv,(fun h=>by cases h),(fun h=>by cases h)⟩
   have hi:i<Yt l:=hi
   obtain⟨v,h7,h8⟩:=hr.cell i (by omega)
   refine⟨v,h7,?_⟩
   have g7:=UD q (Yt l) 0 i hi
   rw[g6,Zi] at g7
   rw[Row.get_eq]
   show Rel σ (((T.ofList l).get i).getD .unk) v
   rw[T.get_ofList,g7]
   exact h8
 have hsim:Sim P σ (x.heap gs e) w:=by
  refine⟨fun y l hy=>by show y<x.nx;rw[←i1];exact hs.dom y l hy,fun y o hy=>?_,fun y o l hy hl=>?_,fun y y' o o' l l' hy hy' hl hl' he=>?_,hs.glob,by show x.ro≤x.nx;rw[←i1,←i2];exact hs.ro⟩
  ·obtain⟨o',h1,_⟩:=inH y o hy
   show y<x.nx
   rw[←i1];exact hs.low y o' h1
  ·obtain⟨o',h1,h2,_⟩:=inH y o hy
   obtain⟨c,hc,hr⟩:=hs.alive y o' l h1 hl
   exact⟨c,hc,h2 l c hr⟩
  ·obtain⟨o1,h1,_,_,s1⟩:=inH y o hy
   obtain⟨o2,h2,_,_,s2⟩:=inH y' o' hy'
   exact(hs.inj y y' o1 o2 l l' h1 h2 hl hl' he).imp_right fun s=>⟨s1 s.1,s2 s.2⟩
 have wrH: ∀y,Wr (x.heap gs e) y→Wr H y∧ ∃p,VQ y x.pre=some p:=by
  intro y hy
  obtain⟨h1,o,h2,h3⟩:=Zrv hy
  obtain⟨o',g1,g2,g3,_⟩:=inH y o h2
  refine⟨Zla g1 (by rw[i2];exact h1) (g3 h3),?_⟩
  rcases hget y o h2 with⟨p,hp,_⟩|⟨_,l,_,rfl⟩
  ·exact⟨p,hp⟩
  ·cases h3
 have hcr:=hcall f x.args (x.heap gs e) σ w vs hsim hv
 generalize call f x.args (x.heap gs e)=res at hcr hcr0
 cases res with
 |fail=>cases hcr0
 |pan _ _=>cases hcr0
 |ret v H'=>
  obtain⟨o1,hcr0⟩:=ZM hcr0
  obtain⟨o2,hcr0⟩:=ZM hcr0
  obtain⟨o3,hcr0⟩:=ZM hcr0
  obtain⟨o4,o5⟩:=ZM hcr0
  have o1:=Zcz _ _ o1
  subst o1
  have o2:H'.nx=x.nx2:=ZG o2
  have hpost:=ZgT o3
  have hkeep:=ZjK o4
  have hnone:=ZjJ o5
  refine Ends.mono (fun u' w' hx=>?_) (fun _ _ hx=>hx) hcr
  obtain⟨σ',hr,t⟩:=hx
  refine⟨σ',hr,?_⟩
  have tnx:x.nx≤H'.nx:=t.nx
  have hafter: ∀b o,(x.after H).t.get b=some o→
    (∃o',H'.t.get b=some o'∧Zs9 o o'∧((∃p,VQ b x.pre=some p)∨(x.nx≤b∧x.ro≤b∧wrO o=true)))
    ∨(VQ b x.pre=none∧H.t.get b=some o):=by
   intro b o hb
   have hb:(Zlo x.post (Zl5 x.dead H.t)).get b=some o:=hb
   rw[Za8 e gs] at hb
   cases hp:VQ b x.post with
   |some p=>
    rw[hp] at hb;cases hb
    obtain⟨o',h1,h2,h3⟩:=hpost _ (Ug hp)
    obtain⟨n1,n2,n3⟩:=hnew _ (Ug hp)
    refine .inl ⟨o',h1,⟨h2.of,h2.to,h2.wr.symm,h2.soft.symm⟩,?_⟩
    rcases n3 with⟨p',n4,_⟩|⟨n4,n5⟩
    ·exact .inl ⟨p',n4⟩
    ·exact .inr ⟨n4,n1,n5⟩
   |none=>
    rw[hp] at hb
    have hb:(Zl5 x.dead H.t).get b=some o:=hb
    rw[ZhV] at hb
    cases hd:Zfg b x.dead with
    |true=>rw[hd] at hb;cases hb
    |false=>
     rw[hd] at hb
     have hb:H.t.get b=some o:=hb
     cases hq:VQ b x.pre with
     |none=>exact .inr ⟨rfl,hb⟩
     |some p=>
      rcases hkeep _ (Ug hq) with k|⟨_,k⟩|⟨o',k1,k2⟩
      ·have k:Zfg b x.dead=true:=k
       rw[hd] at k;cases k
      ·have k:VQ b x.post=_:=k
       rw[hp] at k;cases k
      ·obtain⟨o'',q1,q2,_⟩:=hpre _ (Ug hq)
       have q1:H.t.get b=some o'':=q1
       rw[hb] at q1;cases q1
       exact .inl ⟨o',k1,⟨fun σ l c h=>k2.of σ l c (q2.to σ l c h),fun σ l c h=>q2.of σ l c (k2.to σ l c h),q2.wr.trans k2.wr.symm,q2.soft.trans k2.soft.symm⟩, .inl ⟨p,rfl⟩⟩
  have hold: ∀b o l,VQ b x.pre=none→H.t.get b=some o→σ' b=some l→σ b=some l:=by
   intro b o l _ hb hl
   have hlt:=hs.low b o hb
   cases hσ:σ b with
   |none=>
    have:=(t.pend b (by show b<x.nx;omega) hσ).2
    rw[this] at hl;cases hl
   |some l0=>rw[t.ext b l0 hσ] at hl;exact hl
  have hpre2: ∀b p,VQ b x.pre=some p→ ∃o,H.t.get b=some o∧b<x.nx:=by
   intro b p hp
   obtain⟨o,q1,_⟩:=hpre _ (Ug hp)
   exact⟨o,q1,by rw[←i1];exact hs.low b o q1⟩
  have hold2: ∀b l,b<x.nx→σ' b=some l→(∃o,H'.t.get b=some o)→σ b=some l:=by
   intro b l hlt hl _
   cases hσ:σ b with
   |none=>
    have:=(t.pend b hlt hσ).2
    rw[this] at hl;cases hl
   |some l0=>rw[t.ext b l0 hσ] at hl;exact hl
  have hfar: ∀b o l y l',VQ b x.pre=none→H.t.get b=some o→σ b=some l→Wr (x.heap gs e) y→σ y=some l'→l'.blk=l.blk→False:=by
   intro b o l y l' hb ho hl hw hy he
   obtain⟨h1,p,hp⟩:=wrH y hw
   obtain⟨_,oy,h2,h3⟩:=Zrv h1
   have:=hs.alone h2 ho hy hl he fun s=>by rw[s.1.wrO] at h3;cases h3
   subst this
   rw[hb] at hp;cases hp
  have hmix: ∀b o l b' l' o1,VQ b x.pre=none→H.t.get b=some o→σ' b=some l→H'.t.get b'=some o1→σ' b'=some l'→l.blk=l'.blk→
    ((∃p,VQ b' x.pre=some p)∨(x.nx≤b'∧x.ro≤b'∧wrO o1=true))→b=b':=by
   intro b o l b' l' o1 hb ho hl ho1 hl' he hor
   have hl0:=hold b o l hb ho hl
   rcases hor with⟨p,hp⟩|⟨n1,n2,n3⟩
   ·obtain⟨o2,q1,q2⟩:=hpre2 b' p hp
    refine hs.alone ho q1 hl0 (hold2 b' l' q2 hl' ⟨o1,ho1⟩) he fun s=>?_
    obtain⟨o3,g1,g2,_⟩:=hpre _ (Ug hp)
    have g1:H.t.get b'=some o3:=g1
    rw[q1] at g1;cases g1
    have:=hhard _ (Ug hp)
    rw[←g2.wr,s.2.wrO] at this;cases this
   ·exfalso
    obtain⟨c,hc,_⟩:=hs.alive b o l ho hl0
    have hlt:l'.blk<w.heap.size:=by rw[←he];exact(Array.getElem?_eq_some_iff.1 hc).1
    have hro:H'.ro≤b':=by rw[t.ro];exact n2
    obtain⟨b0,l0,h1,h2,h3⟩:=t.wr b' l' (Zla ho1 hro n3) hl' hlt
    exact hfar b o l b0 l0 hb ho hl0 h1 h2 (h3.trans he.symm)
  refine⟨t.ext,⟨?_,?_,?_,?_,t.sim.glob,?_⟩,t.size,?_,?_,?_,rfl,?_,t.tape,t.os,t.out,?_⟩
  ·intro b l hb
   show b<x.nx2
   rw[←o2];exact t.sim.dom b l hb
  ·intro b o hb
   show b<x.nx2
   rw[←o2]
   rcases hafter b o hb with⟨o',h1,_⟩|⟨_,h1⟩
   ·exact t.sim.low b o' h1
   ·have:=hs.low b o h1;omega
  ·intro b o l hb hl
   rcases hafter b o hb with⟨o',h1,h2,_⟩|⟨h0,h1⟩
   ·obtain⟨c,hc,hrel⟩:=t.sim.alive b o' l h1 hl
    exact⟨c,hc,h2.of σ' l c hrel⟩
   ·have hl0:=hold b o l h0 h1 hl
    obtain⟨c,hc,hrel⟩:=hs.alive b o l h1 hl0
    refine⟨c,?_,hrel.mono t.ext⟩
    rw[t.frame l.blk (Array.getElem?_eq_some_iff.1 hc).1 fun y ly hw hy he=>hfar b o l y ly h0 h1 hl0 hw hy he]
    exact hc
  ·intro b b' o o' l l' hb hb' hl hl' he
   rcases hafter b o hb with⟨p,h1,h2,h3⟩|⟨h0,h1⟩<;>rcases hafter b' o' hb' with⟨p',h1',h2',h3'⟩|⟨h0',h1'⟩
   ·exact(t.sim.inj b b' p p' l l' h1 h1' hl hl' he).imp_right fun s=>⟨h2.soft.2 s.1,h2'.soft.2 s.2⟩
   ·exact .inl (hmix b' o' l' b l p h0' h1' hl' h1 hl he.symm (h3.imp_right fun⟨a,b,c⟩=>⟨a,b,by rw[←h2.wr];exact c⟩)).symm
   ·exact .inl<|hmix b o l b' l' p' h0 h1 hl h1' hl' he (h3'.imp_right fun⟨a,b,c⟩=>⟨a,b,by rw[←h2'.wr];exact c⟩)
   ·exact hs.inj b b' o o' l l' h1 h1' (hold b o l h0 h1 hl) (hold b' o' l' h0' h1' hl') he
  ·show H.ro≤x.nx2
   have:=hs.ro
   omega
  ·intro k hk hn
   exact t.frame k hk fun y l hw hl=>hn y l (wrH y hw).1 hl
  ·intro b l hw hl hlt
   obtain⟨hro,o,ho,hwo⟩:=Zrv hw
   rcases hafter b o ho with⟨o',h1,h2,_⟩|⟨h0,h1⟩
   ·obtain⟨b0,l0,g1,g2,g3⟩:=t.wr b l (Zla h1 (by rw[t.ro];show x.ro≤b;rw[←i2];exact hro) (by rw[←h2.wr];exact hwo)) hl hlt
    exact⟨b0,l0,(wrH b0 g1).1,g2,g3⟩
   ·exact⟨b,l,Zla h1 hro hwo,hold b o l h0 h1 hl,rfl⟩
  ·show H.nx≤x.nx2
   omega
  ·intro b hb
   show(Zlo x.post (Zl5 x.dead H.t)).get b=H.t.get b
   rw[Za8 e gs]
   cases hp:VQ b x.post with
   |some p=>
    have:=(hnew _ (Ug hp)).1
    have:x.ro≤b:=this
    omega
   |none=>
    show(Zl5 x.dead H.t).get b=_
    rw[ZhV]
    cases hd:Zfg b x.dead with
    |true=>
     have:=(hdead _ (ZhW hd)).1
     omega
    |false=>rfl
  ·intro b hb hσ
   obtain⟨p1,p2⟩:=t.pend b (by show b<x.nx;omega) hσ
   refine⟨?_,p2⟩
   show(Zlo x.post (Zl5 x.dead H.t)).get b=H.t.get b
   rw[Za8 e gs]
   cases hp:VQ b x.post with
   |some p=>
    exfalso
    obtain⟨n1,n2,n3⟩:=hnew _ (Ug hp)
    obtain⟨o',h1,h2,h3⟩:=hpost _ (Ug hp)
    have h1:H'.t.get b=some o':=h1
    rcases n3 with⟨q,n4,n5⟩|⟨n4,_⟩
    ·have n4:VQ b x.pre=some q:=n4
     have:(x.heap gs e).t.get b=some q.obj:=by
      show(Zlo x.pre (Zum e gs .leaf)).get b=_
      rw[Za8 e gs,n4]
     rw[←p1,h1] at this
     cases this
     rw[h3] at n5;cases n5
    ·have n4:x.nx≤b:=n4
     omega
   |none=>
    show(Zl5 x.dead H.t).get b=_
    rw[ZhV]
    cases hd:Zfg b x.dead with
    |true=>
     exfalso
     obtain⟨_,q,n4⟩:=hdead _ (ZhW hd)
     have:(x.heap gs e).t.get b=some q.obj:=by
      show(Zlo x.pre (Zum e gs .leaf)).get b=_
      rw[Za8 e gs,n4]
     rw[←p1,hnone _ (ZhW hd)] at this
     cases this
    |false=>rfl
end
end
end Go.AI
namespace Go.AI
open Go
section
variable {P:Program}
noncomputable def Zou:List (Nat×List Ent)→T Obj→T Obj
 |[],t=>t
 |x::l,t=>Zou l (t.set x.1 (.cmap x.2))
theorem Zfh: ∀(ms:List (Nat×List Ent)) (t:T Obj) (b:Nat) (o:Obj),(Zou ms t).get b=some o→(∃es,(b,es)∈ms∧o= .cmap es)∨t.get b=some o
 |[],t,b,o,h=> .inr h
 |(b',es)::ms,t,b,o,h=>by
  rcases Zfh ms _ b o h with⟨es2,h1,h2⟩|h1
  ·exact .inl ⟨es2,ZB _ h1,h2⟩
  ·rw[T.get_set] at h1
   by_cases e3:b'=b
   ·rw[if_pos e3] at h1;cases h1;subst e3;exact .inl ⟨es,Zy ..,rfl⟩
   ·rw[if_neg e3] at h1;exact .inr h1
noncomputable def Zov(n:Nat)(rs:List (Nat×Nat×List AV))(ms:List (Nat×List Ent)):Heap:=⟨n,Zoj rs (Zou ms .leaf),n⟩
theorem Zun{W:World}{rs:List (Nat×Nat×List AV)}{ms:List (Nat×List Ent)}{n:Nat}{σ:Mp}(hσ: ∀g,g<P.globals.size→ ∃l,σ g=some l∧l.blk=g∧l.base=0)(hdom: ∀b l,σ b=some l→b<n)
  (hr: ∀b e l,(b,e,l)∈rs→ ∃cs fr,σ b=some ⟨b,0,Yt l,1⟩∧W.heap[b]? =some (.cells cs e fr)∧RelL σ l cs.toList∧ ∀v∈cs,v.oneCell'=true)
  (hm: ∀b es,(b,es)∈ms→ ∃l ents clock fs,σ b=some l∧W.heap[l.blk]? =some (.map ents clock)∧EntsRel σ fs ents.toList∧(fs.map Zb6).Perm (es.map Zb6)∧es.Pairwise Zq5)
  (hi: ∀b es b' es' l l',(b,es)∈ms→(b',es')∈ms→σ b=some l→σ b'=some l'→l.blk=l'.blk→b=b'):Sim P σ (Zov n rs ms) W:=by
 have hget: ∀b o,(Zov n rs ms).t.get b=some o→(∃e l,(b,e,l)∈rs∧o= .row ⟨e,1,Yt l,T.ofList l, .unk,0,false,false,true⟩)∨ ∃es,(b,es)∈ms∧o= .cmap es:=by
  intro b o h
  rcases Zff rs _ b o h with h|h
  ·exact .inl h
  ·rcases Zfh ms _ b o h with h|h
   ·exact .inr h
   ·rw[T.get_leaf] at h;cases h
 refine⟨hdom,fun b o h=>?_,fun b o l h hl=>?_,fun b b' o o' l l' h h' hl hl' e=>?_,hσ,Zk _⟩
 ·rcases hget b o h with⟨e,l,h1,_⟩|⟨es,h1,_⟩
  ·obtain⟨cs,fr,h2,_⟩:=hr b e l h1
   exact hdom b _ h2
  ·obtain⟨l,_,_,_,h2,_⟩:=hm b es h1
   exact hdom b _ h2
 ·rcases hget b o h with⟨e,l',h1,rfl⟩|⟨es,h1,rfl⟩
  ·obtain⟨cs,fr,h2,h3,h4,h5⟩:=hr b e l' h1
   rw[h2] at hl;cases hl
   refine⟨_,h3,cs,fr,rfl,?_⟩
   have hlen:cs.size=Yt l':=by rw[Yr,h4.length];simp
   refine⟨rfl,Zk _,by show Yt l'≤Yt l'*1;omega,by show 0+Yt l'*1≤cs.size;omega,fun _=>⟨by show Yt l'=Yt l'*1;omega,rfl,hlen⟩,fun i hi=>?_,fun i v _ hv=>h5 v (Array.mem_of_getElem? hv),(fun h=>by cases h),(fun h=>by cases h)⟩
   have hi:i<Yt l':=hi
   have hi':i<l'.length:=by rw[Yr] at hi;exact hi
   obtain⟨v,h6,h7⟩:=h4.get (i:=i) (a:=l'[i]) (Zp hi')
   refine⟨v,by rw[Zi,←Z1];exact h6,?_⟩
   have:(⟨e,1,Yt l',T.ofList l', .unk,0,false,false,true⟩:Row).get i=l'[i]:=by
    rw[Row.get_eq]
    show((T.ofList l').get i).getD .unk=_
    rw[T.get_ofList,Zp hi'];rfl
   rw[this]
   exact h7
  ·obtain⟨l2,ents,clock,fs,h2,h3,h4,h5,h6⟩:=hm b es h1
   rw[h2] at hl;cases hl
   exact⟨_,h3,ents,clock,fs,rfl,h4,h5,h6⟩
 ·rcases hget b o h with⟨e1,l1,h1,_⟩|⟨es,h1,_⟩<;>rcases hget b' o' h' with⟨e2,l2,h2,_⟩|⟨es',h2,_⟩
  ·obtain⟨_,_,h3,_⟩:=hr b e1 l1 h1
   obtain⟨_,_,h4,_⟩:=hr b' e2 l2 h2
   rw[h3] at hl;rw[h4] at hl'
   cases hl;cases hl'
   exact .inl e
  ·exfalso
   obtain⟨_,_,h3,h5,_⟩:=hr b e1 l1 h1
   obtain⟨_,_,_,_,h4,h6,_⟩:=hm b' es' h2
   rw[h3] at hl;rw[h4] at hl'
   cases hl;cases hl'
   have e:b=_:=e
   rw[←e,h5] at h6
   cases h6
  ·exfalso
   obtain⟨_,_,h3,h5,_⟩:=hr b' e2 l2 h2
   obtain⟨_,_,_,_,h4,h6,_⟩:=hm b es h1
   rw[h3] at hl';rw[h4] at hl
   cases hl;cases hl'
   have e:_=b':=e
   rw[e,h5] at h6
   cases h6
  ·exact .inl<|hi b es b' es' l l' h1 h2 hl hl' e
theorem Zl6{l:List (String×DataW Unit)}{w:World}(h:laidMetH P l w):laidMet P (l.filter fun x=>x.2.handleName?.isNone) w:=by
 unfold laidMetH at h
 generalize hfl:(l.filter fun x=>x.2.handleName?.isSome)=fl at h
 cases fl with
 |nil=>
  have e:(l.filter fun x=>x.2.handleName?.isNone)=l:=by
   rw[List.filter_eq_self]
   intro x hx
   have:=(List.filter_eq_nil_iff.1 hfl) x hx
   cases hn:x.2.handleName? with
   |none=>rfl
   |some s=>rw[hn] at this;exact absurd rfl this
  rw[e]
  exact h
 |cons a as=>exact h.1
theorem ZjN{W:World}: ∀{l:List (String×DataW Unit)} {ps:List MemPlace},DataW.LaidVars P W l ps→ ∃pf:Nat→List MemPlace,
  (∀i n d,l[i]? =some (n,d)→ ∃g t cs fuel,P.globalNamed n=some g∧(P.globals[g]?).map (·.type)=some t∧W.var? P n=some cs∧DataW.trod (fun _=>()) P W 0 (fun _=>true) false fuel t cs.toList=some (d,pf i)∧ ∀x∈MemPlace.row ⟨g,0,none⟩ cs.size,x∈ps)∧
  (∀i x,i<l.length→x∈pf i→x∈ps)∧(ps.Nodup→ ∀i j x,i<j→j<l.length→x∈pf i→x∈pf j→False)
 |[],_,_=>⟨fun _=>[],(fun i n d h=>by simp at h),(fun i x h=>by simp at h),(fun _ i j x _ h=>by simp at h)⟩
 |(n',d')::r,ps,h=>by
  obtain⟨g,t,cs,fuel,p,q,h1,h2,h3,h4,h5,rfl⟩:=h
  obtain⟨pf,k1,k2,k3⟩:=ZjN h5
  refine⟨fun i=>match i with|0=>p|i+1=>pf i,fun i n d hi=>?_,fun i x hi hx=>?_,fun hnd i j x hij hj hx hx'=>?_⟩
  ·cases i with
   |zero=>
    simp only[List.getElem?_cons_zero,Option.some.injEq,Prod.mk.injEq] at hi
    obtain⟨rfl,rfl⟩:=hi
    exact⟨g,t,cs,fuel,h1,h2,h3,h4,fun x hx=>List.mem_append.2 (.inl (List.mem_append.2 (.inl hx)))⟩
   |succ i=>
    simp only[List.getElem?_cons_succ] at hi
    obtain⟨g',t',cs',fuel',m1,m2,m3,m4,m5⟩:=k1 i n d hi
    exact⟨g',t',cs',fuel',m1,m2,m3,m4,fun x hx=>List.mem_append.2 (.inr (m5 x hx))⟩
  ·cases i with
   |zero=>exact List.mem_append.2 (.inl (List.mem_append.2 (.inr hx)))
   |succ i=>exact List.mem_append.2 (.inr (k2 i x (by simpa using hi) hx))
  ·obtain⟨n1,n2,n3⟩:=List.nodup_append.1 hnd
   cases j with
   |zero=>omega
   |succ j=>
    have hj':j<r.length:=by simpa using hj
    cases i with
    |zero=>exact n3 x (List.mem_append.2 (.inr hx)) x (k2 j x hj' hx') rfl
    |succ i=>exact k3 n2 i j x (by omega) hj' hx hx'
end
end Go.AI
namespace Go.AI
open Go
noncomputable section
def Zp3(gs:List (Nat×List AV))(base:Nat→List AV→Heap→Option CR):List (Nat×CE)→Nat→List AV→Heap→Option CR
 |[],f,args,H=>base f args H
 |x::l,f,args,H=>cond (Nat.beq x.1 f) (cond (x.2.is gs args H) (some (.ret x.2.v (x.2.after H))) (Zp3 gs base l f args H)) (Zp3 gs base l f args H)
section
variable {P:Program}
def ZBz(P:Program)(gs:List (Nat×List AV))(x:Nat×CE):Prop:= ∃call,Qd P call∧x.2.wf=true∧ ∀e,x.2.out (call x.1 x.2.args (x.2.heap gs e))=true
theorem Zta{gs:List (Nat×List AV)}{base:Nat→List AV→Heap→Option CR}(hb:Zc7 P base): ∀l:List (Nat×CE),(∀x∈l,ZBz P gs x)→Zc7 P (Zp3 gs base l)
 |[],_=>hb
 |x::l,h=>by
  intro f args H r hr σ w vs hs hv
  have ih:=Zta hb l (fun y hy=>h y (ZB _ hy))
  unfold Zp3 at hr
  cases h1:Nat.beq x.1 f with
  |false=>rw[h1] at hr;exact ih f args H r hr σ w vs hs hv
  |true=>
   rw[h1] at hr
   cases h2:x.2.is gs args H with
   |false=>rw[h2] at hr;exact ih f args H r hr σ w vs hs hv
   |true=>
    rw[h2] at hr
    have h1:=ZG h1
    subst h1
    obtain⟨call,hcall,hwf,hout⟩:=h x (Zy ..)
    refine ZCo (P:=P) hcall (f:=x.1) (tab:=[x.2]) (gs:=gs) (fun y hy=>?_) (args:=args) (H:=H) ?_ hs hv
    ·rcases List.mem_cons.1 hy with rfl|hy
     ·exact⟨hwf,hout⟩
     ·cases hy
    ·show cond (x.2.is gs args H) (some (.ret x.2.v (x.2.after H))) none=some r
     rw[h2]
     exact hr
end
end
end Go.AI
namespace Go.AI
open Go
noncomputable section
variable {P:Program}
structure Win where
 loc:Loc
 elem:Nat
 cells:List AV
def Win.row(x:Win):Row:=⟨x.elem,1,Yt x.cells,T.ofList x.cells, .unk,0,false,false,false⟩
def ZjO(b:Nat):List (Nat×Win)→Option Win
 |[]=>none
 |y::l=>if y.1=b then some y.2 else ZjO b l
theorem Zne{b:Nat}{x:Win}: ∀{l:List (Nat×Win)},ZjO b l=some x→(b,x)∈l
 |[],h=>by cases h
 |y::l,h=>by
  unfold ZjO at h
  split at h
  ·rename_i e;cases h;rw[←e];exact Zy ..
  ·exact ZB _ (Zne h)
theorem Zlq{b:Nat}{x:Win}: ∀{l:List (Nat×Win)},(b,x)∈l→(l.map (·.1)).Nodup→ZjO b l=some x
 |y::l,h,nd=>by
  rw[List.map_cons,List.nodup_cons] at nd
  unfold ZjO
  rcases List.mem_cons.1 h with rfl|h
  ·rw[if_pos rfl]
  ·rw[if_neg (fun e=>nd.1 (by rw[e];exact List.mem_map_of_mem (f:=Prod.fst) h))]
   exact Zlq h nd.2
structure ZBA(W:World)(σ:Mp)(x:Win):Prop where
 sz:x.loc.sz=1
 fits:x.cells.length≤x.loc.tot
 cells: ∃cs fr,W.heap[x.loc.blk]? =some (.cells cs x.elem fr)∧x.loc.base+x.loc.tot≤cs.size∧ ∀(i:Nat) (a:AV),x.cells[i]? =some a→ ∃v,cs[x.loc.base+i]? =some v∧Rel σ a v∧v.oneCell'=true
theorem Win.get_row{x:Win}{i:Nat}{a:AV}(h:x.cells[i]? =some a):x.row.get i=a:=by
 rw[Row.get_eq]
 show((T.ofList x.cells).get i).getD .unk=a
 rw[T.get_ofList,h];rfl
theorem Zuo{call:Nat→List AV→Heap→CR}(hcall:Qd P call){f:FuncId}{fn:Func}{c:Code}(hf:P.funcs[f]? =some fn)(hname:fn.name≠ "runtime.NumGoroutine")(hb:fn.body=some c)
  {σ:Mp}{H H':Heap}{W:World}(hs:Sim P σ H W)(hw: ∀b,¬Wr H b){as:List AV}{vs:List Value}(ha:RelL σ as vs)(hr:call f as H= .ret (.bool true) H'):
  Calls P f ⟨vs⟩ W fun e W'=>e= .returned (.bool true)∧W'.os=W.os∧W'.output=W.output∧ ∀i,i<W.heap.size→W'.heap[i]? =W.heap[i]? :=by
 have h:=hcall f as H σ W vs hs ha
 rw[hr,QL hf hname hb] at h
 refine Calls.mono h fun e W' he=>?_
 cases e with
 |returned v=>
  obtain⟨σ',h1,t⟩:=he
  exact⟨by rw[Ul h1],t.os,t.out,fun i hi=>t.frame i hi fun b _ hb=>absurd hb (hw b)⟩
 |panicked ch=>obtain⟨_,_,h⟩:=he;exact h.elim
 |outgrown=>exact he.elim
end
end Go.AI
namespace Go.AI
open Go Go.ChangeShapes Go.WideShapes Go.ChangeAt Go.RowKit
section
variable {H:Type} {enc:TypeId×Value→H} {P:Program}
theorem ZzC{W W':World}(h: ∀i,i<W.heap.size→W'.heap[i]? =W.heap[i]?){p:MemPlace}(hp:p.block<W.heap.size):W.sameAt W' p:=by
 cases p with
 |cell b off=>
  show W'.cell? ⟨b,off,none⟩=W.cell? ⟨b,off,none⟩
  unfold World.cell?
  rw[h b hp]
 |map b=>exact h b hp
theorem ZhX(hl:laidOutB P=true){W W':World}{sp:Nat→Bool}(h: ∀i,i<W.heap.size→W'.heap[i]? =W.heap[i]?): ∀{ts:List TypeId} {vs:List Value} {ds:List (DataW H)} {ps:List MemPlace},
  (∀t∈ts,P.readableRec t=true∧t<P.types.size)→DataW.TrodAll enc P W 0 (fun _=>true) true ts vs ds ps→(∀p∈ps,p.block<W.heap.size∧sp p.block=true)→DataW.TrodAll enc P W' 0 sp true ts vs ds ps
 |[],[],[],ps,_,ht,_=>ht
 |t::ts,v::vs,d::ds,ps,hts,ht,hp=>by
  obtain⟨p,q,h1,h2,rfl⟩:=ht
  obtain⟨r1,r2⟩:=hts t (Zy ..)
  refine⟨p,q,WideElems.Trod_stays hl r1 r2 h1 (fun x hx=>ZzC h (hp x (List.mem_append.2 (.inl hx))).1) (fun x hx=>(hp x (List.mem_append.2 (.inl hx))).2),?_,rfl⟩
  exact ZhX hl h (fun t ht=>hts t (ZB _ ht)) h2 fun x hx=>hp x (List.mem_append.2 (.inr hx))
 |[],_::_,_,_,_,ht,_=>ht.elim
 |[],[],_::_,_,_,ht,_=>ht.elim
 |_::_,[],_,_,_,ht,_=>ht.elim
 |_::_,_::_,[],_,_,ht,_=>ht.elim
theorem ZwQ{fn:Func}{s:ChangeSpec}{W W':World}{args:Array Value}{ds gs:List (DataW H)}{before:List MemPlace}{tb:TypeId}(hl:laidOutB P=true)(hts: ∀t∈fn.params.toList,P.readableRec t=true∧t<P.types.size)
  (hv:s.vars=[])(hr:fn.resultTypes= #[tb])(htb:P.underlying tb=some .bool)(hW:DataW.Whole enc P fn.params.toList s.vars false W args.toList ds gs before)
  (hres:(s.fn H (ds++gs)).results=[.lit (.bool true)])(hargs:(s.fn H (ds++gs)).args=ds)(hvars:(s.fn H (ds++gs)).vars=[])
  (h1:W'.os=W.os)(h2:W'.output=W.output)(h3: ∀i,i<W.heap.size→W'.heap[i]? =W.heap[i]?):s.post enc P fn false true false false W args (.bool true) W':=by
 have hlt:=hW.lt
 have hW':=hW
 obtain⟨p,q,hA,hV,rfl,_,_⟩:=hW
 rw[hv] at hV
 obtain⟨rfl,rfl⟩:=trodVars_none hV
 refine⟨ds,[],p++[],[],p,[],hW',?_,?_,?_,World.keptBut_mono (fun x hx=>hx.elim) (Zol (may:=fun _=>False) h1 h2 h3),fun h=>by cases h⟩
 ·rw[hres,hr]
  exact trodAll_mk1 (shut_bool htb _)
 ·rw[hargs]
  exact ZhX hl h3 hts hA fun x hx=>⟨hlt x (by simpa using hx),by simpa using hlt x (by simpa using hx)⟩
 ·rw[hvars,hv]
  rfl
end
end Go.AI
namespace Go.AI
open Go
noncomputable section
variable {P:Program}
def ZwR(n:Nat):Obj→Prop
 | .row r=> ∀i,i<r.size→YA n (r.get i)=true
 | .cmap es=> ∀x∈es,YA n x.key=true∧YA n x.val=true
 |_=>False
theorem EntsRel.cutE{σ:Mp}{n:Nat}: ∀{es:List Ent} {l:List MapEntry},(∀x∈es,YA n x.key=true∧YA n x.val=true)→EntsRel σ es l→EntsRel (σ.cut n) es l
 |[],l,_,r=>by simpa [EntsRel] using r
 |x::es,l,h,r=>by
  simp only[EntsRel] at r ⊢
  obtain⟨e,l',h1,h2,h3⟩:=r
  obtain⟨k1,k2⟩:=h x (Zy ..)
  exact⟨e,l',⟨Rel.cut k1 h1.1,Rel.cut k2 h1.2.1,h1.2.2⟩,EntsRel.cutE (fun y hy=>h y (ZB _ hy)) h2,h3⟩
theorem ObjRel.cutO{σ:Mp}{n:Nat}{o:Obj}{l:Loc}{c:Go.Obj}(h:ZwR n o)(r:ObjRel σ o l c):ObjRel (σ.cut n) o l c:=by
 cases o with
 |row q=>
  obtain⟨cs,fr,rfl,r⟩:=r
  refine⟨cs,fr,rfl,r.sz,r.sz1,r.fits,r.room,r.exact,fun i hi=>?_,r.one,r.frz,r.frs⟩
  obtain⟨v,h1,h2⟩:=r.cell i hi
  exact⟨v,h1,Rel.cut (h i hi) h2⟩
 |cmap es=>
  obtain⟨ents,clock,fs,h1,h2,h3,h4⟩:=r
  refine⟨ents,clock,fs,h1,EntsRel.cutE (fun x hx=>?_) h2,h3,h4⟩
  have hm:Zb6 x∈es.map Zb6:=h3.subset (List.mem_map_of_mem (f:=Zb6) hx)
  obtain⟨y,hy,e⟩:=List.mem_map.1 hm
  have hk:y.key=x.key:=congrArg Prod.fst e
  have hv:y.val=x.val:=congrArg Prod.snd e
  rw[←hk,←hv]
  exact h y hy
 |_=>exact h.elim
theorem Sim.cutTo{σ:Mp}{H:Heap}{w:World}{n:Nat}{t:T Obj}(hs:Sim P σ H w)(hn:P.globals.size≤n)(ht: ∀b o,t.get b=some o→b<n∧H.t.get b=some o∧ZwR n o):Sim P (σ.cut n) ⟨n,t,n⟩ w:=by
 refine⟨fun b l h=>(Mp.cut_some h).1,fun b o h=>(ht b o h).1,fun b o l h hl=>?_,fun b b' o o' l l' h h' hl hl' e=>?_,fun g hg=>?_,Zk _⟩
 ·obtain⟨_,h1,h2⟩:=ht b o h
  obtain⟨c,h3,h4⟩:=hs.alive b o l h1 (Mp.cut_some hl).2
  exact⟨c,h3,h4.cutO h2⟩
 ·exact hs.inj b b' o o' l l' (ht b o h).2.1 (ht b' o' h').2.1 (Mp.cut_some hl).2 (Mp.cut_some hl').2 e
 ·obtain⟨l,h1,h2⟩:=hs.glob g hg
  exact⟨l,by rw[Mp.cut_lt (by omega)];exact h1,h2⟩
def Bears(n:Nat)(t:T Obj)(H:Heap):Prop:=n≤H.nx∧ ∀b o,t.get b=some o→H.t.get b=some o
theorem Bears.keep{n:Nat}{t:T Obj}{H H':Heap}(h:Bears n t H)(hlt: ∀b o,t.get b=some o→b<n)(hnx:H.nx≤H'.nx)(hk: ∀c,c<H.nx→H'.t.get c=H.t.get c):Bears n t H':=
 ⟨Z6 h.1 hnx,fun b o hb=>(hk b (ZF (hlt b o hb) h.1)).trans (h.2 b o hb)⟩
structure Zow where
 f:Nat
 args:List AV
 v:AV
def ZgU(n:Nat)(t:(Nat→Nat)→T Obj)(base:Nat→List AV→Heap→Option CR):List Zow→Nat→List AV→Heap→Option CR
 |[],f,args,H=>base f args H
 |x::l,f,args,H=>cond (Nat.beq x.f f) (open Classical in if args=x.args∧ ∃e,Bears n (t e) H then some (.ret x.v H) else ZgU n t base l f args H) (ZgU n t base l f args H)
theorem Znf{n:Nat}{t:(Nat→Nat)→T Obj}(hn:P.globals.size≤n)(ht: ∀e b o,(t e).get b=some o→b<n∧ZwR n o∧(Soft o∨ ∃es,o= .cmap es)){base:Nat→List AV→Heap→Option CR}(hb:Zc7 P base): ∀l:List Zow,
  (∀x∈l,∃call,Qd P call∧Zan 0 x.args=true∧YA 0 x.v=true∧ ∀e,Zs6 x.v (call x.f x.args ⟨n,t e,n⟩)=true)→Zc7 P (ZgU n t base l)
 |[],_=>hb
 |x::l,hl=>by
  intro f args H r h σ w vs hs hv
  have ih:=Znf hn ht hb l fun y hy=>hl y (ZB _ hy)
  unfold ZgU at h
  cases hf:Nat.beq x.f f with
  |false=>rw[hf] at h;exact ih f args H r h σ w vs hs hv
  |true=>
   have:=ZG hf
   subst this
   rw[hf,cond_true] at h
   split at h
   ·rename_i hc
    obtain⟨rfl,e,hle,hbear⟩:=hc
    cases h
    obtain⟨call,hcall,hlowa,hlowv,hev⟩:=hl x (Zy ..)
    have hsim:Sim P (σ.cut n) ⟨n,t e,n⟩ w:=hs.cutTo hn fun b o hb=>⟨(ht e b o hb).1,hbear b o hb,(ht e b o hb).2.1⟩
    have hnowr: ∀y,¬Wr (⟨n,t e,n⟩:Heap) y:=by
     rintro y ⟨h1,ob,h2,_⟩
     have h1:n≤y:=h1
     have:=(ht e y ob h2).1
     omega
    have hrel:RelL (σ.cut n) x.args vs:=RelL.mono (fun b l hb=>by have:=(Mp.cut_some hb).1;omega) (RelL.cut (n:=0) hlowa hv)
    have hcr:=hcall x.f x.args ⟨n,t e,n⟩ (σ.cut n) w vs hsim hrel
    have hret:=hev e
    generalize call x.f x.args ⟨n,t e,n⟩=res at hcr hret
    cases res with
    |fail=>cases hret
    |pan _ _=>cases hret
    |ret v' H''=>
     have:=Zcz _ _ hret
     subst this
     refine Ends.mono (fun u' w' hx=>?_) (fun _ _ hx=>hx) hcr
     obtain⟨σ2,h1,t'⟩:=hx
     have hfr: ∀j,j<w.heap.size→w'.heap[j]? =w.heap[j]? :=fun j hj=>t'.frame j hj fun y _ hy _=>absurd hy (hnowr y)
     refine⟨σ,?_,(TrW.mem (Ext.refl σ) t'.size hfr (fun _ _ _ _ h _=>h) t'.tape t'.os t'.out).full (hs.grow hfr) fun _ _ hx=>⟨rfl,hx⟩⟩
     exact(Rel.cut hlowv h1).mono fun y _ hy=>by have:=(Mp.cut_some hy).1;omega
   ·exact ih _ _ _ _ h σ w vs hs hv
theorem ZgV{n:Nat}{t:(Nat→Nat)→T Obj}{base:Nat→List AV→Heap→Option CR}{H:Heap}{e:Nat→Nat}(hb:Bears n (t e) H): ∀{l:List Zow} {x:Zow},x∈l→(∀y∈l,y.f=x.f→y.args=x.args→y.v=x.v)→ZgU n t base l x.f x.args H=some (.ret x.v H)
 |y::l,x,hx,hu=>by
  unfold ZgU
  by_cases hf:y.f=x.f
  ·rw[hf,show Nat.beq x.f x.f=true from Yc _,cond_true]
   by_cases ha:y.args=x.args
   ·rw[if_pos ⟨ha.symm,e,hb⟩,hu y (Zy ..) hf ha]
   ·rw[if_neg fun h=>ha h.1.symm]
    rcases List.mem_cons.1 hx with rfl|hx
    ·exact absurd rfl ha
    ·exact ZgV hb hx fun z hz=>hu z (ZB _ hz)
  ·have:Nat.beq y.f x.f=false:=by rw[Ye];exact Zc hf
   rw[this]
   rcases List.mem_cons.1 hx with rfl|hx
   ·exact absurd rfl hf
   ·exact ZgV hb hx fun z hz=>hu z (ZB _ hz)
def ZhY(t:T Obj):List (Nat×Win)→T Obj
 |[]=>t
 |x::l=>(ZhY t l).set x.1 (.row x.2.row)
def ZiX(σ:Mp)(ws:List (Nat×Win)):Mp:=fun b=>match ZjO b ws with
 |some x=>some x.loc
 |none=>σ b
theorem Zlr(t:T Obj): ∀(l:List (Nat×Win)) (b:Nat) (o:Obj),(ZhY t l).get b=some o→(∃x,(b,x)∈l∧o= .row x.row)∨t.get b=some o
 |[],_,_,h=> .inr h
 |y::l,b,o,h=>by
  have h:((ZhY t l).set y.1 (.row y.2.row)).get b=some o:=h
  rw[T.get_set] at h
  by_cases e:y.1=b
  ·rw[if_pos e] at h;cases h;subst e;exact .inl ⟨y.2,Zy ..,rfl⟩
  ·rw[if_neg e] at h
   rcases Zlr t l b o h with⟨x,h1,h2⟩|h1
   ·exact .inl ⟨x,ZB _ h1,h2⟩
   ·exact .inr h1
theorem Ztb(t:T Obj): ∀(l:List (Nat×Win)) (b:Nat) (x:Win),(b,x)∈l→(l.map (·.1)).Nodup→(ZhY t l).get b=some (.row x.row)
 |y::l,b,x,h,nd=>by
  show((ZhY t l).set y.1 (.row y.2.row)).get b=some (.row x.row)
  rw[List.map_cons,List.nodup_cons] at nd
  rw[T.get_set]
  rcases List.mem_cons.1 h with rfl|h
  ·rw[if_pos rfl]
  ·rw[if_neg (fun e=>nd.1 (by rw[e];exact List.mem_map_of_mem (f:=Prod.fst) h))]
   exact Ztb t l b x h nd.2
theorem Zp4(t:T Obj): ∀(l:List (Nat×Win)) (b:Nat),(∀x,(b,x)∉l)→(ZhY t l).get b=t.get b
 |[],_,_=>rfl
 |y::l,b,h=>by
  show((ZhY t l).set y.1 (.row y.2.row)).get b=_
  rw[T.get_set,if_neg fun e=>h y.2 (by rw[←e];exact Zy ..)]
  exact Zp4 t l b fun x hx=>h x (ZB _ hx)
theorem Zls{b:Nat}: ∀{l:List (Nat×Win)},(∀x,(b,x)∉l)→ZjO b l=none
 |[],_=>rfl
 |y::l,h=>by
  unfold ZjO
  rw[if_neg fun e=>h y.2 (by rw[←e];exact Zy ..)]
  exact Zls fun x hx=>h x (ZB _ hx)
theorem Sim.add{σ:Mp}{H:Heap}{W:World}(hs:Sim P σ H W){n:Nat}{ws:List (Nat×Win)}(hn:H.nx≤n)(nd:(ws.map (·.1)).Nodup)(hlt: ∀b x,(b,x)∈ws→H.nx≤b∧b<n)
  (hsoft: ∀b o,H.t.get b=some o→Soft o∨ ∃es,o= .cmap es)(hw: ∀b x,(b,x)∈ws→ZBA W (ZiX σ ws) x):Sim P (ZiX σ ws) ⟨n,ZhY H.t ws,n⟩ W:=by
 have old: ∀b,b<H.nx→ZiX σ ws b=σ b:=fun b hb=>by
  unfold ZiX
  rw[Zls fun x hx=>by have:=(hlt b x hx).1;omega]
 have ext:Ext σ (ZiX σ ws):=fun b l h=>by rw[old b (hs.dom b l h)];exact h
 have wat: ∀b x,(b,x)∈ws→ZiX σ ws b=some x.loc:=fun b x h=>by unfold ZiX;rw[Zlq h nd]
 have wal: ∀b x,(b,x)∈ws→ ∃c,W.heap[x.loc.blk]? =some c∧ObjRel (ZiX σ ws) (.row x.row) x.loc c:=by
  intro b x h1
  obtain⟨h2,h3,cs,fr,h4,h5,h6⟩:=hw b x h1
  refine⟨_,h4,cs,fr,rfl,?_⟩
  have key: ∀i,i<Yt x.cells→ ∃a,x.cells[i]? =some a:=fun i hi=>by
   rw[Yr] at hi
   exact⟨_,Zp hi⟩
  refine⟨h2,by omega,by rw[h2];show Yt x.cells≤x.loc.tot*1;rw[Yr];omega,by rw[h2];omega,(fun h=>by cases h),fun i hi=>?_,fun i v hi hv=>?_,(fun h=>by cases h),(fun h=>by cases h)⟩
  ·obtain⟨a,ha⟩:=key i hi
   obtain⟨v,h7,h8,_⟩:=h6 i a ha
   rw[Win.get_row ha]
   exact⟨v,h7,h8⟩
  ·obtain⟨a,ha⟩:=key i hi
   obtain⟨v',h7,_,h8⟩:=h6 i a ha
   rw[hv] at h7;cases h7;exact h8
 have all: ∀b o l,(ZhY H.t ws).get b=some o→ZiX σ ws b=some l→(∃c,W.heap[l.blk]? =some c∧ObjRel (ZiX σ ws) o l c)∧((∃r,o= .row r∧r.own=false)∨(H.t.get b=some o∧σ b=some l∧ ∃es,o= .cmap es)):=by
  intro b o l h hl
  rcases Zlr H.t ws b o h with⟨x,h1,rfl⟩|h1
  ·rw[wat b x h1] at hl;cases hl
   exact⟨wal b x h1, .inl ⟨_,rfl,rfl⟩⟩
  ·have hb:=hs.low b o h1
   rw[old b hb] at hl
   obtain⟨c,h2,h3⟩:=hs.alive b o l h1 hl
   refine⟨⟨c,h2,h3.mono ext⟩,?_⟩
   rcases hsoft b o h1 with h4|h4
   ·exact .inl h4
   ·exact .inr ⟨h1,hl,h4⟩
 refine⟨fun b l h=>?_,fun b o h=>?_,fun b o l h hl=>(all b o l h hl).1,fun b b' o o' l l' h h' hl hl' e=>?_,fun g hg=>?_,Zk _⟩
 ·show b<n
  unfold ZiX at h
  split at h
  ·rename_i x hx;exact(hlt b x (Zne hx)).2
  ·exact ZF (hs.dom b l h) hn
 ·show b<n
  rcases Zlr H.t ws b o h with⟨x,h1,_⟩|h1
  ·exact(hlt b x h1).2
  ·exact ZF (hs.low b o h1) hn
 ·obtain⟨⟨c,c1,c2⟩,a1⟩:=all b o l h hl
  obtain⟨⟨c',c3,c4⟩,a2⟩:=all b' o' l' h' hl'
  rcases a1 with a1|⟨g1,g2,es,rfl⟩<;>rcases a2 with a2|⟨g3,g4,es',rfl⟩
  ·exact .inr ⟨a1,a2⟩
  ·exfalso
   obtain⟨r,rfl,_⟩:=a1
   obtain⟨_,_,rfl,_⟩:=c2
   obtain⟨_,_,_,rfl,_⟩:=c4
   rw[e,c3] at c1;cases c1
  ·exfalso
   obtain⟨r,rfl,_⟩:=a2
   obtain⟨_,_,rfl,_⟩:=c4
   obtain⟨_,_,_,rfl,_⟩:=c2
   rw[e,c3] at c1;cases c1
  ·rcases hs.inj b b' _ _ l l' g1 g3 g2 g4 e with h|⟨⟨_,h,_⟩,_⟩
   ·exact .inl h
   ·cases h
 ·obtain⟨l,h1,h2⟩:=hs.glob g hg
  exact⟨l,ext g l h1,h2⟩
end
end Go.AI
namespace Go.AI
open Go
noncomputable section
variable {P:Program} {H:Type} {enc:TypeId×Value→H}
theorem ZwS{W:World}{r:Reach}{base:Nat}{t:TypeId}{v:Value}{k:IntKind}(ht:P.underlying t=some (.int k))(hok:Cell.okWide P W r base t v): ∃n,v= .int k n∧k.has n:=by
 have hk:Cell.ok P W r base t v:=by
  unfold Cell.okWide at hok
  rw[ht] at hok
  simpa using hok
 unfold Cell.ok at hk
 rw[ht] at hk
 cases v with
 |int k' n=>exact⟨n,by rw[hk.1],hk.2⟩
 |_=>simp at hk
theorem ZzD{W:World}{r:Reach}{base:Nat}{t:TypeId}{v:Value}{k:IntKind}(ht:P.underlying t=some (.int k))(hok:Value.okWide P W r base t v): ∃n,v= .int k n∧k.has n:=by
 unfold Value.okWide at hok
 rw[ht] at hok
 exact ZwS ht hok
theorem Zp5{n:Nat}{x:AV}: ∀{l:List AV},Zan n l=true→x∈l→YA n x=true
 |y::l,h,hx=>by
  have h:cond (YA n y) (Zan n l) false=true:=h
  cases hy:YA n y with
  |false=>rw[hy] at h;cases h
  |true=>
   rw[hy] at h
   rcases List.mem_cons.1 hx with rfl|hx
   ·exact hy
   ·exact Zp5 h hx
theorem Zp6{n:Nat}{rs:List (Nat×Nat×List AV)}{ms:List (Nat×List Ent)}(hr:(rs.all fun x=>Nat.ble (Nat.succ x.1) n&&Zan n x.2.2)=true)(hm:(ms.all fun x=>Nat.ble (Nat.succ x.1) n&&x.2.all fun y=>YA n y.key&&YA n y.val)=true){b:Nat}{o:Obj}
  (h:(Zov n rs ms).t.get b=some o):b<n∧ZwR n o∧(Soft o∨ ∃es,o= .cmap es):=by
 rcases Zff rs _ b o h with⟨e,l,hin,rfl⟩|h
 ·have h2:=List.all_eq_true.1 hr _ hin
  rw[Bool.and_eq_true] at h2
  refine⟨ZO h2.1,fun i hi=>?_, .inl ⟨_,rfl,rfl⟩⟩
  have hi:i<l.length:=by rw[←Yr];exact hi
  have e1:(⟨e,1,Yt l,T.ofList l, .unk,0,false,false,true⟩:Row).get i=l[i]:=by
   rw[Row.get_eq]
   show((T.ofList l).get i).getD .unk=_
   rw[T.get_ofList,Zp hi];rfl
  rw[e1]
  exact Zp5 h2.2 (YL hi)
 ·rcases Zfh ms _ b o h with⟨es,hin,rfl⟩|h
  ·have h2:=List.all_eq_true.1 hm _ hin
   rw[Bool.and_eq_true] at h2
   refine⟨ZO h2.1,fun x hx=>?_, .inr ⟨es,rfl⟩⟩
   have h3:=List.all_eq_true.1 h2.2 x hx
   rw[Bool.and_eq_true] at h3
   exact h3
  ·rw[T.get_leaf] at h;cases h
theorem ZzE{σ:Mp}{H:Heap}{W:World}(hs:Sim P σ H W)(h:H.nx≤H.ro)(b:Nat): ¬Wr H b:=by
 rintro ⟨h1,o,h2,_⟩
 have:=hs.low b o h2
 omega
end
end Go.AI
