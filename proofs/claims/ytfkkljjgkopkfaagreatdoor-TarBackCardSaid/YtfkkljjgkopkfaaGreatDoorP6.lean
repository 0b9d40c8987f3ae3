/- Calls looked up; rows and arguments told: proved for every world that is told. -/
import Derived.Test.YtfkkljjgkopkfaaGreatDoorP5
import Derived.WideShapes
import Derived.WideKeyElems2
import Derived.WideKeyArgs
import Derived.OpenShut
import Derived.ProofKit
import Derived.ChangeShapes
import Derived.Deep.Slices
set_option maxRecDepth 1000000
set_option maxHeartbeats 0
set_option linter.all false
namespace Go.AI
open Go
noncomputable section
section
variable {P:Program}
noncomputable def Zel(e:Nat)(l:List AV):Obj:=.row ⟨e,1,YN l,T.ofList l,.unk,0,false,false,false⟩
noncomputable def ZlY(e:Nat->Nat):List (Nat×List AV)->T Obj->T Obj
 |[],t=>t
 |(g,l)::gs,t=>ZlY e gs (t.set g (Zel (e g) l))
noncomputable def Zpe(H:Heap)(gs:List (Nat×List AV)):Bool:=List.rec true (λx _ ih=>cond (match H.t.get x.1 with|some (.row r)=>cond (Nat.beq r.sz 1) (cond (Nat.ble (YN x.2) r.size) (sameL (Vw r 0 (YN x.2)) x.2) false) false|_=>false) ih false) gs
noncomputable def Zar(v:AV)(r:CR):Bool:=match r with|.ret u _=>same u v|_=>false
end
inductive LO where
 |row (elem sz:Nat) (l:List AV) (fz:Nat) (sm own exact:Bool)
 |map (es:List Ss) (clock:Nat)
 |cmap (es:List Ss)
def LO.obj:LO->Obj
 |.row e sz l fz sm own exact=>.row ⟨e,sz,YN l,T.ofList l,.unk,fz,sm,own,exact⟩
 |.map es c=>.map es c
 |.cmap es=>.cmap es
def Zma(a b:AV):Bool:=match a with|.unk=>(match b with|.unk=>true|_=>false)|a=>same a b
def ZbY:List AV->List AV->Bool
 |[],[]=>true
 |a::as,b::bs=>cond (Zma a b) (ZbY as bs) false
 |_,_=>false
def ZbW(a b:Bool):Bool:=cond a b (cond b false true)
def ZbX:List Ss->List Ss->Bool
 |[],[]=>true
 |a::as,b::bs=>cond (Nat.beq a.born b.born) (cond (same a.key b.key) (cond (same a.val b.val) (ZbX as bs) false) false) false
 |_,_=>false
def isO(o:Obj)(x:LO):Bool:=match o,x with
 |.row r,.row e sz l fz sm own exact=>cond (Nat.beq r.elem e) (cond (Nat.beq r.sz sz) (cond (Nat.beq r.size (YN l)) (cond (Nat.beq r.fz fz) (cond (ZbW r.sm sm) (cond (ZbW r.own own) (cond (ZbW r.exact exact)
   (ZbY (Vw r 0 r.size) l) false) false) false) false) false) false) false
 |.map es c,.map fs d=>cond (Nat.beq c d) (ZbX es fs) false
 |.cmap es,.cmap fs=>ZbX es fs
 |_,_=>false
structure ZqR(o p:Obj):Prop where
 to: ∀σ l c,Tq σ o l c->Tq σ p l c
 of: ∀σ l c,Tq σ p l c->Tq σ o l c
 wr:wrO o=wrO p
 soft:Ig o↔Ig p
structure CE where
 args:List AV
 nx:Nat
 ro:Nat
 pre:List (Nat×LO)
 v:AV
 nx2:Nat
 post:List (Nat×LO)
 dead:List Nat
def Zjg:List (Nat×LO)->T Obj->T Obj
 |[],t=>t
 |x::l,t=>(Zjg l t).set x.1 x.2.obj
def Zku:List Nat->T Obj->T Obj
 |[],t=>t
 |b::l,t=>(Zku l t).del b
def jg(b:Nat):List (Nat×LO)->Option LO
 |[]=>none
 |x::l=>cond (Nat.beq x.1 b) (some x.2) (jg b l)
def ZiG(b:Nat):List Nat->Bool
 |[]=>false
 |x::l=>cond (Nat.beq x b) true (ZiG b l)
def CE.heap(x:CE)(gs:List (Nat×List AV))(e:Nat->Nat):Heap:=⟨x.nx,Zjg x.pre (ZlY e gs .leaf),x.ro⟩
def CE.after(x:CE)(H:Heap):Heap:=⟨x.nx2,Zjg x.post (Zku x.dead H.t),H.ro⟩
def Zk9(H:Heap)(b:Nat)(o:LO):Bool:=match H.t.get b with|some p=>isO p o|none=>false
def aZ(H:Heap)(l:List (Nat×LO)):Bool:=List.rec true (λx _ ih=>cond (Zk9 H x.1 x.2) ih false) l
def Zex(H:Heap)(l:List Nat):Bool:=List.rec true (λb _ ih=>cond (match H.t.get b with|none=>true|_=>false) ih false) l
def Zd6(H:Heap)(x:CE)(l:List (Nat×LO)):Bool:=List.rec true (λy _ ih=>cond (cond (ZiG y.1 x.dead) true (match jg y.1 x.post with|some _=>true|none=>Zk9 H y.1 y.2)) ih false) l
def CE.out(x:CE)(r:CR):Bool:=match r with
 |.ret v H=>cond (same v x.v) (cond (Nat.beq H.nx x.nx2) (cond (aZ H x.post) (cond (Zd6 H x x.pre) (Zex H x.dead) false) false) false) false
 |_=>false
def ZiK(x:CE)(l:List (Nat×LO)):Bool:=List.rec true (λy _ ih=>cond (Nat.ble x.ro y.1) (cond (ZiG y.1 x.dead) false
 (cond (match jg y.1 x.pre with|some p=>cond (isO p.obj y.2) false true|none=>cond (Nat.ble x.nx y.1) (wrO y.2.obj) false) ih false)) false) l
def Zdm(x:CE)(l:List Nat):Bool:=List.rec true (λb _ ih=>cond (Nat.ble x.ro b) (match jg b x.pre with|some _=>ih|none=>false) false) l
def ZdG(l:List (Nat×LO)):Bool:=List.rec true (λy _ ih=>cond (wrO y.2.obj) ih false) l
def CE.wf(x:CE):Bool:=cond (ZiK x x.post) (cond (Zdm x x.dead) (ZdG x.pre) false) false
def CE.is(x:CE)(gs:List (Nat×List AV))(args:List AV)(H:Heap):Bool:=cond (Nat.beq H.nx x.nx) (cond (Nat.beq H.ro x.ro) (cond (sameL args x.args) (cond (Zpe H gs) (aZ H x.pre) false) false) false) false
section
variable {P:Program}
def Ig.wrO{o:Obj}(h:Ig o):wrO o=false:=by
 obtain⟨r,rfl,e⟩:=h;exact e
end
section
variable {P:Program}
theorem kT{H:Type}{R:MapEntry->Option ((Lit×DataW H)×List MemPlace)}{fk:Lit->AV}{fv:DataW H->AV}{σ:Mp}: ∀(l:List MapEntry) (entries:List ((Lit×DataW H)×List MemPlace)),
  l.mapM R=some entries->(∀x∈l,∀y,R x=some y->y∈entries->Ym σ (fk y.1.1) x.key∧Ym σ (fv y.1.2) x.val)->
  ∃fs,YE σ fs l∧fs.map SB=entries.map λz=>(fk z.1.1,fv z.1.2)
 |[],entries,h,_=>by
  simp only[List.mapM_nil] at h;cases h;exact⟨[],Mw,rfl⟩
 |x::l,entries,h,hr=>by
  rw[List.mapM_cons] at h;simp only[bind,Option.bind_eq_some_iff,pure] at h;obtain⟨y,h1,zs,h2,h3⟩:=h;cases h3;obtain⟨fs,h4,h5⟩:=kT l zs h2 (λz hz u hu hm=>hr z (ZC _ hz) u hu (ZC _ hm));obtain⟨h6,h7⟩:=hr x (Zw ..) y h1 (Zw ..);refine⟨⟨fk y.1.1,fv y.1.2,x.born⟩::fs,⟨x,l,⟨h6,h7,rfl⟩,h4,rfl⟩,?_⟩;rw[ZD,ZD,h5];rfl
def J3{H:Type}{enc:TypeId×Value->H}{W:World}{t k e:TypeId}{held:Bool}{m:Nat}{cs:List Value}{sorted:List (Lit×DataW H)}{p:List MemPlace}(ht:P.underlying t=some (.map k e))
  (h:DataW.trod enc P W 0 (λ_=>true) held m t cs=some (.map sorted,p)){fk:Lit->AV}{fv:DataW H->AV}{σ:Mp}
  (hk: ∀x l,keyOf P k x=some l->Ym σ (fk l) x)
  (hv: ∀(x:Value) n y,x.formed P e=true->DataW.trod enc P W 0 (λ_=>true) held n e x.cells.toList=some y->(∃key,(key,y.1)∈sorted)->Ym σ (fv y.1) x):
  ∃b es clock fs,cs=[.map (some b)]∧MemPlace.map b∈p∧W.heap[b]? =some (.map es clock)∧YE σ fs es.toList∧(fs.map SB).Perm (sorted.map λq=>(fk q.1,fv q.2)):=by
 cases m with
 |zero=>simp[DataW.trod] at h
 |succ m=>
  have key: ∃b,cs=[.map (some b)]:=by
   unfold DataW.trod at h;rw[ht] at h;rcases cs with _|⟨c0,_|⟨c1,cs⟩⟩
   ·simp at h
   ·cases c0<;>try (simp at h;done)
    rename_i r;cases r with
    |none=>simp at h
    |some b=>exact⟨b,rfl⟩
   ·simp at h
  obtain⟨b,rfl⟩:=key;unfold DataW.trod at h;rw[ht] at h;simp only at h
  split at h
  ·rename_i es clock hb
   split at h
   ·obtain⟨entries,h1,h2⟩:=Option.bind_eq_some_iff.1 h
    split at h2
    ·simp only[Option.some.injEq,Prod.mk.injEq,DataW.map.injEq] at h2
     obtain⟨h3,h4⟩:=h2;have hperm:=WideShapes.sorted_perm (entries.map (·.1))
     rw[h3] at hperm;obtain⟨fs,h5,h6⟩:=kT (fk:=fk) (fv:=fv) (σ:=σ) es.toList entries h1 (λx hx y hy hm=>by
      obtain⟨key,h7,h8⟩:=Option.bind_eq_some_iff.1 hy
      split at h8
      ·rename_i hf
       obtain⟨z,h9,h10⟩:=U0.1 h8
       subst h10
       refine⟨hk _ _ h7,hv _ _ z hf h9 ⟨key,?_⟩⟩
       exact hperm.mem_iff.2 (YC.2 ⟨_,hm,rfl⟩)
      ·cases h8)
     refine⟨b,es,clock,fs,rfl,by rw[<-h4];exact Zw ..,hb,h5,?_⟩;rw[h6];have:=(hperm.map λq:Lit×DataW H=>(fk q.1,fv q.2)).symm;rw[RI] at this;exact this
    ·cases h2
   ·cases h
  ·cases h
def ue:Lit->AV
 |.string s=>.str s
 |.int k n=>.int k n
 |_=>.unk
def Ab{k:TypeId}{q:IntKind}(hu:P.underlying k=some (.int q)){σ:Mp}(x:Value)(l:Lit)(h:keyOf P k x=some l):Ym σ (ue l) x:=by
 unfold keyOf at h;rw[hu] at h;unfold mapKey at h;rw[hu] at h;cases x<;>simp at h
 obtain⟨⟨rfl,_⟩,rfl⟩:=h;simp[ue,Ym]
def Zau{k:TypeId}(hu:P.underlying k=some .string){σ:Mp}(x:Value)(l:Lit)(h:keyOf P k x=some l):Ym σ (ue l) x:=by
 unfold keyOf at h;rw[hu] at h;unfold mapKey at h;rw[hu] at h;cases x<;>simp at h
 obtain⟨_,rfl⟩:=h;simp[ue,Ym]
def cA{x:Value}{v:Value}(h:x.cells.toList=[v])(hx: ∀cs,x≠.agg cs):x=v:=by
 cases x with
 |agg cs=>exact absurd rfl (hx cs)
 |_=>simpa [Value.cells] using h
def BH{e:TypeId}{d:TypeDesc}(hu:P.underlying e=some d)(hd:(match d with|.struct _|.array _ _=>false|_=>true)=true){x:Value}(h:x.formed P e=true): ∀cs,x≠.agg cs:=by
 rintro cs rfl;unfold Value.formed at h;rw[hu] at h;cases d<;>first|(simp at hd;done)|(simp at h;done)
def rY(d:DataW Unit):AV:=match d with
 |.lit (.int k n)=>.int k n
 |.agg ds=>.agg (Ev ds)
 |_=>.unk
def iS{e:TypeId}{q:IntKind}(hu:P.underlying e=some (.int q)){σ:Mp}{W:World}(x:Value)(n:Nat)(y:DataW Unit×List MemPlace)(hf:x.formed P e=true)
  (h:DataW.trod (λ_=>()) P W 0 (λ_=>true) false n e x.cells.toList=some y):Ym σ (rY y.1) x:=by
 obtain⟨z,h1,rfl,_⟩:=DataW.trod_int hu h;rw[cA h1 (BH hu rfl hf)];simp[rY,Ym]
def Zfr{e:TypeId}{c:Nat}{W:World}(hr:TG P W e c)(hu: ∃n a,P.underlying e=some (.array n a)){σ:Mp}(x:Value)(n:Nat)(y:DataW Unit×List MemPlace)(hf:x.formed P e=true)
  (h:DataW.trod (λ_=>()) P W 0 (λ_=>true) false n e x.cells.toList=some y)(hy: ∃ds,y.1=.agg ds):Ym σ (rY y.1) x:=by
 obtain⟨_,h2,h3⟩:=hr _ _ _ h;obtain⟨ds,hds⟩:=hy;obtain⟨k,a,hu⟩:=hu;have hx: ∃cs,x=.agg cs:=by
  unfold Value.formed at hf;cases x<;>first|exact⟨_,rfl⟩|(rw[hu] at hf;simp at hf;done)|(simp at hf;done)
 obtain⟨cs,rfl⟩:=hx;rw[hds] at h2 ⊢;simp only[rY,Ym];refine⟨cs.toList,?_,λv hv=>h3 v hv,rfl⟩;have h2:YR (λ_=>none) (Ev ds) cs.toList:=h2;exact YR.mono (λb l h=>by cases h) h2
def zG{e:TypeId}{ps rs:Array TypeId}{va:Bool}(hu:P.underlying e=some (.func ps rs va)){σ:Mp}{W:World}{name:String}{f:Nat}(hf:P.funcNamed name=some f)(hne:name.toUTF8.data.toList≠[])
  (x:Value)(n:Nat)(y:DataW (Zd)×List MemPlace)(hform:x.formed P e=true)
  (h:DataW.trod (funcToken P) P W 0 (λ_=>true) true n e x.cells.toList=some y)(hy:y.1=.held name.toUTF8.data.toList):Ym σ (.func f [] []) x:=by
 have hone:=BH hu rfl hform;cases n with
 |zero=>simp[DataW.trod] at h
 |succ n=>
  unfold DataW.trod at h;rw[hu] at h;have hx:x.cells.toList=[x]:=by cases x<;>first|rfl|exact absurd rfl (hone _)
  rw[hx] at h;cases x with
  |nilFunc=>simp at h;subst h;cases hy
  |func fn a b=>
   simp at h;subst h;simp only[DataW.held.injEq] at hy;unfold funcToken at hy;cases fn with
   |func g=>
    simp only at hy
    split at hy
    ·rename_i hab
     simp only[Z4,Array.isEmpty_iff] at hab;obtain⟨rfl,rfl⟩:=hab;cases hg:P.funcs[g]? with
     |none=>rw[hg] at hy;exact absurd hy.symm hne
     |some fn=>
      rw[hg] at hy;simp only at hy
      split at hy
      ·rename_i hn
       have h1:fn.name.toUTF8=name.toUTF8:=by
        have h2:fn.name.toUTF8.data=name.toUTF8.data:=Array.toList_inj.1 hy;cases h3:fn.name.toUTF8;cases h4:name.toUTF8;rw[h3,h4] at h2;simp only at h2;rw[h2]
       have h5:fn.name=name:=by
        exact String.toByteArray_inj.1 h1
       rw[h5] at hn;have hn:P.funcNamed name=some g:=by simpa using hn
       rw[hf] at hn;cases hn;simp only[Ym];exact⟨[],[],Ux,Ux,rfl⟩
      ·exact absurd hy.symm hne
    ·exact absurd hy.symm hne
   |_=>simp at hy;exact absurd hy.symm (by simpa using hne)
  |_=>simp at h
noncomputable def uG:List (Nat×List Ss)->T Obj->T Obj
 |[],t=>t
 |x::l,t=>uG l (t.set x.1 (.cmap x.2))
theorem Ji: ∀(ms:List (Nat×List Ss)) (t:T Obj) (b:Nat) (o:Obj),(uG ms t).get b=some o->(∃es,(b,es)∈ms∧o=.cmap es)∨t.get b=some o
 |[],t,b,o,h=>.inr h
 |(b',es)::ms,t,b,o,h=>by
  rcases Ji ms _ b o h with⟨es2,h1,h2⟩|h1
  ·exact .inl ⟨es2,ZC _ h1,h2⟩
  ·rw[T.get_set] at h1
   by_cases e3:b'=b
   ·rw[if_pos e3] at h1;cases h1;subst e3;exact .inl ⟨es,Zw ..,rfl⟩
   ·rw[if_neg e3] at h1;exact .inr h1
noncomputable def vD(n:Nat)(rs:List (Nat×Nat×List AV))(ms:List (Nat×List Ss)):Heap:=⟨n,uH rs (uG ms .leaf),n⟩
def gf{W:World}{rs:List (Nat×Nat×List AV)}{ms:List (Nat×List Ss)}{n:Nat}{σ:Mp}(hσ: ∀g,g<P.globals.size-> ∃l,σ g=some l∧l.blk=g∧l.base=0)(hdom: ∀b l,σ b=some l->b<n)
  (hr: ∀b e l,(b,e,l)∈rs-> ∃cs fr,σ b=some ⟨b,0,YN l,1⟩∧W.heap[b]? =some (.cells cs e fr)∧YR σ l cs.toList∧ ∀v∈cs,v.oneCell'=true)
  (hm: ∀b es,(b,es)∈ms-> ∃l ents clock fs,σ b=some l∧W.heap[l.blk]? =some (.map ents clock)∧YE σ fs ents.toList∧(fs.map SB).Perm (es.map SB)∧es.Pairwise vz)
  (hi: ∀b es b' es' l l',(b,es)∈ms->(b',es')∈ms->σ b=some l->σ b'=some l'->l.blk=l'.blk->b=b'):WW P σ (vD n rs ms) W:=by
 have hget: ∀b o,(vD n rs ms).t.get b=some o->(∃e l,(b,e,l)∈rs∧o=.row ⟨e,1,YN l,T.ofList l,.unk,0,false,false,true⟩)∨ ∃es,(b,es)∈ms∧o=.cmap es:=by
  intro b o h;rcases Jj rs _ b o h with h|h
  ·exact .inl h
  ·rcases Ji ms _ b o h with h|h
   ·exact .inr h
   ·rw[T.get_leaf] at h;cases h
 refine⟨hdom,λb o h=>?_,λb o l h hl=>?_,λb b' o o' l l' h h' hl hl' e=>?_,hσ,Zs _⟩
 ·rcases hget b o h with⟨e,l,h1,_⟩|⟨es,h1,_⟩
  ·obtain⟨cs,fr,h2,_⟩:=hr b e l h1
   exact hdom b _ h2
  ·obtain⟨l,_,_,_,h2,_⟩:=hm b es h1
   exact hdom b _ h2
 ·rcases hget b o h with⟨e,l',h1,rfl⟩|⟨es,h1,rfl⟩
  ·obtain⟨cs,fr,h2,h3,h4,h5⟩:=hr b e l' h1
   rw[h2] at hl;cases hl;refine⟨_,h3,cs,fr,rfl,?_⟩;have hlen:cs.size=YN l':=by rw[Yw,h4.length];simp
   refine⟨rfl,Zs _,by show YN l'<=YN l'*1;omega,by show 0+YN l'*1<=cs.size;omega,λ_=>⟨by show YN l'=YN l'*1;omega,rfl,hlen⟩,λi hi=>?_,λi v _ hv=>h5 v (Vf hv),(λh=>by cases h),(λh=>by cases h)⟩;have hi:i<YN l':=hi;have hi':i<l'.length:=by rw[Yw] at hi;exact hi
   obtain⟨v,h6,h7⟩:=h4.get (i:=i) (a:=l'[i]) (Zm hi');refine⟨v,by rw[Zl,<-Z7];exact h6,?_⟩;have:(⟨e,1,YN l',T.ofList l',.unk,0,false,false,true⟩:Row).get i=l'[i]:=by
    rw[Row.get_eq];show((T.ofList l').get i).getD .unk=_;rw[T.get_ofList,Zm hi'];rfl
   rw[this];exact h7
  ·obtain⟨l2,ents,clock,fs,h2,h3,h4,h5,h6⟩:=hm b es h1
   rw[h2] at hl;cases hl;exact⟨_,h3,ents,clock,fs,rfl,h4,h5,h6⟩
 ·rcases hget b o h with⟨e1,l1,h1,_⟩|⟨es,h1,_⟩<;>rcases hget b' o' h' with⟨e2,l2,h2,_⟩|⟨es',h2,_⟩
  ·obtain⟨_,_,h3,_⟩:=hr b e1 l1 h1
   obtain⟨_,_,h4,_⟩:=hr b' e2 l2 h2;rw[h3] at hl;rw[h4] at hl';cases hl;cases hl';exact .inl e
  ·exfalso
   obtain⟨_,_,h3,h5,_⟩:=hr b e1 l1 h1;obtain⟨_,_,_,_,h4,h6,_⟩:=hm b' es' h2;rw[h3] at hl;rw[h4] at hl';cases hl;cases hl';have e:b=_:=e;rw[<-e,h5] at h6;cases h6
  ·exfalso
   obtain⟨_,_,h3,h5,_⟩:=hr b' e2 l2 h2;obtain⟨_,_,_,_,h4,h6,_⟩:=hm b es h1;rw[h3] at hl';rw[h4] at hl;cases hl;cases hl';have e:_=b':=e;rw[e,h5] at h6;cases h6
  ·exact .inl<|hi b es b' es' l l' h1 h2 hl hl' e
def zV{l:List (String×DataW Unit)}{w:World}(h:laidMetH P l w):laidMet P (l.filter λx=>x.2.handleName?.isNone) w:=by
 unfold laidMetH at h;generalize hfl:(l.filter λx=>x.2.handleName?.isSome)=fl at h;cases fl with
 |nil=>
  have e:(l.filter λx=>x.2.handleName?.isNone)=l:=by
   rw[List.filter_eq_self];intro x hx;have:=(List.filter_eq_nil_iff.1 hfl) x hx;cases hn:x.2.handleName? with
   |none=>rfl
   |some s=>rw[hn] at this;exact absurd rfl this
  rw[e];exact h
 |cons a as=>exact h.1
theorem Dz{W:World}: ∀{l:List (String×DataW Unit)} {ps:List MemPlace},DataW.LaidVars P W l ps-> ∃pf:Nat->List MemPlace,
  (∀i n d,l[i]? =some (n,d)-> ∃g t cs Zk,P.globalNamed n=some g∧(P.globals[g]?).map (·.type)=some t∧W.var? P n=some cs∧DataW.trod (λ_=>()) P W 0 (λ_=>true) false Zk t cs.toList=some (d,pf i)∧ ∀x∈MemPlace.row ⟨g,0,none⟩ cs.size,x∈ps)∧
  (∀i x,i<l.length->x∈pf i->x∈ps)∧(ps.Nodup-> ∀i j x,i<j->j<l.length->x∈pf i->x∈pf j->False)
 |[],_,_=>⟨λ_=>[],(λi n d h=>by simp at h),(λi x h=>by simp at h),(λ_ i j x _ h=>by simp at h)⟩
 |(n',d')::r,ps,h=>by
  obtain⟨g,t,cs,Zk,p,q,h1,h2,h3,h4,h5,rfl⟩:=h;obtain⟨pf,k1,k2,k3⟩:=Dz h5;refine⟨λi=>match i with|0=>p|i+1=>pf i,λi n d hi=>?_,λi x hi hx=>?_,λhnd i j x hij hj hx hx'=>?_⟩
  ·cases i with
   |zero=>
    simp only[Uf,Option.some.injEq,Prod.mk.injEq] at hi;obtain⟨rfl,rfl⟩:=hi;exact⟨g,t,cs,Zk,h1,h2,h3,h4,λx hx=>Zt.2 (.inl (Zt.2 (.inl hx)))⟩
   |succ i=>
    simp only[Ue] at hi;obtain⟨g',t',cs',fuel',m1,m2,m3,m4,m5⟩:=k1 i n d hi;exact⟨g',t',cs',fuel',m1,m2,m3,m4,λx hx=>Zt.2 (.inr (m5 x hx))⟩
  ·cases i with
   |zero=>exact Zt.2 (.inl (Zt.2 (.inr hx)))
   |succ i=>exact Zt.2 (.inr (k2 i x (by simpa using hi) hx))
  ·obtain⟨n1,n2,n3⟩:=T0.1 hnd
   cases j with
   |zero=>omega
   |succ j=>
    have hj':j<r.length:=by simpa using hj
    cases i with
    |zero=>exact n3 x (Zt.2 (.inr hx)) x (k2 j x hj' hx') rfl
    |succ i=>exact k3 n2 i j x (by omega) hj' hx hx'
theorem Bw{σ:Mp}{p:AV->Prop}: ∀{fs:List Ss} {l:List MapEntry},YE σ fs l->(∀e∈fs,p e.val)-> ∀x∈l,∃a,p a∧Ym σ a x.val
 |[],l,h,hp,x,hx=>by simp only[YE] at h;subst h;cases hx
 |e::fs,l,h,hp,x,hx=>by
  obtain⟨m,ms,g1,g2,rfl⟩:=h.cons_inv;rcases ZY.1 hx with rfl|hx
  ·exact⟨e.val,hp e (Zw ..),g1.2.1⟩
  ·exact Bw g2 (λf hf=>hp f (ZC _ hf)) x hx
theorem De{σ:Mp}: ∀{fs:List Ss} {l:List MapEntry},YE σ fs l->l.length=fs.length
 |[],l,h=>by simp only[YE] at h;subst h;rfl
 |e::fs,l,h=>by
  obtain⟨m,ms,g1,g2,rfl⟩:=h.cons_inv;rw[ZL,ZL,De g2]
def Zls:AV->Bool|.func .. =>true|_=>false
def jE:AV->Bool|.int .. =>true|.agg _=>true|_=>false
def PM{σ:Mp}{fs fs':List Ss}{es es':List Ss}{l:List MapEntry}(h:YE σ fs l)(h':YE σ fs' l)(hp:(fs.map SB).Perm (es.map SB))(hp':(fs'.map SB).Perm (es'.map SB))
  (ha:es.all (λe=>Zls e.val)=true)(hb:es'.all (λe=>jE e.val)=true)(hne:es≠[]):False:=by
 have all: ∀{fs es:List Ss} {q:AV->Bool},(fs.map SB).Perm (es.map SB)->es.all (λe=>q e.val)=true-> ∀e∈fs,q e.val=true:=by
  intro fs es q hp ha e he;have h1:SB e∈es.map SB:=hp.mem_iff.1 (YC.2 ⟨e,he,rfl⟩);obtain⟨e',h2,h3⟩:=YC.1 h1;have h4:=Ya.1 ha e' h2;simp only[SB,Prod.mk.injEq] at h3;rw[<-h3.2];exact h4
 have hlen:l≠[]:=by
  intro hl;have h1:=De h;have h2:=hp.length_eq;rw[hl] at h1;rw[Zx,Zx,<-h1] at h2;exact hne (YF.1 h2.symm)
 obtain⟨x,l',rfl⟩:=List.exists_cons_of_ne_nil hlen;obtain⟨a,h1,h2⟩:=Bw (p:=λa=>Zls a=true) h (all hp ha) x (Zw ..);obtain⟨b,h3,h4⟩:=Bw (p:=λa=>jE a=true) h' (all hp' hb) x (Zw ..);cases a<;>first|(cases h1;done)|skip
 obtain⟨_,_,_,_,e⟩:=Mb h2;rw[e] at h4;cases b<;>first|(cases h3;done)|skip
 ·cases XX h4
 ·obtain⟨_,_,_,e⟩:=LV h4;cases e
noncomputable def CX:List Ss->Bool
 |[]=>true
 |e::l=>(l.all λf=>KF e.key f.key&&KF f.key e.key)&&CX l
theorem Og: ∀{es:List Ss},CX es=true->es.Pairwise vz
 |[],_=>List.Pairwise.nil
 |e::l,h=>by
  unfold CX at h;obtain⟨h1,h2⟩:=Qx.1 h;refine TC.2 ⟨λf hf=>?_,Og h2⟩;have:=Ya.1 h1 f hf;exact Qx.1 this
end
section
variable {P:Program}
end
section
variable {P:Program}
structure Cb where
 loc:Loc
 elem:Nat
 cells:List AV
def Cb.row(x:Cb):Row:=⟨x.elem,1,YN x.cells,T.ofList x.cells,.unk,0,false,false,false⟩
def Di(b:Nat):List (Nat×Cb)->Option Cb
 |[]=>none
 |y::l=>if y.1=b then some y.2 else Di b l
theorem yP{b:Nat}{x:Cb}: ∀{l:List (Nat×Cb)},Di b l=some x->(b,x)∈l
 |[],h=>by cases h
 |y::l,h=>by
  unfold Di at h
  split at h
  ·rename_i e;cases h;rw[<-e];exact Zw ..
  ·exact ZC _ (yP h)
theorem GQ{b:Nat}{x:Cb}: ∀{l:List (Nat×Cb)},(b,x)∈l->(l.map (·.1)).Nodup->Di b l=some x
 |y::l,h,nd=>by
  rw[ZD,SO] at nd;unfold Di;rcases ZY.1 h with rfl|h
  ·rw[if_pos rfl]
  ·rw[if_neg (λe=>nd.1 (by rw[e];exact VQ (f:=Prod.fst) h))]
   exact GQ h nd.2
structure Zfy(W:World)(σ:Mp)(x:Cb):Prop where
 sz:x.loc.sz=1
 fits:x.cells.length<=x.loc.tot
 cells: ∃cs fr,W.heap[x.loc.blk]? =some (.cells cs x.elem fr)∧x.loc.base+x.loc.tot<=cs.size∧ ∀(i:Nat) (a:AV),x.cells[i]? =some a-> ∃v,cs[x.loc.base+i]? =some v∧Ym σ a v∧v.oneCell'=true
def Cb.get_row{x:Cb}{i:Nat}{a:AV}(h:x.cells[i]? =some a):x.row.get i=a:=by
 rw[Row.get_eq];show((T.ofList x.cells).get i).getD .unk=a;rw[T.get_ofList,h];rfl
def dh{call:Nat->List AV->Heap->CR}(hcall:PD P call){f:FuncId}{fn:Func}{c:Code}(hf:P.funcs[f]? =some fn)(hname:fn.name≠ "runtime.NumGoroutine")(hb:fn.body=some c)
  {σ:Mp}{H H':Heap}{W:World}(hs:WW P σ H W)(hw: ∀b,¬Wr H b){as:List AV}{vs:List Value}(ha:YR σ as vs)(hr:call f as H=.ret (.bool true) H'):
  Calls P f ⟨vs⟩ W λe W'=>e=.returned (.bool true)∧W'.os=W.os∧W'.output=W.output∧ ∀i,i<W.heap.size->W'.heap[i]? =W.heap[i]? :=by
 have h:=hcall f as H σ W vs hs ha;rw[hr,P6 hf hname hb] at h;refine Calls.mono h λe W' he=>?_;cases e with
 |returned v=>
  obtain⟨σ',h1,t⟩:=he;exact⟨by rw[T7 h1],t.os,t.out,λi hi=>t.frame i hi λb _ hb=>absurd hb (hw b)⟩
 |panicked ch=>obtain⟨_,_,h⟩:=he;exact h.elim
 |outgrown=>exact he.elim
end
section
open Go Go.ChangeShapes Go.WideShapes Go.ChangeAt Go.RowKit
variable {H:Type} {enc:TypeId×Value->H} {P:Program}
def Ze6{W W':World}(h: ∀i,i<W.heap.size->W'.heap[i]? =W.heap[i]?){p:MemPlace}(hp:p.block<W.heap.size):W.sameAt W' p:=by
 cases p with
 |cell b off=>
  show W'.cell? ⟨b,off,none⟩=W.cell? ⟨b,off,none⟩;unfold World.cell?;rw[h b hp]
 |map b=>exact h b hp
theorem F0(hl:laidOutB P=true){W W':World}{sp:Nat->Bool}(h: ∀i,i<W.heap.size->W'.heap[i]? =W.heap[i]?): ∀{ts:List TypeId} {vs:List Value} {ds:List (DataW H)} {ps:List MemPlace},
  (∀t∈ts,P.readableRec t=true∧t<P.types.size)->DataW.TrodAll enc P W 0 (λ_=>true) true ts vs ds ps->(∀p∈ps,p.block<W.heap.size∧sp p.block=true)->DataW.TrodAll enc P W' 0 sp true ts vs ds ps
 |[],[],[],ps,_,ht,_=>ht
 |t::ts,v::vs,d::ds,ps,hts,ht,hp=>by
  obtain⟨p,q,h1,h2,rfl⟩:=ht;obtain⟨r1,r2⟩:=hts t (Zw ..);refine⟨p,q,WideElems.Trod_stays hl r1 r2 h1 (λx hx=>Ze6 h (hp x (Zt.2 (.inl hx))).1) (λx hx=>(hp x (Zt.2 (.inl hx))).2),?_,rfl⟩;exact F0 hl h (λt ht=>hts t (ZC _ ht)) h2 λx hx=>hp x (Zt.2 (.inr hx))
 |[],_::_,_,_,_,ht,_=>ht.elim
 |[],[],_::_,_,_,ht,_=>ht.elim
 |_::_,[],_,_,_,ht,_=>ht.elim
 |_::_,_::_,[],_,_,ht,_=>ht.elim
def ZaA{fn:Func}{s:ChangeSpec}{W W':World}{args:Array Value}{ds gs:List (DataW H)}{before:List MemPlace}{tb:TypeId}(hl:laidOutB P=true)(hts: ∀t∈fn.params.toList,P.readableRec t=true∧t<P.types.size)
  (hv:s.vars=[])(hr:fn.resultTypes= #[tb])(htb:P.underlying tb=some .bool)(hW:DataW.Whole enc P fn.params.toList s.vars false W args.toList ds gs before)
  (hres:(s.fn H (ds++gs)).results=[.lit (.bool true)])(hargs:(s.fn H (ds++gs)).args=ds)(hvars:(s.fn H (ds++gs)).vars=[])
  (h1:W'.os=W.os)(h2:W'.output=W.output)(h3: ∀i,i<W.heap.size->W'.heap[i]? =W.heap[i]?):s.post enc P fn false true false false W args (.bool true) W':=by
 have hlt:=hW.lt;have hW':=hW;obtain⟨p,q,hA,hV,rfl,_,_⟩:=hW;rw[hv] at hV;obtain⟨rfl,rfl⟩:=trodVars_none hV;refine⟨ds,[],p++[],[],p,[],hW',?_,?_,?_,World.keptBut_mono (λx hx=>hx.elim) (v6 (may:=λ_=>False) h1 h2 h3),λh=>by cases h⟩
 ·rw[hres,hr]
  exact trodAll_mk1 (shut_bool htb _)
 ·rw[hargs]
  exact F0 hl h3 hts hA λx hx=>⟨hlt x (by simpa using hx),by simpa using hlt x (by simpa using hx)⟩
 ·rw[hvars,hv]
  rfl
end
section
variable {P:Program}
def ZaK(n:Nat):Obj->Prop
 |.row r=> ∀i,i<r.size->WZ n (r.get i)=true
 |.cmap es=> ∀x∈es,WZ n x.key=true∧WZ n x.val=true
 |_=>False
theorem YE.cutE{σ:Mp}{n:Nat}: ∀{es:List Ss} {l:List MapEntry},(∀x∈es,WZ n x.key=true∧WZ n x.val=true)->YE σ es l->YE (σ.cut n) es l
 |[],l,_,r=>by simpa [YE] using r
 |x::es,l,h,r=>by
  simp only[YE] at r ⊢;obtain⟨e,l',h1,h2,h3⟩:=r;obtain⟨k1,k2⟩:=h x (Zw ..);exact⟨e,l',⟨Ym.cut k1 h1.1,Ym.cut k2 h1.2.1,h1.2.2⟩,YE.cutE (λy hy=>h y (ZC _ hy)) h2,h3⟩
def Tq.cutO{σ:Mp}{n:Nat}{o:Obj}{l:Loc}{c:Go.Obj}(h:ZaK n o)(r:Tq σ o l c):Tq (σ.cut n) o l c:=by
 cases o with
 |row q=>
  obtain⟨cs,fr,rfl,r⟩:=r;refine⟨cs,fr,rfl,r.sz,r.sz1,r.fits,r.room,r.exact,λi hi=>?_,r.one,r.frz,r.frs⟩;obtain⟨v,h1,h2⟩:=r.cell i hi;exact⟨v,h1,Ym.cut (h i hi) h2⟩
 |cmap es=>
  obtain⟨ents,clock,fs,h1,h2,h3,h4⟩:=r;refine⟨ents,clock,fs,h1,YE.cutE (λx hx=>?_) h2,h3,h4⟩;have hm:SB x∈es.map SB:=h3.subset (VQ (f:=SB) hx);obtain⟨y,hy,e⟩:=YC.1 hm;have hk:y.key=x.key:=congrArg Prod.fst e;have hv:y.val=x.val:=congrArg Prod.snd e;rw[<-hk,<-hv];exact h y hy
 |_=>exact h.elim
def WW.cutTo{σ:Mp}{H:Heap}{w:World}{n:Nat}{t:T Obj}(hs:WW P σ H w)(hn:P.globals.size<=n)(ht: ∀b o,t.get b=some o->b<n∧H.t.get b=some o∧ZaK n o):WW P (σ.cut n) ⟨n,t,n⟩ w:=by
 refine⟨λb l h=>(Mp.cut_some h).1,λb o h=>(ht b o h).1,λb o l h hl=>?_,λb b' o o' l l' h h' hl hl' e=>?_,λg hg=>?_,Zs _⟩
 ·obtain⟨_,h1,h2⟩:=ht b o h
  obtain⟨c,h3,h4⟩:=hs.alive b o l h1 (Mp.cut_some hl).2;exact⟨c,h3,h4.cutO h2⟩
 ·exact hs.inj b b' o o' l l' (ht b o h).2.1 (ht b' o' h').2.1 (Mp.cut_some hl).2 (Mp.cut_some hl').2 e
 ·obtain⟨l,h1,h2⟩:=hs.glob g hg
  exact⟨l,by rw[Mp.cut_lt (by omega)];exact h1,h2⟩
def Bears(n:Nat)(t:T Obj)(H:Heap):Prop:=n<=H.nx∧ ∀b o,t.get b=some o->H.t.get b=some o
def Bears.keep{n:Nat}{t:T Obj}{H H':Heap}(h:Bears n t H)(hlt: ∀b o,t.get b=some o->b<n)(hnx:H.nx<=H'.nx)(hk: ∀c,c<H.nx->H'.t.get c=H.t.get c):Bears n t H':=
 ⟨Yb h.1 hnx,λb o hb=>(hk b (ZK (hlt b o hb) h.1)).trans (h.2 b o hb)⟩
structure iZ where
 f:Nat
 args:List AV
 v:AV
def L1(n:Nat)(t:(Nat->Nat)->T Obj)(base:Nat->List AV->Heap->Option CR):List iZ->Nat->List AV->Heap->Option CR
 |[],f,args,H=>base f args H
 |x::l,f,args,H=>cond (Nat.beq x.f f) (open Classical in if args=x.args∧ ∃e,Bears n (t e) H then some (.ret x.v H) else L1 n t base l f args H) (L1 n t base l f args H)
theorem ve{n:Nat}{t:(Nat->Nat)->T Obj}(hn:P.globals.size<=n)(ht: ∀e b o,(t e).get b=some o->b<n∧ZaK n o∧(Ig o∨ ∃es,o=.cmap es)){base:Nat->List AV->Heap->Option CR}(hb:Kb P base): ∀l:List iZ,
  (∀x∈l,∃call,PD P call∧Pu 0 x.args=true∧WZ 0 x.v=true∧ ∀e,Zar x.v (call x.f x.args ⟨n,t e,n⟩)=true)->Kb P (L1 n t base l)
 |[],_=>hb
 |x::l,hl=>by
  intro f args H r h σ w vs hs hv;have ih:=ve hn ht hb l λy hy=>hl y (ZC _ hy);unfold L1 at h;cases hf:Nat.beq x.f f with
  |false=>rw[hf] at h;exact ih f args H r h σ w vs hs hv
  |true=>
   have:=Yf hf;subst this;rw[hf,cond_true] at h
   split at h
   ·rename_i hc
    obtain⟨rfl,e,hle,Zla⟩:=hc;cases h;obtain⟨call,hcall,Zlc,Zld,hev⟩:=hl x (Zw ..);have Zid:WW P (σ.cut n) ⟨n,t e,n⟩ w:=hs.cutTo hn λb o hb=>⟨(ht e b o hb).1,Zla b o hb,(ht e b o hb).2.1⟩;have Zlh: ∀y,¬Wr (⟨n,t e,n⟩:Heap) y:=by
     rintro y ⟨h1,ob,h2,_⟩;have h1:n<=y:=h1;have:=(ht e y ob h2).1;omega
    have hrel:YR (σ.cut n) x.args vs:=YR.mono (λb l hb=>by have:=(Mp.cut_some hb).1;omega) (YR.cut (n:=0) Zlc hv);have hcr:=hcall x.f x.args ⟨n,t e,n⟩ (σ.cut n) w vs Zid hrel;have hret:=hev e;generalize call x.f x.args ⟨n,t e,n⟩=res at hcr hret;cases res with
    |fail=>cases hret
    |pan _ _=>cases hret
    |ret v' H''=>
     have:=CK _ _ hret;subst this;refine Ends.mono (λu' w' hx=>?_) (λ_ _ hx=>hx) hcr;obtain⟨σ2,h1,t'⟩:=hx;have hfr: ∀j,j<w.heap.size->w'.heap[j]? =w.heap[j]? :=λj hj=>t'.frame j hj λy _ hy _=>absurd hy (Zlh y);refine⟨σ,?_,(vx.mem (Ext.refl σ) t'.size hfr (λ_ _ _ _ h _=>h) t'.tape t'.os t'.out).full (hs.grow hfr) λ_ _ hx=>⟨rfl,hx⟩⟩;exact(Ym.cut Zld h1).mono λy _ hy=>by have:=(Mp.cut_some hy).1;omega
   ·exact ih _ _ _ _ h σ w vs hs hv
theorem L3{n:Nat}{t:(Nat->Nat)->T Obj}{base:Nat->List AV->Heap->Option CR}{H:Heap}{e:Nat->Nat}(hb:Bears n (t e) H): ∀{l:List iZ} {x:iZ},x∈l->(∀y∈l,y.f=x.f->y.args=x.args->y.v=x.v)->L1 n t base l x.f x.args H=some (.ret x.v H)
 |y::l,x,hx,hu=>by
  unfold L1
  by_cases hf:y.f=x.f
  ·rw[hf,show Nat.beq x.f x.f=true from YD _,cond_true]
   by_cases ha:y.args=x.args
   ·rw[if_pos ⟨ha.symm,e,hb⟩,hu y (Zw ..) hf ha]
   ·rw[if_neg λh=>ha h.1.symm]
    rcases ZY.1 hx with rfl|hx
    ·exact absurd rfl ha
    ·exact L3 hb hx λz hz=>hu z (ZC _ hz)
  ·have:Nat.beq y.f x.f=false:=by rw[Yl];exact Zc hf
   rw[this];rcases ZY.1 hx with rfl|hx
   ·exact absurd rfl hf
   ·exact L3 hb hx λz hz=>hu z (ZC _ hz)
def I8(t:T Obj):List (Nat×Cb)->T Obj
 |[]=>t
 |x::l=>(I8 t l).set x.1 (.row x.2.row)
def KE(σ:Mp)(ws:List (Nat×Cb)):Mp:=λb=>match Di b ws with
 |some x=>some x.loc
 |none=>σ b
theorem CT(t:T Obj): ∀(l:List (Nat×Cb)) (b:Nat) (o:Obj),(I8 t l).get b=some o->(∃x,(b,x)∈l∧o=.row x.row)∨t.get b=some o
 |[],_,_,h=>.inr h
 |y::l,b,o,h=>by
  have h:((I8 t l).set y.1 (.row y.2.row)).get b=some o:=h;rw[T.get_set] at h
  by_cases e:y.1=b
  ·rw[if_pos e] at h;cases h;subst e;exact .inl ⟨y.2,Zw ..,rfl⟩
  ·rw[if_neg e] at h
   rcases CT t l b o h with⟨x,h1,h2⟩|h1
   ·exact .inl ⟨x,ZC _ h1,h2⟩
   ·exact .inr h1
theorem lY(t:T Obj): ∀(l:List (Nat×Cb)) (b:Nat) (x:Cb),(b,x)∈l->(l.map (·.1)).Nodup->(I8 t l).get b=some (.row x.row)
 |y::l,b,x,h,nd=>by
  show((I8 t l).set y.1 (.row y.2.row)).get b=some (.row x.row);rw[ZD,SO] at nd;rw[T.get_set];rcases ZY.1 h with rfl|h
  ·rw[if_pos rfl]
  ·rw[if_neg (λe=>nd.1 (by rw[e];exact VQ (f:=Prod.fst) h))]
   exact lY t l b x h nd.2
theorem tB(t:T Obj): ∀(l:List (Nat×Cb)) (b:Nat),(∀x,(b,x)∉l)->(I8 t l).get b=t.get b
 |[],_,_=>rfl
 |y::l,b,h=>by
  show((I8 t l).set y.1 (.row y.2.row)).get b=_;rw[T.get_set,if_neg λe=>h y.2 (by rw[<-e];exact Zw ..)];exact tB t l b λx hx=>h x (ZC _ hx)
theorem BD{b:Nat}: ∀{l:List (Nat×Cb)},(∀x,(b,x)∉l)->Di b l=none
 |[],_=>rfl
 |y::l,h=>by
  unfold Di;rw[if_neg λe=>h y.2 (by rw[<-e];exact Zw ..)];exact BD λx hx=>h x (ZC _ hx)
def WW.add{σ:Mp}{H:Heap}{W:World}(hs:WW P σ H W){n:Nat}{ws:List (Nat×Cb)}(hn:H.nx<=n)(nd:(ws.map (·.1)).Nodup)(hlt: ∀b x,(b,x)∈ws->H.nx<=b∧b<n)
  (Zlj: ∀b o,H.t.get b=some o->Ig o∨ ∃es,o=.cmap es)(hw: ∀b x,(b,x)∈ws->Zfy W (KE σ ws) x):WW P (KE σ ws) ⟨n,I8 H.t ws,n⟩ W:=by
 have old: ∀b,b<H.nx->KE σ ws b=σ b:=λb hb=>by
  unfold KE;rw[BD λx hx=>by have:=(hlt b x hx).1;omega]
 have ext:Ext σ (KE σ ws):=λb l h=>by rw[old b (hs.dom b l h)];exact h
 have wat: ∀b x,(b,x)∈ws->KE σ ws b=some x.loc:=λb x h=>by unfold KE;rw[GQ h nd]
 have wal: ∀b x,(b,x)∈ws-> ∃c,W.heap[x.loc.blk]? =some c∧Tq (KE σ ws) (.row x.row) x.loc c:=by
  intro b x h1;obtain⟨h2,h3,cs,fr,h4,h5,h6⟩:=hw b x h1;refine⟨_,h4,cs,fr,rfl,?_⟩;have key: ∀i,i<YN x.cells-> ∃a,x.cells[i]? =some a:=λi hi=>by
   rw[Yw] at hi;exact⟨_,Zm hi⟩
  refine⟨h2,by omega,by rw[h2];show YN x.cells<=x.loc.tot*1;rw[Yw];omega,by rw[h2];omega,(λh=>by cases h),λi hi=>?_,λi v hi hv=>?_,(λh=>by cases h),(λh=>by cases h)⟩
  ·obtain⟨a,ha⟩:=key i hi
   obtain⟨v,h7,h8,_⟩:=h6 i a ha;rw[Cb.get_row ha];exact⟨v,h7,h8⟩
  ·obtain⟨a,ha⟩:=key i hi
   obtain⟨v',h7,_,h8⟩:=h6 i a ha;rw[hv] at h7;cases h7;exact h8
 have all: ∀b o l,(I8 H.t ws).get b=some o->KE σ ws b=some l->(∃c,W.heap[l.blk]? =some c∧Tq (KE σ ws) o l c)∧((∃r,o=.row r∧r.own=false)∨(H.t.get b=some o∧σ b=some l∧ ∃es,o=.cmap es)):=by
  intro b o l h hl;rcases CT H.t ws b o h with⟨x,h1,rfl⟩|h1
  ·rw[wat b x h1] at hl;cases hl
   exact⟨wal b x h1,.inl ⟨_,rfl,rfl⟩⟩
  ·have hb:=hs.low b o h1
   rw[old b hb] at hl;obtain⟨c,h2,h3⟩:=hs.alive b o l h1 hl;refine⟨⟨c,h2,h3.mono ext⟩,?_⟩;rcases Zlj b o h1 with h4|h4
   ·exact .inl h4
   ·exact .inr ⟨h1,hl,h4⟩
 refine⟨λb l h=>?_,λb o h=>?_,λb o l h hl=>(all b o l h hl).1,λb b' o o' l l' h h' hl hl' e=>?_,λg hg=>?_,Zs _⟩
 ·show b<n
  unfold KE at h
  split at h
  ·rename_i x hx;exact(hlt b x (yP hx)).2
  ·exact ZK (hs.dom b l h) hn
 ·show b<n
  rcases CT H.t ws b o h with⟨x,h1,_⟩|h1
  ·exact(hlt b x h1).2
  ·exact ZK (hs.low b o h1) hn
 ·obtain⟨⟨c,c1,c2⟩,a1⟩:=all b o l h hl
  obtain⟨⟨c',c3,c4⟩,a2⟩:=all b' o' l' h' hl';rcases a1 with a1|⟨g1,g2,es,rfl⟩<;>rcases a2 with a2|⟨g3,g4,es',rfl⟩
  ·exact .inr ⟨a1,a2⟩
  ·exfalso
   obtain⟨r,rfl,_⟩:=a1;obtain⟨_,_,rfl,_⟩:=c2;obtain⟨_,_,_,rfl,_⟩:=c4;rw[e,c3] at c1;cases c1
  ·exfalso
   obtain⟨r,rfl,_⟩:=a2;obtain⟨_,_,rfl,_⟩:=c4;obtain⟨_,_,_,rfl,_⟩:=c2;rw[e,c3] at c1;cases c1
  ·rcases hs.inj b b' _ _ l l' g1 g3 g2 g4 e with h|⟨⟨_,h,_⟩,_⟩
   ·exact .inl h
   ·cases h
 ·obtain⟨l,h1,h2⟩:=hs.glob g hg
  exact⟨l,ext g l h1,h2⟩
end
section
variable {P:Program} {H:Type} {enc:TypeId×Value->H}
def trodAll_three{w:World}{base:Nat}{spare:Nat->Bool}{held:Bool}{t t' t2:TypeId}{args:Array Value}{ds:List (DataW H)}{ps:List MemPlace}(h:DataW.TrodAll enc P w base spare held [t,t',t2] args.toList ds ps):
  ∃v v' v2 d d' d2 p p' p2,args= #[v,v',v2]∧ds=[d,d',d2]∧ps=p++(p'++p2)∧DataW.Trod enc P w base spare held t v d p∧DataW.Trod enc P w base spare held t' v' d' p'∧DataW.Trod enc P w base spare held t2 v2 d2 p2:=by
 obtain⟨v,vs,d,ds',p,q,hargs,rfl,rfl,hd,hrest⟩:=Go.ChangeShapes.trodAll_cons h;obtain⟨v',vs',d',ds'',p',q',rfl,rfl,rfl,hd',hrest'⟩:=Go.ChangeShapes.trodAll_cons hrest;obtain⟨v2,vs2,d2,ds2,p2,q2,rfl,rfl,rfl,hd2,Zia⟩:=Go.ChangeShapes.trodAll_cons hrest';obtain⟨rfl,rfl,rfl⟩:=Go.ChangeShapes.trodAll_nil Zia;exact⟨v,v',v2,d,d',d2,p,p',p2,by cases args;simp_all,rfl,by simp,hd,hd',hd2⟩
def Zap{W:World}{r:Reach}{base:Nat}{t:TypeId}{v:Value}{k:IntKind}(ht:P.underlying t=some (.int k))(hok:Cell.okWide P W r base t v): ∃n,v=.int k n∧k.has n:=by
 have hk:Cell.ok P W r base t v:=by
  unfold Cell.okWide at hok;rw[ht] at hok
  simpa using hok
 unfold Cell.ok at hk;rw[ht] at hk;cases v with
 |int k' n=>exact⟨n,by rw[hk.1],hk.2⟩
 |_=>simp at hk
def ZdZ{W:World}{r:Reach}{base:Nat}{t:TypeId}{v:Value}{k:IntKind}(ht:P.underlying t=some (.int k))(hok:Value.okWide P W r base t v): ∃n,v=.int k n∧k.has n:=by
 unfold Value.okWide at hok;rw[ht] at hok;exact Zap ht hok
theorem qc{n:Nat}{x:AV}: ∀{l:List AV},Pu n l=true->x∈l->WZ n x=true
 |y::l,h,hx=>by
  have h:cond (WZ n y) (Pu n l) false=true:=h;cases hy:WZ n y with
  |false=>rw[hy] at h;cases h
  |true=>
   rw[hy] at h;rcases ZY.1 hx with rfl|hx
   ·exact hy
   ·exact qc h hx
def tL{n:Nat}{rs:List (Nat×Nat×List AV)}{ms:List (Nat×List Ss)}(hr:(rs.all λx=>Nat.ble (Nat.succ x.1) n&&Pu n x.2.2)=true)(hm:(ms.all λx=>Nat.ble (Nat.succ x.1) n&&x.2.all λy=>WZ n y.key&&WZ n y.val)=true){b:Nat}{o:Obj}
  (h:(vD n rs ms).t.get b=some o):b<n∧ZaK n o∧(Ig o∨ ∃es,o=.cmap es):=by
 rcases Jj rs _ b o h with⟨e,l,hin,rfl⟩|h
 ·have h2:=Ya.1 hr _ hin
  rw[Z4] at h2;refine⟨ZS h2.1,λi hi=>?_,.inl ⟨_,rfl,rfl⟩⟩;have hi:i<l.length:=by rw[<-Yw];exact hi
  have e1:(⟨e,1,YN l,T.ofList l,.unk,0,false,false,true⟩:Row).get i=l[i]:=by
   rw[Row.get_eq];show((T.ofList l).get i).getD .unk=_;rw[T.get_ofList,Zm hi];rfl
  rw[e1];exact qc h2.2 (XD hi)
 ·rcases Ji ms _ b o h with⟨es,hin,rfl⟩|h
  ·have h2:=Ya.1 hm _ hin
   rw[Z4] at h2;refine⟨ZS h2.1,λx hx=>?_,.inr ⟨es,rfl⟩⟩;have h3:=Ya.1 h2.2 x hx;rw[Z4] at h3;exact h3
  ·rw[T.get_leaf] at h;cases h
def Ze9{σ:Mp}{H:Heap}{W:World}(hs:WW P σ H W)(h:H.nx<=H.ro)(b:Nat): ¬Wr H b:=by
 rintro ⟨h1,o,h2,_⟩;have:=hs.low b o h2;omega
end
section
open Go Go.Deep
inductive Sh where
 |int (k:IntKind)
 |bool
 |str
 |sl (es:List Sh)
variable {P:Program}
def GP(P:Program)(sh:TypeId->Option (List Sh)):List Field->Nat->Option (List Sh)
 |[],_=>some []
 |f::fs,off=>match sh f.type with
  |some es=>if f.offset=off∧es.length=P.cellsOf f.type then(GP P sh fs (off+es.length)).map (es++ ·) else none
  |none=>none
def MG(P:Program):Nat->TypeId->Option (List Sh)
 |0,_=>none
 |n+1,t=>match P.underlying t with
  |some (.int k)=>some [.int k]
  |some .bool=>some [.bool]
  |some .string=>some [.str]
  |some (.slice e)=>match MG P n e with
   |some es=>if es.length=P.cellsOf e∧1<=es.length then some [.sl es] else none
   |none=>none
  |some (.struct fs)=>match GP P (MG P n) fs.toList 0 with
   |some es=>if es.length=P.cellsOf t then some es else none
   |none=>none
  |some (.array m e)=>match MG P n e with
   |some es=>if es.length=P.cellsOf e∧m*es.length=P.cellsOf t∧1<=es.length then some (List.replicate m es).flatten else none
   |none=>none
  |_=>none
inductive PE(W:World):Sh->Value->Prop
 |int {k:IntKind} {n:Int} (h:k.min<=n∧n<=k.max):PE W (.int k) (.int k n)
 |bool (b:Bool):PE W .bool (.bool b)
 |str (s:ByteArray) (h:s.size<=maxLen):PE W .str (.string s)
 |nils {es:List Sh}:PE W (.sl es) (.slice none 0 0)
 |slice {es:List Sh} {a:Addr} {len cap:Nat} (V:Nat->Value) (h1:1<=es.length) (hl:len<=cap) (hc:cap<=maxLen) (hV: ∀i,i<cap*es.length->W.cell? (a.add i)=some (V i))
  (hok: ∀i e,i<cap*es.length->es[i % es.length]? =some e->PE W e (V i)):PE W (.sl es) (.slice (some a) len cap)
section
variable {W:World} {H:Type} {enc:TypeId×Value->H} {base:Nat}
theorem Dh{sh:TypeId->Option (List Sh)}{cs:List Value}: ∀(l:List Field) (off:Nat) (es:List Sh),GP P sh l off=some es->
  (∀f∈l,∀es',sh f.type=some es'-> ∀(j:Nat) (e:Sh) (v:Value),es'[j]? =some e->((cs.drop f.offset).take (P.cellsOf f.type))[j]? =some v->PE W e v)->
  ∀(j:Nat) (e:Sh) (v:Value),es[j]? =some e->cs[off+j]? =some v->PE W e v
 |[],off,es,h,_,j,e,v,h1,_=>by cases h;simp at h1
 |f::l,off,es,h,hf,j,e,v,h1,h2=>by
  unfold GP at h
  split at h
  ·rename_i es' hs
   split at h
   ·rename_i hc
    obtain⟨es2,h3,rfl⟩:=U0.1 h
    by_cases hj:j<es'.length
    ·rw[ZW hj] at h1
     refine hf f (Zw ..) es' hs j e v h1 ?_;rw[List.getElem?_take,if_pos (by omega),Y8,hc.1];exact h2
    ·rw[Z0 (by omega)] at h1
     refine Dh l _ es2 h3 (λg hg=>hf g (ZC _ hg)) (j - es'.length) e v h1 ?_;rw[show off+es'.length+(j - es'.length)=off+j by omega];exact h2
   ·cases h
  ·cases h
theorem CJ{es:List Sh}(h1:1<=es.length): ∀(m j:Nat) (e:Sh),((List.replicate m es).flatten)[j]? =some e->j<m*es.length∧es[j % es.length]? =some e
 |0,j,e,h=>by simp at h
 |m+1,j,e,h=>by
  rw[XY,XC] at h
  by_cases hj:j<es.length
  ·rw[ZW hj] at h
   refine⟨by rw[WR];omega,?_⟩;rw[Yd hj];exact h
  ·rw[Z0 (by omega)] at h
   obtain⟨h2,h3⟩:=CJ h1 m _ e h;refine⟨by rw[WR];omega,?_⟩;rw[Nat.mod_eq_sub_mod (by omega)];exact h3
theorem L4: ∀(n:Nat) (t:TypeId) (es:List Sh) (Zk:Nat) (cs:List Value) (x:DataW H×List MemPlace),MG P n t=some es->DataW.trod enc P W base (λ_=>true) true Zk t cs=some x->
  cs.length=es.length∧ ∀(j:Nat) (e:Sh) (v:Value),es[j]? =some e->cs[j]? =some v->PE W e v
 |0,t,es,Zk,cs,x,hs,h=>by cases hs
 |n+1,t,es,Zk,cs,x,hs,h=>by
  unfold MG at hs
  split at hs
  ·rename_i k ht
   cases hs;obtain⟨m,rfl,_,hw⟩:=DataW.trod_int ht h;refine⟨rfl,λj e v h1 h2=>?_⟩;cases j with
   |zero=>
    cases h1;cases h2;unfold Lit.wf at hw;rw[Z4] at hw;exact .int ⟨Zr hw.1,Zr hw.2⟩
   |succ j=>simp at h1
  ·rename_i ht
   cases hs;obtain⟨b,rfl,_⟩:=DataW.trod_bool ht h;refine⟨rfl,λj e v h1 h2=>?_⟩;cases j with
   |zero=>cases h1;cases h2;exact .bool b
   |succ j=>simp at h1
  ·rename_i ht
   cases hs;obtain⟨s,rfl,_,hw⟩:=DataW.trod_string ht h;refine⟨rfl,λj e v h1 h2=>?_⟩;cases j with
   |zero=>cases h1;cases h2;exact .str s hw
   |succ j=>simp at h1
  ·rename_i te ht
   split at hs
   ·rename_i es' he
    split at hs
    ·rename_i hc
     cases hs;have key: ∀v,cs=[v]->PE W (.sl es') v->cs.length=[Sh.sl es'].length∧ ∀(j:Nat) (e:Sh) (v:Value),[Sh.sl es'][j]? =some e->cs[j]? =some v->PE W e v:=by
      rintro v rfl hv;refine⟨rfl,λj e u h1 h2=>?_⟩;cases j with
      |zero=>cases h1;cases h2;exact hv
      |succ j=>simp at h1
     rcases open_slice ht h with⟨e1,_⟩|⟨a,len,cap,m,k,D,Pl,e1,_,hl,hcap,hm,_,hV⟩
     ·exact key _ e1 .nils
     ·have hm:m=cap:=by rw[hm];exact if_pos rfl
      subst hm;have hcell: ∀i,i<m*es'.length-> ∃v,W.cell? (a.add i)=some v∧ ∀e,es'[i % es'.length]? =some e->PE W e v:=by
       intro i hi;have hq:i/es'.length<m:=Q3 (by rw[VE];exact hi);obtain⟨cs',h1,h2⟩:=hV (i/es'.length) hq;rw[<-hc.1] at h1;obtain⟨_,hlen,hcc⟩:=World.cells?_some h1;obtain⟨_,h4⟩:=L4 n te es' k cs' _ he h2;have hr:i % es'.length<es'.length:=Wh _ (by omega);have g:=hcc (i % es'.length) hr;rw[add_add,show i/es'.length*es'.length+i % es'.length=i by rw[VE];exact Rh i es'.length] at g;rw[Zm (by omega)] at g;exact⟨_,g,λe h5=>h4 _ e _ h5 (Zm (by omega))⟩
      obtain⟨V,hV'⟩:=choose_lt (α:=Value) hcell;exact key _ e1 (.slice V hc.2 hl hcap (λi hi=>(hV' i hi).1) λi e hi h5=>(hV' i hi).2 e h5)
    ·cases hs
   ·cases hs
  ·rename_i fs ht
   split at hs
   ·rename_i es' he
    split at hs
    ·rename_i hc
     cases hs;obtain⟨xs,m,_,_,hlen,hxl,hx⟩:=DataW.trod_struct ht h;refine⟨by rw[hlen,hc],λj e v h1 h2=>?_⟩;refine Dh (P:=P) (cs:=cs) fs.toList 0 es he (λf hf es2 h3=>?_) j e v h1 (by rw[Zl];exact h2);obtain⟨i,hi⟩:=List.getElem?_of_mem hf;rw[Z7] at hi;have hlt:i<xs.length:=by rw[hxl];exact(ZX.1 hi).1
     have h4:=hx i f hi;rw[Zm hlt] at h4;exact(L4 n f.type es2 m _ _ h3 h4).2
    ·cases hs
   ·cases hs
  ·rename_i m te ht
   split at hs
   ·rename_i es' he
    split at hs
    ·rename_i hc
     cases hs;obtain⟨xs,q,_,_,hlen,hxl,hx⟩:=DataW.trod_array ht h;refine⟨by rw[hlen,<-hc.2.1];simp,λj e v h1 h2=>?_⟩;obtain⟨h3,h4⟩:=CJ hc.2.2 m j e h1;have hq:j/es'.length<m:=Q3 (by rw[VE];exact h3);have hr:j % es'.length<es'.length:=Wh _ (by omega);have h5:=hx _ hq;rw[Zm (by omega)] at h5;refine(L4 n te es' q _ _ he h5).2 (j % es'.length) e v h4 ?_;rw[List.getElem?_take,if_pos (by omega),Y8,<-hc.1,show j/es'.length*es'.length+j % es'.length=j by rw[VE];exact Rh j es'.length];exact h2
    ·cases hs
   ·cases hs
  ·cases hs
end
inductive Told(G:Heap):Sh->AV->Prop
 |int {k:IntKind} {n:Int} (h:k.min<=n∧n<=k.max):Told G (.int k) (.int k n)
 |bool (b:Bool):Told G .bool (.bool b)
 |str (s:Zd) (h:s.length<=maxLen):Told G .str (.str s)
 |nils {es:List Sh}:Told G (.sl es) .nils
 |slice0 {es:List Sh}:Told G (.sl es) .slice0
 |slice {es:List Sh} {b len cap:Nat} {r:Row} (h1:1<=es.length) (hl:len<=cap) (h0:1<=cap) (hc:cap<=maxLen) (hb:b<G.nx) (hr:G.t.get b=some (.row r)) (hs:cap*es.length<=r.size) (ho:r.own=false) (hz:r.sz=1)
  (hok: ∀i e,i<cap*es.length->es[i % es.length]? =some e->Told G e (r.get i)):Told G (.sl es) (.slice b 0 len (some cap))
def Told.keep{G G':Heap}{e:Sh}{a:AV}(h:Told G e a)(hn:G.nx<=G'.nx)(hk: ∀c r,c<G.nx->G.t.get c=some (.row r)->r.own=false->G'.t.get c=some (.row r)):Told G' e a:=by
 induction h with
 |int h=>exact .int h
 |bool b=>exact .bool b
 |str s h=>exact .str s h
 |nils=>exact .nils
 |slice0=>exact .slice0
 |slice h1 hl h0 hc hb hr hs ho hz _ ih=>exact .slice h1 hl h0 hc (ZK hb hn) (hk _ _ hb hr ho) hs ho hz ih
structure KC(W:World)(es:List Sh)(vs:List Value)(n0:Nat)(as:List AV)(ws:List (Nat×Cb))(n1:Nat):Prop where
 le:n0<=n1
 ids: ∀b x,(b,x)∈ws->n0<=b∧b<n1
 nd:(ws.map (·.1)).Nodup
 win: ∀σ:Mp,(∀b x,(b,x)∈ws->σ b=some x.loc)-> ∀b x,(b,x)∈ws->Zfy W σ x
 rel: ∀σ:Mp,(∀b x,(b,x)∈ws->σ b=some x.loc)->YR σ as vs
 told: ∀G:Heap,(∀b x,(b,x)∈ws->G.t.get b=some (.row x.row)∧b<G.nx)-> ∀(j:Nat) e a,es[j]? =some e->as[j]? =some a->Told G e a
 one: ∀a∈as,a.cells=[a]
 onev: ∀v∈vs,v.oneCell'=true
def KC.nil{W:World}{n0:Nat}:KC W [] [] n0 [] [] n0 where
 le:=Zs _
 ids:=λ_ _ h=>by cases h
 nd:=List.nodup_nil
 win:=λ_ _ _ _ h=>by cases h
 rel:=λ_ _=>Ux
 told:=λ_ _ j e a h=>by simp at h
 one:=λ_ h=>by cases h
 onev:=λ_ h=>by cases h
def KC.cons{W:World}{e:Sh}{es:List Sh}{v:Value}{vs:List Value}{n0 n1 n2:Nat}{a:AV}{as:List AV}{ws ws':List (Nat×Cb)}(h:KC W [e] [v] n0 [a] ws n1)(h':KC W es vs n1 as ws' n2):
  KC W (e::es) (v::vs) n0 (a::as) (ws++ws') n2:=by
 refine⟨Yb h.le h'.le,λb x hx=>?_,?_,λσ hσ b x hx=>?_,λσ hσ=>?_,λG hG j u w h1 h2=>?_,λu hu=>?_,λu hu=>?_⟩
 ·rcases Zt.1 hx with hx|hx
  ·have:=h.ids b x hx;have:=h'.le;omega
  ·have:=h'.ids b x hx;have:=h.le;omega
 ·rw[Xg,T0]
  refine⟨h.nd,h'.nd,λb hb c hc hbc=>?_⟩;subst hbc;obtain⟨⟨b1,x1⟩,m1,rfl⟩:=YC.1 hb;obtain⟨⟨b2,x2⟩,m2,e2⟩:=YC.1 hc;have:=h.ids _ _ m1;have:=h'.ids _ _ m2;simp only at e2;omega
 ·rcases Zt.1 hx with hx|hx
  ·exact h.win σ (λc y hy=>hσ c y (Zt.2 (.inl hy))) b x hx
  ·exact h'.win σ (λc y hy=>hσ c y (Zt.2 (.inr hy))) b x hx
 ·have r1:=h.rel σ λc y hy=>hσ c y (Zt.2 (.inl hy))
  have r2:=h'.rel σ λc y hy=>hσ c y (Zt.2 (.inr hy));obtain⟨_,_,r3,_,r4⟩:=r1.cons_inv;rw[(List.cons.inj r4).1];exact Vr r3 r2
 ·cases j with
  |zero=>cases h1;cases h2;exact h.told G (λc y hy=>hG c y (Zt.2 (.inl hy))) 0 e a rfl rfl
  |succ j=>exact h'.told G (λc y hy=>hG c y (Zt.2 (.inr hy))) j u w (by simpa using h1) (by simpa using h2)
 ·rcases ZY.1 hu with rfl|hu
  ·exact h.one _ (Zw ..)
  ·exact h'.one u hu
 ·rcases ZY.1 hu with rfl|hu
  ·exact h.onev _ (Zw ..)
  ·exact h'.onev u hu
theorem CY{W:World}: ∀(vs:List Value) (es:List Sh),vs.length=es.length->(∀(j:Nat) e v,es[j]? =some e->vs[j]? =some v-> ∀n0,∃a ws n1,KC W [e] [v] n0 [a] ws n1)-> ∀n0,∃as ws n1,KC W es vs n0 as ws n1∧as.length=es.length
 |[],[],_,_,n0=>⟨[],[],n0,KC.nil,rfl⟩
 |[],_::_,h,_,_=>by simp at h
 |_::_,[],h,_,_=>by simp at h
 |v::vs,e::es,hl,h,n0=>by
  obtain⟨a,ws,n1,h1⟩:=h 0 e v rfl rfl n0;obtain⟨as,ws',n2,h2,h3⟩:=CY vs es (by simpa using hl) (λj e v h1 h2=>h (j+1) e v (by simpa using h1) (by simpa using h2)) n1;exact⟨_,_,_,h1.cons h2,by simp[h3]⟩
def NI{W:World}{e:Sh}{v:Value}{a:AV}(hr: ∀σ,Ym σ a v)(ht: ∀G,Told G e a)(h1:a.cells=[a])(h2:v.oneCell'=true)(n0:Nat): ∃a ws n1,KC W [e] [v] n0 [a] ws n1:=
 ⟨a,[],n0,{
  le:=Zs _
  ids:=λ_ _ h=>by cases h
  nd:=List.nodup_nil
  win:=λ_ _ _ _ h=>by cases h
  rel:=λσ _=>U4 (hr σ)
  told:=λG _ j u w h1 h2=>by
   cases j with
   |zero=>cases h1;cases h2;exact ht G
   |succ j=>simp at h1
  one:=λu hu=>by rw[Zn.1 hu];exact h1
  onev:=λu hu=>by rw[Zn.1 hu];exact h2}⟩
def gy{W:World}{e:Sh}{v:Value}(h:PE W e v): ∀n0,∃a ws n1,KC W [e] [v] n0 [a] ws n1:=by
 induction h with
 | @int k n h=>exact NI (a:=.int k n) (λσ=>by simp[Ym]) (λG=>.int h) rfl rfl
 |bool b=>exact NI (a:=.bool b) (λσ=>by simp[Ym]) (λG=>.bool b) rfl rfl
 |str s h=>exact NI (a:=.str s.data.toList) (λσ=>by simp only[Ym]) (λG=>.str _ (by simpa using h)) rfl rfl
 |nils=>exact NI (a:=.nils) (λσ=>by simp[Ym]) (λG=>.nils) rfl rfl
 | @slice es a len cap V h1 hl hc hV hok ih=>
  by_cases h0:cap=0
  ·subst h0
   have:len=0:=by omega
   subst this;exact NI (a:=.slice0) (λσ=>by simp[Ym]) (λG=>.slice0) rfl rfl
  ·intro n0
   have hpos:0<cap*es.length:=Nat.mul_pos (by omega) (by omega);have hVl:((List.range (cap*es.length)).map V).length=((List.replicate cap es).flatten).length:=by simp
   obtain⟨as,ws,n1,hA,hAl⟩:=CY (W:=W) ((List.range (cap*es.length)).map V) ((List.replicate cap es).flatten) hVl (λj e v h2 h3=>by
    obtain⟨h4,h5⟩:=CJ h1 cap j e h2
    rw[Z3,WQ h4] at h3
    cases h3
    exact ih j e h4 h5) (n0+1)
   have hAl:as.length=cap*es.length:=by rw[hAl];simp
   obtain⟨ab,ao,asp⟩:=a;obtain⟨cs,el,fr,hcs,hsp⟩: ∃cs el fr,W.heap[ab]? =some (.cells cs el fr)∧asp=none:=by
    have g:=hV 0 hpos;unfold Addr.add World.cell? at g;simp only[if_true] at g
    split at g
    ·rename_i c e2 f e1
     cases asp with
     |none=>exact⟨c,e2,f,e1,rfl⟩
     |some x=>simp at g
    ·cases g
   subst hsp;have hget: ∀i,i<cap*es.length->cs[ao+i]? =some (V i):=λi hi=>by
    have g:=hV i hi;have ea:Addr.add ⟨ab,ao,none⟩ i=⟨ab,ao+i,none⟩:=by
     unfold Addr.add
     split
     ·rename_i h0;subst h0;rfl
     ·rfl
    rw[ea] at g;unfold World.cell? at g;rw[hcs] at g;exact g
   have hsz:ao+cap*es.length<=cs.size:=by
    have g:=hget (cap*es.length - 1) (by omega);have:=(ZX.1 g).1;omega
   refine⟨.slice n0 0 len (some cap),(n0,⟨⟨ab,ao,cap*es.length,1⟩,el,as⟩)::ws,n1,?_⟩;have hle:=hA.le;refine⟨by omega,λb x hx=>?_,?_,λσ hσ b x hx=>?_,λσ hσ=>?_,λG hG j u w h2 h3=>?_,λu hu=>?_,λu hu=>?_⟩
   ·rcases ZY.1 hx with hx|hx
    ·cases hx;omega
    ·have:=hA.ids b x hx;omega
   ·rw[ZD,SO]
    refine⟨λhm=>?_,hA.nd⟩;obtain⟨⟨b1,x1⟩,m1,e1⟩:=YC.1 hm;have:=hA.ids _ _ m1;simp only at e1;omega
   ·have hσ': ∀c y,(c,y)∈ws->σ c=some y.loc:=λc y hy=>hσ c y (ZC _ hy)
    rcases ZY.1 hx with hx|hx
    ·cases hx
     refine⟨rfl,by show as.length<=cap*es.length;omega,cs,fr,hcs,hsz,λi c hc'=>?_⟩;have hi:i<cap*es.length:=by rw[<-hAl];exact(VY.1 hc').1
     obtain⟨v,h4,h5⟩:=YR.get (hA.rel σ hσ') hc';rw[Z3,WQ hi] at h4;cases h4;refine⟨V i,hget i hi,h5,hA.onev _ (YC.2 ⟨i,XM.2 hi,rfl⟩)⟩
    ·exact hA.win σ hσ' b x hx
   ·refine U4 ?_
    simp only[Ym];exact⟨_,hσ _ _ (Zw ..),rfl⟩
   ·cases j with
    |succ j=>simp at h2
    |zero=>
     cases h2;cases h3;have hG': ∀c y,(c,y)∈ws->G.t.get c=some (.row y.row)∧c<G.nx:=λc y hy=>hG c y (ZC _ hy);obtain⟨g1,g2⟩:=hG _ _ (Zw ..);refine .slice h1 hl (by omega) hc g2 g1 (by show cap*es.length<=YN as;rw[Yw,hAl];exact Zs _) rfl rfl λi e hi he=>?_;have e1:as[i]? =some (as[i]'(by omega)):=Zm (by omega);rw[Cb.get_row e1];refine hA.told G hG' i e _ ?_ e1;have hq:((List.replicate cap es).flatten)[i]? =some (((List.replicate cap es).flatten)[i]'(by rw[<-hVl];simpa using hi)):=Zm _;have:=(CJ h1 cap i _ hq).2;rw[this] at he;rw[hq,he]
   ·rw[Zn.1 hu];rfl
   ·rw[Zn.1 hu];rfl
def ym{W:World}{H:Type}{enc:TypeId×Value->H}{t:TypeId}{n:Nat}{es:List Sh}{v:Value}{d:DataW H}{p:List MemPlace}(hs:MG P n t=some es)(h:DataW.Trod enc P W 0 (λ_=>true) true t v d p)(n0:Nat):
  ∃as ws n1,KC W es v.cells.toList n0 as ws n1∧as.length=es.length:=by
 obtain⟨Zk,h⟩:=h;obtain⟨h1,h2⟩:=L4 n t es Zk _ _ hs h;exact CY _ _ h1 (λj e u h3 h4=>gy (h2 j e u h3 h4)) n0
end
section
variable {P:Program}
def oP{σ:Mp}{n n1:Nat}{t:T Obj}{W:World}(hs:WW P σ ⟨n,t,n⟩ W){es:List Sh}{vs:List Value}{as:List AV}{ws:List (Nat×Cb)}(hp: ∀b o,t.get b=some o->b<n∧(Ig o∨ ∃es,o=.cmap es))(hA:KC W es vs n as ws n1):
  WW P (KE σ ws) ⟨n1,I8 t ws,n1⟩ W∧Bears n t ⟨n1,I8 t ws,n1⟩∧YR (KE σ ws) as vs∧ ∀(j:Nat) e a,es[j]? =some e->as[j]? =some a->Told ⟨n1,I8 t ws,n1⟩ e a:=by
 have at_: ∀b x,(b,x)∈ws->KE σ ws b=some x.loc:=λb x h=>by unfold KE;rw[GQ h hA.nd]
 refine⟨hs.add (show n<=n1 from hA.le) hA.nd (λb x h=>hA.ids b x h) (λb o h=>(hp b o h).2) (hA.win _ at_),⟨hA.le,λb o h=>?_⟩,hA.rel _ at_,hA.told _ λb x h=>⟨lY _ _ b x h hA.nd,(hA.ids b x h).2⟩⟩;show(I8 t ws).get b=_;rw[tB _ _ b λx hx=>by have:=hA.ids b x hx;have:=(hp b o h).1;omega];exact h
def KC.app{W:World}{es es':List Sh}{vs vs':List Value}{n0 n1 n2:Nat}{as as':List AV}{ws ws':List (Nat×Cb)}(h:KC W es vs n0 as ws n1)(hl:as.length=es.length)(h':KC W es' vs' n1 as' ws' n2):
  KC W (es++es') (vs++vs') n0 (as++as') (ws++ws') n2:=by
 refine⟨Yb h.le h'.le,λb x hx=>?_,?_,λσ hσ b x hx=>?_,λσ hσ=>?_,λG hG j u w h1 h2=>?_,λu hu=>?_,λu hu=>?_⟩
 ·rcases Zt.1 hx with hx|hx
  ·have:=h.ids b x hx;have:=h'.le;omega
  ·have:=h'.ids b x hx;have:=h.le;omega
 ·rw[Xg,T0]
  refine⟨h.nd,h'.nd,λb hb c hc hbc=>?_⟩;subst hbc;obtain⟨⟨b1,x1⟩,m1,rfl⟩:=YC.1 hb;obtain⟨⟨b2,x2⟩,m2,e2⟩:=YC.1 hc;have:=h.ids _ _ m1;have:=h'.ids _ _ m2;simp only at e2;omega
 ·rcases Zt.1 hx with hx|hx
  ·exact h.win σ (λc y hy=>hσ c y (Zt.2 (.inl hy))) b x hx
  ·exact h'.win σ (λc y hy=>hσ c y (Zt.2 (.inr hy))) b x hx
 ·have r1:=h.rel σ λc y hy=>hσ c y (Zt.2 (.inl hy))
  have r2:=h'.rel σ λc y hy=>hσ c y (Zt.2 (.inr hy));clear h h' hl
  induction as generalizing vs with
  |nil=>obtain rfl:=r1.nil_inv;exact r2
  |cons a as ih=>
   obtain⟨v,vs2,r3,r4,rfl⟩:=r1.cons_inv;exact Vr r3 (ih r4)
 ·by_cases hj:j<es.length
  ·rw[ZW hj] at h1
   rw[ZW (by omega)] at h2;exact h.told G (λc y hy=>hG c y (Zt.2 (.inl hy))) j u w h1 h2
  ·rw[Z0 (by omega)] at h1
   rw[Z0 (by omega),hl] at h2;exact h'.told G (λc y hy=>hG c y (Zt.2 (.inr hy))) _ u w h1 h2
 ·rcases Zt.1 hu with hu|hu
  ·exact h.one _ hu
  ·exact h'.one u hu
 ·rcases Zt.1 hu with hu|hu
  ·exact h.onev _ hu
  ·exact h'.onev u hu
end
end
end Go.AI
