/- What the interpreter's values and heaps tell of the model's, and the first operations: proved for every world that is told. -/
import Derived.Test.YtbmdhpdcgbgcnaaGreatDoorP1
import Derived.Laws.World
import Derived.Laws.Sem
import Derived.Laws.Rows
import Derived.Laws.Entries
import Derived.ChangeKeysEq
import Derived.Laws.Strings
import Derived.Laws.Slices
import Derived.Laws.Strings2
import Derived.Laws.Panics
import Derived.Laws.Cells
import Derived.Laws.Tables
set_option maxRecDepth 1000000
set_option maxHeartbeats 0
set_option linter.unusedVariables false
set_option linter.unusedSimpArgs false
namespace Go.AI
open Go
noncomputable section
namespace T
variable {α:Type}
theorem Hk(bs:List Bool):(T.leaf:T α).getB bs=none:=rfl
theorem JP(l r:T α)(v:Option α):(T.node l v r).getB []=v:=rfl
theorem Oj(l r:T α)(v:Option α)(b:Bool)(bs:List Bool):(T.node l v r).getB (b::bs)=if b then l.getB bs else r.getB bs:=by cases b<;>rfl
theorem yW(x:α): ∀bs cs:List Bool,(T.single x bs).getB cs=if bs=cs then some x else none:=by
 intro bs
 induction bs with
 |nil=>intro cs;cases cs with
  |nil=>rfl
  |cons c cs=>cases c<;>rfl
 |cons b bs ih=>
  intro cs
  cases cs with
  |nil=>cases b<;>rfl
  |cons c cs=>
   cases b<;>cases c
   ·show(T.single x bs).getB cs=_;rw[ih];simp
   ·show(T.leaf:T α).getB cs=_;simp[Hk]
   ·show(T.leaf:T α).getB cs=_;simp[Hk]
   ·show(T.single x bs).getB cs=_;rw[ih];simp
theorem qT(x:α)(t:T α): ∀bs cs:List Bool,(T.setB x t bs).getB cs=if bs=cs then some x else t.getB cs:=by
 induction t with
 |leaf=>intro bs cs;show(T.single x bs).getB cs=_;rw[yW];rfl
 |node l v r ihl ihr=>
  intro bs cs
  cases bs with
  |nil=>cases cs with
   |nil=>rfl
   |cons c cs=>cases c<;>simp[show T.setB x (.node l v r) []=.node l (some x) r from rfl,Oj]
  |cons b bs=>
   cases b
   ·show(T.node l v (T.setB x r bs)).getB cs=_
    cases cs with
    |nil=>simp[JP]
    |cons c cs=>cases c<;>simp[Oj,ihr]
   ·show(T.node (T.setB x l bs) v r).getB cs=_
    cases cs with
    |nil=>simp[JP]
    |cons c cs=>cases c<;>simp[Oj,ihl]
theorem qS(t:T α): ∀bs cs:List Bool,(T.delB t bs).getB cs=if bs=cs then none else t.getB cs:=by
 induction t with
 |leaf=>intro bs cs;show(T.leaf:T α).getB cs=_;simp[Hk]
 |node l v r ihl ihr=>
  intro bs cs
  cases bs with
  |nil=>cases cs with
   |nil=>rfl
   |cons c cs=>cases c<;>simp[show T.delB (.node l v r) []=.node l none r from rfl,Oj]
  |cons b bs=>
   cases b
   ·show(T.node l v (T.delB r bs)).getB cs=_
    cases cs with
    |nil=>simp[JP]
    |cons c cs=>cases c<;>simp[Oj,ihr]
   ·show(T.node (T.delB l bs) v r).getB cs=_
    cases cs with
    |nil=>simp[JP]
    |cons c cs=>cases c<;>simp[Oj,ihl]
end T
theorem RV(f n:Nat):Kr (f+1) n=if n=0 then [] else if n % 2=1 then true::Kr f (n/2) else false::Kr f (n/2 - 1):=by
 show @Bool.rec (λ_=>List Bool) (@Bool.rec (λ_=>List Bool) (false::Kr f (n/2 - 1)) (true::Kr f (n/2)) (Nat.beq (n % 2) 1)) [] (Nat.beq n 0)=_
 by_cases h:n=0
 ·subst h;rfl
 ·rw[if_neg h]
  have h0:Nat.beq n 0=false:=by cases n with|zero=>exact absurd rfl h|succ n=>rfl
  rw[h0]
  by_cases h1:n % 2=1
  ·rw[if_pos h1,h1];rfl
  ·have:n % 2=0:=by omega
   rw[if_neg h1,this];rfl
theorem qm: ∀f n m,n<=f->m<=f->Kr f n=Kr f m->n=m:=by
 intro f
 induction f with
 |zero=>intro n m hn hm _;omega
 |succ f ih=>
  intro n m hn hm h
  rw[RV,RV] at h
  by_cases n0:n=0
  ·by_cases m0:m=0
   ·omega
   ·rw[if_pos n0,if_neg m0] at h
    split at h<;>cases h
  ·by_cases m0:m=0
   ·rw[if_neg n0,if_pos m0] at h
    split at h<;>cases h
   ·rw[if_neg n0,if_neg m0] at h
    by_cases n1:n % 2=1<;>by_cases m1:m % 2=1
    ·rw[if_pos n1,if_pos m1] at h
     have:=ih (n/2) (m/2) (by omega) (by omega) (List.cons.inj h).2
     omega
    ·rw[if_pos n1,if_neg m1] at h;simp at h
    ·rw[if_neg n1,if_pos m1] at h;simp at h
    ·rw[if_neg n1,if_neg m1] at h
     have:=ih (n/2 - 1) (m/2 - 1) (by omega) (by omega) (List.cons.inj h).2
     omega
theorem N1: ∀f n g,n<=f->f<=g->Kr g n=Kr f n:=by
 intro f
 induction f with
 |zero=>
  intro n g hn _
  have:n=0:=by omega
  subst this
  cases g with
  |zero=>rfl
  |succ g=>rw[RV];rfl
 |succ f ih=>
  intro n g hn hg
  obtain⟨g,rfl⟩: ∃g',g=g'+1:=⟨g - 1,by omega⟩
  rw[RV,RV]
  by_cases n0:n=0
  ·rw[if_pos n0,if_pos n0]
  ·rw[if_neg n0,if_neg n0]
   by_cases n1:n % 2=1
   ·rw[if_pos n1,if_pos n1,ih (n/2) g (by omega) (by omega)]
   ·rw[if_neg n1,if_neg n1,ih (n/2 - 1) g (by omega) (by omega)]
theorem yy{n m:Nat}(h:bits n=bits m):n=m:=by
 unfold bits at h
 rw[<-N1 n n (n+m) (Zz _) (by omega),<-N1 m m (n+m) (Zz _) (by omega)] at h
 exact qm (n+m) n m (by omega) (by omega) h
namespace T
variable {α:Type}
theorem get_set(t:T α)(n m:Nat)(x:α):(t.set n x).get m=if n=m then some x else t.get m:=by
 unfold get set
 rw[qT]
 by_cases h:n=m
 ·subst h;simp
 ·rw[if_neg h,if_neg (λe=>h (yy e))]
theorem get_del(t:T α)(n m:Nat):(t.del n).get m=if n=m then none else t.get m:=by
 unfold get del
 rw[qS]
 by_cases h:n=m
 ·subst h;simp
 ·rw[if_neg h,if_neg (λe=>h (yy e))]
theorem get_leaf(n:Nat):(T.leaf:T α).get n=none:=rfl
end T
structure Loc where
 blk:Nat
 base:Nat
 tot:Nat
 sz:Nat
abbrev Mp:=Nat->Option Loc
mutual
def YU(σ:Mp):AV->Value->Prop
 |.unk,_=>True
 |.bool b,v=>v=.bool b
 |.int k n,v=>v=.int k n
 |.str s,v=>v=.string ⟨s.toArray⟩
 |.nilp,v=>v=.pointer none
 |.ptr b o,v=> ∃l,σ b=some l∧v=.pointer (some ⟨l.blk,l.base+o,none⟩)
 |.nils,v=>v=.slice none 0 0
 |.slice b o n cap,v=> ∃l,σ b=some l∧v=.slice (some ⟨l.blk,l.base+o,none⟩) n (cap.getD (l.tot - o/l.sz))
 |.slice0,v=> ∃a,v=.slice (some a) 0 0
 |.nilm,v=>v=.map none
 |.map b,v=> ∃l,σ b=some l∧v=.map (some l.blk)
 |.func f a b,v=> ∃x y,Xj σ a x∧Xj σ b y∧v=.func (.func f) ⟨x⟩ ⟨y⟩
 |.meth n r,v=> ∃x,YU σ r x∧v=.func (.method n) #[x] #[]
 |.yield b,v=> ∃l,σ b=some l∧v=.func (.yield l.blk) #[] #[]
 |.nilf,v=>v=.nilFunc
 |.iface t x,v=> ∃y,YU σ x y∧v=.iface t y
 |.nili,v=>v=.nilIface
 |.agg cs,v=> ∃vs,Xj σ cs vs∧(∀x∈vs,x.oneCell'=true)∧v=.agg ⟨vs⟩
 |.tup cs,v=> ∃vs,Xj σ cs vs∧v=.tuple ⟨vs⟩
def Xj(σ:Mp):List AV->List Value->Prop
 |[],l=>l=[]
 |a::as,l=> ∃v vs,YU σ a v∧Xj σ as vs∧l=v::vs
end
def Ext(σ σ':Mp):Prop:= ∀b l,σ b=some l->σ' b=some l
theorem Ext.refl(σ:Mp):Ext σ σ:=λ_ _ h=>h
theorem Ext.trans{σ σ' σ'':Mp}(h:Ext σ σ')(h':Ext σ' σ''):Ext σ σ'':=λb l x=>h' b l (h b l x)
mutual
theorem YU.mono{σ σ':Mp}(h:Ext σ σ'): ∀{a:AV} {v:Value},YU σ a v->YU σ' a v
 |.unk,_,_=>by simp[YU]
 |.bool b,v,r=>by simpa [YU] using r
 |.int k n,v,r=>by simpa [YU] using r
 |.str s,v,r=>by simpa [YU] using r
 |.nilp,v,r=>by simpa [YU] using r
 |.ptr b o,v,r=>by
  simp only[YU] at r ⊢
  obtain⟨l,hl,hv⟩:=r
  exact⟨l,h _ _ hl,hv⟩
 |.nils,v,r=>by simpa [YU] using r
 |.slice0,v,r=>by simpa [YU] using r
 |.slice b o n cap,v,r=>by
  simp only[YU] at r ⊢
  obtain⟨l,hl,hv⟩:=r
  exact⟨l,h _ _ hl,hv⟩
 |.nilm,v,r=>by simpa [YU] using r
 |.map b,v,r=>by
  simp only[YU] at r ⊢
  obtain⟨l,hl,hv⟩:=r
  exact⟨l,h _ _ hl,hv⟩
 |.func f a b,v,r=>by
  simp only[YU] at r ⊢
  obtain⟨x,y,hx,hy,hv⟩:=r
  exact⟨x,y,Xj.mono h hx,Xj.mono h hy,hv⟩
 |.meth n a,v,r=>by
  simp only[YU] at r ⊢
  obtain⟨x,hx,hv⟩:=r
  exact⟨x,YU.mono h hx,hv⟩
 |.yield b,v,r=>by
  simp only[YU] at r ⊢
  obtain⟨l,hl,hv⟩:=r
  exact⟨l,h _ _ hl,hv⟩
 |.nilf,v,r=>by simpa [YU] using r
 |.iface t x,v,r=>by
  simp only[YU] at r ⊢
  obtain⟨y,hy,hv⟩:=r
  exact⟨y,YU.mono h hy,hv⟩
 |.nili,v,r=>by simpa [YU] using r
 |.agg cs,v,r=>by
  simp only[YU] at r ⊢
  obtain⟨vs,hx,h1,hv⟩:=r
  exact⟨vs,Xj.mono h hx,h1,hv⟩
 |.tup cs,v,r=>by
  simp only[YU] at r ⊢
  obtain⟨vs,hx,hv⟩:=r
  exact⟨vs,Xj.mono h hx,hv⟩
theorem Xj.mono{σ σ':Mp}(h:Ext σ σ'): ∀{a:List AV} {v:List Value},Xj σ a v->Xj σ' a v
 |[],v,r=>by simpa [Xj] using r
 |a::as,v,r=>by
  simp only[Xj] at r ⊢
  obtain⟨x,xs,hx,hxs,hv⟩:=r
  exact⟨x,xs,YU.mono h hx,Xj.mono h hxs,hv⟩
end
theorem Y6{α:Type}(l:List α):Xa l=l.length:=by
 induction l with
 |nil=>rfl
 |cons a l ih=>show Nat.succ (Xa l)=_;rw[ih];rfl
theorem NX: ∀(n:Nat) (l:List AV),PQ n l=l.take n
 |0,_=>by simp[PQ]
 |n+1,[]=>by simp[PQ]
 |n+1,v::l=>by simp[PQ,NX n l]
theorem NC: ∀(n:Nat) (l:List AV),QY n l=l.drop n
 |0,_=>by simp[QY]
 |n+1,[]=>by simp[QY]
 |n+1,v::l=>by simp[QY,NC n l]
theorem OP: ∀(n:Nat) (l:List UInt8),ME n l=l.take n
 |0,_=>by simp[ME]
 |n+1,[]=>by simp[ME]
 |n+1,v::l=>by simp[ME,OP n l]
theorem JI: ∀(n:Nat) (l:List UInt8),Kt n l=l.drop n
 |0,_=>by simp[Kt]
 |n+1,[]=>by simp[Kt]
 |n+1,v::l=>by simp[Kt,JI n l]
theorem L6: ∀(l:List AV) (n:Nat),Ib l n=l[n]?
 |[],_=>by simp[Ib]
 |v::_,0=>by simp[Ib]
 |_::l,n+1=>by simp[Ib,L6 l n]
theorem zL: ∀(l:List UInt8) (n:Nat),xJ l n=l[n]?
 |[],_=>by simp[xJ]
 |v::_,0=>by simp[xJ]
 |_::l,n+1=>by simp[xJ,zL l n]
section
variable {σ:Mp}
theorem V1:Xj σ [] []:=by simp[Xj]
theorem WB{a:AV}{as:List AV}{v:Value}{vs:List Value}(h:YU σ a v)(h':Xj σ as vs):Xj σ (a::as) (v::vs):=by
 simp only[Xj];exact⟨v,vs,h,h',rfl⟩
theorem V2{a:AV}{v:Value}(h:YU σ a v):Xj σ [a] [v]:=WB h V1
theorem Xj.nil_inv{l:List Value}(h:Xj σ [] l):l=[]:=by simpa [Xj] using h
theorem Xj.cons_inv{a:AV}{as:List AV}{l:List Value}(h:Xj σ (a::as) l): ∃v vs,YU σ a v∧Xj σ as vs∧l=v::vs:=by simpa [Xj] using h
theorem Xj.length: ∀{as:List AV} {vs:List Value},Xj σ as vs->as.length=vs.length
 |[],vs,h=>by rw[h.nil_inv];rfl
 |a::as,vs,h=>by
  obtain⟨v,vs,_,h',rfl⟩:=h.cons_inv
  simp[Xj.length h']
theorem Xj.append: ∀{as bs:List AV} {vs us:List Value},Xj σ as vs->Xj σ bs us->Xj σ (as++bs) (vs++us)
 |[],bs,vs,us,h,h'=>by rw[h.nil_inv];exact h'
 |a::as,bs,vs,us,h,h'=>by
  obtain⟨v,vs,h1,h2,rfl⟩:=h.cons_inv
  exact WB h1 (Xj.append h2 h')
theorem Xj.get: ∀{as:List AV} {vs:List Value} {i:Nat} {a:AV},Xj σ as vs->as[i]? =some a-> ∃v,vs[i]? =some v∧YU σ a v
 |[],vs,i,a,h,e=>by simp at e
 |x::as,vs,i,a,h,e=>by
  obtain⟨v,vs,h1,h2,rfl⟩:=h.cons_inv
  cases i with
  |zero=>simp at e;subst e;exact⟨v,rfl,h1⟩
  |succ i=>simp at e;obtain⟨u,hu,hr⟩:=Xj.get h2 e;exact⟨u,by simpa using hu,hr⟩
theorem Xj.take: ∀{as:List AV} {vs:List Value} (n:Nat),Xj σ as vs->Xj σ (as.take n) (vs.take n)
 |[],vs,n,h=>by rw[h.nil_inv];simpa using V1
 |a::as,vs,0,h=>by simpa using V1
 |a::as,vs,n+1,h=>by
  obtain⟨v,vs,h1,h2,rfl⟩:=h.cons_inv
  simpa using WB h1 (Xj.take n h2)
theorem Xj.drop: ∀{as:List AV} {vs:List Value} (n:Nat),Xj σ as vs->Xj σ (as.drop n) (vs.drop n)
 |[],vs,n,h=>by rw[h.nil_inv];simpa using V1
 |a::as,vs,0,h=>by simpa using h
 |a::as,vs,n+1,h=>by
  obtain⟨v,vs,h1,h2,rfl⟩:=h.cons_inv
  simpa using Xj.drop n h2
theorem Xj.of_get: ∀{as:List AV} {vs:List Value},as.length=vs.length->(∀(i:Nat) (a:AV) (v:Value),as[i]? =some a->vs[i]? =some v->YU σ a v)->Xj σ as vs
 |[],[],_,_=>V1
 |[],_::_,h,_=>by simp at h
 |_::_,[],h,_=>by simp at h
 |a::as,v::vs,h,g=>WB (g 0 a v rfl rfl) (Xj.of_get (by simpa using h) λi x y hx hy=>g (i+1) x y (by simpa using hx) (by simpa using hy))
theorem Rk{a:AV}{v:Value}(h:YU σ a v)(h1:v.oneCell'=true):Xj σ [a] [v]∧ ∀x∈[v],x.oneCell'=true:=⟨V2 h,by simpa using h1⟩
theorem YU.cells{a:AV}{v:Value}(h:YU σ a v)(h1:1<=a.cells.length):Xj σ a.cells v.cells.toList∧ ∀x∈v.cells.toList,x.oneCell'=true:=by
 cases a<;>simp only[AV.cells,ZH] at h1 ⊢ <;>first
  |omega
  |(simp only[YU] at h;subst h;exact Rk (by simp[YU]) rfl)
  |skip
 case ptr b o=>obtain⟨l,hl,rfl⟩:=(by simpa only[YU] using h);exact Rk (by simp only[YU];exact⟨l,hl,rfl⟩) rfl
 case slice b o n c=>obtain⟨l,hl,rfl⟩:=(by simpa only[YU] using h);exact Rk (by simp only[YU];exact⟨l,hl,rfl⟩) rfl
 case slice0=>have h0:=h;obtain⟨l,rfl⟩:=(by simpa only[YU] using h);exact Rk h0 rfl
 case map b=>obtain⟨l,hl,rfl⟩:=(by simpa only[YU] using h);exact Rk (by simp only[YU];exact⟨l,hl,rfl⟩) rfl
 case func f x y=>have h0:=h;obtain⟨p,q,hp,hq,rfl⟩:=(by simpa only[YU] using h);exact Rk h0 rfl
 case meth n x=>have h0:=h;obtain⟨p,hp,rfl⟩:=(by simpa only[YU] using h);exact Rk h0 rfl
 case yield b=>have h0:=h;obtain⟨p,hp,rfl⟩:=(by simpa only[YU] using h);exact Rk h0 rfl
 case iface t x=>have h0:=h;obtain⟨p,hp,rfl⟩:=(by simpa only[YU] using h);exact Rk h0 rfl
 case agg cs=>obtain⟨vs,hvs,h2,rfl⟩:=(by simpa only[YU] using h);exact⟨hvs,h2⟩
end
def Nn(σ:Mp)(a:Sy)(e:MapEntry):Prop:=YU σ a.key e.key∧YU σ a.val e.val∧a.born=e.born
def Y3(σ:Mp):List Sy->List MapEntry->Prop
 |[],l=>l=[]
 |a::as,l=> ∃e es,Nn σ a e∧Y3 σ as es∧l=e::es
noncomputable def MX(a b:AV):Bool:=match a,b with
 |.str a,.str b=>!LU a b
 |.int j a,.int k b=>PR j k&&!GW a b
 |_,_=>false
def T9(e:Sy):AV×AV:=(e.key,e.val)
def AM(a b:Sy):Prop:=MX a.key b.key=true∧MX b.key a.key=true
def IY(es:List Sy)(clock:Nat):Prop:=es.Pairwise (λa b=>a.born<b.born)∧ ∀e∈es,e.born<clock
structure RQ(σ:Mp)(r:Row)(l:Loc)(cs:Array Value)(fr:Nat×Nat):Prop where
 sz:l.sz=r.sz
 sz1:1<=l.sz
 fits:r.size<=l.tot*l.sz
 room:l.base+l.tot*l.sz<=cs.size
 exact:r.exact=true->r.size=l.tot*l.sz∧l.base=0∧cs.size=r.size
 cell: ∀i,i<r.size-> ∃v,cs[l.base+i]? =some v∧YU σ (r.get i) v
 one: ∀(i:Nat) (v:Value),i<r.size->cs[l.base+i]? =some v->v.oneCell'=true
 frz:r.own=true-> ∀i,r.fz<=i->i<l.tot*l.sz-> ¬(fr.1<=l.base+i∧l.base+i<fr.2)
 frs:r.own=true->r.sm=false->fr.1=fr.2∨(1<=r.fz∧fr.2<=l.base+r.fz)
def UI(σ:Mp)(o:Obj)(l:Loc)(c:Go.Obj):Prop:=match o with
 |.row r=> ∃cs fr,c=.cells cs r.elem fr∧RQ σ r l cs fr
 |.map es clock=> ∃ents,c=.map ents clock∧Y3 σ es ents.toList∧IY es clock
 |.siter s pos=>c=.stringIter ⟨s.toArray⟩ pos∧l.base=0
 |.miter m since cur=> ∃seen st,c=.mapIter (m.bind λb=>(σ b).map (·.blk)) since seen st∧(∀b,m=some b->(σ b).isSome=true)∧l.base=0∧
   match cur with
   |none=>seen= #[]∧st=since
   |some (n,t)=>seen.back? =some n∧st=t
 |.loop=> ∃lp,c=.loop lp
 |.cmap es=> ∃ents clock fs,c=.map ents clock∧Y3 σ fs ents.toList∧(fs.map T9).Perm (es.map T9)∧es.Pairwise AM
def MG(o:Obj):Prop:= ∃r,o=.row r∧r.own=false
theorem MG.not_own{o:Obj}(h:MG o)(hw: ∀r,o=.row r->r.own=true):False:=by
 obtain⟨r,rfl,e⟩:=h
 rw[hw r rfl] at e;cases e
structure WL(P:Program)(σ:Mp)(H:Heap)(w:World):Prop where
 dom: ∀b l,σ b=some l->b<H.nx
 low: ∀b o,H.t.get b=some o->b<H.nx
 alive: ∀b o l,H.t.get b=some o->σ b=some l-> ∃c,w.heap[l.blk]? =some c∧UI σ o l c
 inj: ∀b b' o o' l l',H.t.get b=some o->H.t.get b'=some o'->σ b=some l->σ b'=some l'->l.blk=l'.blk->b=b'∨(MG o∧MG o')
 glob: ∀g,g<P.globals.size-> ∃l,σ g=some l∧l.blk=g∧l.base=0
 ro:H.ro<=H.nx
def Wr(H:Heap)(b:Nat):Prop:=H.ro<=b∧ ∃o,H.t.get b=some o∧(∀r,o=.row r->r.own=true)∧o≠.loop
theorem Wr.hard{H:Heap}{b:Nat}{o:Obj}(h:Wr H b)(ho:H.t.get b=some o)(hs:MG o):False:=by
 obtain⟨_,o',ho',hw,_⟩:=h
 rw[ho] at ho';cases ho'
 exact hs.not_own hw
theorem WL.alone{P:Program}{σ:Mp}{H:Heap}{w:World}(h:WL P σ H w){b b':Nat}{o o':Obj}{l l':Loc}(hb:H.t.get b=some o)(hb':H.t.get b'=some o')(hl:σ b=some l)(hl':σ b'=some l')(e:l.blk=l'.blk)(hs: ¬(MG o∧MG o')):b=b':=
 (h.inj b b' o o' l l' hb hb' hl hl' e).resolve_right hs
structure Tr(P:Program)(σ:Mp)(H:Heap)(w:World)(σ':Mp)(H':Heap)(w':World):Prop where
 ext:Ext σ σ'
 sim:WL P σ' H' w'
 size:w.heap.size<=w'.heap.size
 frame: ∀k,k<w.heap.size->(∀b l,Wr H b->σ b=some l->l.blk≠k)->w'.heap[k]? =w.heap[k]?
 wr: ∀b l,Wr H' b->σ' b=some l->l.blk<w.heap.size-> ∃b0 l0,Wr H b0∧σ b0=some l0∧l0.blk=l.blk
 nx:H.nx<=H'.nx
 ro:H'.ro=H.ro
 low: ∀b,b<H.ro->H'.t.get b=H.t.get b
 tape:w'.tape=w.tape
 os:w'.os=w.os
 out:w'.output=w.output
 pend: ∀b,b<H.nx->σ b=none->H'.t.get b=H.t.get b∧σ' b=none
theorem Tr.refl{P:Program}{σ:Mp}{H:Heap}{w:World}(h:WL P σ H w):Tr P σ H w σ H w:=
 ⟨Ext.refl σ,h,Zz _,λ_ _ _=>rfl,λb l hw hl _=>⟨b,l,hw,hl,rfl⟩,Zz _,rfl,λ_ _=>rfl,rfl,rfl,rfl,λ_ _ h=>⟨rfl,h⟩⟩
theorem Tr.trans{P:Program}{σ σ' σ'':Mp}{H H' H'':Heap}{w w' w'':World}(h:Tr P σ H w σ' H' w')(h':Tr P σ' H' w' σ'' H'' w''):
  Tr P σ H w σ'' H'' w'':=by
 refine⟨h.ext.trans h'.ext,h'.sim,YR h.size h'.size,?_,?_,YR h.nx h'.nx,h'.ro.trans h.ro,?_,h'.tape.trans h.tape,h'.os.trans h.os,h'.out.trans h.out,?_⟩
 ·intro k hk hn
  rw[h'.frame k (Yk hk h.size) ?_,h.frame k hk hn]
  intro b l hw hl e
  obtain⟨b0,l0,hw0,hl0,e0⟩:=h.wr b l hw hl (by rw[e];exact hk)
  exact hn b0 l0 hw0 hl0 (e0.trans e)
 ·intro b l hw hl hlt
  obtain⟨b1,l1,hw1,hl1,e1⟩:=h'.wr b l hw hl (Yk hlt h.size)
  obtain⟨b0,l0,hw0,hl0,e0⟩:=h.wr b1 l1 hw1 hl1 (by rw[e1];exact hlt)
  exact⟨b0,l0,hw0,hl0,e0.trans e1⟩
 ·intro b hb
  rw[h'.low b (by rw[h.ro];exact hb),h.low b hb]
 ·intro b hb hn
  obtain⟨h1,h2⟩:=h.pend b hb hn
  obtain⟨h3,h4⟩:=h'.pend b (Yk hb h.nx) h2
  exact⟨h3.trans h1,h4⟩
theorem Nn.mono{σ σ':Mp}(h:Ext σ σ'){a:Sy}{e:MapEntry}(r:Nn σ a e):Nn σ' a e:=⟨r.1.mono h,r.2.1.mono h,r.2.2⟩
theorem Y3.mono{σ σ':Mp}(h:Ext σ σ'): ∀{as:List Sy} {es:List MapEntry},Y3 σ as es->Y3 σ' as es
 |[],es,r=>by simpa [Y3] using r
 |a::as,es,r=>by
  simp only[Y3] at r ⊢
  obtain⟨e,es',h1,h2,h3⟩:=r
  exact⟨e,es',h1.mono h,Y3.mono h h2,h3⟩
theorem RQ.mono{σ σ':Mp}(h:Ext σ σ'){r:Row}{l:Loc}{cs:Array Value}{fr:Nat×Nat}(x:RQ σ r l cs fr):RQ σ' r l cs fr:=
 ⟨x.sz,x.sz1,x.fits,x.room,x.exact,λi hi=>let ⟨v,hv,hr⟩:=x.cell i hi;⟨v,hv,hr.mono h⟩,x.one,x.frz,x.frs⟩
theorem UI.mono{σ σ':Mp}(h:Ext σ σ'){o:Obj}{l:Loc}{c:Go.Obj}(x:UI σ o l c):UI σ' o l c:=by
 cases o with
 |row r=>obtain⟨cs,fr,e,x⟩:=x;exact⟨cs,fr,e,x.mono h⟩
 |map es clock=>obtain⟨ents,e,x,y⟩:=x;exact⟨ents,e,x.mono h,y⟩
 |cmap es=>obtain⟨ents,cl,fs,e,x,y⟩:=x;exact⟨ents,cl,fs,e,x.mono h,y⟩
 |siter s pos=>exact x
 |miter m since cur=>
  obtain⟨seen,st,e,hm,y⟩:=x
  refine⟨seen,st,?_,?_,y⟩
  ·rw[e]
   cases m with
   |none=>rfl
   |some b=>
    have:=hm b rfl
    cases hb:σ b with
    |none=>rw[hb] at this;cases this
    |some l=>simp[hb,h b l hb]
  ·intro b hb
   have:=hm b hb
   cases hs:σ b with
   |none=>rw[hs] at this;cases this
   |some l=>rw[h b l hs];rfl
 |loop=>exact x
def Mp.put(σ:Mp)(b:Nat)(l:Loc):Mp:=λc=>if c=b then some l else σ c
theorem Mp.put_same(σ:Mp)(b:Nat)(l:Loc):σ.put b l b=some l:=by simp[Mp.put]
theorem Mp.put_ext{σ:Mp}{b:Nat}(l:Loc)(h:σ b=none):Ext σ (σ.put b l):=by
 intro c m hc
 unfold Mp.put
 by_cases e:c=b
 ·subst e;rw[h] at hc;cases hc
 ·rw[if_neg e];exact hc
theorem WL.fresh{P:Program}{σ:Mp}{H:Heap}{w:World}(h:WL P σ H w){b:Nat}(hb:H.nx<=b):σ b=none:=by
 cases e:σ b with
 |none=>rfl
 |some l=>have:=h.dom b l e;omega
theorem WL.get_lt{P:Program}{σ:Mp}{H:Heap}{w:World}(h:WL P σ H w){b:Nat}{o:Obj}(hb:H.t.get b=some o):b<H.nx:=by
 exact h.low b o hb
theorem WL.blk_lt{P:Program}{σ:Mp}{H:Heap}{w:World}(h:WL P σ H w){b:Nat}{o:Obj}{l:Loc}(hb:H.t.get b=some o)(hl:σ b=some l):l.blk<w.heap.size:=by
 obtain⟨c,hc,_⟩:=h.alive b o l hb hl
 exact(Ym.1 hc).1
theorem Heap.get_new(H:Heap)(o:Obj)(b:Nat):(H.new o).t.get b=if H.nx=b then some o else H.t.get b:=T.get_set _ _ _ _
theorem Heap.nx_new(H:Heap)(o:Obj):(H.new o).nx=H.nx+1:=rfl
theorem Heap.ro_new(H:Heap)(o:Obj):(H.new o).ro=H.ro:=rfl
theorem Heap.get_put(H:Heap)(c:Nat)(o:Obj)(b:Nat):(H.put c o).t.get b=if c=b then some o else H.t.get b:=T.get_set _ _ _ _
theorem Sx{w:World}{o:Go.Obj}{k:Nat}(h:k<w.heap.size):(w.alloc o).heap[k]? =w.heap[k]? :=heap_alloc_old w o k h
theorem Sw(w:World)(o:Go.Obj):(w.alloc o).heap[w.heap.size]? =some o:=heap_alloc_new w o
theorem Tr.alloc{P:Program}{σ:Mp}{H:Heap}{w:World}(h:WL P σ H w)(o:Obj)(c:Go.Obj)(l:Loc)(hl:l.blk=w.heap.size)
  (ho:UI (σ.put H.nx l) o l c):Tr P σ H w (σ.put H.nx l) (H.new o) (w.alloc c):=by
 have hf:σ H.nx=none:=h.fresh (Zz _)
 have he:=Mp.put_ext l hf
 refine⟨he,⟨?_,?_,?_,?_,?_,?_⟩,by simp,?_,?_,by simp[Heap.nx_new],rfl,?_,rfl,rfl,rfl,λb hb hn=>⟨by rw[Heap.get_new,if_neg (by omega)],by unfold Mp.put;rw[if_neg (by omega)];exact hn⟩⟩
 ·intro b m hb
  rw[Heap.nx_new]
  unfold Mp.put at hb
  by_cases e:b=H.nx
  ·omega
  ·rw[if_neg e] at hb;have:=h.dom b m hb;omega
 ·intro b o' hb
  rw[Heap.get_new] at hb
  rw[Heap.nx_new]
  by_cases e:H.nx=b
  ·omega
  ·rw[if_neg e] at hb;have:=h.low b o' hb;omega
 ·intro b o' l' hb hl'
  rw[Heap.get_new] at hb
  by_cases e:H.nx=b
  ·rw[if_pos e] at hb;cases hb;subst e
   rw[Mp.put_same] at hl';cases hl'
   exact⟨c,by rw[hl];exact Sw w c,ho⟩
  ·rw[if_neg e] at hb
   have hl2:σ b=some l':=by unfold Mp.put at hl';rwa [if_neg (λx=>e x.symm)] at hl'
   obtain⟨c',hc',hr⟩:=h.alive b o' l' hb hl2
   exact⟨c',by rw[Sx (Ym.1 hc').1];exact hc',hr.mono he⟩
 ·intro b b' o1 o2 l1 l2 hb hb' hl1 hl2 e
  rw[Heap.get_new] at hb hb'
  by_cases e1:H.nx=b<;>by_cases e2:H.nx=b'
  ·omega
  ·rw[if_neg e2] at hb'
   subst e1
   rw[Mp.put_same] at hl1;cases hl1
   have ZbL:σ b'=some l2:=by unfold Mp.put at hl2;rwa [if_neg (λx=>e2 x.symm)] at hl2
   have:=h.blk_lt hb' ZbL
   omega
  ·rw[if_neg e1] at hb
   subst e2
   rw[Mp.put_same] at hl2;cases hl2
   have ZbK:σ b=some l1:=by unfold Mp.put at hl1;rwa [if_neg (λx=>e1 x.symm)] at hl1
   have:=h.blk_lt hb ZbK
   omega
  ·rw[if_neg e1] at hb;rw[if_neg e2] at hb'
   have ZbK:σ b=some l1:=by unfold Mp.put at hl1;rwa [if_neg (λx=>e1 x.symm)] at hl1
   have ZbL:σ b'=some l2:=by unfold Mp.put at hl2;rwa [if_neg (λx=>e2 x.symm)] at hl2
   exact h.inj b b' o1 o2 l1 l2 hb hb' ZbK ZbL e
 ·intro g hg
  obtain⟨l',h1,h2⟩:=h.glob g hg
  exact⟨l',he g l' h1,h2⟩
 ·rw[Heap.ro_new,Heap.nx_new];have:=h.ro;omega
 ·intro k hk _
  exact Sx hk
 ·intro b l' hw hl' hlt
  obtain⟨hro,o',ho',hown⟩:=hw
  rw[Heap.get_new] at ho'
  by_cases e:H.nx=b
  ·subst e
   rw[Mp.put_same] at hl';cases hl'
   omega
  ·rw[if_neg e] at ho'
   have hl2:σ b=some l':=by unfold Mp.put at hl';rwa [if_neg (λx=>e x.symm)] at hl'
   exact⟨b,l',⟨hro,o',ho',hown⟩,hl2,rfl⟩
 ·intro b hb
  rw[Heap.get_new,if_neg]
  have:=h.ro;omega
theorem Tr.write{P:Program}{σ:Mp}{H:Heap}{w w':World}(h:WL P σ H w){b:Nat}{o o':Obj}{l:Loc}{c':Go.Obj}
  (hb:H.t.get b=some o)(hl:σ b=some l)(hw:Wr H b)
  (hsize:w'.heap.size=w.heap.size)(hnew:w'.heap[l.blk]? =some c')(hold: ∀k,k≠l.blk->w'.heap[k]? =w.heap[k]?)
  (ho:UI σ o' l c')(ht:w'.tape=w.tape)(hos:w'.os=w.os)(hout:w'.output=w.output):Tr P σ H w σ (H.put b o') w':=by
 refine⟨Ext.refl σ,⟨h.dom,?_,?_,?_,h.glob,h.ro⟩,by omega,?_,?_,Zz _,rfl,?_,ht,hos,hout,λb1 _ hn=>⟨by rw[Heap.get_put,if_neg (λe=>by subst e;rw[hl] at hn;cases hn)],hn⟩⟩
 ·intro b1 o1 hb1
  rw[Heap.get_put] at hb1
  by_cases e:b=b1
  ·subst e;exact h.low b o hb
  ·rw[if_neg e] at hb1;exact h.low b1 o1 hb1
 ·intro b1 o1 l1 hb1 hl1
  rw[Heap.get_put] at hb1
  by_cases e:b=b1
  ·rw[if_pos e] at hb1;cases hb1;subst e
   rw[hl] at hl1;cases hl1
   exact⟨c',hnew,ho⟩
  ·rw[if_neg e] at hb1
   obtain⟨c1,hc1,hr⟩:=h.alive b1 o1 l1 hb1 hl1
   refine⟨c1,?_,hr⟩
   rw[hold l1.blk ?_];exact hc1
   intro e2
   exact e (h.alone hb hb1 hl hl1 e2.symm λs=>hw.hard hb s.1)
 ·intro b1 b2 o1 o2 l1 l2 h1 h2 k1 k2 e
  have g: ∀(x:Nat) (ox:Obj),(H.put b o').t.get x=some ox-> ∃oy,H.t.get x=some oy:=by
   intro x ox hx
   rw[Heap.get_put] at hx
   by_cases ex:b=x
   ·subst ex;exact⟨o,hb⟩
   ·rw[if_neg ex] at hx;exact⟨ox,hx⟩
  obtain⟨o1',h1'⟩:=g b1 o1 h1
  obtain⟨o2',h2'⟩:=g b2 o2 h2
  rcases h.inj b1 b2 o1' o2' l1 l2 h1' h2' k1 k2 e with e1|⟨s1,s2⟩
  ·exact .inl e1
  ·rw[Heap.get_put] at h1 h2
   rw[if_neg (λx=>by subst x;exact hw.hard h1' s1)] at h1
   rw[if_neg (λx=>by subst x;exact hw.hard h2' s2)] at h2
   rw[h1] at h1';cases h1'
   rw[h2] at h2';cases h2'
   exact .inr ⟨s1,s2⟩
 ·intro k hk hn
  exact hold k λe=>hn b l hw hl e.symm
 ·intro b1 l1 hw1 hl1 hlt
  by_cases e:b=b1
  ·subst e;exact⟨b,l1,hw,hl1,rfl⟩
  ·obtain⟨hro,o1,ho1,hown⟩:=hw1
   rw[Heap.get_put,if_neg e] at ho1
   exact⟨b1,l1,⟨hro,o1,ho1,hown⟩,hl1,rfl⟩
 ·intro b1 hb1
  rw[Heap.get_put,if_neg]
  intro e;have:=hw.1;omega
namespace N8
variable {α:Type}
theorem proj_upd(i j:Nat)(hi:i<8)(hj:j<8)(f:α->α)(n:N8 α):proj i (upd j f n)=if i=j then f (proj i n) else proj i n:=by
 obtain⟨a,b,c,d,e,g,h,k⟩:=n
 match i,hi,j,hj with
 |0,_,0,_=>rfl|0,_,1,_=>rfl|0,_,2,_=>rfl|0,_,3,_=>rfl|0,_,4,_=>rfl|0,_,5,_=>rfl|0,_,6,_=>rfl|0,_,7,_=>rfl
 |1,_,0,_=>rfl|1,_,1,_=>rfl|1,_,2,_=>rfl|1,_,3,_=>rfl|1,_,4,_=>rfl|1,_,5,_=>rfl|1,_,6,_=>rfl|1,_,7,_=>rfl
 |2,_,0,_=>rfl|2,_,1,_=>rfl|2,_,2,_=>rfl|2,_,3,_=>rfl|2,_,4,_=>rfl|2,_,5,_=>rfl|2,_,6,_=>rfl|2,_,7,_=>rfl
 |3,_,0,_=>rfl|3,_,1,_=>rfl|3,_,2,_=>rfl|3,_,3,_=>rfl|3,_,4,_=>rfl|3,_,5,_=>rfl|3,_,6,_=>rfl|3,_,7,_=>rfl
 |4,_,0,_=>rfl|4,_,1,_=>rfl|4,_,2,_=>rfl|4,_,3,_=>rfl|4,_,4,_=>rfl|4,_,5,_=>rfl|4,_,6,_=>rfl|4,_,7,_=>rfl
 |5,_,0,_=>rfl|5,_,1,_=>rfl|5,_,2,_=>rfl|5,_,3,_=>rfl|5,_,4,_=>rfl|5,_,5,_=>rfl|5,_,6,_=>rfl|5,_,7,_=>rfl
 |6,_,0,_=>rfl|6,_,1,_=>rfl|6,_,2,_=>rfl|6,_,3,_=>rfl|6,_,4,_=>rfl|6,_,5,_=>rfl|6,_,6,_=>rfl|6,_,7,_=>rfl
 |7,_,0,_=>rfl|7,_,1,_=>rfl|7,_,2,_=>rfl|7,_,3,_=>rfl|7,_,4,_=>rfl|7,_,5,_=>rfl|7,_,6,_=>rfl|7,_,7,_=>rfl
theorem proj_all(i:Nat)(x:α):proj i (all x)=x:=by
 unfold proj
 split<;>rfl
end N8
theorem JM(n m:Nat)(hn:n<512)(hm:m<512)(tm:TM)(v:AV):Sm n (Pq m tm v)=if n=m then v else Sm n tm:=by
 show N8.proj (n % 8) (N8.proj (n/8 % 8) (N8.proj (n/64) (N8.upd (m/64) (N8.upd (m/8 % 8) (N8.upd (m % 8) (λ_=>v))) tm)))=if n=m then v else N8.proj (n % 8) (N8.proj (n/8 % 8) (N8.proj (n/64) tm))
 rw[N8.proj_upd _ _ (by omega) (by omega)]
 by_cases h1:n/64=m/64
 ·rw[if_pos h1,N8.proj_upd _ _ (by omega) (by omega)]
  by_cases h2:n/8 % 8=m/8 % 8
  ·rw[if_pos h2,N8.proj_upd _ _ (by omega) (by omega)]
   by_cases h3:n % 8=m % 8
   ·rw[if_pos h3,if_pos (by omega)]
   ·rw[if_neg h3,if_neg (by omega)]
  ·rw[if_neg h2,if_neg (by omega)]
 ·rw[if_neg h1,if_neg (by omega)]
theorem sF(n:Nat):Sm n NZ=.unk:=by
 show N8.proj (n % 8) (N8.proj (n/8 % 8) (N8.proj (n/64) NZ))=_
 rw[show NZ=N8.all u64 from rfl,N8.proj_all,show u64=N8.all u8 from rfl,N8.proj_all,show u8=N8.all AV.unk from rfl,N8.proj_all]
structure Qo(σ:Mp)(N:Nat)(tm:TM)(t:Array Value):Prop where
 size:N<=t.size
 get: ∀n,n<512->YU σ (Sm n tm) (t.getD n undef)
theorem Qo.mono{σ σ':Mp}{N:Nat}{tm:TM}{t:Array Value}(h:Ext σ σ')(x:Qo σ N tm t):Qo σ' N tm t:=⟨x.size,λn hn=>(x.get n hn).mono h⟩
theorem Qo.set{σ:Mp}{N:Nat}{tm:TM}{t:Array Value}(x:Qo σ N tm t){d:Nat}{a:AV}{v:Value}(hd:d<N)(h:YU σ a v):
  Qo σ N (Ws (some d) tm a) (t.setIfInBounds d v):=by
 refine⟨by simpa using x.size,λn hn=>?_⟩
 have hs:=x.size
 by_cases h5:d<=511
 ·have hb:Nat.ble d 511=true:=Zj h5
  have e:Ws (some d)=Pq d:=by show cond (Nat.ble d 511) (Pq d) d0=_;rw[hb];rfl
  rw[e,JM n d hn (by omega)]
  by_cases e1:n=d
  ·subst e1
   rw[if_pos rfl]
   simp only[Yr,Xp]
   have:n<t.size:=by omega
   simpa [this] using h
  ·rw[if_neg e1]
   simp only[Yr,Xp]
   rw[if_neg (λz=>e1 z.symm)]
   have:=x.get n hn
   simpa only[Yr] using this
 ·have hb:Nat.ble d 511=false:=by
   cases e:Nat.ble d 511 with
   |false=>rfl
   |true=>exact absurd (Yn e) h5
  have e:Ws (some d)=d0:=by show cond (Nat.ble d 511) (Pq d) d0=_;rw[hb];rfl
  rw[e]
  show YU σ (Sm n tm) _
  simp only[Yr,Xp]
  rw[if_neg (by omega)]
  have:=x.get n hn
  simpa only[Yr] using this
theorem LI{σ:Mp}{f:Value->AV}: ∀(l:List Value),(∀v∈l,YU σ (f v) v)->Xj σ (zR f l) l
 |[],_=>V1
 |v::l,h=>WB (h v (by simp)) (LI l λu hu=>h u (by simp[hu]))
theorem uK(σ:Mp): ∀(n:Nat) (v:Value),Mi n v=true->YU σ (Jb n v) v:=by
 intro n
 induction n with
 |zero=>intro v _;simp[Jb,YU]
 |succ n ih=>
  intro v hp
  unfold Jb
  split
  ·simp[YU]
  ·simp[YU]
  ·rename_i s;simp only[YU]
  ·simp[YU]
  ·simp[YU]
  ·simp[YU]
  ·simp[YU]
  ·simp only[YU];exact⟨[],[],V1,V1,rfl⟩
  ·simp[YU]
  ·rename_i t u;simp only[YU];exact⟨u,ih u (by simpa [Mi] using hp),rfl⟩
  ·rename_i cs
   simp only[Mi,Y2,Xf] at hp
   simp only[YU]
   exact⟨cs,LI cs λv hv=>ih v (hp v hv).2,λv hv=>(by have:=(hp v hv).1;cases v<;>first|rfl|exact this),rfl⟩
  ·rename_i cs
   simp only[Mi,Y2] at hp
   simp only[YU]
   exact⟨cs,LI cs λv hv=>ih v (hp v hv),rfl⟩
  ·simp[YU]
theorem Rf{α:Type}(a:Nat)(f:Nat->α):TX a f=f a:=by cases a<;>rfl
theorem Pa{α:Type}(n:Int)(f:Int->α):PW n f=f n:=by
 cases n with
 |ofNat a=>show TX a (λa=>f (.ofNat a))=_;rw[Rf]
 |negSucc a=>show TX a (λa=>f (.negSucc a))=_;rw[Rf]
theorem eZ(a b:Int):v7 a b=a+b:=by cases a<;>cases b<;>rfl
theorem ri(a b:Int):FD a b=a - b:=by
 cases a<;>cases b<;>try rfl
 rename_i x y
 show cond (Nat.ble y x) (Int.ofNat (x - y)) (Int.ofNat x - Int.ofNat y)=_
 cases h:Nat.ble y x with
 |false=>rfl
 |true=>have:=Yn h;show Int.ofNat (x - y)=_;simp only[Y4];omega
theorem sY(a b:Int):zi a b=a*b:=by cases a<;>cases b<;>rfl
theorem dh(a b:Int):ZbV a b=a.tdiv b:=by cases a<;>cases b<;>rfl
theorem dk(a b:Int):ZbW a b=a.tmod b:=by cases a<;>cases b<;>rfl
theorem YZ(a b:Nat):Nat.beq a b=decide (a=b):=by
 by_cases h:a=b
 ·subst h;simp
 ·rw[Ze h]
  cases e:Nat.beq a b with
  |false=>rfl
  |true=>exact absurd (Ye e) h
theorem XF(a b:Nat):Nat.ble a b=decide (a<=b):=by
 by_cases h:a<=b
 ·rw[Zi h];exact Zj h
 ·rw[Ze h]
  cases e:Nat.ble a b with
  |false=>rfl
  |true=>exact absurd (Yn e) h
theorem Pf(a b:Int):GW a b=(a==b):=by
 cases a<;>cases b
 ·rename_i x y;show Nat.beq x y=_;rw[YZ,Vw];simp;omega
 ·rfl
 ·rfl
 ·rename_i x y;show Nat.beq x y=_;rw[YZ,Vw];simp
theorem Nt(a b:Int):xk a b=decide (a<b):=by
 cases a<;>cases b
 ·rename_i x y;show Nat.ble (x+1) y=_;rw[XF,Vw];simp;omega
 ·rename_i x y;show false=_;rw[Vw];simp;omega
 ·rename_i x y;show true=_;rw[Vw];simp;omega
 ·rename_i x y;show Nat.ble (y+1) x=_;rw[XF,Vw];simp;omega
theorem Zb1(a b:IntKind):PR a b=decide (a=b):=by cases a<;>cases b<;>rfl
theorem SS{a b:IntKind}(h:PR a b=true):a=b:=by rw[Zb1] at h;exact Zm h
theorem IV(k:IntKind)(m:Nat)(n:Int)(hs:k.signed=false)(hm:(2^k.bits:Int)=m):AE k m n=k.wrap n:=by
 cases n with
 |negSucc a=>rfl
 |ofNat a=>
  show cond (Nat.ble m a) (Int.ofNat (a % m)) (Int.ofNat a)=_
  unfold IntKind.wrap
  simp only[hs,hm,Ov,XW,if_false]
  rw[XF]
  by_cases h:m<=a
  ·rw[Zi h];simp
  ·rw[Ze h]
   show Int.ofNat a=_
   rw[Y4,Int.emod_eq_of_lt (by omega) (by omega)]
theorem IU(k:IntKind)(h:Nat)(n:Int)(hs:k.signed=true)(hm:(2^k.bits:Int)=2*h)(hh:(2^(k.bits - 1):Int)=h)(h0:0<h):vh k h n=k.wrap n:=by
 cases n with
 |ofNat a=>
  show cond (Nat.ble h a) (k.wrap (Int.ofNat a)) (Int.ofNat a)=_
  rw[XF]
  by_cases g:h<=a
  ·rw[Zi g];rfl
  ·rw[Ze g]
   show Int.ofNat a=_
   unfold IntKind.wrap
   simp only[hs,hm,hh,Sv]
   rw[Y4,Int.emod_eq_of_lt (by omega) (by omega),if_neg]
   simp;omega
 |negSucc a=>
  show cond (Nat.ble h a) (k.wrap (Int.negSucc a)) (Int.negSucc a)=_
  rw[XF]
  by_cases g:h<=a
  ·rw[Zi g];rfl
  ·rw[Ze g]
   show Int.negSucc a=_
   unfold IntKind.wrap
   simp only[hs,hm,hh,Sv]
   have e:(Int.negSucc a) % (2*(h:Int))=Int.negSucc a+2*h:=by
    have:=Int.add_mul_emod_self_left (Int.negSucc a) (2*(h:Int)) 1
    rw[<-this,Int.mul_one,Int.emod_eq_of_lt (by omega) (by omega)]
   rw[e,if_pos]
   ·omega
   ·simp;omega
theorem OT(k:IntKind)(n:Int):ZaF k n=k.wrap n:=by
 cases k
 ·exact IU .i8 128 n rfl (by decide) (by decide) (by decide)
 ·exact IU .i16 32768 n rfl (by decide) (by decide) (by decide)
 ·exact IU .i32 2147483648 n rfl (by decide) (by decide) (by decide)
 ·exact IU .i64 9223372036854775808 n rfl (by decide) (by decide) (by decide)
 ·exact IV .u8 256 n rfl (by decide)
 ·exact IV .u16 65536 n rfl (by decide)
 ·exact IV .u32 4294967296 n rfl (by decide)
 ·exact IV .u64 18446744073709551616 n rfl (by decide)
theorem Dg(k:IntKind):UC k=2^k.bits:=by cases k<;>rfl
theorem n6(k:IntKind):si k=k.bits:=by cases k<;>rfl
theorem I1(k:IntKind)(n:Int):UK (UC k) n=(BitVec.ofInt k.bits n).toNat:=by
 rw[BitVec.toNat_ofInt,Dg]
 have hp:0<2^k.bits:=Nat.two_pow_pos _
 generalize 2^k.bits=m at*
 cases n with
 |ofNat a=>
  show a % m=_
  simp only[Y4]
  norm_cast
 |negSucc a=>
  show(m - 1) - a % m=_
  have h:(Int.negSucc a) % (m:Int)=((m - 1 - a % m:Nat):Int):=by
   rw[Int.negSucc_emod _ (by omega)]
   have:=X7 a hp
   omega
  rw[h];simp
theorem yr(k:IntKind)(a b:Int):Nat.land (BitVec.ofInt k.bits a).toNat ((2^k.bits - 1) - (BitVec.ofInt k.bits b).toNat)=(BitVec.ofInt k.bits a&&& ~~~ (BitVec.ofInt k.bits b)).toNat:=by
 rw[BitVec.toNat_and,BitVec.toNat_not];rfl
theorem xn(P:Program)(w:World)(op:BinOp)(f:Nat->Nat->Nat->Nat)(hop:(op=.and∧f=Ro)∨(op=.or∧f=Cp)∨(op=.xor∧f=CI)∨(op=.andNot∧f=Jv))(k:IntKind)(a b:Int):
  (Op.intBits op k a b).run P w=.ok (.int k (k.wrap (Int.ofNat (f (UC k) (UK (UC k) a) (UK (UC k) b))))) w:=by
 rw[I1,I1]
 rcases hop with⟨rfl,rfl⟩|⟨rfl,rfl⟩|⟨rfl,rfl⟩|⟨rfl,rfl⟩
 ·simp[Op.intBits,Ro]
 ·simp[Op.intBits,Cp]
 ·simp[Op.intBits,CI]
 ·unfold Jv;rw[Dg]
  have:=yr k a b
  simp only[Op.intBits]
  rw[show(Nat.land (BitVec.ofInt k.bits a).toNat (Nat.sub (Nat.sub (2^k.bits) 1) (BitVec.ofInt k.bits b).toNat))=_ from this]
  rfl
theorem gD(P:Program)(w:World)(k:IntKind)(a:Int):
  (Op.intBits .xor k (if k.signed then -1 else k.max) a).run P w=.ok (.int k (k.wrap (Int.ofNat (Nat.sub (Nat.sub (UC k) 1) (UK (UC k) a))))) w:=by
 rw[I1,Dg]
 have h:BitVec.ofInt k.bits (if k.signed then -1 else k.max)=BitVec.allOnes k.bits:=by
  cases k<;>decide
 simp only[Op.intBits,h]
 have e:(BitVec.allOnes k.bits^^^BitVec.ofInt k.bits a)= ~~~ (BitVec.ofInt k.bits a):=by rw[BitVec.allOnes_xor]
 rw[e,BitVec.toNat_not]
 rfl
theorem dw(a:Int)(b:Nat):Zb0 a b=a.fdiv (2^b):=by
 have hp:(0:Int)<((2^b:Nat):Int):=by have:=Nat.two_pow_pos b;omega
 have he:(2^b:Int)=((2^b:Nat):Int):=by simp
 rw[he,Int.fdiv_eq_ediv_of_nonneg _ (by omega)]
 cases a with
 |ofNat x=>
  show Int.ofNat (x/2^b)=_
  rfl
 |negSucc x=>
  show Int.negSucc (x/2^b)=_
  rw[Int.negSucc_ediv _ hp]
  rfl
def Xx(P:Program)(σ:Mp)(H:Heap)(w:World)(r:Result Next):OR->Prop
 |.val v H'=> ∃σ' w' x,(r=.ok (.value x) w'∨(r=.ok .skip w'∧x=undef))∧YU σ' v x∧Tr P σ H w σ' H' w'
 |.oth .fail=>True
 |.oth (.call f args H')=>H'=H∧ ∃vs,Xj σ args vs∧r=(callFunc f ⟨vs⟩).run P w
 |.oth (.yield b args H')=>H'=H∧ ∃l vs,σ b=some l∧Xj σ args vs∧r=(Instr.yield l.blk ⟨vs⟩).run P w
 |.oth (.pan v H')=>H'=H∧ ∃x,YU σ v x∧r=.halt (.panic x) w
 |.oth .recov=>r=.ok .recover w
 |.oth (.defer f args)=> ∀g a b,f=.func g a b-> ∃x y z,Xj σ a x∧Xj σ args y∧Xj σ b z∧r=.ok (.defer {target:=.fn (.func g) ⟨z⟩,args:=⟨x++y⟩}) w
section
variable {P:Program} {σ:Mp} {H:Heap} {w:World} {r:Result Next}
theorem YI(hs:WL P σ H w){v:AV}{x:Value}(h:r=.ok (.value x) w)(hr:YU σ v x):Xx P σ H w r (.val v H):=
 ⟨σ,w,x,.inl h,hr,Tr.refl hs⟩
theorem RA{v:AV}{f:IntKind->Int->OR}(h: ∀k n,v=.int k n->Xx P σ H w r (f k n)):Xx P σ H w r (Qh v f):=by
 unfold Qh;split
 ·exact h _ _ rfl
 ·trivial
theorem Sr{v:AV}{f:Nat->OR}(h: ∀k n,v=.int k (.ofNat n)->Xx P σ H w r (f n)):Xx P σ H w r (T8 v f):=by
 unfold T8;split
 ·exact h _ _ rfl
 ·trivial
theorem Bk{v:AV}{f:Bool->OR}(h: ∀b,v=.bool b->Xx P σ H w r (f b)):Xx P σ H w r (HL v f):=by
 unfold HL;split
 ·exact h _ rfl
 ·trivial
theorem PB{v:AV}{f:List UInt8->OR}(h: ∀s,v=.str s->Xx P σ H w r (f s)):Xx P σ H w r (PL v f):=by
 unfold PL;split
 ·exact h _ rfl
 ·trivial
theorem Qy{v:AV}{f:Nat->Nat->OR}(h: ∀b o,v=.ptr b o->Xx P σ H w r (f b o)):Xx P σ H w r (Rq v f):=by
 unfold Rq;split
 ·exact h _ _ rfl
 ·trivial
theorem JQ{v:AV}{f:List AV->OR}(h: ∀cs,v=.agg cs->Xx P σ H w r (f cs)):Xx P σ H w r (G4 v f):=by
 unfold G4;split
 ·exact h _ rfl
 ·trivial
theorem lJ{v:AV}{f:List AV->OR}(h: ∀cs,v=.tup cs->Xx P σ H w r (f cs)):Xx P σ H w r (rO v f):=by
 unfold rO;split
 ·exact h _ rfl
 ·trivial
theorem OA{v:AV}{n:OR}{f:Nat->AV->OR}(h0:v=.nili->Xx P σ H w r n)(h: ∀t x,v=.iface t x->Xx P σ H w r (f t x)):Xx P σ H w r (QI v n f):=by
 unfold QI;split
 ·exact h _ _ rfl
 ·exact h0 rfl
 ·trivial
theorem Se{v:AV}{n:OR}{f:Nat->Nat->Nat->Option Nat->OR}(h0:v=.nils->Xx P σ H w r n)(h: ∀b o l c,v=.slice b o l c->Xx P σ H w r (f b o l c)):Xx P σ H w r (TD v n f):=by
 unfold TD;split
 ·exact h _ _ _ _ rfl
 ·exact h0 rfl
 ·trivial
theorem JS{v:AV}{z n:OR}(h0:v=.slice0->Xx P σ H w r z)(h:Xx P σ H w r n):Xx P σ H w r (cN v z n):=by
 unfold cN;split
 ·exact h0 rfl
 ·exact h
theorem JR{v:AV}{n:OR}{f:Nat->OR}(h0:v=.nilm->Xx P σ H w r n)(h: ∀b,v=.map b->Xx P σ H w r (f b)):Xx P σ H w r (Dv v n f):=by
 unfold Dv;split
 ·exact h _ rfl
 ·exact h0 rfl
 ·trivial
theorem OC{b:Nat}{f:Obj->OR}(h: ∀o,H.t.get b=some o->Xx P σ H w r (f o)):Xx P σ H w r (KD H b f):=by
 unfold KD;split
 ·rename_i o ho;exact h _ ho
 ·trivial
theorem Ty{b:Nat}{f:Row->OR}(h: ∀o,H.t.get b=some (.row o)->Xx P σ H w r (f o)):Xx P σ H w r (XA H b f):=by
 unfold XA;split
 ·rename_i o ho;exact h _ ho
 ·trivial
theorem Qf{α:Type}{x:Option α}{f:α->OR}(h: ∀a,x=some a->Xx P σ H w r (f a)):Xx P σ H w r (TK x f):=by
 unfold TK;split
 ·exact h _ rfl
 ·trivial
theorem YS{b:Bool}{f:OR}(h:b=true->Xx P σ H w r f):Xx P σ H w r (Yb b f):=by
 cases b with
 |false=>exact trivial
 |true=>exact h rfl
theorem Ul{b:Bool}{f g:OR}(h1:b=true->Xx P σ H w r f)(h2:b=false->Xx P σ H w r g):Xx P σ H w r (cond b f g):=by
 cases b with
 |false=>exact h2 rfl
 |true=>exact h1 rfl
theorem Nb{a:Nat}{f:Nat->OR}(h:Xx P σ H w r (f a)):Xx P σ H w r (TX a f):=by rw[Rf];exact h
theorem M5{a:Int}{f:Int->OR}(h:Xx P σ H w r (f a)):Xx P σ H w r (PW a f):=by rw[Pa];exact h
theorem Rh(hs:WL P σ H w){k:IntKind}{n:Int}(h:r=.ok (.value (.int k (k.wrap n))) w):Xx P σ H w r (Ts k n H):=by
 unfold Ts
 refine M5 ?_
 rw[OT]
 exact YI hs h (by simp[YU])
theorem KZ(hs:WL P σ H w){b:Bool}(h:r=.ok (.value (.bool b)) w):Xx P σ H w r (SF b H):=by
 unfold SF
 cases b
 ·exact YI hs h (by simp[YU])
 ·exact YI hs h (by simp[YU])
theorem qW{x y:AV}{f:IntKind->Int->Int->OR}(h: ∀k a b,x=.int k a->y=.int k b->Xx P σ H w r (f k a b)):Xx P σ H w r (HA x y f):=by
 unfold HA
 refine RA λj a hx=>RA λl b hy=>YS λhk=>?_
 have:=SS hk;subst this
 exact h j a b hx hy
def Rc(P:Program)(σ:Mp)(tm:TM)(ρ:Operand->Value):Prop:= ∀x,YU σ (Xo P x tm) (ρ x)
theorem Q6(σ:Mp)(v:Value):YU σ (W0 v) v:=by
 unfold W0
 cases h:Mi 20 v with
 |false=>simp[YU]
 |true=>exact uK σ 20 v h
theorem LC(hs:WL P σ H w){N:Nat}{tm:TM}{a:Act}(ht:Qo σ N tm a.tmps):Rc P σ tm a.eval:=by
 intro x
 cases x with
 |tmp t=>
  show YU σ ((cond (Nat.ble t 511) (Sm t) (k .unk)) tm) _
  rw[XF]
  by_cases h:t<=511
  ·rw[Zi h];exact ht.get t (RM h)
  ·rw[Ze h];simp[k,YU]
 |const v=>exact Q6 σ v
 |global g=>
  show YU σ ((cond (Nat.ble (Nat.succ g) P.globals.size) (k (.ptr g 0)) (k .unk)) tm) _
  rw[XF]
  by_cases h:Nat.succ g<=P.globals.size
  ·rw[Zi h]
   obtain⟨l,hl,hb,h0⟩:=hs.glob g h
   show YU σ (.ptr g 0) (.pointer (some ⟨g,0,none⟩))
   simp only[YU]
   exact⟨l,hl,by rw[hb,h0]⟩
  ·rw[Ze h];simp[k,YU]
 |func f=>simp only[Act.eval,Xo,k,YU];exact⟨[],[],V1,V1,rfl⟩
theorem X3{k:IntKind}{n:Int}{v:Value}(h:YU σ (.int k n) v):v=.int k n:=by simpa [YU] using h
theorem TE{b:Bool}{v:Value}(h:YU σ (.bool b) v):v=.bool b:=by simpa [YU] using h
theorem V3{s:List UInt8}{v:Value}(h:YU σ (.str s) v):v=.string ⟨s.toArray⟩:=by simpa [YU] using h
theorem Va{s:Sem Value}{x:Value}{w':World}(h:s.run P w=.ok x w'):((do pure (Next.value (<-s)):Sem Next)).run P w=.ok (.value x) w':=by
 simp[h]
end
section
variable {P:Program} {σ:Mp} {H:Heap} {w:World} {tm:TM} {ρ:Operand->Value}
def XX(P:Program)(σ:Mp)(H:Heap)(w:World)(tm:TM)(ρ:Operand->Value)(o:Oper):Prop:=
 Xx P σ H w ((execOp ρ o).run P w) (VH P o.op tm H)
theorem cH(hs:WL P σ H w)(hρ:Rc P σ tm ρ){o:Oper}{x:Operand}(ho:o.op=.move x):XX P σ H w tm ρ o:=by
 unfold XX;rw[ho]
 exact YI hs (by simp[execOp,ho]) (hρ x)
theorem ol(hs:WL P σ H w)(hρ:Rc P σ tm ρ){o:Oper}{x:Operand}(ho:o.op=.assign x):XX P σ H w tm ρ o:=by
 unfold XX;rw[ho]
 exact YI hs (by simp[execOp,ho]) (hρ x)
theorem cJ(hs:WL P σ H w)(hρ:Rc P σ tm ρ){o:Oper}{c a b:Operand}(ho:o.op=.pick c a b):XX P σ H w tm ρ o:=by
 unfold XX;rw[ho]
 refine Bk λt ht=>?_
 have hc:=hρ c;rw[ht] at hc
 have hc:=TE hc
 cases t
 ·exact YI hs (x:=ρ b) (by simp[execOp,ho,asBool,hc]) (hρ b)
 ·exact YI hs (x:=ρ a) (by simp[execOp,ho,asBool,hc]) (hρ a)
theorem Zcw(hs:WL P σ H w)(hρ:Rc P σ tm ρ){o:Oper}{x:Operand}(ho:o.op=.nilCheck x):XX P σ H w tm ρ o:=by
 unfold XX;rw[ho]
 show Xx P σ H w _ (zJ (Xo P x tm) (.val (Xo P x tm) H))
 have hx:=hρ x
 unfold zJ
 split
 ·rename_i b o' e
  rw[e] at hx
  have h0:=hx
  simp only[YU] at hx
  obtain⟨l,hl,hv⟩:=hx
  rw[e]
  exact YI hs (x:=ρ x) (by simp[execOp,ho,hv]) h0
 ·rename_i f a b e
  rw[e] at hx
  have h0:=hx
  simp only[YU] at hx
  obtain⟨p,q,_,_,hv⟩:=hx
  rw[e]
  exact YI hs (x:=ρ x) (by simp[execOp,ho,hv]) h0
 ·rename_i t v e
  rw[e] at hx
  have h0:=hx
  simp only[YU] at hx
  obtain⟨p,_,hv⟩:=hx
  rw[e]
  exact YI hs (x:=ρ x) (by simp[execOp,ho,hv]) h0
 ·rename_i b e
  rw[e] at hx
  have h0:=hx
  simp only[YU] at hx
  obtain⟨p,_,hv⟩:=hx
  rw[e]
  exact YI hs (x:=ρ x) (by simp[execOp,ho,hv]) h0
 ·trivial
theorem Mm{o:Oper}{op:BinOp}{t:TypeId}{x y:Operand}{u:TypeId}(ho:o.op=.binOp op t x y u)(hg:(op matches .eql|.neq)=false){v:Value}(h:(binOp op t (ρ x) (ρ y)).run P w=.ok v w):
  (execOp ρ o).run P w=.ok (.value v) w:=by
 simp only[execOp,ho]
 refine Va ?_
 have:(eqGuard op t x y (ρ x) (ρ y)).run P w=.ok () w:=by
  cases op<;>first|rfl|cases hg
 simp[this,h]
theorem Ki(s:List UInt8):(ByteArray.mk s.toArray).toList=s:=by
 exact ByteArray.toList_eq _
theorem Nk(s:List UInt8):(ByteArray.mk s.toArray).size=s.length:=by simp[ByteArray.size]
theorem CS(a b:UInt8):I3 a b=(a==b):=by
 unfold I3
 rw[YZ,Vw]
 simp[UJ]
theorem S9: ∀a b:List UInt8,LU a b=(a==b)
 |[],[]=>rfl
 |[],_::_=>rfl
 |_::_,[]=>rfl
 |a::x,b::y=>by
  show cond (I3 a b) (LU x y) false=_
  rw[CS,S9 x y]
  rw[show((a::x)==(b::y))=(a==b&&x==y) from rfl]
  cases(a==b)<;>rfl
theorem LV: ∀a b:List UInt8,Xl a b=Op.bytesLess a b
 |[],[]=>rfl
 |[],_::_=>rfl
 |_::_,[]=>rfl
 |a::x,b::y=>by
  show cond (Nat.ble (Nat.succ a.toNat) b.toNat) true (cond (I3 a b) (Xl x y) false)=_
  rw[CS,LV x y,XF]
  simp only[Op.bytesLess]
  have:decide (a.toNat.succ<=b.toNat)=decide (a<b):=by
   rw[decide_eq_decide,V4];omega
  rw[this]
  cases decide (a<b)<;>cases(a==b)<;>simp
theorem Ii(hs:WL P σ H w)(hρ:Rc P σ tm ρ){o:Oper}{op:BinOp}{t:TypeId}{x y:Operand}{u:TypeId}(ho:o.op=.binOp op t x y u)(hg:(op matches .eql|.neq)=false)
  {f:IntKind->Int->Int->OR}(h: ∀k a b,ρ x=.int k a->ρ y=.int k b->(∀v,(binOp op t (.int k a) (.int k b)).run P w=.ok v w->(execOp ρ o).run P w=.ok (.value v) w)->Xx P σ H w ((execOp ρ o).run P w) (f k a b)):
  Xx P σ H w ((execOp ρ o).run P w) (HA (Xo P x tm) (Xo P y tm) f):=by
 refine qW λk a b hx hy=>?_
 have h1:=hρ x;rw[hx] at h1
 have h2:=hρ y;rw[hy] at h2
 have h1:=X3 h1
 have h2:=X3 h2
 exact h k a b h1 h2 λv hv=>Mm ho hg (by rw[h1,h2];exact hv)
theorem ZcB(hs:WL P σ H w)(hρ:Rc P σ tm ρ){o:Oper}{t:TypeId}{x y:Operand}{u:TypeId}(ho:o.op=.binOp .sub t x y u):XX P σ H w tm ρ o:=by
 unfold XX;rw[ho]
 refine Ii hs hρ ho rfl λk a b _ _ hr=>?_
 rw[ri]
 exact Rh hs (hr _ (by simp[binOp,Op.intArith]))
theorem Zcu(hs:WL P σ H w)(hρ:Rc P σ tm ρ){o:Oper}{t:TypeId}{x y:Operand}{u:TypeId}(ho:o.op=.binOp .mul t x y u):XX P σ H w tm ρ o:=by
 unfold XX;rw[ho]
 refine Ii hs hρ ho rfl λk a b _ _ hr=>?_
 rw[sY]
 exact Rh hs (hr _ (by simp[binOp,Op.intArith]))
theorem Zcx(hs:WL P σ H w)(hρ:Rc P σ tm ρ){o:Oper}{t:TypeId}{x y:Operand}{u:TypeId}(ho:o.op=.binOp .quo t x y u):XX P σ H w tm ρ o:=by
 unfold XX;rw[ho]
 refine Ii hs hρ ho rfl λk a b _ _ hr=>?_
 refine Ul (λ_=>trivial) λh0=>?_
 rw[Pf] at h0
 have h0: ¬b=0:=by simpa using h0
 rw[dh]
 exact Rh hs (hr _ (by simp[binOp,Op.intDiv,h0]))
theorem Zcy(hs:WL P σ H w)(hρ:Rc P σ tm ρ){o:Oper}{t:TypeId}{x y:Operand}{u:TypeId}(ho:o.op=.binOp .rem t x y u):XX P σ H w tm ρ o:=by
 unfold XX;rw[ho]
 refine Ii hs hρ ho rfl λk a b _ _ hr=>?_
 refine Ul (λ_=>trivial) λh0=>M5 ?_
 rw[Pf] at h0
 have h0: ¬b=0:=by simpa using h0
 rw[dk]
 exact YI hs (x:=.int k (a.tmod b)) (hr _ (by simp[binOp,Op.intDiv,h0])) (by simp[YU])
theorem F5(hs:WL P σ H w)(hρ:Rc P σ tm ρ){o:Oper}{op:BinOp}{f:Nat->Nat->Nat->Nat}{t:TypeId}{x y:Operand}{u:TypeId}(ho:o.op=.binOp op t x y u)
  (hop:(op=.and∧f=Ro)∨(op=.or∧f=Cp)∨(op=.xor∧f=CI)∨(op=.andNot∧f=Jv)):
  Xx P σ H w ((execOp ρ o).run P w) (Q0 (Xo P x) (Xo P y) f tm H):=by
 refine Ii hs hρ ho (by rcases hop with⟨rfl,_⟩|⟨rfl,_⟩|⟨rfl,_⟩|⟨rfl,_⟩<;>rfl) λk a b _ _ hr=>?_
 refine Rh hs (hr _ ?_)
 rw[<-xn P w op f hop k a b]
 rcases hop with⟨rfl,_⟩|⟨rfl,_⟩|⟨rfl,_⟩|⟨rfl,_⟩<;>simp[binOp]
theorem Zcz(hs:WL P σ H w)(hρ:Rc P σ tm ρ){o:Oper}{t:TypeId}{x y:Operand}{u:TypeId}(ho:o.op=.binOp .shl t x y u):XX P σ H w tm ρ o:=by
 unfold XX;rw[ho]
 refine RA λk a hx=>Sr λj b hy=>?_
 have h1:=hρ x;rw[hx] at h1
 have h2:=hρ y;rw[hy] at h2
 have h1:=X3 h1
 have h2:=X3 h2
 rw[sY]
 have e:k.wrap (a*Int.ofNat (Nat.pow 2 (cond (Nat.ble b 64) b 64)))=k.wrap (a*2^(min b k.bits)):=by
  have hk:k.bits<=64:=by cases k<;>decide
  have key: ∀c:Nat,k.bits<=c->k.wrap (a*((2^c:Nat):Int))=k.wrap (a*((2^k.bits:Nat):Int)):=by
   intro c hc
   unfold IntKind.wrap
   have:(a*((2^c:Nat):Int)) % (2^k.bits:Int)=0:=by
    apply Int.emod_eq_zero_of_dvd
    refine Int.dvd_trans ?_ (Int.dvd_mul_left _ _)
    obtain⟨d,rfl⟩: ∃d,c=k.bits+d:=⟨c - k.bits,by omega⟩
    exact⟨2^d,by rw[Qd];simp⟩
   have h2:(a*((2^k.bits:Nat):Int)) % (2^k.bits:Int)=0:=by
    apply Int.emod_eq_zero_of_dvd
    exact⟨a,by rw[Int.mul_comm];simp⟩
   rw[this,h2]
  rw[XF]
  by_cases hb:b<=64
  ·rw[Zi hb]
   show k.wrap (a*((2^b:Nat):Int))=_
   by_cases hb2:b<=k.bits
   ·rw[WR hb2];simp
   ·rw[So (by omega),key b (by omega)];simp
  ·rw[Ze hb]
   show k.wrap (a*((2^64:Nat):Int))=_
   rw[So (by omega),key 64 hk];simp
 refine Rh hs (Mm ho rfl ?_)
 rw[h1,h2,e]
 have hn: ¬(Int.ofNat b<0):=by rw[Y4];omega
 simp only[binOp,Op.shift]
 rw[if_neg hn]
 simp
theorem ZcA(hs:WL P σ H w)(hρ:Rc P σ tm ρ){o:Oper}{t:TypeId}{x y:Operand}{u:TypeId}(ho:o.op=.binOp .shr t x y u):XX P σ H w tm ρ o:=by
 unfold XX;rw[ho]
 refine RA λk a hx=>Sr λj b hy=>M5 ?_
 have h1:=hρ x;rw[hx] at h1
 have h2:=hρ y;rw[hy] at h2
 have h1:=X3 h1
 have h2:=X3 h2
 have e:OZ b (si k)=min b k.bits:=by
  unfold OZ
  rw[XF,n6]
  by_cases hb:b<=k.bits
  ·rw[Zi hb,WR hb];rfl
  ·rw[Ze hb,So (by omega)];rfl
 rw[dw,e]
 refine YI hs (x:=.int k (a.fdiv (2^(min b k.bits)))) (Mm ho rfl ?_) (by simp[YU])
 rw[h1,h2]
 have hn: ¬(Int.ofNat b<0):=by rw[Y4];omega
 simp only[binOp,Op.shift]
 rw[if_neg hn]
 simp
theorem Zcl(hs:WL P σ H w)(hρ:Rc P σ tm ρ){o:Oper}{t:TypeId}{x y:Operand}{u:TypeId}(ho:o.op=.binOp .add t x y u):XX P σ H w tm ρ o:=by
 unfold XX;rw[ho]
 show Xx P σ H w _ (Xk (Xo P x) (Xo P y) tm H)
 have h1:=hρ x
 have h2:=hρ y
 unfold Xk
 split
 ·rename_i j a e
  rw[e] at h1
  have h1:=X3 h1
  refine RA λl b hy=>YS λhk=>?_
  have:=SS hk;subst this
  rw[hy] at h2
  have h2:=X3 h2
  rw[eZ]
  exact Rh hs (Mm ho rfl (by rw[h1,h2];simp[binOp,Op.intArith]))
 ·rename_i a e
  rw[e] at h1
  have h1:=V3 h1
  refine PB λb hy=>YS λhk=>?_
  rw[hy] at h2
  have h2:=V3 h2
  rw[XF,Y6,Y6] at hk
  have hk:a.length+b.length<=4611686018427387904:=Zm hk
  refine YI hs (x:=.string ⟨(a++b).toArray⟩) (Mm ho rfl ?_) (by simp[YU])
  rw[h1,h2]
  have hm: ¬(((a.length+b.length:Nat):Int)>IntKind.i64.max):=by
   have:IntKind.i64.max=9223372036854775807:=by decide
   rw[this];omega
  simp only[binOp,Op.stringOp,Nk]
  rw[if_neg hm]
  simp only[Sem.run_pure]
  congr 2
 ·trivial
theorem zS(hs:WL P σ H w)(hρ:Rc P σ tm ρ){o:Oper}{op:BinOp}{t:TypeId}{x y:Operand}{u:TypeId}(ho:o.op=.binOp op t x y u)(hg:(op matches .eql|.neq)=false)
  {f:Int->Int->Bool}{g:List UInt8->List UInt8->Bool}
  (hf: ∀k a b,(binOp op t (.int k a) (.int k b)).run P w=.ok (.bool (f a b)) w)
  (hh: ∀a b:List UInt8,(binOp op t (.string ⟨a.toArray⟩) (.string ⟨b.toArray⟩)).run P w=.ok (.bool (g a b)) w):
  Xx P σ H w ((execOp ρ o).run P w) (Y8 (Xo P x) (Xo P y) f g tm H):=by
 have h1:=hρ x
 have h2:=hρ y
 unfold Y8
 split
 ·rename_i j a e
  rw[e] at h1
  have h1:=X3 h1
  refine RA λl b hy=>YS λhk=>?_
  have:=SS hk;subst this
  rw[hy] at h2
  have h2:=X3 h2
  exact KZ hs (Mm ho hg (by rw[h1,h2];exact hf _ _ _))
 ·rename_i a e
  rw[e] at h1
  have h1:=V3 h1
  refine PB λb hy=>?_
  rw[hy] at h2
  have h2:=V3 h2
  exact KZ hs (Mm ho hg (by rw[h1,h2];exact hh _ _))
 ·trivial
theorem PV: ∀a b:List UInt8,(Op.bytesLess a b||a==b)=!Op.bytesLess b a
 |[],[]=>rfl
 |[],_::_=>rfl
 |_::_,[]=>rfl
 |a::x,b::y=>by
  have ih:=PV x y
  simp only[Op.bytesLess]
  have e1:((a::x)==(b::y))=(a==b&&x==y):=rfl
  rw[e1]
  rcases Nat.lt_trichotomy a.toNat b.toNat with h|h|h
  ·have h1:decide (a<b)=true:=Zi (V4.2 h)
   have h2:decide (b<a)=false:=Ze (λz=>by have:=V4.1 z;omega)
   have h3:(b==a)=false:=by rw[beq_eq_false_iff_ne];intro z;subst z;omega
   rw[h1,h2,h3];rfl
  ·have hab:a=b:=UJ.1 h
   subst hab
   have h1:decide (a<a)=false:=Ze (λz=>by have:=V4.1 z;omega)
   rw[h1]
   simpa using ih
  ·have h1:decide (a<b)=false:=Ze (λz=>by have:=V4.1 z;omega)
   have h2:decide (b<a)=true:=Zi (V4.2 h)
   have h3:(a==b)=false:=by rw[beq_eq_false_iff_ne];intro z;subst z;omega
   rw[h1,h2,h3];rfl
theorem Zct(hs:WL P σ H w)(hρ:Rc P σ tm ρ){o:Oper}{t:TypeId}{x y:Operand}{u:TypeId}(ho:o.op=.binOp .lss t x y u):XX P σ H w tm ρ o:=by
 unfold XX;rw[ho]
 refine zS hs hρ ho rfl (λk a b=>?_) λa b=>?_
 ·simp[binOp,Op.intCmp,Wd,Nt]
 ·simp[binOp,Op.stringOp,LV]
theorem Zcq(hs:WL P σ H w)(hρ:Rc P σ tm ρ){o:Oper}{t:TypeId}{x y:Operand}{u:TypeId}(ho:o.op=.binOp .gtr t x y u):XX P σ H w tm ρ o:=by
 unfold XX;rw[ho]
 refine zS hs hρ ho rfl (λk a b=>?_) λa b=>?_
 ·simp[binOp,Op.intCmp,Tq,Nt]
 ·have:=PV a b
  simp[binOp,Op.stringOp,Vn,LV,this]
theorem Zcs(hs:WL P σ H w)(hρ:Rc P σ tm ρ){o:Oper}{t:TypeId}{x y:Operand}{u:TypeId}(ho:o.op=.binOp .leq t x y u):XX P σ H w tm ρ o:=by
 unfold XX;rw[ho]
 refine zS hs hρ ho rfl (λk a b=>?_) λa b=>?_
 ·have:decide (a<=b)=!decide (b<a):=by rw[Vw];simp
  simp[binOp,Op.intCmp,QV,Nt,this]
 ·have:=PV a b
  simp[binOp,Op.stringOp,TN,LV,this]
theorem Zcp(hs:WL P σ H w)(hρ:Rc P σ tm ρ){o:Oper}{t:TypeId}{x y:Operand}{u:TypeId}(ho:o.op=.binOp .geq t x y u):XX P σ H w tm ρ o:=by
 unfold XX;rw[ho]
 refine zS hs hρ ho rfl (λk a b=>?_) λa b=>?_
 ·have:decide (b<=a)=!decide (a<b):=by rw[Vw];simp
  simp[binOp,Op.intCmp,Tp,Nt,this]
 ·simp[binOp,Op.stringOp,WT,LV]
theorem ZeY(hs:WL P σ H w)(hρ:Rc P σ tm ρ){o:Oper}{op:UnOp}{t:TypeId}{x:Operand}(ho:o.op=.unOp op t x):XX P σ H w tm ρ o:=by
 unfold XX;rw[ho]
 have h1:=hρ x
 cases op with
 |neg=>
  refine RA λk a hx=>?_
  rw[hx] at h1
  have h1:=X3 h1
  rw[ri]
  exact Rh hs (by simp only[execOp,ho,h1];exact Va (by simp[Op.unary,Op.intArith]))
 |not=>
  refine Bk λb hx=>?_
  rw[hx] at h1
  have h1:=TE h1
  refine YI hs (x:=.bool (!b)) (by simp only[execOp,ho,h1];exact Va (by simp[Op.unary])) (by cases b<;>simp[YU])
 |xor=>
  refine RA λk a hx=>?_
  rw[hx] at h1
  have h1:=X3 h1
  refine Rh hs ?_
  simp only[execOp,ho,h1]
  refine Va ?_
  simp only[Op.unary]
  exact gD P w k a
 |plus=>trivial
theorem cG(hs:WL P σ H w)(hρ:Rc P σ tm ρ){o:Oper}{t:TypeId}{x:Operand}(ho:o.op=.makeInterface t x){d:TypeDesc}(ht:P.underlying t=some d)(hd:(d matches .interface _)=false):
  Xx P σ H w ((execOp ρ o).run P w) (Pn (Xo P x) t tm H):=by
 refine YI hs (x:=.iface t (ρ x)) ?_ (by simp only[YU];exact⟨_,hρ x,rfl⟩)
 simp only[execOp,ho]
 refine Va ?_
 simp only[Instr.makeInterface,Sem.run_bind,run_underlying ht,Result.andThen_ok]
 cases d<;>first|rfl|cases hd
theorem LH(hρ:Rc P σ tm ρ): ∀l:List Operand,Xj σ (evs tm (l.map (Xo P))) (l.map ρ)
 |[]=>V1
 |x::l=>WB (hρ x) (LH hρ l)
theorem ot(hs:WL P σ H w)(hρ:Rc P σ tm ρ){o:Oper}{fn:Fn}{a b:Array Operand}(ho:o.op=.makeFunc fn a b):XX P σ H w tm ρ o:=by
 unfold XX;rw[ho]
 have hr:(execOp ρ o).run P w=.ok (.value (.func fn (a.map ρ) (b.map ρ))) w:=by
  simp only[execOp,ho]
  exact Va (by simp[Instr.makeFunc])
 show Xx P σ H w _ ((match fn with
  |.func f=>Dn f (args P a) (args P b)
  |.method n=>aY P n a.toList b.toList
  |_=>VZ) tm H)
 split
 ·rename_i f
  refine YI hs hr ?_
  simp only[YU]
  refine⟨a.toList.map ρ,b.toList.map ρ,LH hρ _,LH hρ _,?_⟩
  congr 1<;>(apply Array.ext';simp)
 ·rename_i n
  obtain⟨a⟩:=a
  obtain⟨b⟩:=b
  match a,b with
  |[x],[]=>
   refine YI hs hr ?_
   simp only[YU]
   exact⟨ρ x,hρ x,by simp⟩
  |[],_=>trivial
  |[_],_::_=>trivial
  |_::_::_,_=>trivial
 ·trivial
theorem uO(hs:WL P σ H w)(hρ:Rc P σ tm ρ){o:Oper}{x:Operand}{i:Nat}(ho:o.op=.extract x i):XX P σ H w tm ρ o:=by
 unfold XX;rw[ho]
 refine lJ λvs hx=>Qf λv hv=>?_
 have h1:=hρ x
 rw[hx] at h1
 simp only[YU] at h1
 obtain⟨us,hu,e⟩:=h1
 rw[L6] at hv
 obtain⟨u,hu1,hu2⟩:=hu.get hv
 refine YI hs (x:=u) ?_ hu2
 simp only[execOp,ho]
 refine Va ?_
 rw[e]
 simp[Instr.extract,hu1]
theorem TY{r:Result Next}:Xx P σ H w r (VZ tm H):=trivial
theorem WX{b:Bool}{f g:Vu}{r:Result Next}(h1:b=true->Xx P σ H w r (f tm H))(h2:b=false->Xx P σ H w r (g tm H)):Xx P σ H w r ((cond b f g) tm H):=by
 cases b with
 |false=>exact h2 rfl
 |true=>exact h1 rfl
theorem Wa{t:Nat}{f:TypeInfo->Vu}{r:Result Next}(h: ∀i,P.info? t=some i->Xx P σ H w r (f i tm H)):Xx P σ H w r (U0 P t f tm H):=by
 unfold U0
 cases e:P.info? t with
 |none=>exact trivial
 |some i=>exact h i e
theorem XO{t:Nat}{f:TypeDesc->Vu}{r:Result Next}(h: ∀d,P.underlying t=some d->Xx P σ H w r (f d tm H)):Xx P σ H w r (V0 P t f tm H):=by
 unfold V0
 cases e:P.underlying t with
 |none=>exact trivial
 |some i=>exact h i e
theorem Ur{α:Type}{x:Option α}{f:α->Vu}{r:Result Next}(h: ∀a,x=some a->Xx P σ H w r (f a tm H)):Xx P σ H w r (QJ x f tm H):=by
 cases x with
 |none=>exact trivial
 |some i=>exact h i rfl
theorem JT{f:Array Field->Vu}{d:TypeDesc}{r:Result Next}(h: ∀fs,d=.struct fs->Xx P σ H w r (f fs tm H)):Xx P σ H w r (yh f d tm H):=by
 cases d<;>first|exact trivial|exact h _ rfl
theorem Nc{f:Nat->Vu}{d:TypeDesc}{r:Result Next}(h: ∀e,d=.slice e->Xx P σ H w r (f e tm H)):Xx P σ H w r (DW f d tm H):=by
 cases d<;>first|exact trivial|exact h _ rfl
theorem qX{f:Nat->Vu}{d:TypeDesc}{r:Result Next}(h: ∀e,d=.pointer e->Xx P σ H w r (f e tm H)):Xx P σ H w r (Zfs f d tm H):=by
 cases d<;>first|exact trivial|exact h _ rfl
theorem ES{f:Vu}{d:TypeDesc}{r:Result Next}(h:d=.int .u8->Xx P σ H w r (f tm H)):Xx P σ H w r (tU8 f d tm H):=by
 cases d with
 |int k=>cases k<;>first|exact trivial|exact h rfl
 |_=>exact trivial
theorem Pp{t:Nat}{d:TypeDesc}(h:P.underlying t=some d):(isAgg t).run P w=.ok (Nu P t) w:=by
 unfold isAgg Nu
 rw[h]
 simp only[Sem.run_bind,run_underlying h,Result.andThen_ok]
 cases d<;>rfl
theorem WK{t:Nat}{i:TypeInfo}(h:P.info? t=some i):(sizeOf t).run P w=.ok i.size w:=by
 rw[run_sizeOf w h,Program.cellsOf,h];rfl
theorem Ut{b o:Nat}{v:Value}(h:YU σ (.ptr b o) v): ∃l,σ b=some l∧v=.pointer (some ⟨l.blk,l.base+o,none⟩):=by simpa only[YU] using h
theorem NW{b o:Nat}{l:Loc}(h:σ b=some l):YU σ (.ptr b o) (.pointer (some ⟨l.blk,l.base+o,none⟩)):=by simp only[YU];exact⟨l,h,rfl⟩
theorem Ry(b o n:Nat):Addr.add ⟨b,o,none⟩ n=⟨b,o+n,none⟩:=by
 unfold Addr.add
 by_cases h:n=0
 ·rw[if_pos h,h];rfl
 ·rw[if_neg h]
theorem zT(hs:WL P σ H w)(hρ:Rc P σ tm ρ){o:Oper}{t:TypeId}{x:Operand}{f:Nat}(ho:o.op=.fieldAddr t x f):XX P σ H w tm ρ o:=by
 unfold XX;rw[ho]
 refine XO λd hu=>JT λfs hd=>Ur λg hg=>Wa λi hi=>WX (λh1=>?_) λ_=>TY
 subst hd
 refine Qy λb off hx=>?_
 have h1':=hρ x
 rw[hx] at h1'
 obtain⟨l,hl,e⟩:=Ut h1'
 rw[XF] at h1
 have h1:1<=i.size:=Zm h1
 refine YI hs ?_ (NW hl)
 simp only[execOp,ho]
 refine Va ?_
 rw[e]
 simp only[Instr.fieldAt,Sem.run_bind,run_underlying hu,Result.andThen_ok,hg,Instr.sureAddr,Sem.run_pure,fieldPlace,WK hi]
 rw[if_neg (by omega)]
 simp only[Sem.run_pure,Result.andThen_ok,Ry,X9]
 rfl
theorem jE(hs:WL P σ H w)(hρ:Rc P σ tm ρ){o:Oper}{t:TypeId}{x:Operand}{f:Nat}(ho:o.op=.field t x f):XX P σ H w tm ρ o:=by
 unfold XX;rw[ho]
 refine XO λd hu=>JT λfs hd=>Ur λg hg=>Wa λi hi=>XO λd2 hu2=>?_
 subst hd
 have hag:=Pp (w:=w) hu2
 refine WX (λh1=>?_) λh1=>?_
 ·refine JQ λcs hx=>?_
  have h1':=hρ x
  rw[hx] at h1'
  simp only[YU] at h1'
  obtain⟨vs,hvs,hone,e⟩:=h1'
  rw[h1] at hag
  refine YI hs (x:=.agg ⟨(vs.drop g.offset).take i.size⟩) ?_ ?_
  ·simp only[execOp,ho]
   refine Va ?_
   rw[e]
   simp only[Instr.field,Sem.run_bind,run_underlying hu,Result.andThen_ok,hg,asAgg,Sem.run_pure,part,hag,if_true,WK hi]
   congr 2
   apply Array.ext'
   simp[W3]
  ·rw[NX,NC]
   simp only[YU]
   exact⟨_,(hvs.drop _).take _,λy hy=>hone y (Tb (Ui hy)),rfl⟩
 ·refine JQ λcs hx=>Qf λv hv=>?_
  have h1':=hρ x
  rw[hx] at h1'
  simp only[YU] at h1'
  obtain⟨vs,hvs,hone,e⟩:=h1'
  rw[h1] at hag
  rw[L6] at hv
  obtain⟨u,hu1,hu2⟩:=hvs.get hv
  refine YI hs (x:=u) ?_ hu2
  simp only[execOp,ho]
  refine Va ?_
  rw[e]
  simp only[Instr.field,Sem.run_bind,run_underlying hu,Result.andThen_ok,hg,asAgg,Sem.run_pure,part,hag]
  simp[hu1]
theorem zU(hs:WL P σ H w)(hρ:Rc P σ tm ρ){o:Oper}{t:TypeId}{x i:Operand}(ho:o.op=.indexAddr t x i):XX P σ H w tm ρ o:=by
 unfold XX;rw[ho]
 refine XO λd hu=>?_
 cases d<;>try exact trivial
 case slice el=>
  refine Wa λj hj=>Sr λk n hn=>Se (λ_=>trivial) λb off len cap hx=>YS λhlt=>?_
  have h1:=hρ x
  have h2:=hρ i
  rw[hx] at h1;rw[hn] at h2
  simp only[YU] at h1
  obtain⟨l,hl,e⟩:=h1
  have h2:=X3 h2
  rw[XF] at hlt
  have hlt:n+1<=len:=Zm hlt
  refine YI hs ?_ (NW hl)
  simp only[execOp,ho]
  refine Va ?_
  rw[e,h2]
  simp only[Instr.indexAt,Sem.run_bind,asIntOf,Sem.run_pure,Result.andThen_ok,run_underlying hu]
  rw[if_pos (by constructor<;>simp only[Y4]<;>omega)]
  simp only[Sem.run_bind,WK hj,Result.andThen_ok,Sem.run_pure,Ry,X9,Y4,Vp]
  rfl
 case array m el=>
  refine Wa λj hj=>Sr λk n hn=>Qy λb off hx=>YS λhlt=>?_
  have h1:=hρ x
  have h2:=hρ i
  rw[hx] at h1;rw[hn] at h2
  obtain⟨l,hl,e⟩:=Ut h1
  have h2:=X3 h2
  rw[XF] at hlt
  have hlt:n+1<=m:=Zm hlt
  refine YI hs ?_ (NW hl)
  simp only[execOp,ho]
  refine Va ?_
  rw[e,h2]
  simp only[Instr.indexAt,Sem.run_bind,asIntOf,Sem.run_pure,Result.andThen_ok,run_underlying hu,Instr.sureAddr]
  rw[if_pos (by constructor<;>simp only[Y4]<;>omega)]
  simp only[Sem.run_bind,WK hj,Result.andThen_ok,Sem.run_pure,Ry,X9,Y4,Vp]
  rfl
theorem jF(hs:WL P σ H w)(hρ:Rc P σ tm ρ){o:Oper}{t:TypeId}{x i:Operand}(ho:o.op=.index t x i):XX P σ H w tm ρ o:=by
 unfold XX;rw[ho]
 refine XO λd hu=>?_
 cases d<;>try exact trivial
 case string=>
  refine Sr λk n hn=>PB λs hx=>Qf λb hb=>Nb ?_
  have h1:=hρ x
  have h2:=hρ i
  rw[hx] at h1;rw[hn] at h2
  have h1:=V3 h1
  have h2:=X3 h2
  rw[zL] at hb
  refine YI hs (x:=.int .u8 b.toNat) ?_ (by simp[YU])
  simp only[execOp,ho]
  refine Va ?_
  rw[h1,h2]
  have hb':(ByteArray.mk s.toArray)[n]? =some b:=by
   rw[<-hb]
   by_cases h:n<s.length
   ·have h':n<(ByteArray.mk s.toArray).size:=by rw[Nk];exact h
    rw[getElem?_pos (ByteArray.mk s.toArray) n h',Zp h];rfl
   ·rw[getElem?_neg (ByteArray.mk s.toArray) n (by rw[Nk];exact h),Y5 (by omega)]
  simp only[Instr.index,Sem.run_bind,asIntOf,Sem.run_pure,Result.andThen_ok,run_underlying hu]
  rw[if_pos (by simp only[Y4];omega)]
  simp only[Y4,Vp,hb',Sem.run_pure]
 case array m el=>
  refine Wa λj hj=>XO λd2 hu2=>?_
  have hag:=Pp (w:=w) hu2
  refine WX (λh1=>?_) λh1=>WX (λhz=>?_) λ_=>TY
  ·refine Sr λk n hn=>JQ λcs hx=>YS λhlt=>?_
   have g1:=hρ x
   have g2:=hρ i
   rw[hx] at g1;rw[hn] at g2
   have g2:=X3 g2
   simp only[YU] at g1
   obtain⟨vs,hvs,hone,e⟩:=g1
   rw[h1] at hag
   rw[XF] at hlt
   have hlt:n+1<=m:=Zm hlt
   refine YI hs (x:=.agg ⟨(vs.drop (n*j.size)).take j.size⟩) ?_ ?_
   ·simp only[execOp,ho]
    refine Va ?_
    rw[e,g2]
    simp only[Instr.index,Sem.run_bind,asIntOf,Sem.run_pure,Result.andThen_ok,run_underlying hu]
    rw[if_pos (by constructor<;>simp only[Y4]<;>omega)]
    simp only[Sem.run_bind,WK hj,Result.andThen_ok,part,hag,if_true,Sem.run_pure,Y4,Vp]
    congr 2
    apply Array.ext'
    simp[W3]
   ·rw[NX,NC]
    simp only[YU]
    exact⟨_,(hvs.drop _).take _,λy hy=>hone y (Tb (Ui hy)),rfl⟩
  ·refine Sr λk n hn=>JQ λcs hx=>YS λhlt=>Qf λv hv=>?_
   have g1:=hρ x
   have g2:=hρ i
   rw[hx] at g1;rw[hn] at g2
   have g2:=X3 g2
   simp only[YU] at g1
   obtain⟨vs,hvs,hone,e⟩:=g1
   rw[h1] at hag
   rw[XF] at hlt
   have hlt:n+1<=m:=Zm hlt
   rw[YZ] at hz
   have hz:j.size=1:=Zm hz
   rw[L6] at hv
   obtain⟨u,hu1,Zio⟩:=hvs.get hv
   refine YI hs (x:=u) ?_ Zio
   simp only[execOp,ho]
   refine Va ?_
   rw[e,g2]
   simp only[Instr.index,Sem.run_bind,asIntOf,Sem.run_pure,Result.andThen_ok,run_underlying hu]
   rw[if_pos (by constructor<;>simp only[Y4]<;>omega)]
   simp only[Sem.run_bind,WK hj,Result.andThen_ok,part,hag,Y4,Vp,hz,XM]
   simp[hu1]
theorem KX{r:Result Next}{x:Option Operand}{dflt top:Nat}{f:Nat->OR}(hρ:Rc P σ tm ρ)
  (h: ∀n,(∀code,(match x.map ρ with|some v=>Instr.sliceBound v top code|none=>pure dflt:Sem Nat).run P w=.ok n w)->((x=none∧n=dflt)∨(x.isSome=true∧n<=top))->Xx P σ H w r (f n)):
  Xx P σ H w r (sk tm (opt P x) dflt top f):=by
 cases x with
 |none=>exact h dflt (λ_=>rfl) (.inl ⟨rfl,rfl⟩)
 |some x=>
  refine Sr (v:=Xo P x tm) λk n hn=>YS λhle=>?_
  rw[XF] at hle
  have hle:n<=top:=Zm hle
  refine h n (λcode=>?_) (.inr ⟨rfl,hle⟩)
  have h1:=hρ x
  rw[hn] at h1
  have h1:=X3 h1
  simp only[XI,h1,Instr.sliceBound,Sem.run_bind,asIntOf,Sem.run_pure,Result.andThen_ok]
  rw[if_pos (by constructor<;>simp only[Y4]<;>omega)]
  simp
theorem PA{r:Result Next}{lo hi mx:Option Operand}{len cap capC:Nat}{f:Nat->Nat->Nat->OR}(isSlice:Bool)(hρ:Rc P σ tm ρ)(hmx:mx.isSome=true->hi.isSome=true)(hc:cap<=capC)
  (h: ∀l h m mC,(Instr.sliceBounds isSlice len capC (lo.map ρ) (hi.map ρ) (mx.map ρ)).run P w=.ok (l,h,mC) w->l<=h->m<=cap->(mx=none->m=cap∧mC=capC)->(mx.isSome=true->m=mC)->(hi=none->h=len)->(hi.isSome=true->h<=m)->Xx P σ H w r (f l h m)):
  Xx P σ H w r (KQ tm (opt P lo) (opt P hi) (opt P mx) len cap f):=by
 unfold KQ
 have up: ∀(x:Option Operand) (dflt top topC n:Nat),top<=topC->(∀code,(match x.map ρ with|some v=>Instr.sliceBound v top code|none=>pure dflt:Sem Nat).run P w=.ok n w)->((x=none∧n=dflt)∨(x.isSome=true∧n<=top))->
   (∀d2,(x=none->d2=n)-> ∀code,(match x.map ρ with|some v=>Instr.sliceBound v topC code|none=>pure d2:Sem Nat).run P w=.ok n w):=by
  intro x dflt top topC n ht h1 h2 d2 hd code
  cases x with
  |none=>rw[hd rfl];rfl
  |some x=>
   have h1:=h1 code
   simp only[XI] at h1 ⊢
   have h2:n<=top:=by rcases h2 with⟨h2,_⟩|⟨_,h2⟩;cases h2;exact h2
   unfold Instr.sliceBound at h1 ⊢
   cases hv:ρ x<;>rw[hv] at h1<;>simp only[asIntOf,Sem.run_bind,Sem.run_pure,Result.andThen_ok,run_stuck,Result.andThen_halt,run_unsupported] at h1 ⊢
   case int k i=>
    by_cases hh:0<=i∧i<=(top:Int)
    ·rw[if_pos hh] at h1
     rw[if_pos (by omega)];exact h1
    ·rw[if_neg hh] at h1
     exfalso
     have hr:=h1
     first
      |(obtain⟨s',w',hp⟩:=run_boundsPanic (P:=P) (w:=w) (α:=Nat) _ i top code
        rw[hp] at hr;cases hr)
      |(obtain⟨s',w',hp⟩:=run_boundsPanic (P:=P) (w:=w) (α:=Nat) _ i top code
        simp[hp] at hr)
   all_goals (first|cases h1|(rename_i p;cases p<;>simp at h1))
 refine KX hρ λm hm hm2=>KX hρ λhh hh1 hh2=>KX hρ λl hl hl2=>?_
 have hmc:m<=cap:=by rcases hm2 with⟨_,e⟩|⟨_,e⟩<;>omega
 have hlh:l<=hh:=by rcases hl2 with⟨_,e⟩|⟨_,e⟩<;>omega
 have fin: ∀mC,(mx=none->m=cap∧mC=capC)->(mx.isSome=true->m=mC)->(Instr.sliceBounds isSlice len capC (lo.map ρ) (hi.map ρ) (mx.map ρ)).run P w=.ok (l,hh,mC) w->Xx P σ H w r (f l hh m):=by
  intro mC q1 q2 q3
  refine h l hh m mC q3 hlh hmc q1 q2 (λe=>?_) (λe=>?_)
  ·rcases hh2 with⟨_,e2⟩|⟨e2,_⟩;exact e2;rw[e] at e2;cases e2
  ·rcases hh2 with⟨e2,_⟩|⟨_,e2⟩;rw[e2] at e;cases e;exact e2
 cases mx with
 |none=>
  have hm':m=cap:=by rcases hm2 with⟨_,e⟩|⟨e,_⟩;exact e;cases e
  refine fin capC (λ_=>⟨hm',rfl⟩) (λe=>by cases e) ?_
  have h2:=up hi len m capC hh (by omega) hh1 hh2
  unfold Instr.sliceBounds
  cases hi with
  |none=>
   have e1:hh=len:=by rcases hh2 with⟨_,e⟩|⟨e,_⟩;exact e;cases e
   subst e1
   cases lo with
   |none=>
    have e2:l=0:=by rcases hl2 with⟨_,e⟩|⟨e,_⟩;exact e;cases e
    subst e2;simp
   |some lo=>have hl':=λc=>hl c;simp only[XI] at hl';simp[hl']
  |some hi=>
   have h2':=λc=>h2 0 (λe=>by cases e) c
   simp only[XI] at h2'
   cases lo with
   |none=>
    have e2:l=0:=by rcases hl2 with⟨_,e⟩|⟨e,_⟩;exact e;cases e
    subst e2;simp[h2']
   |some lo=>have hl':=λc=>hl c;simp only[XI] at hl';simp[hl',h2']
 |some mx=>
  refine fin m (λe=>by cases e) (λ_=>rfl) ?_
  have h3:=up (some mx) cap cap capC m hc hm hm2
  have h3':=λc=>h3 0 (λe=>by cases e) c
  simp only[XI] at h3'
  unfold Instr.sliceBounds
  cases hi with
  |none=>have:=hmx rfl;cases this
  |some hi=>
   have hh':=λc=>hh1 c
   simp only[XI] at hh'
   cases lo with
   |none=>
    have e2:l=0:=by rcases hl2 with⟨_,e⟩|⟨e,_⟩;exact e;cases e
    subst e2;simp[hh',h3']
   |some lo=>
    have hl':=λc=>hl c
    simp only[XI] at hl'
    simp[hl',hh',h3']
end
section
variable {P:Program} {σ:Mp} {H:Heap} {w:World}
theorem WL.row(hs:WL P σ H w){b:Nat}{r:Row}{l:Loc}(hb:H.t.get b=some (.row r))(hl:σ b=some l):
  ∃cs fr,w.heap[l.blk]? =some (.cells cs r.elem fr)∧RQ σ r l cs fr:=by
 obtain⟨c,hc,ho⟩:=hs.alive b _ l hb hl
 obtain⟨cs,fr,rfl,hr⟩:=ho
 exact⟨cs,fr,hc,hr⟩
theorem JF{w:World}{g:Nat}{cs:Array Value}{t:TypeId}{fr:Nat×Nat}(h:w.heap[g]? =some (.cells cs t fr))(i:Nat):w.cell? ⟨g,i,none⟩=cs[i]? :=
 cell_of_row w g i cs t fr h
theorem Row.get_eq(r:Row)(i:Nat):r.get i=(r.cells.get i).getD r.dflt:=by
 unfold Row.get
 cases r.cells.get i<;>rfl
theorem TB(r:Row): ∀(n o:Nat),(W9 r o n).length=n
 |0,_=>rfl
 |n+1,o=>by simp[W9,TB r n]
theorem Pj{r:Row}{l:Loc}{cs:Array Value}{fr:Nat×Nat}(h:RQ σ r l cs fr): ∀(n o:Nat),o+n<=r.size->
  ∃vs,Xj σ (W9 r o n) vs∧vs.length=n∧(∀(j:Nat) (v:Value),vs[j]? =some v->cs[l.base+o+j]? =some v)∧ ∀v∈vs,v.oneCell'=true
 |0,o,_=>⟨[],V1,rfl,by simp,by simp⟩
 |n+1,o,ho=>by
  obtain⟨v,hv,hr⟩:=h.cell o (by omega)
  obtain⟨vs,h1,h2,h3,h4⟩:=Pj h n (o+1) (by omega)
  refine⟨v::vs,WB hr h1,by simp[h2],?_,?_⟩
  ·intro j u hj
   cases j with
   |zero=>simp at hj;subst hj;exact hv
   |succ j=>
    have:=h3 j u (by simpa using hj)
    rw[<-this];congr 1;omega
  ·intro u hu
   rcases Ys.1 hu with rfl|hu
   ·exact h.one _ _ (by omega) hv
   ·exact h4 u hu
theorem S5{g o:Nat}{cs:Array Value}{t:TypeId}{fr:Nat×Nat}(h:w.heap[g]? =some (.cells cs t fr))(vs:List Value)
  (hv: ∀(j:Nat) (v:Value),vs[j]? =some v->cs[o+j]? =some v):(loadCells ⟨g,o,none⟩ vs.length).run P w=.ok vs.toArray w:=by
 refine run_loadCells_list (w:=w) ⟨g,o,none⟩ vs λj v hj=>?_
 rw[Ry,JF h]
 exact hv j v hj
def RL(cs:Array Value)(o:Nat):List Value->Array Value
 |[]=>cs
 |v::vs=>RL (cs.setIfInBounds o v) (o+1) vs
theorem Pv(vs:List Value): ∀(cs:Array Value) (o:Nat),(RL cs o vs).size=cs.size:=by
 induction vs with
 |nil=>intro cs o;rfl
 |cons v vs ih=>intro cs o;simp[RL,ih]
theorem QQ(vs:List Value): ∀(cs:Array Value) (o i:Nat),o+vs.length<=cs.size->
  (RL cs o vs)[i]? =if o<=i∧i<o+vs.length then vs[i - o]? else cs[i]? :=by
 induction vs with
 |nil=>intro cs o i _;rw[if_neg (by simp)];rfl
 |cons v vs ih=>
  intro cs o i h
  simp only[Zl] at h ⊢
  show(RL (cs.setIfInBounds o v) (o+1) vs)[i]? =_
  rw[ih _ _ _ (by simp;omega)]
  by_cases h1:o+1<=i∧i<o+1+vs.length
  ·rw[if_pos h1,if_pos (by omega),show i - o=(i - (o+1))+1 by omega];simp
  ·rw[if_neg h1,Xp]
   by_cases h2:o=i
   ·subst h2
    rw[if_pos rfl,if_pos (by omega),if_pos (by omega)];simp
   ·rw[if_neg h2,if_neg (by omega)]
theorem Qa(vs:List AV): ∀(c:T AV) (o i:Nat),(WO c o vs).get i=if o<=i∧i<o+vs.length then vs[i - o]? else c.get i:=by
 induction vs with
 |nil=>intro c o i;rw[if_neg (by simp)];rfl
 |cons v vs ih=>
  intro c o i
  show(WO (c.set o v) (o+1) vs).get i=_
  rw[ih,T.get_set]
  simp only[Zl]
  by_cases h1:o+1<=i∧i<o+1+vs.length
  ·rw[if_pos h1,if_pos (by omega),show i - o=(i - (o+1))+1 by omega];simp
  ·rw[if_neg h1]
   by_cases h2:o=i
   ·subst h2;rw[if_pos rfl,if_pos (by omega)];simp
   ·rw[if_neg h2,if_neg (by omega)]
structure CL(w w':World)(g:Nat)(c:Go.Obj):Prop where
 size:w'.heap.size=w.heap.size
 new:w'.heap[g]? =some c
 old: ∀k,k≠g->w'.heap[k]? =w.heap[k]?
 tape:w'.tape=w.tape
 os:w'.os=w.os
 out:w'.output=w.output
theorem Cu{w:World}{g i:Nat}{cs:Array Value}{t:TypeId}{fr:Nat×Nat}(h:w.heap[g]? =some (.cells cs t fr))(v:Value):
  CL w (w.setCell ⟨g,i,none⟩ v) g (.cells (cs.setIfInBounds i v) t fr):=by
 have hlt:=(Ym.1 h).1
 refine⟨by simp[World.setCell],?_,λk hk=>?_,rfl,rfl,rfl⟩
 ·simp only[World.setCell,WG]
  rw[h];simp
 ·simp only[World.setCell,WG]
  rw[if_neg (λe=>hk e.symm)]
theorem qP{w:World}{g i:Nat}{cs:Array Value}{t:TypeId}{fr:Nat×Nat}(h:w.heap[g]? =some (.cells cs t fr))(hf: ¬(fr.1<=i∧i<fr.2)):w.frozen? ⟨g,i,none⟩=false:=by
 unfold World.frozen?
 rw[h]
 obtain⟨a,b⟩:=fr
 simp only[Bool.and_eq_false_iff,decide_eq_false_iff_not]
 simp only at hf
 omega
theorem P0{P:Program}{g o:Nat}{t:TypeId}{fr:Nat×Nat}: ∀(vs:List Value) (i:Nat) (w:World) (cs:Array Value),w.heap[g]? =some (.cells cs t fr)->
  o+i+vs.length<=cs.size->(∀v∈vs,v.oneCell'=true)->(∀j,j<vs.length-> ¬(fr.1<=o+i+j∧o+i+j<fr.2))->
  ∃w',(storeCells ⟨g,o,none⟩ vs i).run P w=.ok () w'∧CL w w' g (.cells (RL cs (o+i) vs) t fr)
 |[],i,w,cs,h,_,_,_=>⟨w,rfl,⟨rfl,h,λ_ _=>rfl,rfl,rfl,rfl⟩⟩
 |v::vs,i,w,cs,h,hsz,hone,hfr=>by
  simp only[Zl] at hsz hfr
  have hw:=Cu (i:=o+i) h v
  obtain⟨w',hr,h'⟩:=P0 (P:=P) (g:=g) (o:=o) (t:=t) (fr:=fr) vs (i+1) (w.setCell ⟨g,o+i,none⟩ v) (cs.setIfInBounds (o+i) v) hw.new
   (by simp;omega) (λu hu=>hone u (by simp[hu])) (λj hj=>by have:=hfr (j+1) (by omega);rwa [show o+(i+1)+j=o+i+(j+1) by omega])
  refine⟨w',?_,?_⟩
  ·simp only[storeCells,Sem.run_bind,Ry]
   rw[run_store P w _ v .plain (hone v (by simp)),JF h,W2 (by omega)]
   simp only
   rw[qP h (by have:=hfr 0 (by omega);simpa using this)]
   simp only[XW,if_false,Result.andThen_ok]
   exact hr
  ·refine⟨by rw[h'.size,hw.size],?_,λk hk=>by rw[h'.old k hk,hw.old k hk],by rw[h'.tape,hw.tape],by rw[h'.os,hw.os],by rw[h'.out,hw.out]⟩
   rw[h'.new];rfl
theorem Wr.of_may{b:Nat}{r:Row}(h:H.may r b=true)(hb:H.t.get b=some (.row r)):Wr H b∧r.own=true:=by
 unfold Heap.may at h
 cases ho:r.own with
 |false=>rw[ho] at h;cases h
 |true=>
  rw[ho] at h
  have:H.ro<=b:=Yn h
  refine⟨⟨this,_,hb,λr' e=>?_,λe=>by cases e⟩,rfl⟩
  cases e;exact ho
theorem HZ(hs:WL P σ H w){b:Nat}{r:Row}{l:Loc}(hb:H.t.get b=some (.row r))(hl:σ b=some l)(Pe:H.may r b=true){o:Nat}{as:List AV}{vs:List Value}
  (ha:Xj σ as vs)(hone: ∀v∈vs,v.oneCell'=true)(hsz:o+vs.length<=r.size)(hfz:r.fz<=o):
  ∃w',(storeCells ⟨l.blk,l.base+o,none⟩ vs 0).run P w=.ok () w'∧Tr P σ H w σ (H.put b (.row (r.setCells (WO r.cells o as)))) w':=by
 obtain⟨cs,fr,hc,hr⟩:=hs.row hb hl
 obtain⟨hwr,hown⟩:=Wr.of_may Pe hb
 have h1:=hr.fits
 have h2:=hr.room
 have hlen:=ha.length
 obtain⟨w',hrun,hw⟩:=P0 (P:=P) (o:=l.base+o) vs 0 w cs hc (by omega) hone (λj hj=>by
  have:=hr.frz hown (o+j) (by omega) (by omega)
  rwa [show l.base+o+0+j=l.base+(o+j) by omega])
 refine⟨w',hrun,Tr.write hs hb hl hwr hw.size hw.new hw.old ⟨_,fr,rfl,?_⟩ hw.tape hw.os hw.out⟩
 refine⟨hr.sz,hr.sz1,hr.fits,by rw[Pv];exact hr.room,λe=>by rw[Pv];exact hr.exact e,?_,?_,hr.frz,hr.frs⟩
 ·intro i hi
  have hi:i<r.size:=hi
  rw[Row.get_eq]
  show ∃v,_∧YU σ (((WO r.cells o as).get i).getD r.dflt) v
  rw[Qa,QQ _ _ _ _ (by omega)]
  by_cases hin:o<=i∧i<o+as.length
  ·rw[if_pos hin,if_pos (by omega)]
   obtain⟨a,hga⟩: ∃a,as[i - o]? =some a:=⟨as[i - o]'(by omega),Zp (by omega)⟩
   obtain⟨v,hv,hrel⟩:=ha.get hga
   refine⟨v,?_,?_⟩
   ·rw[show l.base+i - (l.base+o+0)=i - o by omega];exact hv
   ·rw[hga];exact hrel
  ·rw[if_neg hin,if_neg (by omega)]
   obtain⟨v,hv,hrel⟩:=hr.cell i hi
   rw[Row.get_eq] at hrel
   exact⟨v,hv,hrel⟩
 ·intro i v hi hv
  have hi:i<r.size:=hi
  rw[QQ _ _ _ _ (by omega)] at hv
  split at hv
  ·exact hone v (VG hv)
  ·exact hr.one i v hi hv
end
theorem El{n:Nat}(h:n % 2=1):bits n=true::bits (n/2):=by
 unfold bits
 obtain⟨m,rfl⟩: ∃m,n=m+1:=⟨n - 1,by omega⟩
 rw[RV,if_neg (by omega),if_pos h,N1 ((m+1)/2) _ m (Zz _) (by omega)]
theorem I2{n:Nat}(h0:n≠0)(h:n % 2=0):bits n=false::bits (n/2 - 1):=by
 unfold bits
 obtain⟨m,rfl⟩: ∃m,n=m+1:=⟨n - 1,by omega⟩
 rw[RV,if_neg (by omega),if_neg (by omega),N1 ((m+1)/2 - 1) _ m (Zz _) (by omega)]
namespace T
variable {α:Type}
theorem lE(l r:T α)(v:Option α)(n:Nat):(T.node l v r).get n=if n=0 then v else if n % 2=1 then l.get (n/2) else r.get (n/2 - 1):=by
 unfold get
 by_cases h0:n=0
 ·subst h0;rfl
 ·rw[if_neg h0]
  by_cases h1:n % 2=1
  ·rw[if_pos h1,El h1];rfl
  ·rw[if_neg h1,I2 h0 (by omega)];rfl
theorem Dr: ∀(l:List α) (k:Nat),(U7 l)[k]? =l[2*k]?
 |[],k=>by simp[U7]
 |[x],k=>by cases k<;>simp[U7]
 |x::y::l,0=>by simp[U7]
 |x::y::l,k+1=>by
  show(x::U7 l)[k+1]? =(x::y::l)[2*(k+1)]?
  rw[show 2*(k+1)=(2*k+1)+1 by omega]
  simp[Dr l k]
theorem LA: ∀l:List α,(U7 l).length<=l.length
 |[]=>by simp[U7]
 |[x]=>by simp[U7]
 |x::y::l=>by have:=LA l;simp[U7];omega
theorem M3: ∀(f:Nat) (l:List α) (i:Nat),l.length<=f->(TC f l).get i=l[i]?
 |0,l,i,h=>by
  have:l=[]:=by cases l<;>simp_all
  subst this;simp[TC,get_leaf]
 |f+1,[],i,_=>by simp[TC,get_leaf]
 |f+1,x::l,i,h=>by
  simp only[Zl] at h
  show(T.node (TC f (U7 l)) (some x) (TC f (U7 l.tail))).get i=_
  rw[lE]
  by_cases h0:i=0
  ·subst h0;simp
  ·rw[if_neg h0]
   by_cases h1:i % 2=1
   ·rw[if_pos h1,M3 f _ _ (by have:=LA l;omega),Dr]
    rw[show 2*(i/2)=i - 1 by omega]
    obtain⟨k,rfl⟩: ∃k,i=k+1:=⟨i - 1,by omega⟩
    simp
   ·rw[if_neg h1,M3 f _ _ (by have:=LA l.tail;simp at this;omega),Dr]
    rw[show 2*(i/2 - 1)=i - 2 by omega]
    obtain⟨k,rfl⟩: ∃k,i=k+2:=⟨i - 2,by omega⟩
    simp
theorem J4(l:List α):ZeL l=l.length:=Y6 l
theorem get_ofList(l:List α)(i:Nat):(ofList l).get i=l[i]? :=M3 _ _ _ (by rw[J4];exact Zz _)
end T
section
variable {P:Program} {σ:Mp} {H:Heap} {w:World}
theorem Jf{σ:Mp}{e sz tot:Nat}{as:List AV}{vs rest:List Value}{sm exact:Bool}{blk:Nat}{fr:Nat×Nat}(ha:Xj σ as vs)(hone: ∀v∈vs++rest,v.oneCell'=true)(hsz:1<=sz)
  (hfit:as.length<=tot*sz)(hroom:tot*sz<=(vs++rest).length)(hex:exact=true->as.length=tot*sz∧rest=[])(hfr:if sm then tot*sz<=fr.1 else fr.1=fr.2):
  RQ σ ⟨e,sz,Xa as,T.ofList as,.unk,0,sm,true,exact⟩ ⟨blk,0,tot,sz⟩ ⟨vs++rest⟩ fr:=by
 have hlen:=ha.length
 refine⟨rfl,hsz,by rw[Y6];exact hfit,by simpa using hroom,λh=>?_,?_,?_,?_,?_⟩
 ·obtain⟨h1,h2⟩:=hex h
  subst h2
  exact⟨by rw[Y6];exact h1,rfl,by rw[Y6];simp[hlen]⟩
 ·intro i hi
  have hi:i<as.length:=by rw[<-Y6];exact hi
  rw[Row.get_eq]
  show ∃v,_∧YU σ (((T.ofList as).get i).getD .unk) v
  rw[T.get_ofList,Zp hi]
  obtain⟨v,hv,hr⟩:=ha.get (Zp hi)
  refine⟨v,?_,hr⟩
  simp only[Zb,Wq]
  rw[YN (by omega)]
  exact hv
 ·intro i v _ hv
  simp only[Wq] at hv
  exact hone v (VG hv)
 ·intro _ i _ hi
  cases sm with
  |true=>simp only[if_true] at hfr;simp only at hi ⊢;omega
  |false=>simp only[XW,if_false] at hfr;simp only at hi ⊢;omega
 ·intro _ hsm
  have hsm:sm=false:=hsm
  subst hsm
  simp only[XW,if_false] at hfr
  exact .inl hfr
theorem L5(hs:WL P σ H w){e sz tot:Nat}{as:List AV}{vs:List Value}(ha:Xj σ as vs)(hone: ∀v∈vs,v.oneCell'=true)(hsz:1<=sz)(hlen:as.length=tot*sz):
  Tr P σ H w (σ.put H.nx ⟨w.heap.size,0,tot,sz⟩) (H.newRow e sz as true) (w.alloc (.cells ⟨vs⟩ e)):=by
 refine Tr.alloc hs _ _ _ rfl ⟨⟨vs⟩,(0,0),rfl,?_⟩
 have:=Jf (σ:=σ.put H.nx ⟨w.heap.size,0,tot,sz⟩) (e:=e) (sm:=false) (exact:=true) (blk:=w.heap.size) (fr:=(0,0)) (rest:=[]) (ha.mono (Mp.put_ext _ (hs.fresh (Zz _)))) (by simpa using hone) hsz (by omega) (by simp;have:=ha.length;omega) (λ_=>⟨hlen,rfl⟩) rfl
 simpa using this
theorem rA(hs:WL P σ H w){e n:Nat}{a:AV}{v:Value}(ha:YU σ a v)(hone:v.oneCell'=true):
  Tr P σ H w (σ.put H.nx ⟨w.heap.size,0,n,1⟩) (H.new (.row ⟨e,1,n,.leaf,a,0,false,true,true⟩)) (w.alloc (.cells ⟨List.replicate n v⟩ e)):=by
 refine Tr.alloc hs _ _ _ rfl ⟨_,(0,0),rfl,⟨rfl,Zz _,by simp,by simp,λ_=>⟨by simp,rfl,by simp⟩,?_,?_,?_,?_⟩⟩
 ·intro i hi
  have hi:i<n:=hi
  rw[Row.get_eq]
  refine⟨v,?_,?_⟩
  ·simp[Wp,hi]
  ·rw[T.get_leaf];exact ha.mono (Mp.put_ext _ (hs.fresh (Zz _)))
 ·intro i u _ hu
  simp only[Wq,Wp] at hu
  split at hu
  ·cases hu;exact hone
  ·cases hu
 ·intro _ i _ hi;simp only;omega
 ·intro _ _;exact .inl rfl
end
section
variable {P:Program} {σ:Mp} {H:Heap} {w:World} {tm:TM} {ρ:Operand->Value}
theorem Kc{σ:Mp}{b:Nat}{l:Loc}(hb:l.base=0):YU (σ.put b l) (.ptr b 0) (.pointer (some ⟨l.blk,0,none⟩)):=by
 simp only[YU];exact⟨l,Mp.put_same _ _ _,by rw[hb]⟩
theorem Sk{σ:Mp}{b n:Nat}{l:Loc}(hb:l.base=0):YU (σ.put b l) (.slice b 0 n none) (.slice (some ⟨l.blk,0,none⟩) n l.tot):=by
 simp only[YU];exact⟨l,Mp.put_same _ _ _,by rw[hb];simp⟩
theorem VP{r:Result Next}{σ':Mp}{H':Heap}{w':World}{v:AV}{x:Value}(ht:Tr P σ H w σ' H' w')(hr:r=.ok (.value x) w')(hx:YU σ' v x):Xx P σ H w r (.val v H'):=
 ⟨σ',w',x,.inl hr,hx,ht⟩
theorem T2{t:Nat}{i:TypeInfo}{z:Value}(h:P.info? t=some i)(hz:i.zero=some z):(zeroValue t).run P w=.ok z w:=by
 simp[zeroValue,typeInfo,h,hz]
theorem SR(z:Value)(h:1<=(W0 z).cells.length):Xj σ (W0 z).cells z.cells.toList∧ ∀x∈z.cells.toList,x.oneCell'=true:=(Q6 σ z).cells h
theorem tV{kd:IntKind}{m:Int}: ∀{l:List Value},gX kd m l=true->l=List.replicate l.length (.int kd m)
 |[],_=>rfl
 |v::l,h=>by
  unfold gX at h
  split at h
  ·rename_i j n
   cases h1:PR kd j with
   |false=>rw[h1] at h;cases h
   |true=>
    have:=SS h1;subst this
    rw[h1] at h
    cases h2:GW m n with
    |false=>rw[h2] at h;cases h
    |true=>
     rw[h2] at h
     rw[Pf] at h2
     have h2:m=n:=by simpa using h2
     subst h2
     have ih:=tV h
     rw[Zl,Ww,<-ih]
  ·cases h
theorem jz(hs:WL P σ H w){o:Oper}{t:TypeId}(ho:o.op=.alloc t):XX P σ H w tm ρ o:=by
 unfold XX;rw[ho]
 refine Wa λi hi=>Ur λz hz=>?_
 have hrun:(execOp ρ o).run P w=.ok (.value (.pointer (some ⟨w.heap.size,0,none⟩))) (w.alloc (.cells z.cells t)):=by
  simp only[execOp,ho]
  refine Va ?_
  simp only[Instr.alloc,Sem.run_bind,T2 hi hz,Result.andThen_ok]
  simp[newVar,newRow]
 have key:Xx P σ H w ((execOp ρ o).run P w) (V9 t (W0 z).cells tm H):=by
  refine YS λh1=>?_
  rw[XF,Y6] at h1
  have h1:1<=(W0 z).cells.length:=Zm h1
  obtain⟨hr,hone⟩:=SR (σ:=σ) z h1
  exact VP (L5 hs (tot:=(W0 z).cells.length) hr hone (Zz _) (by simp)) hrun (Kc rfl)
 show Xx P σ H w _ (nV t z.cells.toList (W0 z).cells tm H)
 cases hl:z.cells.toList with
 |nil=>exact key
 |cons v l'=>
  cases v<;>try exact key
  case int kd m=>
   refine WX (λ_=>WX (λha=>?_) λ_=>key) λ_=>key
   have hrep:=tV ha
   rw[Y6]
   refine VP (rA hs (n:=l'.length+1) (v:=.int kd m) (by simp[YU]) rfl) ?_ (Kc rfl)
   rw[hrun]
   have:z.cells=⟨List.replicate (l'.length+1) (.int kd m)⟩:=by
    apply Array.ext'
    rw[hl,Ww,<-hrep]
   rw[this]
theorem Zcm(hs:WL P σ H w)(hρ:Rc P σ tm ρ){o:Oper}{t:TypeId}{x:Operand}(ho:o.op=.box t x):XX P σ H w tm ρ o:=by
 unfold XX;rw[ho]
 refine YS λh1=>?_
 rw[XF,Y6] at h1
 have h1:1<=(Xo P x tm).cells.length:=Zm h1
 obtain⟨hr,hone⟩:=(hρ x).cells h1
 refine VP (L5 hs (tot:=(Xo P x tm).cells.length) hr hone (Zz _) (by simp)) ?_ (Kc rfl)
 simp only[execOp,ho]
 refine Va ?_
 simp[Instr.box,newVar,newRow]
theorem cF(hs:WL P σ H w)(hρ:Rc P σ tm ρ){o:Oper}{t:TypeId}{x:Operand}(ho:o.op=.load t x):XX P σ H w tm ρ o:=by
 unfold XX;rw[ho]
 refine Wa λi hi=>XO λd hu=>?_
 have hag:=Pp (w:=w) hu
 refine WX (λh1=>?_) λh1=>?_
 ·refine Qy λb off hx=>Ty λr hr=>YS λhle=>?_
  rw[XF] at hle
  have hle:off+i.size<=r.size:=Zm hle
  have g:=hρ x
  rw[hx] at g
  obtain⟨l,hl,e⟩:=Ut g
  obtain⟨cs,fr,hc,hrr⟩:=hs.row hr hl
  obtain⟨vs,h2,h3,h4,h5⟩:=Pj hrr i.size off hle
  rw[h1] at hag
  refine YI hs (x:=.agg ⟨vs⟩) ?_ (by simp only[YU];exact⟨vs,h2,h5,rfl⟩)
  simp only[execOp,ho]
  refine Va ?_
  rw[e]
  have:=S5 (P:=P) hc vs (o:=l.base+off) h4
  rw[h3] at this
  simp only[Instr.loadAt,Instr.sureAddr,Sem.run_bind,Sem.run_pure,Result.andThen_ok,loadVar,hag,if_true,WK hi,this]
 ·refine Qy λb off hx=>Ty λr hr=>YS λhle=>?_
  rw[XF] at hle
  have hle:off+1<=r.size:=Zm hle
  have g:=hρ x
  rw[hx] at g
  obtain⟨l,hl,e⟩:=Ut g
  obtain⟨cs,fr,hc,hrr⟩:=hs.row hr hl
  obtain⟨v,hv,hrel⟩:=hrr.cell off hle
  rw[h1] at hag
  refine YI hs (x:=v) ?_ hrel
  simp only[execOp,ho]
  refine Va ?_
  rw[e]
  simp only[Instr.loadAt,Instr.sureAddr,Sem.run_bind,Sem.run_pure,Result.andThen_ok,loadVar,hag,XW,if_false,run_load,JF hc,hv]
theorem jJ(hs:WL P σ H w)(hρ:Rc P σ tm ρ){o:Oper}{t:TypeId}{x y:Operand}(ho:o.op=.store t x y):XX P σ H w tm ρ o:=by
 unfold XX;rw[ho]
 refine Wa λi hi=>?_
 refine Qy λb off hx=>Ty λr hr=>YS λhn=>YS λPe=>YS λhle=>YS λhfz=>YS λhlen=>?_
 rw[XF] at hn hle hfz
 rw[YZ,Y6] at hlen
 have hn:1<=i.size:=Zm hn
 have hle:off+i.size<=r.size:=Zm hle
 have hfz:r.fz<=off:=Zm hfz
 have hlen:(Xo P y tm).cells.length=i.size:=Zm hlen
 have g:=hρ x
 rw[hx] at g
 obtain⟨l,hl,e⟩:=Ut g
 obtain⟨hrel,hone⟩:=(hρ y).cells (by omega)
 have hl2:=hrel.length
 obtain⟨w',hrun,htr⟩:=HZ hs hr hl Pe hrel hone (o:=off) (by omega) hfz
 refine⟨σ,w',undef,.inr ⟨?_,rfl⟩,by simp[XL,undef,YU,Xj],htr⟩
 simp only[execOp,ho]
 rw[e]
 have hsz:(ρ y).cells.size=i.size:=by rw[<-hlen,hl2];simp
 simp only[Instr.storeAt,Instr.sureAddr,Sem.run_bind,Sem.run_pure,Result.andThen_ok,storeVar,WK hi,hsz]
 simp[hrun]
theorem Kv(off:Nat): ∀(l:List Value) (i:Nat) (cs:Array Value),(l.zipIdx i).foldl (λcs (x:Value×Nat)=>cs.setIfInBounds (off+x.2) x.1) cs=RL cs (off+i) l
 |[],_,_=>rfl
 |v::l,i,cs=>by
  simp only[List.zipIdx_cons,Vc]
  rw[Kv off l (i+1)]
  rfl
theorem FQ{cs:Array Value}{o:Nat}{vs:List Value}(h:o+vs.length<=cs.size):(RL cs o vs).toList=cs.toList.take o++(vs++cs.toList.drop (o+vs.length)):=by
 apply XP
 intro i
 rw[YE,QQ _ _ _ _ h]
 have hlen:(cs.toList.take o).length=o:=by simp;omega
 by_cases h1:i<o
 ·rw[if_neg (by omega),YN (by omega),List.getElem?_take,if_pos h1,YE]
 ·rw[YY (by omega),hlen]
  by_cases h2:i - o<vs.length
  ·rw[if_pos (by omega),YN h2]
  ·rw[if_neg (by omega),YY (by omega),XN,YE]
   congr 1;omega
theorem Hl{r:Result Next}(hρ:Rc P σ tm ρ){place:Nat->Option (Nat×Nat)}{k:List AV->OR}: ∀(ps:List (Nat×Operand)) (cells:List AV) (cs:Array Value),
  Xj σ cells cs.toList->(∀v∈cs.toList,v.oneCell'=true)->
  (∀cells' cs',Xj σ cells' cs'.toList->(∀v∈cs'.toList,v.oneCell'=true)->cs'.size=cs.size->Instr.fill place cs (ps.map λp=>(p.1,ρ p.2))=some cs'->Xx P σ H w r (k cells'))->
  Xx P σ H w r (Bb tm k (ps.map (Q1 P place)) cells)
 |[],cells,cs,h1,h2,h3=>h3 cells cs h1 h2 rfl rfl
 |p::ps,cells,cs,h1,h2,h3=>by
  show Xx P σ H w r (Yb (Nat.ble 1 (Q1 P place p).sz)<|Yb (Nat.beq (Xa ((Q1 P place p).x tm).cells) (Q1 P place p).sz) (Yb (Nat.ble (Nat.add (Q1 P place p).off (Q1 P place p).sz) (Xa cells))
   (Bb tm k (ps.map (Q1 P place)) (PQ (Q1 P place p).off cells++(((Q1 P place p).x tm).cells++QY (Nat.add (Q1 P place p).off (Q1 P place p).sz) cells)))))
  refine YS λg1=>YS λg2=>YS λg3=>?_
  cases hp:place p.1 with
  |none=>unfold Q1 at g1;rw[hp] at g1;cases g1
  |some q=>
   obtain⟨off,sz⟩:=q
   have hpe:Q1 P place p=⟨off,sz,Xo P p.2⟩:=by unfold Q1;rw[hp]
   rw[hpe] at g1 g2 g3 ⊢
   simp only at g1 g2 g3 ⊢
   rw[XF] at g1 g3
   rw[YZ,Y6] at g2
   rw[Y6] at g3
   have g1:1<=sz:=Zm g1
   have g2:(Xo P p.2 tm).cells.length=sz:=Zm g2
   have g3:off+sz<=cells.length:=Zm g3
   obtain⟨hr,hone⟩:=(hρ p.2).cells (by omega)
   have hl:=hr.length
   have hl1:=h1.length
   have hsz:(ρ p.2).cells.size=sz:=by rw[<-g2,hl];simp
   have hcs:cells.length=cs.size:=by rw[hl1];simp
   have hw:(RL cs off (ρ p.2).cells.toList).toList=cs.toList.take off++((ρ p.2).cells.toList++cs.toList.drop (off+sz)):=by
    rw[FQ (by simp;omega)];simp[hsz]
   refine Hl hρ ps _ (RL cs off (ρ p.2).cells.toList) ?_ ?_ λcells' cs' k1 k2 k3 k4=>h3 cells' cs' k1 k2 (by rw[k3,Pv]) ?_
   ·rw[hw,NX,NC]
    exact(h1.take _).append (hr.append (h1.drop _))
   ·intro v hv
    rw[hw] at hv
    rcases ZD.1 hv with hv|hv
    ·exact h2 v (Ui hv)
    ·rcases ZD.1 hv with hv|hv
     ·exact hone v hv
     ·exact h2 v (Tb hv)
   ·simp only[ZB,Instr.fill,hp]
    rw[if_neg (by simp only[U8,decide_eq_true_eq];omega)]
    rw[<-k4]
    congr 1
    have:=Kv off (ρ p.2).cells.toList 0 cs
    rw[Zd] at this
    rw[<-this,<-Array.foldl_toList,Array.toList_zipIdx]
theorem jA(hs:WL P σ H w)(hρ:Rc P σ tm ρ){o:Oper}{t:TypeId}{ps:Array (Nat×Operand)}(ho:o.op=.build t ps):XX P σ H w tm ρ o:=by
 unfold XX;rw[ho]
 refine Wa λi hi=>Ur λz hz=>XO λd hu=>?_
 have hps:(ps.map λ(x:Nat×Operand)=>(x.1,ρ x.2)).toList=ps.toList.map λp=>(p.1,ρ p.2):=by simp
 have fin: ∀(place:Nat->Option (Nat×Nat)),(∀cs',Instr.fill place z.cells (ps.toList.map λp=>(p.1,ρ p.2))=some cs'->P.built t (ps.toList.map λp=>(p.1,ρ p.2))=some cs')->
   Xx P σ H w ((execOp ρ o).run P w) (Vz (W0 z).cells (ps.toList.map (Q1 P place)) tm H):=by
  intro place hb
  refine YS λh1=>?_
  rw[XF,Y6] at h1
  have h1:1<=(W0 z).cells.length:=Zm h1
  obtain⟨hr,hone⟩:=SR (σ:=σ) z h1
  refine Hl hρ _ _ _ hr hone λcells' cs' k1 k2 k3 k4=>?_
  refine YI hs (x:=.agg cs') ?_ (by simp only[YU];exact⟨cs'.toList,k1,k2,rfl⟩)
  simp only[execOp,ho]
  refine Va ?_
  exact run_build w t _ cs' (by rw[hps];exact hb cs' k4)
 cases d<;>try exact trivial
 case struct fs=>
  refine Ur λplaces hp=>fin _ λcs' hf=>?_
  simp only[Program.built,hi,hu,hz,hp]
  exact hf
 case array n e=>
  refine Wa λj hj=>fin _ λcs' hf=>?_
  simp only[Program.built,hi,hu,hz,hj]
  exact hf
theorem GK{α:Type}(l:List α)(hl:1<=l.length): ∀(n i:Nat),(List.replicate n l).flatten[i]? =if i<n*l.length then l[i % l.length]? else none
 |0,i=>by simp
 |n+1,i=>by
  rw[Ww,WD,WH]
  by_cases h:i<l.length
  ·rw[YN h,if_pos (by omega),YH h]
  ·rw[YY (by omega),GK l hl n]
   have e:i % l.length=(i - l.length) % l.length:=by
    conv=>lhs;rw[show i=(i - l.length)+l.length by omega]
    rw[Nat.add_mod_right]
   rw[<-e]
   by_cases h2:i - l.length<n*l.length
   ·rw[if_pos h2,if_pos (by omega)]
   ·rw[if_neg h2,if_neg (by omega)]
theorem Gt{as:List AV}{z:Array Value}(h:Xj σ as z.toList)(hone: ∀v∈z.toList,v.oneCell'=true)(h1:1<=as.length)(n:Nat):
  Xj σ (List.replicate n as).flatten ((Array.range (n*as.length)).map (z[· % z.size]!)).toList∧ ∀v∈((Array.range (n*as.length)).map (z[· % z.size]!)).toList,v.oneCell'=true:=by
 have hl:as.length=z.size:=by rw[h.length];simp
 have hz: ∀i,i % z.size<z.size:=λi=>X7 _ (by omega)
 constructor
 ·refine Xj.of_get ?_ λi a v ha hv=>?_
  ·simp[List.length_flatten]
  ·rw[GK _ h1] at ha
   split at ha
   ·rename_i hi
    simp only[Re,Array.toList_range,Xb] at hv
    rw[VF hi] at hv
    simp only[XI,Option.some.injEq] at hv
    obtain⟨u,hu,hr⟩:=h.get ha
    rw[YE,hl,W2 (hz i)] at hu
    cases hu
    rw[<-hv,getElem!_pos z _ (hz i)]
    exact hr
   ·cases ha
 ·intro v hv
  simp only[Re,Xq] at hv
  obtain⟨i,_,rfl⟩:=hv
  rw[getElem!_pos z _ (hz i)]
  exact hone _ (Array.getElem_mem_toList _)
theorem oo(hs:WL P σ H w)(hρ:Rc P σ tm ρ){o:Oper}{t:TypeId}{n:Nat}{ps:Array (Nat×Operand)}(ho:o.op=.buildSlice t n ps):XX P σ H w tm ρ o:=by
 unfold XX;rw[ho]
 refine XO λd hu=>Nc λe hd=>Wa λj hj=>Ur λz hz=>WX (λhsz=>?_) λ_=>TY
 subst hd
 have hps:(ps.map λ(x:Nat×Operand)=>(x.1,ρ x.2)).toList=ps.toList.map λp=>(p.1,ρ p.2):=by simp
 refine YS λg1=>YS λg2=>?_
 rw[XF] at g1 hsz
 rw[YZ,Y6] at g2
 have g1:1<=j.size:=Zm g1
 have hsz:n*j.size<=16777216:=Zm hsz
 have g2:(List.replicate n (W0 z).cells).flatten.length=n*j.size:=Zm g2
 have hlen:n=0∨(W0 z).cells.length=j.size:=by
  rw[List.length_flatten] at g2
  simp only[U9,List.sum_replicate_nat] at g2
  by_cases h0:n=0
  ·exact .inl h0
  ·exact .inr (Nat.eq_of_mul_eq_mul_left (by omega) g2)
 have base: ∃zc:Array Value,Xj σ (List.replicate n (W0 z).cells).flatten zc.toList∧(∀v∈zc.toList,v.oneCell'=true)∧zc.size=n*j.size∧
   (do let zero<-if n*j.size=0 then pure #[] else do pure (<-zeroValue e).cells
       pure ((Array.range (n*j.size)).map (zero[· % zero.size]!)):Sem (Array Value)).run P w=.ok zc w:=by
  rcases hlen with h0|h0
  ·subst h0
   exact⟨#[],by simpa using V1,by simp,by simp,by simp⟩
  ·obtain⟨hr,hone⟩:=SR (σ:=σ) z (by omega)
   obtain⟨k1,k2⟩:=Gt hr hone (by omega) n
   rw[h0] at k1 k2
   refine⟨_,k1,k2,by simp,?_⟩
   by_cases hn:n*j.size=0
   ·simp[hn]
   ·simp[hn,T2 hj hz]
 obtain⟨zc,b1,b2,b3,b4⟩:=base
 refine Hl hρ _ _ zc b1 b2 λcells' cs' k1 k2 k3 k4=>?_
 have hl':cells'.length=n*j.size:=by rw[k1.length];simp[k3,b3]
 refine VP (L5 hs (tot:=n) k1 k2 g1 hl') ?_ (Sk rfl)
 simp only[execOp,ho]
 refine Va ?_
 simp only[Instr.buildSlice,Sem.run_bind,run_underlying hu,Result.andThen_ok,WK hj]
 rw[if_neg (by omega)]
 by_cases hn:n*j.size=0
 ·rw[if_pos hn] at b4 ⊢
  simp only[Sem.run_bind,Sem.run_pure,Result.andThen_ok,Result.ok.injEq,and_true] at b4 ⊢
  rw[b4,hps,k4]
  simp[newRow]
 ·rw[if_neg hn] at b4 ⊢
  simp only[Sem.run_bind,T2 hj hz,Sem.run_pure,Result.andThen_ok,Result.ok.injEq,and_true] at b4 ⊢
  rw[b4,hps,k4]
  simp[newRow]
theorem Gr{n:Int}(h0:0<=n)(h1:n<9223372036854775808):IntKind.i64.wrap n=n:=by
 rw[<-OT]
 obtain⟨m,rfl⟩:=Int.eq_ofNat_of_zero_le h0
 show cond (Nat.ble 9223372036854775808 m) (IntKind.wrap .i64 (Int.ofNat m)) (Int.ofNat m)=_
 rw[XF,Ze (by omega)]
 rfl
theorem K7(f:Nat->Value):Array.map f (Array.range 0)= #[]:=by apply Array.ext';simp
def xG(e n l c:Nat):Sem Next:=do
 let zero<-if n=0 then pure #[] else do pure (<-zeroValue e).cells
 let a<-newRow e ((Array.range n).map (zero[· % zero.size]!))
 pure (Next.value (.slice (some a) l c))
theorem uQ(hs:WL P σ H w)(hρ:Rc P σ tm ρ){o:Oper}{t:TypeId}{x y:Operand}(ho:o.op=.makeSlice t x y):XX P σ H w tm ρ o:=by
 unfold XX;rw[ho]
 refine XO λd hu=>Nc λe hd=>Wa λi hi=>Ur λz hz=>?_
 subst hd
 refine Sr λk1 l hx=>Sr λk2 c hy=>YS λg1=>YS λg2=>YS λg3=>YS λg4=>?_
 have h1:=hρ x;rw[hx] at h1
 have h2:=hρ y;rw[hy] at h2
 have h1:=X3 h1
 have h2:=X3 h2
 rw[XF] at g1 g2 g3 g4
 have g1:1<=i.size:=Zm g1
 have g2:l<=c:=Zm g2
 have g3:c<=140737488355328:=Zm g3
 have g4:c*i.bytes<=140737488355328:=Zm g4
 have hrun:(execOp ρ o).run P w=(xG e (c*i.size) l c).run P w:=by
  simp only[execOp,ho,h1,h2]
  simp only[Instr.makeSlice,Sem.run_bind,run_underlying hu,Result.andThen_ok,asInt,asIntOf,Sem.run_pure,typeInfo,run_program,hi,Y4]
  rw[Gr (by omega) (by omega),Gr (by omega) (by omega)]
  have e1:((i.bytes:Int)*(c:Int))<=140737488355328:=by
   have e0:(i.bytes:Int)*(c:Int)=((c*i.bytes:Nat):Int):=by rw[Int.natCast_mul,Int.mul_comm]
   rw[e0]
   generalize c*i.bytes=p at g4
   omega
  have e2: ¬((decide ((c:Int)<0)||decide ((i.bytes:Int)*(c:Int)>2^48)||decide ((l:Int)<0)||decide ((l:Int)>(c:Int)))=true):=by
   simp only[U8,decide_eq_true_eq]
   omega
  rw[if_neg e2]
  simp only[Vp,Sem.run_bind,run_askRoom,Result.andThen_ok,WK hi]
  by_cases hn:c*i.size=0
  ·simp[xG,hn,newRow]
  ·simp[xG,hn,T2 hi hz,newRow]
 have sU: ∀zc:Array Value,(c*i.size=0∨zc=z.cells)->(c*i.size=0->zc= #[])->(execOp ρ o).run P w=.ok (.value (.slice (some ⟨w.heap.size,0,none⟩) l c)) (w.alloc (.cells ((Array.range (c*i.size)).map (zc[· % zc.size]!)) e)):=by
  intro zc h3 h4
  rw[hrun]
  by_cases hn:c*i.size=0
  ·rw[h4 hn];simp[xG,hn,newRow]
  ·rcases h3 with h3|h3
   ·exact absurd h3 hn
   ·rw[h3];simp[xG,hn,T2 hi hz,newRow]
 show Xx P σ H w _ (rx H e i.size l c (W0 z).cells)
 have gen:1<=(W0 z).cells.length->(W0 z).cells.length=i.size->Xx P σ H w ((execOp ρ o).run P w) (.val (.slice H.nx 0 l none) (H.newRow e i.size ((List.replicate c (W0 z).cells).flatten) true)):=by
  intro q1 q2
  obtain⟨hr,hone⟩:=SR (σ:=σ) z q1
  obtain⟨k1,k2⟩:=Gt hr hone q1 c
  refine VP (L5 hs (tot:=c) k1 k2 g1 (by simp[List.length_flatten,q2])) ?_ (Sk rfl)
  by_cases hn:c*i.size=0
  ·rw[sU #[] (.inl hn) (λ_=>rfl),q2,hn,K7,K7]
  ·rw[sU z.cells (.inr rfl) (λh=>absurd h hn),q2]
 cases hz2:(W0 z).cells with
 |nil=>
  refine YS λq=>?_
  rw[YZ] at q
  have q:0=i.size:=Zm q
  omega
 |cons a as=>
  cases as with
  |nil=>
   refine YS λq=>?_
   rw[YZ] at q
   have q:i.size=1:=Zm q
   obtain⟨hr,hone⟩:=SR (σ:=σ) z (by rw[hz2];simp)
   rw[hz2] at hr
   obtain⟨v,vs,h3,h4,h5⟩:=hr.cons_inv
   rw[h4.nil_inv] at h5
   refine VP (rA hs (n:=c) h3 (hone v (by rw[h5];simp))) ?_ (Sk rfl)
   have hzc:z.cells= #[v]:=by apply Array.ext';rw[h5]
   by_cases hn:c=0
   ·subst hn
    rw[sU #[] (.inl (by simp)) (λ_=>rfl),Vi,K7];rfl
   ·rw[sU z.cells (.inr rfl) (λh=>by rw[q] at h;omega),hzc,q]
    congr 2
    congr 1
    apply Array.ext'
    apply XP
    intro j
    simp only[XM,List.size_toArray,List.length_singleton,Nat.mod_one,Re,Array.toList_range,Xb,Wp]
    by_cases hj:j<c
    ·rw[VF hj,if_pos hj];rfl
    ·rw[if_neg hj,Y5 (by simp;omega)];rfl
  |cons a2 as2=>
   refine YS λq=>?_
   rw[YZ,Y6,<-hz2] at q
   have:=gen (by rw[hz2];simp) (Zm q)
   rw[hz2] at this
   exact this
theorem Mp.put_old{σ:Mp}{b c:Nat}{l:Loc}(h:c≠b):σ.put b l c=σ c:=by unfold Mp.put;rw[if_neg h]
theorem Tr.ghost(hs:WL P σ H w)(l:Loc):Tr P σ H w (σ.put H.nx l) ⟨Nat.succ H.nx,H.t,H.ro⟩ w:=by
 have he:=Mp.put_ext l (hs.fresh (Zz H.nx))
 have hold: ∀b o,H.t.get b=some o->σ.put H.nx l b=σ b:=λb o hb=>Mp.put_old (by have:=hs.get_lt hb;omega)
 refine⟨he,⟨?_,?_,?_,?_,?_,?_⟩,Zz _,λ_ _ _=>rfl,?_,Vr _,rfl,λ_ _=>rfl,rfl,rfl,rfl,λb hb hn=>⟨rfl,by rw[Mp.put_old (by omega)];exact hn⟩⟩
 ·intro b m hb
  show b<H.nx+1
  by_cases e:b=H.nx
  ·omega
  ·rw[Mp.put_old e] at hb;have:=hs.dom b m hb;omega
 ·intro b o hb
  show b<H.nx+1
  have:=hs.low b o hb;omega
 ·intro b o l' hb hl'
  rw[hold b o hb] at hl'
  obtain⟨c,hc,ho⟩:=hs.alive b o l' hb hl'
  exact⟨c,hc,ho.mono he⟩
 ·intro b b' o o' l1 l2 h1 h2 k1 k2 e
  rw[hold b o h1] at k1;rw[hold b' o' h2] at k2
  exact hs.inj b b' o o' l1 l2 h1 h2 k1 k2 e
 ·intro g hg
  obtain⟨l',h1,h2⟩:=hs.glob g hg
  exact⟨l',he g l' h1,h2⟩
 ·show H.ro<=H.nx+1;have:=hs.ro;omega
 ·intro b l1 hw hl hlt
  obtain⟨hro,o,ho,hown⟩:=hw
  rw[hold b o ho] at hl
  exact⟨b,l1,⟨hro,o,ho,hown⟩,hl,rfl⟩
theorem Uo{b o n:Nat}{cap:Option Nat}{v:Value}(h:YU σ (.slice b o n cap) v): ∃l,σ b=some l∧v=.slice (some ⟨l.blk,l.base+o,none⟩) n (cap.getD (l.tot - o/l.sz)):=by simpa only[YU] using h
theorem S3{b o n:Nat}{cap:Option Nat}{l:Loc}(h:σ b=some l):YU σ (.slice b o n cap) (.slice (some ⟨l.blk,l.base+o,none⟩) n (cap.getD (l.tot - o/l.sz))):=by simp only[YU];exact⟨l,h,rfl⟩
theorem Ew{r:Row}{l:Loc}{cs:Array Value}{fr:Nat×Nat}(hr:RQ σ r l cs fr)(o:Nat)(cap:Option Nat):VO r o cap<=cap.getD (l.tot - o/l.sz):=by
 cases cap with
 |some c=>exact Zz _
 |none=>
  show cond (Nat.beq r.sz 1) (r.size - o) ((r.size - o)/r.sz)<=l.tot - o/l.sz
  have h1:=hr.sz
  have h2:=hr.sz1
  have h3:=hr.fits
  have key:(r.size - o)/l.sz<=l.tot - o/l.sz:=by
   rw[Nat.div_le_iff_le_mul_add_pred (by omega)]
   have:=SN o l.sz
   have hm:=X7 o (show 0<l.sz by omega)
   rw[Nat.mul_sub]
   have e1:l.sz*l.tot=l.tot*l.sz:=VB _ _
   omega
  rw[YZ]
  by_cases e:r.sz=1
  ·rw[Zi e]
   show r.size - o<=_
   have e2:l.sz=1:=by omega
   rw[e2] at key ⊢;simpa using key
  ·rw[Ze e]
   show(r.size - o)/r.sz<=_
   rw[<-h1];exact key
theorem oi{hi mx:Option Operand}(h:Zck hi mx=true):mx.isSome=true->hi.isSome=true:=by
 cases mx<;>cases hi<;>simp_all [Zck]
theorem jI(hs:WL P σ H w)(hρ:Rc P σ tm ρ){o:Oper}{t:TypeId}{x:Operand}{lo hi mx:Option Operand}(ho:o.op=.slice t x lo hi mx):XX P σ H w tm ρ o:=by
 unfold XX;rw[ho]
 refine WX (λhmx=>?_) λ_=>TY
 have hmx:=oi hmx
 refine XO λd hu=>?_
 have h1:=hρ x
 cases d<;>try exact trivial
 case string=>
  cases mx with
  |some m=>exact trivial
  |none=>
   refine PB λs hx=>?_
   rw[hx] at h1
   have h1:=V3 h1
   refine PA (mx:=none) false hρ hmx (Zz _) λl h m mC hr hlh hm q1 _ q3 q4=>?_
   refine YI hs (x:=.string ⟨((s.take h).drop l).toArray⟩) ?_ (by rw[OP,JI];simp[YU])
   simp only[execOp,ho]
   refine Va ?_
   rw[h1]
   rw[Y6] at hr
   simp only[Instr.sliceAt,Sem.run_bind,run_underlying hu,Result.andThen_ok,Instr.slice,Wy,Option.isSome_none,XW,if_false,Nk,hr,Sem.run_pure]
   simp only[Wy] at hr
   simp only[hr,Result.andThen_ok]
   congr 2
   rw[ByteArray.ext_iff]
   simp only[ByteArray.data_extract]
   apply Array.ext'
   simp[W3,List.drop_take]
 case slice e=>
  refine Wa λi hi'=>JS (λhx=>?_) (Se (λhx=>?_) λb off len cap hx=>Ty λr hr=>YS λhsz=>?_)
  ·rw[hx] at h1
   obtain⟨a,h1⟩: ∃a,ρ x=.slice (some a) 0 0:=by simpa only[YU] using h1
   refine PA (capC:=0) true hρ hmx (Zz _) λl h m mC hr hlh hm q1 q2 q3 q4=>?_
   have hh:h=0:=by
    cases hi with
    |none=>exact q3 rfl
    |some y=>have:=q4 rfl;omega
   have hl:l=0:=by omega
   have hmC:mC=0:=by
    cases mx with
    |none=>exact(q1 rfl).2
    |some y=>have:=q2 rfl;omega
   refine YI hs (x:=.slice (some a) 0 0) ?_ (by simp[YU])
   simp only[execOp,ho]
   refine Va ?_
   rw[h1]
   simp only[Instr.sliceAt,Sem.run_bind,run_underlying hu,Result.andThen_ok,Instr.slice,hr,WK hi',Sem.run_pure]
   subst hh;subst hl;subst hmC
   simp
  ·rw[hx] at h1
   have h1:ρ x=.slice none 0 0:=by simpa only[YU] using h1
   refine PA (capC:=0) true hρ hmx (Zz _) λl h m mC hr hlh hm q1 q2 q3 q4=>?_
   have hh:h=0:=by
    cases hi with
    |none=>exact q3 rfl
    |some y=>have:=q4 rfl;omega
   have hl:l=0:=by omega
   have hmC:mC=0:=by
    cases mx with
    |none=>exact(q1 rfl).2
    |some y=>have:=q2 rfl;omega
   refine YI hs (x:=.slice none 0 0) ?_ (by simp[YU])
   simp only[execOp,ho]
   refine Va ?_
   rw[h1]
   simp only[Instr.sliceAt,Sem.run_bind,run_underlying hu,Result.andThen_ok,Instr.slice,hr,WK hi',Sem.run_pure]
   subst hh;subst hl;subst hmC
   simp
  ·rw[hx] at h1
   obtain⟨l,hl,e1⟩:=Uo h1
   obtain⟨cs,fr,hc,hrr⟩:=hs.row hr hl
   refine PA (capC:=cap.getD (l.tot - off/l.sz)) true hρ hmx (Ew hrr off cap) λlo' h m mC hrun hlh hm q1 q2 q3 q4=>?_
   have run:(execOp ρ o).run P w=.ok (.value (.slice (some (if mC=lo' then⟨l.blk,l.base+off,none⟩ else⟨l.blk,l.base+off+lo'*i.size,none⟩)) (h - lo') (mC - lo'))) w:=by
    simp only[execOp,ho]
    refine Va ?_
    rw[e1]
    simp only[Instr.sliceAt,Sem.run_bind,run_underlying hu,Result.andThen_ok,Instr.slice,hrun,WK hi',Sem.run_pure]
    by_cases hmm:mC=lo'
    ·simp[hmm]
    ·simp[hmm,Ry]
   refine YS λhle=>?_
   rw[XF] at hle
   have hle:lo'<=m:=Zm hle
   refine Ul (λhlm=>?_) λhlm=>?_
   ·rw[YZ] at hlm
    have hlm:lo'=m:=Zm hlm
    cases mx with
    |none=>
     cases cap with
     |some c=>
      obtain⟨z1,z2⟩:=q1 rfl
      have z1:m=c:=z1
      have z2:mC=c:=z2
      have hmm:mC=lo':=by omega
      refine YI hs run ?_
      rw[if_pos hmm,hmm,VX]
      exact S3 (cap:=some 0) hl
     |none=>
     refine VP (Tr.ghost hs ⟨l.blk,(if mC=lo' then l.base+off else l.base+off+lo'*i.size),mC - lo',1⟩) run ?_
     simp only[YU]
     refine⟨_,Mp.put_same _ _ _,?_⟩
     by_cases hmm:mC=lo'
     ·simp[hmm]
     ·simp[hmm]
    |some y=>
     have hmm:mC=lo':=by have:=q2 rfl;omega
     refine YI hs run ?_
     rw[if_pos hmm,hmm,VX]
     exact S3 (cap:=some 0) hl
   ·rw[YZ] at hlm
    have hlm:lo'≠m:=of_decide_eq_false hlm
    have Zh8:mC≠lo':=by
     cases mx with
     |none=>
      obtain⟨z1,z2⟩:=q1 rfl
      have:=Ew hrr off cap
      omega
     |some y=>have:=q2 rfl;omega
    refine YI hs run ?_
    rw[if_neg Zh8]
    have e2:l.base+off+lo'*i.size=l.base+(off+lo'*i.size):=by omega
    rw[e2]
    cases mx with
    |some y=>
     have hmm:mC=m:=(q2 rfl).symm
     rw[hmm]
     exact S3 (cap:=some (m - lo')) hl
    |none=>
     obtain⟨z1,z2⟩:=q1 rfl
     cases cap with
     |some c=>
      rw[z2]
      exact S3 (cap:=some (c - lo')) hl
     |none=>
      rw[z2]
      have hz:l.sz=i.size:=by
       rw[hrr.sz]
       have:Nat.beq r.sz i.size=true:=hsz
       rw[YZ] at this
       exact Zm this
      have h2:=hrr.sz1
      have e3:l.tot - off/l.sz - lo'=l.tot - (off+lo'*i.size)/l.sz:=by
       rw[<-hz,Nat.add_mul_div_right _ _ (by omega),Nat.sub_sub]
      show YU σ (.slice b (off+lo'*i.size) (h - lo') none) (.slice _ _ (l.tot - off/l.sz - lo'))
      rw[e3]
      exact S3 (cap:=none) hl
 case array n e=>
  refine Wa λi hi'=>Qy λb off hx=>?_
  rw[hx] at h1
  obtain⟨l,hl,e1⟩:=Ut h1
  refine PA (capC:=n) false hρ hmx (Zz _) λlo' h m mC hrun hlh hm q1 q2 q3 q4=>?_
  have hmC:mC=m:=by
   cases mx with
   |none=>obtain⟨z1,z2⟩:=q1 rfl;omega
   |some y=>exact(q2 rfl).symm
  subst hmC
  have run:(execOp ρ o).run P w=.ok (.value (.slice (some (if mC=lo' then⟨l.blk,l.base+off,none⟩ else⟨l.blk,l.base+off+lo'*i.size,none⟩)) (h - lo') (mC - lo'))) w:=by
   simp only[execOp,ho]
   refine Va ?_
   rw[e1]
   simp only[Instr.sliceAt,Sem.run_bind,run_underlying hu,Result.andThen_ok,Instr.sureAddr,hrun,WK hi',Sem.run_pure]
   by_cases hmm:mC=lo'
   ·simp[hmm]
   ·simp[hmm,Ry]
  refine Ul (λhlm=>?_) λhlm=>?_
  ·rw[YZ] at hlm
   have hlm:lo'=mC:=Zm hlm
   refine YI hs run ?_
   rw[if_pos hlm.symm]
   exact S3 (cap:=some (mC - lo')) hl
  ·rw[YZ] at hlm
   have hlm:lo'≠mC:=of_decide_eq_false hlm
   refine YI hs run ?_
   rw[if_neg (λe=>hlm e.symm),X9]
   exact S3 (cap:=some (mC - lo')) hl
end
end
end Go.AI
