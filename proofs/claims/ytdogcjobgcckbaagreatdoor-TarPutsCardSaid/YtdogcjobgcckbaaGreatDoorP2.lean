/- What the interpreter's values and heaps tell of the model's, and the first operations: proved for every world that is told. -/
import Derived.Test.YtdogcjobgcckbaaGreatDoorP1
import Derived.Laws.World
import Derived.Laws.Sem
import Derived.Laws.Rows
import Derived.Laws.Entries
import Derived.ChangeKeysEq
import Derived.Laws.Strings
import Derived.Laws.Slices
import Derived.Laws.Strings2
import Derived.Laws.Panics
import Derived.Laws.Cells
import Derived.Laws.Tables
set_option maxRecDepth 1000000
set_option maxHeartbeats 0
set_option linter.unusedVariables false
set_option linter.unusedSimpArgs false
namespace Go.AI
open Go
noncomputable section
namespace T
variable {α:Type}
theorem Ft(bs:List Bool):(T.leaf:T α).getB bs=none:=rfl
theorem HJ(l r:T α)(v:Option α):(T.node l v r).getB []=v:=rfl
theorem Na(l r:T α)(v:Option α)(b:Bool)(bs:List Bool):(T.node l v r).getB (b::bs)=if b then l.getB bs else r.getB bs:=by cases b<;>rfl
theorem vb(x:α): ∀bs cs:List Bool,(T.single x bs).getB cs=if bs=cs then some x else none:=by
 intro bs
 induction bs with
 |nil=>intro cs;cases cs with
  |nil=>rfl
  |cons c cs=>cases c<;>rfl
 |cons b bs ih=>
  intro cs
  cases cs with
  |nil=>cases b<;>rfl
  |cons c cs=>
   cases b<;>cases c
   ·show(T.single x bs).getB cs=_;rw[ih];simp
   ·show(T.leaf:T α).getB cs=_;simp[Ft]
   ·show(T.leaf:T α).getB cs=_;simp[Ft]
   ·show(T.single x bs).getB cs=_;rw[ih];simp
theorem mp(x:α)(t:T α): ∀bs cs:List Bool,(T.setB x t bs).getB cs=if bs=cs then some x else t.getB cs:=by
 induction t with
 |leaf=>intro bs cs;show(T.single x bs).getB cs=_;rw[vb];rfl
 |node l v r ihl ihr=>
  intro bs cs
  cases bs with
  |nil=>cases cs with
   |nil=>rfl
   |cons c cs=>cases c<;>simp[show T.setB x (.node l v r) []=.node l (some x) r from rfl,Na]
  |cons b bs=>
   cases b
   ·show(T.node l v (T.setB x r bs)).getB cs=_
    cases cs with
    |nil=>simp[HJ]
    |cons c cs=>cases c<;>simp[Na,ihr]
   ·show(T.node (T.setB x l bs) v r).getB cs=_
    cases cs with
    |nil=>simp[HJ]
    |cons c cs=>cases c<;>simp[Na,ihl]
theorem mj(t:T α): ∀bs cs:List Bool,(T.delB t bs).getB cs=if bs=cs then none else t.getB cs:=by
 induction t with
 |leaf=>intro bs cs;show(T.leaf:T α).getB cs=_;simp[Ft]
 |node l v r ihl ihr=>
  intro bs cs
  cases bs with
  |nil=>cases cs with
   |nil=>rfl
   |cons c cs=>cases c<;>simp[show T.delB (.node l v r) []=.node l none r from rfl,Na]
  |cons b bs=>
   cases b
   ·show(T.node l v (T.delB r bs)).getB cs=_
    cases cs with
    |nil=>simp[HJ]
    |cons c cs=>cases c<;>simp[Na,ihr]
   ·show(T.node (T.delB l bs) v r).getB cs=_
    cases cs with
    |nil=>simp[HJ]
    |cons c cs=>cases c<;>simp[Na,ihl]
end T
theorem Qp(f n:Nat):JL (f+1) n=if n=0 then [] else if n % 2=1 then true::JL f (n/2) else false::JL f (n/2 - 1):=by
 show @Bool.rec (λ_=>List Bool) (@Bool.rec (λ_=>List Bool) (false::JL f (n/2 - 1)) (true::JL f (n/2)) (Nat.beq (n % 2) 1)) [] (Nat.beq n 0)=_
 by_cases h:n=0
 ·subst h;rfl
 ·rw[if_neg h]
  have h0:Nat.beq n 0=false:=by cases n with|zero=>exact absurd rfl h|succ n=>rfl
  rw[h0]
  by_cases h1:n % 2=1
  ·rw[if_pos h1,h1];rfl
  ·have:n % 2=0:=by omega
   rw[if_neg h1,this];rfl
theorem nv: ∀f n m,n<=f->m<=f->JL f n=JL f m->n=m:=by
 intro f
 induction f with
 |zero=>intro n m hn hm _;omega
 |succ f ih=>
  intro n m hn hm h
  rw[Qp,Qp] at h
  by_cases n0:n=0
  ·by_cases m0:m=0
   ·omega
   ·rw[if_pos n0,if_neg m0] at h
    split at h<;>cases h
  ·by_cases m0:m=0
   ·rw[if_neg n0,if_pos m0] at h
    split at h<;>cases h
   ·rw[if_neg n0,if_neg m0] at h
    by_cases n1:n % 2=1<;>by_cases m1:m % 2=1
    ·rw[if_pos n1,if_pos m1] at h
     have:=ih (n/2) (m/2) (by omega) (by omega) (List.cons.inj h).2
     omega
    ·rw[if_pos n1,if_neg m1] at h;simp at h
    ·rw[if_neg n1,if_pos m1] at h;simp at h
    ·rw[if_neg n1,if_neg m1] at h
     have:=ih (n/2 - 1) (m/2 - 1) (by omega) (by omega) (List.cons.inj h).2
     omega
theorem Lc: ∀f n g,n<=f->f<=g->JL g n=JL f n:=by
 intro f
 induction f with
 |zero=>
  intro n g hn _
  have:n=0:=by omega
  subst this
  cases g with
  |zero=>rfl
  |succ g=>rw[Qp];rfl
 |succ f ih=>
  intro n g hn hg
  obtain⟨g,rfl⟩: ∃g',g=g'+1:=⟨g - 1,by omega⟩
  rw[Qp,Qp]
  by_cases n0:n=0
  ·rw[if_pos n0,if_pos n0]
  ·rw[if_neg n0,if_neg n0]
   by_cases n1:n % 2=1
   ·rw[if_pos n1,if_pos n1,ih (n/2) g (by omega) (by omega)]
   ·rw[if_neg n1,if_neg n1,ih (n/2 - 1) g (by omega) (by omega)]
theorem wx{n m:Nat}(h:bits n=bits m):n=m:=by
 unfold bits at h
 rw[<-Lc n n (n+m) (Zp _) (by omega),<-Lc m m (n+m) (Zp _) (by omega)] at h
 exact nv (n+m) n m (by omega) (by omega) h
namespace T
variable {α:Type}
theorem get_set(t:T α)(n m:Nat)(x:α):(t.set n x).get m=if n=m then some x else t.get m:=by
 unfold get set
 rw[mp]
 by_cases h:n=m
 ·subst h;simp
 ·rw[if_neg h,if_neg (λe=>h (wx e))]
theorem get_del(t:T α)(n m:Nat):(t.del n).get m=if n=m then none else t.get m:=by
 unfold get del
 rw[mj]
 by_cases h:n=m
 ·subst h;simp
 ·rw[if_neg h,if_neg (λe=>h (wx e))]
theorem get_leaf(n:Nat):(T.leaf:T α).get n=none:=rfl
end T
structure Loc where
 blk:Nat
 base:Nat
 tot:Nat
 sz:Nat
abbrev Mp:=Nat->Option Loc
mutual
def Yn(σ:Mp):AV->Value->Prop
 |.unk,_=>True
 |.bool b,v=>v=.bool b
 |.int k n,v=>v=.int k n
 |.str s,v=>v=.string ⟨s.toArray⟩
 |.nilp,v=>v=.pointer none
 |.ptr b o,v=> ∃l,σ b=some l∧v=.pointer (some ⟨l.blk,l.base+o,none⟩)
 |.nils,v=>v=.slice none 0 0
 |.slice b o n cap,v=> ∃l,σ b=some l∧v=.slice (some ⟨l.blk,l.base+o,none⟩) n (cap.getD (l.tot - o/l.sz))
 |.slice0,v=> ∃a,v=.slice (some a) 0 0
 |.nilm,v=>v=.map none
 |.map b,v=> ∃l,σ b=some l∧v=.map (some l.blk)
 |.func f a b,v=> ∃x y,YR σ a x∧YR σ b y∧v=.func (.func f) ⟨x⟩ ⟨y⟩
 |.meth n r,v=> ∃x,Yn σ r x∧v=.func (.method n) #[x] #[]
 |.yield b,v=> ∃l,σ b=some l∧v=.func (.yield l.blk) #[] #[]
 |.nilf,v=>v=.nilFunc
 |.iface t x,v=> ∃y,Yn σ x y∧v=.iface t y
 |.nili,v=>v=.nilIface
 |.agg cs,v=> ∃vs,YR σ cs vs∧(∀x∈vs,x.oneCell'=true)∧v=.agg ⟨vs⟩
 |.tup cs,v=> ∃vs,YR σ cs vs∧v=.tuple ⟨vs⟩
def YR(σ:Mp):List AV->List Value->Prop
 |[],l=>l=[]
 |a::as,l=> ∃v vs,Yn σ a v∧YR σ as vs∧l=v::vs
end
def Ext(σ σ':Mp):Prop:= ∀b l,σ b=some l->σ' b=some l
theorem Ext.refl(σ:Mp):Ext σ σ:=λ_ _ h=>h
theorem Ext.trans{σ σ' σ'':Mp}(h:Ext σ σ')(h':Ext σ' σ''):Ext σ σ'':=λb l x=>h' b l (h b l x)
mutual
theorem Yn.mono{σ σ':Mp}(h:Ext σ σ'): ∀{a:AV} {v:Value},Yn σ a v->Yn σ' a v
 |.unk,_,_=>by simp[Yn]
 |.bool b,v,r=>by simpa [Yn] using r
 |.int k n,v,r=>by simpa [Yn] using r
 |.str s,v,r=>by simpa [Yn] using r
 |.nilp,v,r=>by simpa [Yn] using r
 |.ptr b o,v,r=>by
  simp only[Yn] at r ⊢
  obtain⟨l,hl,hv⟩:=r
  exact⟨l,h _ _ hl,hv⟩
 |.nils,v,r=>by simpa [Yn] using r
 |.slice0,v,r=>by simpa [Yn] using r
 |.slice b o n cap,v,r=>by
  simp only[Yn] at r ⊢
  obtain⟨l,hl,hv⟩:=r
  exact⟨l,h _ _ hl,hv⟩
 |.nilm,v,r=>by simpa [Yn] using r
 |.map b,v,r=>by
  simp only[Yn] at r ⊢
  obtain⟨l,hl,hv⟩:=r
  exact⟨l,h _ _ hl,hv⟩
 |.func f a b,v,r=>by
  simp only[Yn] at r ⊢
  obtain⟨x,y,hx,hy,hv⟩:=r
  exact⟨x,y,YR.mono h hx,YR.mono h hy,hv⟩
 |.meth n a,v,r=>by
  simp only[Yn] at r ⊢
  obtain⟨x,hx,hv⟩:=r
  exact⟨x,Yn.mono h hx,hv⟩
 |.yield b,v,r=>by
  simp only[Yn] at r ⊢
  obtain⟨l,hl,hv⟩:=r
  exact⟨l,h _ _ hl,hv⟩
 |.nilf,v,r=>by simpa [Yn] using r
 |.iface t x,v,r=>by
  simp only[Yn] at r ⊢
  obtain⟨y,hy,hv⟩:=r
  exact⟨y,Yn.mono h hy,hv⟩
 |.nili,v,r=>by simpa [Yn] using r
 |.agg cs,v,r=>by
  simp only[Yn] at r ⊢
  obtain⟨vs,hx,h1,hv⟩:=r
  exact⟨vs,YR.mono h hx,h1,hv⟩
 |.tup cs,v,r=>by
  simp only[Yn] at r ⊢
  obtain⟨vs,hx,hv⟩:=r
  exact⟨vs,YR.mono h hx,hv⟩
theorem YR.mono{σ σ':Mp}(h:Ext σ σ'): ∀{a:List AV} {v:List Value},YR σ a v->YR σ' a v
 |[],v,r=>by simpa [YR] using r
 |a::as,v,r=>by
  simp only[YR] at r ⊢
  obtain⟨x,xs,hx,hxs,hv⟩:=r
  exact⟨x,xs,Yn.mono h hx,YR.mono h hxs,hv⟩
end
theorem YF{α:Type}(l:List α):YK l=l.length:=by
 induction l with
 |nil=>rfl
 |cons a l ih=>show Nat.succ (YK l)=_;rw[ih];rfl
theorem M7: ∀(n:Nat) (l:List AV),Ow n l=l.take n
 |0,_=>by simp[Ow]
 |n+1,[]=>by simp[Ow]
 |n+1,v::l=>by simp[Ow,M7 n l]
theorem MC: ∀(n:Nat) (l:List AV),PB n l=l.drop n
 |0,_=>by simp[PB]
 |n+1,[]=>by simp[PB]
 |n+1,v::l=>by simp[PB,MC n l]
theorem NN: ∀(n:Nat) (l:List UInt8),LQ n l=l.take n
 |0,_=>by simp[LQ]
 |n+1,[]=>by simp[LQ]
 |n+1,v::l=>by simp[LQ,NN n l]
theorem HD: ∀(n:Nat) (l:List UInt8),JN n l=l.drop n
 |0,_=>by simp[JN]
 |n+1,[]=>by simp[JN]
 |n+1,v::l=>by simp[JN,HD n l]
theorem Je: ∀(l:List AV) (n:Nat),Gn l n=l[n]?
 |[],_=>by simp[Gn]
 |v::_,0=>by simp[Gn]
 |_::l,n+1=>by simp[Gn,Je l n]
theorem xz: ∀(l:List UInt8) (n:Nat),vZ l n=l[n]?
 |[],_=>by simp[vZ]
 |v::_,0=>by simp[vZ]
 |_::l,n+1=>by simp[vZ,xz l n]
section
variable {σ:Mp}
theorem V2:YR σ [] []:=by simp[YR]
theorem Ww{a:AV}{as:List AV}{v:Value}{vs:List Value}(h:Yn σ a v)(h':YR σ as vs):YR σ (a::as) (v::vs):=by
 simp only[YR];exact⟨v,vs,h,h',rfl⟩
theorem Th{a:AV}{v:Value}(h:Yn σ a v):YR σ [a] [v]:=Ww h V2
theorem YR.nil_inv{l:List Value}(h:YR σ [] l):l=[]:=by simpa [YR] using h
theorem YR.cons_inv{a:AV}{as:List AV}{l:List Value}(h:YR σ (a::as) l): ∃v vs,Yn σ a v∧YR σ as vs∧l=v::vs:=by simpa [YR] using h
theorem YR.length: ∀{as:List AV} {vs:List Value},YR σ as vs->as.length=vs.length
 |[],vs,h=>by rw[h.nil_inv];rfl
 |a::as,vs,h=>by
  obtain⟨v,vs,_,h',rfl⟩:=h.cons_inv
  simp[YR.length h']
theorem YR.append: ∀{as bs:List AV} {vs us:List Value},YR σ as vs->YR σ bs us->YR σ (as++bs) (vs++us)
 |[],bs,vs,us,h,h'=>by rw[h.nil_inv];exact h'
 |a::as,bs,vs,us,h,h'=>by
  obtain⟨v,vs,h1,h2,rfl⟩:=h.cons_inv
  exact Ww h1 (YR.append h2 h')
theorem YR.get: ∀{as:List AV} {vs:List Value} {i:Nat} {a:AV},YR σ as vs->as[i]? =some a-> ∃v,vs[i]? =some v∧Yn σ a v
 |[],vs,i,a,h,e=>by simp at e
 |x::as,vs,i,a,h,e=>by
  obtain⟨v,vs,h1,h2,rfl⟩:=h.cons_inv
  cases i with
  |zero=>simp at e;subst e;exact⟨v,rfl,h1⟩
  |succ i=>simp at e;obtain⟨u,hu,hr⟩:=YR.get h2 e;exact⟨u,by simpa using hu,hr⟩
theorem YR.take: ∀{as:List AV} {vs:List Value} (n:Nat),YR σ as vs->YR σ (as.take n) (vs.take n)
 |[],vs,n,h=>by rw[h.nil_inv];simpa using V2
 |a::as,vs,0,h=>by simpa using V2
 |a::as,vs,n+1,h=>by
  obtain⟨v,vs,h1,h2,rfl⟩:=h.cons_inv
  simpa using Ww h1 (YR.take n h2)
theorem YR.drop: ∀{as:List AV} {vs:List Value} (n:Nat),YR σ as vs->YR σ (as.drop n) (vs.drop n)
 |[],vs,n,h=>by rw[h.nil_inv];simpa using V2
 |a::as,vs,0,h=>by simpa using h
 |a::as,vs,n+1,h=>by
  obtain⟨v,vs,h1,h2,rfl⟩:=h.cons_inv
  simpa using YR.drop n h2
theorem YR.of_get: ∀{as:List AV} {vs:List Value},as.length=vs.length->(∀(i:Nat) (a:AV) (v:Value),as[i]? =some a->vs[i]? =some v->Yn σ a v)->YR σ as vs
 |[],[],_,_=>V2
 |[],_::_,h,_=>by simp at h
 |_::_,[],h,_=>by simp at h
 |a::as,v::vs,h,g=>Ww (g 0 a v rfl rfl) (YR.of_get (by simpa using h) λi x y hx hy=>g (i+1) x y (by simpa using hx) (by simpa using hy))
theorem RC{a:AV}{v:Value}(h:Yn σ a v)(h1:v.oneCell'=true):YR σ [a] [v]∧ ∀x∈[v],x.oneCell'=true:=⟨Th h,by simpa using h1⟩
theorem Yn.cells{a:AV}{v:Value}(h:Yn σ a v)(h1:1<=a.cells.length):YR σ a.cells v.cells.toList∧ ∀x∈v.cells.toList,x.oneCell'=true:=by
 cases a<;>simp only[AV.cells,SD] at h1 ⊢ <;>first
  |omega
  |(simp only[Yn] at h;subst h;exact RC (by simp[Yn]) rfl)
  |skip
 case ptr b o=>obtain⟨l,hl,rfl⟩:=(by simpa only[Yn] using h);exact RC (by simp only[Yn];exact⟨l,hl,rfl⟩) rfl
 case slice b o n c=>obtain⟨l,hl,rfl⟩:=(by simpa only[Yn] using h);exact RC (by simp only[Yn];exact⟨l,hl,rfl⟩) rfl
 case slice0=>have h0:=h;obtain⟨l,rfl⟩:=(by simpa only[Yn] using h);exact RC h0 rfl
 case map b=>obtain⟨l,hl,rfl⟩:=(by simpa only[Yn] using h);exact RC (by simp only[Yn];exact⟨l,hl,rfl⟩) rfl
 case func f x y=>have h0:=h;obtain⟨p,q,hp,hq,rfl⟩:=(by simpa only[Yn] using h);exact RC h0 rfl
 case meth n x=>have h0:=h;obtain⟨p,hp,rfl⟩:=(by simpa only[Yn] using h);exact RC h0 rfl
 case yield b=>have h0:=h;obtain⟨p,hp,rfl⟩:=(by simpa only[Yn] using h);exact RC h0 rfl
 case iface t x=>have h0:=h;obtain⟨p,hp,rfl⟩:=(by simpa only[Yn] using h);exact RC h0 rfl
 case agg cs=>obtain⟨vs,hvs,h2,rfl⟩:=(by simpa only[Yn] using h);exact⟨hvs,h2⟩
end
def Mk(σ:Mp)(a:SR)(e:MapEntry):Prop:=Yn σ a.key e.key∧Yn σ a.val e.val∧a.born=e.born
def Yz(σ:Mp):List SR->List MapEntry->Prop
 |[],l=>l=[]
 |a::as,l=> ∃e es,Mk σ a e∧Yz σ as es∧l=e::es
noncomputable def L3(a b:AV):Bool:=match a,b with
 |.str a,.str b=>!NK a b
 |.int j a,.int k b=>P3 j k&&!Ge a b
 |_,_=>false
def Sg(e:SR):AV×AV:=(e.key,e.val)
def yA(a b:SR):Prop:=L3 a.key b.key=true∧L3 b.key a.key=true
def G8(es:List SR)(clock:Nat):Prop:=es.Pairwise (λa b=>a.born<b.born)∧ ∀e∈es,e.born<clock
structure Ql(σ:Mp)(r:Row)(l:Loc)(cs:Array Value)(fr:Nat×Nat):Prop where
 sz:l.sz=r.sz
 sz1:1<=l.sz
 fits:r.size<=l.tot*l.sz
 room:l.base+l.tot*l.sz<=cs.size
 exact:r.exact=true->r.size=l.tot*l.sz∧l.base=0∧cs.size=r.size
 cell: ∀i,i<r.size-> ∃v,cs[l.base+i]? =some v∧Yn σ (r.get i) v
 one: ∀(i:Nat) (v:Value),i<r.size->cs[l.base+i]? =some v->v.oneCell'=true
 frz:r.own=true-> ∀i,r.fz<=i->i<l.tot*l.sz-> ¬(fr.1<=l.base+i∧l.base+i<fr.2)
 frs:r.own=true->r.sm=false->fr.1=fr.2∨(1<=r.fz∧fr.2<=l.base+r.fz)
def UL(σ:Mp)(o:Obj)(l:Loc)(c:Go.Obj):Prop:=match o with
 |.row r=> ∃cs fr,c=.cells cs r.elem fr∧Ql σ r l cs fr
 |.map es clock=> ∃ents,c=.map ents clock∧Yz σ es ents.toList∧G8 es clock
 |.siter s pos=>c=.stringIter ⟨s.toArray⟩ pos∧l.base=0
 |.miter m since cur=> ∃seen st,c=.mapIter (m.bind λb=>(σ b).map (·.blk)) since seen st∧(∀b,m=some b->(σ b).isSome=true)∧l.base=0∧
   match cur with
   |none=>seen= #[]∧st=since
   |some (n,t)=>seen.back? =some n∧st=t
 |.loop=> ∃lp,c=.loop lp
 |.cmap es=> ∃ents clock fs,c=.map ents clock∧Yz σ fs ents.toList∧(fs.map Sg).Perm (es.map Sg)∧es.Pairwise yA
def LR(o:Obj):Prop:= ∃r,o=.row r∧r.own=false
theorem LR.not_own{o:Obj}(h:LR o)(hw: ∀r,o=.row r->r.own=true):False:=by
 obtain⟨r,rfl,e⟩:=h
 rw[hw r rfl] at e;cases e
structure WE(P:Program)(σ:Mp)(H:Heap)(w:World):Prop where
 dom: ∀b l,σ b=some l->b<H.nx
 low: ∀b o,H.t.get b=some o->b<H.nx
 alive: ∀b o l,H.t.get b=some o->σ b=some l-> ∃c,w.heap[l.blk]? =some c∧UL σ o l c
 inj: ∀b b' o o' l l',H.t.get b=some o->H.t.get b'=some o'->σ b=some l->σ b'=some l'->l.blk=l'.blk->b=b'∨(LR o∧LR o')
 glob: ∀g,g<P.globals.size-> ∃l,σ g=some l∧l.blk=g∧l.base=0
 ro:H.ro<=H.nx
def Wr(H:Heap)(b:Nat):Prop:=H.ro<=b∧ ∃o,H.t.get b=some o∧(∀r,o=.row r->r.own=true)∧o≠.loop
theorem Wr.hard{H:Heap}{b:Nat}{o:Obj}(h:Wr H b)(ho:H.t.get b=some o)(hs:LR o):False:=by
 obtain⟨_,o',ho',hw,_⟩:=h
 rw[ho] at ho';cases ho'
 exact hs.not_own hw
theorem WE.alone{P:Program}{σ:Mp}{H:Heap}{w:World}(h:WE P σ H w){b b':Nat}{o o':Obj}{l l':Loc}(hb:H.t.get b=some o)(hb':H.t.get b'=some o')(hl:σ b=some l)(hl':σ b'=some l')(e:l.blk=l'.blk)(hs: ¬(LR o∧LR o')):b=b':=
 (h.inj b b' o o' l l' hb hb' hl hl' e).resolve_right hs
structure Tr(P:Program)(σ:Mp)(H:Heap)(w:World)(σ':Mp)(H':Heap)(w':World):Prop where
 ext:Ext σ σ'
 sim:WE P σ' H' w'
 size:w.heap.size<=w'.heap.size
 frame: ∀k,k<w.heap.size->(∀b l,Wr H b->σ b=some l->l.blk≠k)->w'.heap[k]? =w.heap[k]?
 wr: ∀b l,Wr H' b->σ' b=some l->l.blk<w.heap.size-> ∃b0 l0,Wr H b0∧σ b0=some l0∧l0.blk=l.blk
 nx:H.nx<=H'.nx
 ro:H'.ro=H.ro
 low: ∀b,b<H.ro->H'.t.get b=H.t.get b
 tape:w'.tape=w.tape
 os:w'.os=w.os
 out:w'.output=w.output
 pend: ∀b,b<H.nx->σ b=none->H'.t.get b=H.t.get b∧σ' b=none
theorem Tr.refl{P:Program}{σ:Mp}{H:Heap}{w:World}(h:WE P σ H w):Tr P σ H w σ H w:=
 ⟨Ext.refl σ,h,Zp _,λ_ _ _=>rfl,λb l hw hl _=>⟨b,l,hw,hl,rfl⟩,Zp _,rfl,λ_ _=>rfl,rfl,rfl,rfl,λ_ _ h=>⟨rfl,h⟩⟩
theorem Tr.trans{P:Program}{σ σ' σ'':Mp}{H H' H'':Heap}{w w' w'':World}(h:Tr P σ H w σ' H' w')(h':Tr P σ' H' w' σ'' H'' w''):
  Tr P σ H w σ'' H'' w'':=by
 refine⟨h.ext.trans h'.ext,h'.sim,Z5 h.size h'.size,?_,?_,Z5 h.nx h'.nx,h'.ro.trans h.ro,?_,h'.tape.trans h.tape,h'.os.trans h.os,h'.out.trans h.out,?_⟩
 ·intro k hk hn
  rw[h'.frame k (ZT hk h.size) ?_,h.frame k hk hn]
  intro b l hw hl e
  obtain⟨b0,l0,hw0,hl0,e0⟩:=h.wr b l hw hl (by rw[e];exact hk)
  exact hn b0 l0 hw0 hl0 (e0.trans e)
 ·intro b l hw hl hlt
  obtain⟨b1,l1,hw1,hl1,e1⟩:=h'.wr b l hw hl (ZT hlt h.size)
  obtain⟨b0,l0,hw0,hl0,e0⟩:=h.wr b1 l1 hw1 hl1 (by rw[e1];exact hlt)
  exact⟨b0,l0,hw0,hl0,e0.trans e1⟩
 ·intro b hb
  rw[h'.low b (by rw[h.ro];exact hb),h.low b hb]
 ·intro b hb hn
  obtain⟨h1,h2⟩:=h.pend b hb hn
  obtain⟨h3,h4⟩:=h'.pend b (ZT hb h.nx) h2
  exact⟨h3.trans h1,h4⟩
theorem Mk.mono{σ σ':Mp}(h:Ext σ σ'){a:SR}{e:MapEntry}(r:Mk σ a e):Mk σ' a e:=⟨r.1.mono h,r.2.1.mono h,r.2.2⟩
theorem Yz.mono{σ σ':Mp}(h:Ext σ σ'): ∀{as:List SR} {es:List MapEntry},Yz σ as es->Yz σ' as es
 |[],es,r=>by simpa [Yz] using r
 |a::as,es,r=>by
  simp only[Yz] at r ⊢
  obtain⟨e,es',h1,h2,h3⟩:=r
  exact⟨e,es',h1.mono h,Yz.mono h h2,h3⟩
theorem Ql.mono{σ σ':Mp}(h:Ext σ σ'){r:Row}{l:Loc}{cs:Array Value}{fr:Nat×Nat}(x:Ql σ r l cs fr):Ql σ' r l cs fr:=
 ⟨x.sz,x.sz1,x.fits,x.room,x.exact,λi hi=>let ⟨v,hv,hr⟩:=x.cell i hi;⟨v,hv,hr.mono h⟩,x.one,x.frz,x.frs⟩
theorem UL.mono{σ σ':Mp}(h:Ext σ σ'){o:Obj}{l:Loc}{c:Go.Obj}(x:UL σ o l c):UL σ' o l c:=by
 cases o with
 |row r=>obtain⟨cs,fr,e,x⟩:=x;exact⟨cs,fr,e,x.mono h⟩
 |map es clock=>obtain⟨ents,e,x,y⟩:=x;exact⟨ents,e,x.mono h,y⟩
 |cmap es=>obtain⟨ents,cl,fs,e,x,y⟩:=x;exact⟨ents,cl,fs,e,x.mono h,y⟩
 |siter s pos=>exact x
 |miter m since cur=>
  obtain⟨seen,st,e,hm,y⟩:=x
  refine⟨seen,st,?_,?_,y⟩
  ·rw[e]
   cases m with
   |none=>rfl
   |some b=>
    have:=hm b rfl
    cases hb:σ b with
    |none=>rw[hb] at this;cases this
    |some l=>simp[hb,h b l hb]
  ·intro b hb
   have:=hm b hb
   cases hs:σ b with
   |none=>rw[hs] at this;cases this
   |some l=>rw[h b l hs];rfl
 |loop=>exact x
def Mp.put(σ:Mp)(b:Nat)(l:Loc):Mp:=λc=>if c=b then some l else σ c
theorem Mp.put_same(σ:Mp)(b:Nat)(l:Loc):σ.put b l b=some l:=by simp[Mp.put]
theorem Mp.put_ext{σ:Mp}{b:Nat}(l:Loc)(h:σ b=none):Ext σ (σ.put b l):=by
 intro c m hc
 unfold Mp.put
 by_cases e:c=b
 ·subst e;rw[h] at hc;cases hc
 ·rw[if_neg e];exact hc
theorem WE.fresh{P:Program}{σ:Mp}{H:Heap}{w:World}(h:WE P σ H w){b:Nat}(hb:H.nx<=b):σ b=none:=by
 cases e:σ b with
 |none=>rfl
 |some l=>have:=h.dom b l e;omega
theorem WE.get_lt{P:Program}{σ:Mp}{H:Heap}{w:World}(h:WE P σ H w){b:Nat}{o:Obj}(hb:H.t.get b=some o):b<H.nx:=by
 exact h.low b o hb
theorem WE.blk_lt{P:Program}{σ:Mp}{H:Heap}{w:World}(h:WE P σ H w){b:Nat}{o:Obj}{l:Loc}(hb:H.t.get b=some o)(hl:σ b=some l):l.blk<w.heap.size:=by
 obtain⟨c,hc,_⟩:=h.alive b o l hb hl
 exact(ZQ.1 hc).1
theorem Heap.get_new(H:Heap)(o:Obj)(b:Nat):(H.new o).t.get b=if H.nx=b then some o else H.t.get b:=T.get_set _ _ _ _
theorem Heap.nx_new(H:Heap)(o:Obj):(H.new o).nx=H.nx+1:=rfl
theorem Heap.ro_new(H:Heap)(o:Obj):(H.new o).ro=H.ro:=rfl
theorem Heap.get_put(H:Heap)(c:Nat)(o:Obj)(b:Nat):(H.put c o).t.get b=if c=b then some o else H.t.get b:=T.get_set _ _ _ _
theorem SN{w:World}{o:Go.Obj}{k:Nat}(h:k<w.heap.size):(w.alloc o).heap[k]? =w.heap[k]? :=heap_alloc_old w o k h
theorem SM(w:World)(o:Go.Obj):(w.alloc o).heap[w.heap.size]? =some o:=heap_alloc_new w o
theorem Tr.alloc{P:Program}{σ:Mp}{H:Heap}{w:World}(h:WE P σ H w)(o:Obj)(c:Go.Obj)(l:Loc)(hl:l.blk=w.heap.size)
  (ho:UL (σ.put H.nx l) o l c):Tr P σ H w (σ.put H.nx l) (H.new o) (w.alloc c):=by
 have hf:σ H.nx=none:=h.fresh (Zp _)
 have he:=Mp.put_ext l hf
 refine⟨he,⟨?_,?_,?_,?_,?_,?_⟩,by simp,?_,?_,by simp[Heap.nx_new],rfl,?_,rfl,rfl,rfl,λb hb hn=>⟨by rw[Heap.get_new,if_neg (by omega)],by unfold Mp.put;rw[if_neg (by omega)];exact hn⟩⟩
 ·intro b m hb
  rw[Heap.nx_new]
  unfold Mp.put at hb
  by_cases e:b=H.nx
  ·omega
  ·rw[if_neg e] at hb;have:=h.dom b m hb;omega
 ·intro b o' hb
  rw[Heap.get_new] at hb
  rw[Heap.nx_new]
  by_cases e:H.nx=b
  ·omega
  ·rw[if_neg e] at hb;have:=h.low b o' hb;omega
 ·intro b o' l' hb hl'
  rw[Heap.get_new] at hb
  by_cases e:H.nx=b
  ·rw[if_pos e] at hb;cases hb;subst e
   rw[Mp.put_same] at hl';cases hl'
   exact⟨c,by rw[hl];exact SM w c,ho⟩
  ·rw[if_neg e] at hb
   have hl2:σ b=some l':=by unfold Mp.put at hl';rwa [if_neg (λx=>e x.symm)] at hl'
   obtain⟨c',hc',hr⟩:=h.alive b o' l' hb hl2
   exact⟨c',by rw[SN (ZQ.1 hc').1];exact hc',hr.mono he⟩
 ·intro b b' o1 o2 l1 l2 hb hb' hl1 hl2 e
  rw[Heap.get_new] at hb hb'
  by_cases e1:H.nx=b<;>by_cases e2:H.nx=b'
  ·omega
  ·rw[if_neg e2] at hb'
   subst e1
   rw[Mp.put_same] at hl1;cases hl1
   have Zfj:σ b'=some l2:=by unfold Mp.put at hl2;rwa [if_neg (λx=>e2 x.symm)] at hl2
   have:=h.blk_lt hb' Zfj
   omega
  ·rw[if_neg e1] at hb
   subst e2
   rw[Mp.put_same] at hl2;cases hl2
   have Zfi:σ b=some l1:=by unfold Mp.put at hl1;rwa [if_neg (λx=>e1 x.symm)] at hl1
   have:=h.blk_lt hb Zfi
   omega
  ·rw[if_neg e1] at hb;rw[if_neg e2] at hb'
   have Zfi:σ b=some l1:=by unfold Mp.put at hl1;rwa [if_neg (λx=>e1 x.symm)] at hl1
   have Zfj:σ b'=some l2:=by unfold Mp.put at hl2;rwa [if_neg (λx=>e2 x.symm)] at hl2
   exact h.inj b b' o1 o2 l1 l2 hb hb' Zfi Zfj e
 ·intro g hg
  obtain⟨l',h1,h2⟩:=h.glob g hg
  exact⟨l',he g l' h1,h2⟩
 ·rw[Heap.ro_new,Heap.nx_new];have:=h.ro;omega
 ·intro k hk _
  exact SN hk
 ·intro b l' hw hl' hlt
  obtain⟨hro,o',ho',hown⟩:=hw
  rw[Heap.get_new] at ho'
  by_cases e:H.nx=b
  ·subst e
   rw[Mp.put_same] at hl';cases hl'
   omega
  ·rw[if_neg e] at ho'
   have hl2:σ b=some l':=by unfold Mp.put at hl';rwa [if_neg (λx=>e x.symm)] at hl'
   exact⟨b,l',⟨hro,o',ho',hown⟩,hl2,rfl⟩
 ·intro b hb
  rw[Heap.get_new,if_neg]
  have:=h.ro;omega
theorem Tr.write{P:Program}{σ:Mp}{H:Heap}{w w':World}(h:WE P σ H w){b:Nat}{o o':Obj}{l:Loc}{c':Go.Obj}
  (hb:H.t.get b=some o)(hl:σ b=some l)(hw:Wr H b)
  (hsize:w'.heap.size=w.heap.size)(hnew:w'.heap[l.blk]? =some c')(hold: ∀k,k≠l.blk->w'.heap[k]? =w.heap[k]?)
  (ho:UL σ o' l c')(ht:w'.tape=w.tape)(hos:w'.os=w.os)(hout:w'.output=w.output):Tr P σ H w σ (H.put b o') w':=by
 refine⟨Ext.refl σ,⟨h.dom,?_,?_,?_,h.glob,h.ro⟩,by omega,?_,?_,Zp _,rfl,?_,ht,hos,hout,λb1 _ hn=>⟨by rw[Heap.get_put,if_neg (λe=>by subst e;rw[hl] at hn;cases hn)],hn⟩⟩
 ·intro b1 o1 hb1
  rw[Heap.get_put] at hb1
  by_cases e:b=b1
  ·subst e;exact h.low b o hb
  ·rw[if_neg e] at hb1;exact h.low b1 o1 hb1
 ·intro b1 o1 l1 hb1 hl1
  rw[Heap.get_put] at hb1
  by_cases e:b=b1
  ·rw[if_pos e] at hb1;cases hb1;subst e
   rw[hl] at hl1;cases hl1
   exact⟨c',hnew,ho⟩
  ·rw[if_neg e] at hb1
   obtain⟨c1,hc1,hr⟩:=h.alive b1 o1 l1 hb1 hl1
   refine⟨c1,?_,hr⟩
   rw[hold l1.blk ?_];exact hc1
   intro e2
   exact e (h.alone hb hb1 hl hl1 e2.symm λs=>hw.hard hb s.1)
 ·intro b1 b2 o1 o2 l1 l2 h1 h2 k1 k2 e
  have g: ∀(x:Nat) (ox:Obj),(H.put b o').t.get x=some ox-> ∃oy,H.t.get x=some oy:=by
   intro x ox hx
   rw[Heap.get_put] at hx
   by_cases ex:b=x
   ·subst ex;exact⟨o,hb⟩
   ·rw[if_neg ex] at hx;exact⟨ox,hx⟩
  obtain⟨o1',h1'⟩:=g b1 o1 h1
  obtain⟨o2',h2'⟩:=g b2 o2 h2
  rcases h.inj b1 b2 o1' o2' l1 l2 h1' h2' k1 k2 e with e1|⟨s1,s2⟩
  ·exact .inl e1
  ·rw[Heap.get_put] at h1 h2
   rw[if_neg (λx=>by subst x;exact hw.hard h1' s1)] at h1
   rw[if_neg (λx=>by subst x;exact hw.hard h2' s2)] at h2
   rw[h1] at h1';cases h1'
   rw[h2] at h2';cases h2'
   exact .inr ⟨s1,s2⟩
 ·intro k hk hn
  exact hold k λe=>hn b l hw hl e.symm
 ·intro b1 l1 hw1 hl1 hlt
  by_cases e:b=b1
  ·subst e;exact⟨b,l1,hw,hl1,rfl⟩
  ·obtain⟨hro,o1,ho1,hown⟩:=hw1
   rw[Heap.get_put,if_neg e] at ho1
   exact⟨b1,l1,⟨hro,o1,ho1,hown⟩,hl1,rfl⟩
 ·intro b1 hb1
  rw[Heap.get_put,if_neg]
  intro e;have:=hw.1;omega
namespace N8
variable {α:Type}
theorem proj_upd(i j:Nat)(hi:i<8)(hj:j<8)(f:α->α)(n:N8 α):proj i (upd j f n)=if i=j then f (proj i n) else proj i n:=by
 obtain⟨a,b,c,d,e,g,h,k⟩:=n
 match i,hi,j,hj with
 |0,_,0,_=>rfl|0,_,1,_=>rfl|0,_,2,_=>rfl|0,_,3,_=>rfl|0,_,4,_=>rfl|0,_,5,_=>rfl|0,_,6,_=>rfl|0,_,7,_=>rfl
 |1,_,0,_=>rfl|1,_,1,_=>rfl|1,_,2,_=>rfl|1,_,3,_=>rfl|1,_,4,_=>rfl|1,_,5,_=>rfl|1,_,6,_=>rfl|1,_,7,_=>rfl
 |2,_,0,_=>rfl|2,_,1,_=>rfl|2,_,2,_=>rfl|2,_,3,_=>rfl|2,_,4,_=>rfl|2,_,5,_=>rfl|2,_,6,_=>rfl|2,_,7,_=>rfl
 |3,_,0,_=>rfl|3,_,1,_=>rfl|3,_,2,_=>rfl|3,_,3,_=>rfl|3,_,4,_=>rfl|3,_,5,_=>rfl|3,_,6,_=>rfl|3,_,7,_=>rfl
 |4,_,0,_=>rfl|4,_,1,_=>rfl|4,_,2,_=>rfl|4,_,3,_=>rfl|4,_,4,_=>rfl|4,_,5,_=>rfl|4,_,6,_=>rfl|4,_,7,_=>rfl
 |5,_,0,_=>rfl|5,_,1,_=>rfl|5,_,2,_=>rfl|5,_,3,_=>rfl|5,_,4,_=>rfl|5,_,5,_=>rfl|5,_,6,_=>rfl|5,_,7,_=>rfl
 |6,_,0,_=>rfl|6,_,1,_=>rfl|6,_,2,_=>rfl|6,_,3,_=>rfl|6,_,4,_=>rfl|6,_,5,_=>rfl|6,_,6,_=>rfl|6,_,7,_=>rfl
 |7,_,0,_=>rfl|7,_,1,_=>rfl|7,_,2,_=>rfl|7,_,3,_=>rfl|7,_,4,_=>rfl|7,_,5,_=>rfl|7,_,6,_=>rfl|7,_,7,_=>rfl
theorem proj_all(i:Nat)(x:α):proj i (all x)=x:=by
 unfold proj
 split<;>rfl
end N8
theorem HH(n m:Nat)(hn:n<512)(hm:m<512)(tm:TM)(v:AV):SC n (PX m tm v)=if n=m then v else SC n tm:=by
 show N8.proj (n % 8) (N8.proj (n/8 % 8) (N8.proj (n/64) (N8.upd (m/64) (N8.upd (m/8 % 8) (N8.upd (m % 8) (λ_=>v))) tm)))=if n=m then v else N8.proj (n % 8) (N8.proj (n/8 % 8) (N8.proj (n/64) tm))
 rw[N8.proj_upd _ _ (by omega) (by omega)]
 by_cases h1:n/64=m/64
 ·rw[if_pos h1,N8.proj_upd _ _ (by omega) (by omega)]
  by_cases h2:n/8 % 8=m/8 % 8
  ·rw[if_pos h2,N8.proj_upd _ _ (by omega) (by omega)]
   by_cases h3:n % 8=m % 8
   ·rw[if_pos h3,if_pos (by omega)]
   ·rw[if_neg h3,if_neg (by omega)]
  ·rw[if_neg h2,if_neg (by omega)]
 ·rw[if_neg h1,if_neg (by omega)]
theorem pz(n:Nat):SC n M9=.unk:=by
 show N8.proj (n % 8) (N8.proj (n/8 % 8) (N8.proj (n/64) M9))=_
 rw[show M9=N8.all u64 from rfl,N8.proj_all,show u64=N8.all u8 from rfl,N8.proj_all,show u8=N8.all AV.unk from rfl,N8.proj_all]
structure QU(σ:Mp)(N:Nat)(tm:TM)(t:Array Value):Prop where
 size:N<=t.size
 get: ∀n,n<512->Yn σ (SC n tm) (t.getD n undef)
theorem QU.mono{σ σ':Mp}{N:Nat}{tm:TM}{t:Array Value}(h:Ext σ σ')(x:QU σ N tm t):QU σ' N tm t:=⟨x.size,λn hn=>(x.get n hn).mono h⟩
theorem QU.set{σ:Mp}{N:Nat}{tm:TM}{t:Array Value}(x:QU σ N tm t){d:Nat}{a:AV}{v:Value}(hd:d<N)(h:Yn σ a v):
  QU σ N (Wm (some d) tm a) (t.setIfInBounds d v):=by
 refine⟨by simpa using x.size,λn hn=>?_⟩
 have hs:=x.size
 by_cases h5:d<=511
 ·have hb:Nat.ble d 511=true:=Zk h5
  have e:Wm (some d)=PX d:=by show cond (Nat.ble d 511) (PX d) d0=_;rw[hb];rfl
  rw[e,HH n d hn (by omega)]
  by_cases e1:n=d
  ·subst e1
   rw[if_pos rfl]
   simp only[ZX,YX]
   have:n<t.size:=by omega
   simpa [this] using h
  ·rw[if_neg e1]
   simp only[ZX,YX]
   rw[if_neg (λz=>e1 z.symm)]
   have:=x.get n hn
   simpa only[ZX] using this
 ·have hb:Nat.ble d 511=false:=by
   cases e:Nat.ble d 511 with
   |false=>rfl
   |true=>exact absurd (ZR e) h5
  have e:Wm (some d)=d0:=by show cond (Nat.ble d 511) (PX d) d0=_;rw[hb];rfl
  rw[e]
  show Yn σ (SC n tm) _
  simp only[ZX,YX]
  rw[if_neg (by omega)]
  have:=x.get n hn
  simpa only[ZX] using this
theorem KG{σ:Mp}{f:Value->AV}: ∀(l:List Value),(∀v∈l,Yn σ (f v) v)->YR σ (xF f l) l
 |[],_=>V2
 |v::l,h=>Ww (h v (by simp)) (KG l λu hu=>h u (by simp[hu]))
theorem r6(σ:Mp): ∀(n:Nat) (v:Value),Ly n v=true->Yn σ (I1 n v) v:=by
 intro n
 induction n with
 |zero=>intro v _;simp[I1,Yn]
 |succ n ih=>
  intro v hp
  unfold I1
  split
  ·simp[Yn]
  ·simp[Yn]
  ·rename_i s;simp only[Yn]
  ·simp[Yn]
  ·simp[Yn]
  ·simp[Yn]
  ·simp[Yn]
  ·simp only[Yn];exact⟨[],[],V2,V2,rfl⟩
  ·simp[Yn]
  ·rename_i t u;simp only[Yn];exact⟨u,ih u (by simpa [Ly] using hp),rfl⟩
  ·rename_i cs
   simp only[Ly,Yo,Yw] at hp
   simp only[Yn]
   exact⟨cs,KG cs λv hv=>ih v (hp v hv).2,λv hv=>(by have:=(hp v hv).1;cases v<;>first|rfl|exact this),rfl⟩
  ·rename_i cs
   simp only[Ly,Yo] at hp
   simp only[Yn]
   exact⟨cs,KG cs λv hv=>ih v (hp v hv),rfl⟩
  ·simp[Yn]
theorem QC{α:Type}(a:Nat)(f:Nat->α):Sp a f=f a:=by cases a<;>rfl
theorem QB{α:Type}(n:Int)(f:Int->α):PP n f=f n:=by
 cases n with
 |ofNat a=>show Sp a (λa=>f (.ofNat a))=_;rw[QC]
 |negSucc a=>show Sp a (λa=>f (.negSucc a))=_;rw[QC]
theorem pT(a b:Int):y8 a b=a+b:=by cases a<;>cases b<;>rfl
theorem p7(a b:Int):EV a b=a - b:=by
 cases a<;>cases b<;>try rfl
 rename_i x y
 show cond (Nat.ble y x) (Int.ofNat (x - y)) (Int.ofNat x - Int.ofNat y)=_
 cases h:Nat.ble y x with
 |false=>rfl
 |true=>have:=ZR h;show Int.ofNat (x - y)=_;simp only[YC];omega
theorem pX(a b:Int):vC a b=a*b:=by cases a<;>cases b<;>rfl
theorem ZaS(a b:Int):Zft a b=a.tdiv b:=by cases a<;>cases b<;>rfl
theorem pW(a b:Int):ZaV a b=a.tmod b:=by cases a<;>cases b<;>rfl
theorem Yy(a b:Nat):Nat.beq a b=decide (a=b):=by
 by_cases h:a=b
 ·subst h;simp
 ·rw[Zb h]
  cases e:Nat.beq a b with
  |false=>rfl
  |true=>exact absurd (ZN e) h
theorem Xh(a b:Nat):Nat.ble a b=decide (a<=b):=by
 by_cases h:a<=b
 ·rw[Ze h];exact Zk h
 ·rw[Zb h]
  cases e:Nat.ble a b with
  |false=>rfl
  |true=>exact absurd (ZR e) h
theorem Qr(a b:Int):Ge a b=(a==b):=by
 cases a<;>cases b
 ·rename_i x y;show Nat.beq x y=_;rw[Yy,Vb];simp;omega
 ·rfl
 ·rfl
 ·rename_i x y;show Nat.beq x y=_;rw[Yy,Vb];simp
theorem Mq(a b:Int):vB a b=decide (a<b):=by
 cases a<;>cases b
 ·rename_i x y;show Nat.ble (x+1) y=_;rw[Xh,Vb];simp;omega
 ·rename_i x y;show false=_;rw[Vb];simp;omega
 ·rename_i x y;show true=_;rw[Vb];simp;omega
 ·rename_i x y;show Nat.ble (y+1) x=_;rw[Xh,Vb];simp;omega
theorem ZfA(a b:IntKind):P3 a b=decide (a=b):=by cases a<;>cases b<;>rfl
theorem S3{a b:IntKind}(h:P3 a b=true):a=b:=by rw[ZfA] at h;exact Zm h
theorem G5(k:IntKind)(m:Nat)(n:Int)(hs:k.signed=false)(hm:(2^k.bits:Int)=m):yu k m n=k.wrap n:=by
 cases n with
 |negSucc a=>rfl
 |ofNat a=>
  show cond (Nat.ble m a) (Int.ofNat (a % m)) (Int.ofNat a)=_
  unfold IntKind.wrap
  simp only[hs,hm,Z7,XA,if_false]
  rw[Xh]
  by_cases h:m<=a
  ·rw[Ze h];simp
  ·rw[Zb h]
   show Int.ofNat a=_
   rw[YC,Int.emod_eq_of_lt (by omega) (by omega)]
theorem G4(k:IntKind)(h:Nat)(n:Int)(hs:k.signed=true)(hm:(2^k.bits:Int)=2*h)(hh:(2^(k.bits - 1):Int)=h)(h0:0<h):tG k h n=k.wrap n:=by
 cases n with
 |ofNat a=>
  show cond (Nat.ble h a) (k.wrap (Int.ofNat a)) (Int.ofNat a)=_
  rw[Xh]
  by_cases g:h<=a
  ·rw[Ze g];rfl
  ·rw[Zb g]
   show Int.ofNat a=_
   unfold IntKind.wrap
   simp only[hs,hm,hh,X9]
   rw[YC,Int.emod_eq_of_lt (by omega) (by omega),if_neg]
   simp;omega
 |negSucc a=>
  show cond (Nat.ble h a) (k.wrap (Int.negSucc a)) (Int.negSucc a)=_
  rw[Xh]
  by_cases g:h<=a
  ·rw[Ze g];rfl
  ·rw[Zb g]
   show Int.negSucc a=_
   unfold IntKind.wrap
   simp only[hs,hm,hh,X9]
   have e:(Int.negSucc a) % (2*(h:Int))=Int.negSucc a+2*h:=by
    have:=Int.add_mul_emod_self_left (Int.negSucc a) (2*(h:Int)) 1
    rw[<-this,Int.mul_one,Int.emod_eq_of_lt (by omega) (by omega)]
   rw[e,if_pos]
   ·omega
   ·simp;omega
theorem NQ(k:IntKind)(n:Int):Zed k n=k.wrap n:=by
 cases k
 ·exact G4 .i8 128 n rfl (by decide) (by decide) (by decide)
 ·exact G4 .i16 32768 n rfl (by decide) (by decide) (by decide)
 ·exact G4 .i32 2147483648 n rfl (by decide) (by decide) (by decide)
 ·exact G4 .i64 9223372036854775808 n rfl (by decide) (by decide) (by decide)
 ·exact G5 .u8 256 n rfl (by decide)
 ·exact G5 .u16 65536 n rfl (by decide)
 ·exact G5 .u32 4294967296 n rfl (by decide)
 ·exact G5 .u64 18446744073709551616 n rfl (by decide)
theorem CW(k:IntKind):TG k=2^k.bits:=by cases k<;>rfl
theorem jO(k:IntKind):pb k=k.bits:=by cases k<;>rfl
theorem Fb(k:IntKind)(n:Int):SP (TG k) n=(BitVec.ofInt k.bits n).toNat:=by
 rw[BitVec.toNat_ofInt,CW]
 have hp:0<2^k.bits:=Nat.two_pow_pos _
 generalize 2^k.bits=m at*
 cases n with
 |ofNat a=>
  show a % m=_
  simp only[YC]
  norm_cast
 |negSucc a=>
  show(m - 1) - a % m=_
  have h:(Int.negSucc a) % (m:Int)=((m - 1 - a % m:Nat):Int):=by
   rw[Int.negSucc_emod _ (by omega)]
   have:=WF a hp
   omega
  rw[h];simp
theorem wt(k:IntKind)(a b:Int):Nat.land (BitVec.ofInt k.bits a).toNat ((2^k.bits - 1) - (BitVec.ofInt k.bits b).toNat)=(BitVec.ofInt k.bits a&&& ~~~ (BitVec.ofInt k.bits b)).toNat:=by
 rw[BitVec.toNat_and,BitVec.toNat_not];rfl
theorem vF(P:Program)(w:World)(op:BinOp)(f:Nat->Nat->Nat->Nat)(hop:(op=.and∧f=RI)∨(op=.or∧f=eN)∨(op=.xor∧f=ah)∨(op=.andNot∧f=Ho))(k:IntKind)(a b:Int):
  (Op.intBits op k a b).run P w=.ok (.int k (k.wrap (Int.ofNat (f (TG k) (SP (TG k) a) (SP (TG k) b))))) w:=by
 rw[Fb,Fb]
 rcases hop with⟨rfl,rfl⟩|⟨rfl,rfl⟩|⟨rfl,rfl⟩|⟨rfl,rfl⟩
 ·simp[Op.intBits,RI]
 ·simp[Op.intBits,eN]
 ·simp[Op.intBits,ah]
 ·unfold Ho;rw[CW]
  have:=wt k a b
  simp only[Op.intBits]
  rw[show(Nat.land (BitVec.ofInt k.bits a).toNat (Nat.sub (Nat.sub (2^k.bits) 1) (BitVec.ofInt k.bits b).toNat))=_ from this]
  rfl
theorem ai(P:Program)(w:World)(k:IntKind)(a:Int):
  (Op.intBits .xor k (if k.signed then -1 else k.max) a).run P w=.ok (.int k (k.wrap (Int.ofNat (Nat.sub (Nat.sub (TG k) 1) (SP (TG k) a))))) w:=by
 rw[Fb,CW]
 have h:BitVec.ofInt k.bits (if k.signed then -1 else k.max)=BitVec.allOnes k.bits:=by
  cases k<;>decide
 simp only[Op.intBits,h]
 have e:(BitVec.allOnes k.bits^^^BitVec.ofInt k.bits a)= ~~~ (BitVec.ofInt k.bits a):=by rw[BitVec.allOnes_xor]
 rw[e,BitVec.toNat_not]
 rfl
theorem Za1(a:Int)(b:Nat):Zfx a b=a.fdiv (2^b):=by
 have hp:(0:Int)<((2^b:Nat):Int):=by have:=Nat.two_pow_pos b;omega
 have he:(2^b:Int)=((2^b:Nat):Int):=by simp
 rw[he,Int.fdiv_eq_ediv_of_nonneg _ (by omega)]
 cases a with
 |ofNat x=>
  show Int.ofNat (x/2^b)=_
  rfl
 |negSucc x=>
  show Int.negSucc (x/2^b)=_
  rw[Int.negSucc_ediv _ hp]
  rfl
def Y5(P:Program)(σ:Mp)(H:Heap)(w:World)(r:Result Next):OR->Prop
 |.val v H'=> ∃σ' w' x,(r=.ok (.value x) w'∨(r=.ok .skip w'∧x=undef))∧Yn σ' v x∧Tr P σ H w σ' H' w'
 |.oth .fail=>True
 |.oth (.call f args H')=>H'=H∧ ∃vs,YR σ args vs∧r=(callFunc f ⟨vs⟩).run P w
 |.oth (.yield b args H')=>H'=H∧ ∃l vs,σ b=some l∧YR σ args vs∧r=(Instr.yield l.blk ⟨vs⟩).run P w
 |.oth (.pan v H')=>H'=H∧ ∃x,Yn σ v x∧r=.halt (.panic x) w
 |.oth .recov=>r=.ok .recover w
 |.oth (.defer f args)=> ∀g a b,f=.func g a b-> ∃x y z,YR σ a x∧YR σ args y∧YR σ b z∧r=.ok (.defer {target:=.fn (.func g) ⟨z⟩,args:=⟨x++y⟩}) w
section
variable {P:Program} {σ:Mp} {H:Heap} {w:World} {r:Result Next}
theorem Yc(hs:WE P σ H w){v:AV}{x:Value}(h:r=.ok (.value x) w)(hr:Yn σ v x):Y5 P σ H w r (.val v H):=
 ⟨σ,w,x,.inl h,hr,Tr.refl hs⟩
theorem RW{v:AV}{f:IntKind->Int->OR}(h: ∀k n,v=.int k n->Y5 P σ H w r (f k n)):Y5 P σ H w r (QH v f):=by
 unfold QH;split
 ·exact h _ _ rfl
 ·trivial
theorem SF{v:AV}{f:Nat->OR}(h: ∀k n,v=.int k (.ofNat n)->Y5 P σ H w r (f n)):Y5 P σ H w r (Sf v f):=by
 unfold Sf;split
 ·exact h _ _ rfl
 ·trivial
theorem A8{v:AV}{f:Bool->OR}(h: ∀b,v=.bool b->Y5 P σ H w r (f b)):Y5 P σ H w r (FT v f):=by
 unfold FT;split
 ·exact h _ rfl
 ·trivial
theorem Oe{v:AV}{f:List UInt8->OR}(h: ∀s,v=.str s->Y5 P σ H w r (f s)):Y5 P σ H w r (Oo v f):=by
 unfold Oo;split
 ·exact h _ rfl
 ·trivial
theorem Q4{v:AV}{f:Nat->Nat->OR}(h: ∀b o,v=.ptr b o->Y5 P σ H w r (f b o)):Y5 P σ H w r (RK v f):=by
 unfold RK;split
 ·exact h _ _ rfl
 ·trivial
theorem HK{v:AV}{f:List AV->OR}(h: ∀cs,v=.agg cs->Y5 P σ H w r (f cs)):Y5 P σ H w r (EI v f):=by
 unfold EI;split
 ·exact h _ rfl
 ·trivial
theorem gI{v:AV}{f:List AV->OR}(h: ∀cs,v=.tup cs->Y5 P σ H w r (f cs)):Y5 P σ H w r (oD v f):=by
 unfold oD;split
 ·exact h _ rfl
 ·trivial
theorem Nn{v:AV}{n:OR}{f:Nat->AV->OR}(h0:v=.nili->Y5 P σ H w r n)(h: ∀t x,v=.iface t x->Y5 P σ H w r (f t x)):Y5 P σ H w r (Pj v n f):=by
 unfold Pj;split
 ·exact h _ _ rfl
 ·exact h0 rfl
 ·trivial
theorem Sq{v:AV}{n:OR}{f:Nat->Nat->Nat->Option Nat->OR}(h0:v=.nils->Y5 P σ H w r n)(h: ∀b o l c,v=.slice b o l c->Y5 P σ H w r (f b o l c)):Y5 P σ H w r (TI v n f):=by
 unfold TI;split
 ·exact h _ _ _ _ rfl
 ·exact h0 rfl
 ·trivial
theorem HM{v:AV}{z n:OR}(h0:v=.slice0->Y5 P σ H w r z)(h:Y5 P σ H w r n):Y5 P σ H w r (onZ v z n):=by
 unfold onZ;split
 ·exact h0 rfl
 ·exact h
theorem HL{v:AV}{n:OR}{f:Nat->OR}(h0:v=.nilm->Y5 P σ H w r n)(h: ∀b,v=.map b->Y5 P σ H w r (f b)):Y5 P σ H w r (Bj v n f):=by
 unfold Bj;split
 ·exact h _ rfl
 ·exact h0 rfl
 ·trivial
theorem No{b:Nat}{f:Obj->OR}(h: ∀o,H.t.get b=some o->Y5 P σ H w r (f o)):Y5 P σ H w r (J3 H b f):=by
 unfold J3;split
 ·rename_i o ho;exact h _ ho
 ·trivial
theorem TC{b:Nat}{f:Row->OR}(h: ∀o,H.t.get b=some (.row o)->Y5 P σ H w r (f o)):Y5 P σ H w r (Xg H b f):=by
 unfold Xg;split
 ·rename_i o ho;exact h _ ho
 ·trivial
theorem QD{α:Type}{x:Option α}{f:α->OR}(h: ∀a,x=some a->Y5 P σ H w r (f a)):Y5 P σ H w r (U3 x f):=by
 unfold U3;split
 ·exact h _ rfl
 ·trivial
theorem Yj{b:Bool}{f:OR}(h:b=true->Y5 P σ H w r f):Y5 P σ H w r (ZP b f):=by
 cases b with
 |false=>exact trivial
 |true=>exact h rfl
theorem Uo{b:Bool}{f g:OR}(h1:b=true->Y5 P σ H w r f)(h2:b=false->Y5 P σ H w r g):Y5 P σ H w r (cond b f g):=by
 cases b with
 |false=>exact h2 rfl
 |true=>exact h1 rfl
theorem N7{a:Nat}{f:Nat->OR}(h:Y5 P σ H w r (f a)):Y5 P σ H w r (Sp a f):=by rw[QC];exact h
theorem Kg{a:Int}{f:Int->OR}(h:Y5 P σ H w r (f a)):Y5 P σ H w r (PP a f):=by rw[QB];exact h
theorem Rt(hs:WE P σ H w){k:IntKind}{n:Int}(h:r=.ok (.value (.int k (k.wrap n))) w):Y5 P σ H w r (TK k n H):=by
 unfold TK
 refine Kg ?_
 rw[NQ]
 exact Yc hs h (by simp[Yn])
theorem IG(hs:WE P σ H w){b:Bool}(h:r=.ok (.value (.bool b)) w):Y5 P σ H w r (SU b H):=by
 unfold SU
 cases b
 ·exact Yc hs h (by simp[Yn])
 ·exact Yc hs h (by simp[Yn])
theorem mu{x y:AV}{f:IntKind->Int->Int->OR}(h: ∀k a b,x=.int k a->y=.int k b->Y5 P σ H w r (f k a b)):Y5 P σ H w r (Fz x y f):=by
 unfold Fz
 refine RW λj a hx=>RW λl b hy=>Yj λhk=>?_
 have:=S3 hk;subst this
 exact h j a b hx hy
def Rn(P:Program)(σ:Mp)(tm:TM)(ρ:Operand->Value):Prop:= ∀x,Yn σ (YV P x tm) (ρ x)
theorem PL(σ:Mp)(v:Value):Yn σ (W1 v) v:=by
 unfold W1
 cases h:Ly 20 v with
 |false=>simp[Yn]
 |true=>exact r6 σ 20 v h
theorem KC(hs:WE P σ H w){N:Nat}{tm:TM}{a:Act}(ht:QU σ N tm a.tmps):Rn P σ tm a.eval:=by
 intro x
 cases x with
 |tmp t=>
  show Yn σ ((cond (Nat.ble t 511) (SC t) (k .unk)) tm) _
  rw[Xh]
  by_cases h:t<=511
  ·rw[Ze h];exact ht.get t (Qj h)
  ·rw[Zb h];simp[k,Yn]
 |const v=>exact PL σ v
 |global g=>
  show Yn σ ((cond (Nat.ble (Nat.succ g) P.globals.size) (k (.ptr g 0)) (k .unk)) tm) _
  rw[Xh]
  by_cases h:Nat.succ g<=P.globals.size
  ·rw[Ze h]
   obtain⟨l,hl,hb,h0⟩:=hs.glob g h
   show Yn σ (.ptr g 0) (.pointer (some ⟨g,0,none⟩))
   simp only[Yn]
   exact⟨l,hl,by rw[hb,h0]⟩
  ·rw[Zb h];simp[k,Yn]
 |func f=>simp only[Act.eval,YV,k,Yn];exact⟨[],[],V2,V2,rfl⟩
theorem X2{k:IntKind}{n:Int}{v:Value}(h:Yn σ (.int k n) v):v=.int k n:=by simpa [Yn] using h
theorem TJ{b:Bool}{v:Value}(h:Yn σ (.bool b) v):v=.bool b:=by simpa [Yn] using h
theorem V3{s:List UInt8}{v:Value}(h:Yn σ (.str s) v):v=.string ⟨s.toArray⟩:=by simpa [Yn] using h
theorem Vc{s:Sem Value}{x:Value}{w':World}(h:s.run P w=.ok x w'):((do pure (Next.value (<-s)):Sem Next)).run P w=.ok (.value x) w':=by
 simp[h]
end
section
variable {P:Program} {σ:Mp} {H:Heap} {w:World} {tm:TM} {ρ:Operand->Value}
def XC(P:Program)(σ:Mp)(H:Heap)(w:World)(tm:TM)(ρ:Operand->Value)(o:Oper):Prop:=
 Y5 P σ H w ((execOp ρ o).run P w) (VE P o.op tm H)
theorem ZbQ(hs:WE P σ H w)(hρ:Rn P σ tm ρ){o:Oper}{x:Operand}(ho:o.op=.move x):XC P σ H w tm ρ o:=by
 unfold XC;rw[ho]
 exact Yc hs (by simp[execOp,ho]) (hρ x)
theorem kl(hs:WE P σ H w)(hρ:Rn P σ tm ρ){o:Oper}{x:Operand}(ho:o.op=.assign x):XC P σ H w tm ρ o:=by
 unfold XC;rw[ho]
 exact Yc hs (by simp[execOp,ho]) (hρ x)
theorem ZbS(hs:WE P σ H w)(hρ:Rn P σ tm ρ){o:Oper}{c a b:Operand}(ho:o.op=.pick c a b):XC P σ H w tm ρ o:=by
 unfold XC;rw[ho]
 refine A8 λt ht=>?_
 have hc:=hρ c;rw[ht] at hc
 have hc:=TJ hc
 cases t
 ·exact Yc hs (x:=ρ b) (by simp[execOp,ho,asBool,hc]) (hρ b)
 ·exact Yc hs (x:=ρ a) (by simp[execOp,ho,asBool,hc]) (hρ a)
theorem Zf8(hs:WE P σ H w)(hρ:Rn P σ tm ρ){o:Oper}{x:Operand}(ho:o.op=.nilCheck x):XC P σ H w tm ρ o:=by
 unfold XC;rw[ho]
 show Y5 P σ H w _ (xw (YV P x tm) (.val (YV P x tm) H))
 have hx:=hρ x
 unfold xw
 split
 ·rename_i b o' e
  rw[e] at hx
  have h0:=hx
  simp only[Yn] at hx
  obtain⟨l,hl,hv⟩:=hx
  rw[e]
  exact Yc hs (x:=ρ x) (by simp[execOp,ho,hv]) h0
 ·rename_i f a b e
  rw[e] at hx
  have h0:=hx
  simp only[Yn] at hx
  obtain⟨p,q,_,_,hv⟩:=hx
  rw[e]
  exact Yc hs (x:=ρ x) (by simp[execOp,ho,hv]) h0
 ·rename_i t v e
  rw[e] at hx
  have h0:=hx
  simp only[Yn] at hx
  obtain⟨p,_,hv⟩:=hx
  rw[e]
  exact Yc hs (x:=ρ x) (by simp[execOp,ho,hv]) h0
 ·rename_i b e
  rw[e] at hx
  have h0:=hx
  simp only[Yn] at hx
  obtain⟨p,_,hv⟩:=hx
  rw[e]
  exact Yc hs (x:=ρ x) (by simp[execOp,ho,hv]) h0
 ·trivial
theorem LC{o:Oper}{op:BinOp}{t:TypeId}{x y:Operand}{u:TypeId}(ho:o.op=.binOp op t x y u)(hg:(op matches .eql|.neq)=false){v:Value}(h:(binOp op t (ρ x) (ρ y)).run P w=.ok v w):
  (execOp ρ o).run P w=.ok (.value v) w:=by
 simp only[execOp,ho]
 refine Vc ?_
 have:(eqGuard op t x y (ρ x) (ρ y)).run P w=.ok () w:=by
  cases op<;>first|rfl|cases hg
 simp[this,h]
theorem Jp(s:List UInt8):(ByteArray.mk s.toArray).toList=s:=by
 exact ByteArray.toList_eq _
theorem Mh(s:List UInt8):(ByteArray.mk s.toArray).size=s.length:=by simp[ByteArray.size]
theorem AB(a b:UInt8):Fe a b=(a==b):=by
 unfold Fe
 rw[Yy,Vb]
 simp[UN]
theorem SL: ∀a b:List UInt8,NK a b=(a==b)
 |[],[]=>rfl
 |[],_::_=>rfl
 |_::_,[]=>rfl
 |a::x,b::y=>by
  show cond (Fe a b) (NK x y) false=_
  rw[AB,SL x y]
  rw[show((a::x)==(b::y))=(a==b&&x==y) from rfl]
  cases(a==b)<;>rfl
theorem KW: ∀a b:List UInt8,YH a b=Op.bytesLess a b
 |[],[]=>rfl
 |[],_::_=>rfl
 |_::_,[]=>rfl
 |a::x,b::y=>by
  show cond (Nat.ble (Nat.succ a.toNat) b.toNat) true (cond (Fe a b) (YH x y) false)=_
  rw[AB,KW x y,Xh]
  simp only[Op.bytesLess]
  have:decide (a.toNat.succ<=b.toNat)=decide (a<b):=by
   rw[decide_eq_decide,V5];omega
  rw[this]
  cases decide (a<b)<;>cases(a==b)<;>simp
theorem Gs(hs:WE P σ H w)(hρ:Rn P σ tm ρ){o:Oper}{op:BinOp}{t:TypeId}{x y:Operand}{u:TypeId}(ho:o.op=.binOp op t x y u)(hg:(op matches .eql|.neq)=false)
  {f:IntKind->Int->Int->OR}(h: ∀k a b,ρ x=.int k a->ρ y=.int k b->(∀v,(binOp op t (.int k a) (.int k b)).run P w=.ok v w->(execOp ρ o).run P w=.ok (.value v) w)->Y5 P σ H w ((execOp ρ o).run P w) (f k a b)):
  Y5 P σ H w ((execOp ρ o).run P w) (Fz (YV P x tm) (YV P y tm) f):=by
 refine mu λk a b hx hy=>?_
 have h1:=hρ x;rw[hx] at h1
 have h2:=hρ y;rw[hy] at h2
 have h1:=X2 h1
 have h2:=X2 h2
 exact h k a b h1 h2 λv hv=>LC ho hg (by rw[h1,h2];exact hv)
theorem Zgd(hs:WE P σ H w)(hρ:Rn P σ tm ρ){o:Oper}{t:TypeId}{x y:Operand}{u:TypeId}(ho:o.op=.binOp .sub t x y u):XC P σ H w tm ρ o:=by
 unfold XC;rw[ho]
 refine Gs hs hρ ho rfl λk a b _ _ hr=>?_
 rw[p7]
 exact Rt hs (hr _ (by simp[binOp,Op.intArith]))
theorem Zf6(hs:WE P σ H w)(hρ:Rn P σ tm ρ){o:Oper}{t:TypeId}{x y:Operand}{u:TypeId}(ho:o.op=.binOp .mul t x y u):XC P σ H w tm ρ o:=by
 unfold XC;rw[ho]
 refine Gs hs hρ ho rfl λk a b _ _ hr=>?_
 rw[pX]
 exact Rt hs (hr _ (by simp[binOp,Op.intArith]))
theorem Zf9(hs:WE P σ H w)(hρ:Rn P σ tm ρ){o:Oper}{t:TypeId}{x y:Operand}{u:TypeId}(ho:o.op=.binOp .quo t x y u):XC P σ H w tm ρ o:=by
 unfold XC;rw[ho]
 refine Gs hs hρ ho rfl λk a b _ _ hr=>?_
 refine Uo (λ_=>trivial) λh0=>?_
 rw[Qr] at h0
 have h0: ¬b=0:=by simpa using h0
 rw[ZaS]
 exact Rt hs (hr _ (by simp[binOp,Op.intDiv,h0]))
theorem Zga(hs:WE P σ H w)(hρ:Rn P σ tm ρ){o:Oper}{t:TypeId}{x y:Operand}{u:TypeId}(ho:o.op=.binOp .rem t x y u):XC P σ H w tm ρ o:=by
 unfold XC;rw[ho]
 refine Gs hs hρ ho rfl λk a b _ _ hr=>?_
 refine Uo (λ_=>trivial) λh0=>Kg ?_
 rw[Qr] at h0
 have h0: ¬b=0:=by simpa using h0
 rw[pW]
 exact Yc hs (x:=.int k (a.tmod b)) (hr _ (by simp[binOp,Op.intDiv,h0])) (by simp[Yn])
theorem Dm(hs:WE P σ H w)(hρ:Rn P σ tm ρ){o:Oper}{op:BinOp}{f:Nat->Nat->Nat->Nat}{t:TypeId}{x y:Operand}{u:TypeId}(ho:o.op=.binOp op t x y u)
  (hop:(op=.and∧f=RI)∨(op=.or∧f=eN)∨(op=.xor∧f=ah)∨(op=.andNot∧f=Ho)):
  Y5 P σ H w ((execOp ρ o).run P w) (Nz (YV P x) (YV P y) f tm H):=by
 refine Gs hs hρ ho (by rcases hop with⟨rfl,_⟩|⟨rfl,_⟩|⟨rfl,_⟩|⟨rfl,_⟩<;>rfl) λk a b _ _ hr=>?_
 refine Rt hs (hr _ ?_)
 rw[<-vF P w op f hop k a b]
 rcases hop with⟨rfl,_⟩|⟨rfl,_⟩|⟨rfl,_⟩|⟨rfl,_⟩<;>simp[binOp]
theorem Zgb(hs:WE P σ H w)(hρ:Rn P σ tm ρ){o:Oper}{t:TypeId}{x y:Operand}{u:TypeId}(ho:o.op=.binOp .shl t x y u):XC P σ H w tm ρ o:=by
 unfold XC;rw[ho]
 refine RW λk a hx=>SF λj b hy=>?_
 have h1:=hρ x;rw[hx] at h1
 have h2:=hρ y;rw[hy] at h2
 have h1:=X2 h1
 have h2:=X2 h2
 rw[pX]
 have e:k.wrap (a*Int.ofNat (Nat.pow 2 (cond (Nat.ble b 64) b 64)))=k.wrap (a*2^(min b k.bits)):=by
  have hk:k.bits<=64:=by cases k<;>decide
  have key: ∀c:Nat,k.bits<=c->k.wrap (a*((2^c:Nat):Int))=k.wrap (a*((2^k.bits:Nat):Int)):=by
   intro c hc
   unfold IntKind.wrap
   have:(a*((2^c:Nat):Int)) % (2^k.bits:Int)=0:=by
    apply Int.emod_eq_zero_of_dvd
    refine Int.dvd_trans ?_ (Int.dvd_mul_left _ _)
    obtain⟨d,rfl⟩: ∃d,c=k.bits+d:=⟨c - k.bits,by omega⟩
    exact⟨2^d,by rw[QA];simp⟩
   have h2:(a*((2^k.bits:Nat):Int)) % (2^k.bits:Int)=0:=by
    apply Int.emod_eq_zero_of_dvd
    exact⟨a,by rw[Int.mul_comm];simp⟩
   rw[this,h2]
  rw[Xh]
  by_cases hb:b<=64
  ·rw[Ze hb]
   show k.wrap (a*((2^b:Nat):Int))=_
   by_cases hb2:b<=k.bits
   ·rw[Wl hb2];simp
   ·rw[Tv (by omega),key b (by omega)];simp
  ·rw[Zb hb]
   show k.wrap (a*((2^64:Nat):Int))=_
   rw[Tv (by omega),key 64 hk];simp
 refine Rt hs (LC ho rfl ?_)
 rw[h1,h2,e]
 have hn: ¬(Int.ofNat b<0):=by rw[YC];omega
 simp only[binOp,Op.shift]
 rw[if_neg hn]
 simp
theorem Zgc(hs:WE P σ H w)(hρ:Rn P σ tm ρ){o:Oper}{t:TypeId}{x y:Operand}{u:TypeId}(ho:o.op=.binOp .shr t x y u):XC P σ H w tm ρ o:=by
 unfold XC;rw[ho]
 refine RW λk a hx=>SF λj b hy=>Kg ?_
 have h1:=hρ x;rw[hx] at h1
 have h2:=hρ y;rw[hy] at h2
 have h1:=X2 h1
 have h2:=X2 h2
 have e:Lq b (pb k)=min b k.bits:=by
  unfold Lq
  rw[Xh,jO]
  by_cases hb:b<=k.bits
  ·rw[Ze hb,Wl hb];rfl
  ·rw[Zb hb,Tv (by omega)];rfl
 rw[Za1,e]
 refine Yc hs (x:=.int k (a.fdiv (2^(min b k.bits)))) (LC ho rfl ?_) (by simp[Yn])
 rw[h1,h2]
 have hn: ¬(Int.ofNat b<0):=by rw[YC];omega
 simp only[binOp,Op.shift]
 rw[if_neg hn]
 simp
theorem ZfX(hs:WE P σ H w)(hρ:Rn P σ tm ρ){o:Oper}{t:TypeId}{x y:Operand}{u:TypeId}(ho:o.op=.binOp .add t x y u):XC P σ H w tm ρ o:=by
 unfold XC;rw[ho]
 show Y5 P σ H w _ (Yg (YV P x) (YV P y) tm H)
 have h1:=hρ x
 have h2:=hρ y
 unfold Yg
 split
 ·rename_i j a e
  rw[e] at h1
  have h1:=X2 h1
  refine RW λl b hy=>Yj λhk=>?_
  have:=S3 hk;subst this
  rw[hy] at h2
  have h2:=X2 h2
  rw[pT]
  exact Rt hs (LC ho rfl (by rw[h1,h2];simp[binOp,Op.intArith]))
 ·rename_i a e
  rw[e] at h1
  have h1:=V3 h1
  refine Oe λb hy=>Yj λhk=>?_
  rw[hy] at h2
  have h2:=V3 h2
  rw[Xh,YF,YF] at hk
  have hk:a.length+b.length<=4611686018427387904:=Zm hk
  refine Yc hs (x:=.string ⟨(a++b).toArray⟩) (LC ho rfl ?_) (by simp[Yn])
  rw[h1,h2]
  have hm: ¬(((a.length+b.length:Nat):Int)>IntKind.i64.max):=by
   have:IntKind.i64.max=9223372036854775807:=by decide
   rw[this];omega
  simp only[binOp,Op.stringOp,Mh]
  rw[if_neg hm]
  simp only[Sem.run_pure]
  congr 2
 ·trivial
theorem xG(hs:WE P σ H w)(hρ:Rn P σ tm ρ){o:Oper}{op:BinOp}{t:TypeId}{x y:Operand}{u:TypeId}(ho:o.op=.binOp op t x y u)(hg:(op matches .eql|.neq)=false)
  {f:Int->Int->Bool}{g:List UInt8->List UInt8->Bool}
  (hf: ∀k a b,(binOp op t (.int k a) (.int k b)).run P w=.ok (.bool (f a b)) w)
  (hh: ∀a b:List UInt8,(binOp op t (.string ⟨a.toArray⟩) (.string ⟨b.toArray⟩)).run P w=.ok (.bool (g a b)) w):
  Y5 P σ H w ((execOp ρ o).run P w) (Yu (YV P x) (YV P y) f g tm H):=by
 have h1:=hρ x
 have h2:=hρ y
 unfold Yu
 split
 ·rename_i j a e
  rw[e] at h1
  have h1:=X2 h1
  refine RW λl b hy=>Yj λhk=>?_
  have:=S3 hk;subst this
  rw[hy] at h2
  have h2:=X2 h2
  exact IG hs (LC ho hg (by rw[h1,h2];exact hf _ _ _))
 ·rename_i a e
  rw[e] at h1
  have h1:=V3 h1
  refine Oe λb hy=>?_
  rw[hy] at h2
  have h2:=V3 h2
  exact IG hs (LC ho hg (by rw[h1,h2];exact hh _ _))
 ·trivial
theorem OC: ∀a b:List UInt8,(Op.bytesLess a b||a==b)=!Op.bytesLess b a
 |[],[]=>rfl
 |[],_::_=>rfl
 |_::_,[]=>rfl
 |a::x,b::y=>by
  have ih:=OC x y
  simp only[Op.bytesLess]
  have e1:((a::x)==(b::y))=(a==b&&x==y):=rfl
  rw[e1]
  rcases Nat.lt_trichotomy a.toNat b.toNat with h|h|h
  ·have h1:decide (a<b)=true:=Ze (V5.2 h)
   have h2:decide (b<a)=false:=Zb (λz=>by have:=V5.1 z;omega)
   have h3:(b==a)=false:=by rw[beq_eq_false_iff_ne];intro z;subst z;omega
   rw[h1,h2,h3];rfl
  ·have hab:a=b:=UN.1 h
   subst hab
   have h1:decide (a<a)=false:=Zb (λz=>by have:=V5.1 z;omega)
   rw[h1]
   simpa using ih
  ·have h1:decide (a<b)=false:=Zb (λz=>by have:=V5.1 z;omega)
   have h2:decide (b<a)=true:=Ze (V5.2 h)
   have h3:(a==b)=false:=by rw[beq_eq_false_iff_ne];intro z;subst z;omega
   rw[h1,h2,h3];rfl
theorem Zf5(hs:WE P σ H w)(hρ:Rn P σ tm ρ){o:Oper}{t:TypeId}{x y:Operand}{u:TypeId}(ho:o.op=.binOp .lss t x y u):XC P σ H w tm ρ o:=by
 unfold XC;rw[ho]
 refine xG hs hρ ho rfl (λk a b=>?_) λa b=>?_
 ·simp[binOp,Op.intCmp,XE,Mq]
 ·simp[binOp,Op.stringOp,KW]
theorem Zf2(hs:WE P σ H w)(hρ:Rn P σ tm ρ){o:Oper}{t:TypeId}{x y:Operand}{u:TypeId}(ho:o.op=.binOp .gtr t x y u):XC P σ H w tm ρ o:=by
 unfold XC;rw[ho]
 refine xG hs hρ ho rfl (λk a b=>?_) λa b=>?_
 ·simp[binOp,Op.intCmp,UG,Mq]
 ·have:=OC a b
  simp[binOp,Op.stringOp,WJ,KW,this]
theorem Zf4(hs:WE P σ H w)(hρ:Rn P σ tm ρ){o:Oper}{t:TypeId}{x y:Operand}{u:TypeId}(ho:o.op=.binOp .leq t x y u):XC P σ H w tm ρ o:=by
 unfold XC;rw[ho]
 refine xG hs hρ ho rfl (λk a b=>?_) λa b=>?_
 ·have:decide (a<=b)=!decide (b<a):=by rw[Vb];simp
  simp[binOp,Op.intCmp,S2,Mq,this]
 ·have:=OC a b
  simp[binOp,Op.stringOp,UE,KW,this]
theorem Zf1(hs:WE P σ H w)(hρ:Rn P σ tm ρ){o:Oper}{t:TypeId}{x y:Operand}{u:TypeId}(ho:o.op=.binOp .geq t x y u):XC P σ H w tm ρ o:=by
 unfold XC;rw[ho]
 refine xG hs hρ ho rfl (λk a b=>?_) λa b=>?_
 ·have:decide (b<=a)=!decide (a<b):=by rw[Vb];simp
  simp[binOp,Op.intCmp,Sc,Mq,this]
 ·simp[binOp,Op.stringOp,W5,KW]
theorem ZiH(hs:WE P σ H w)(hρ:Rn P σ tm ρ){o:Oper}{op:UnOp}{t:TypeId}{x:Operand}(ho:o.op=.unOp op t x):XC P σ H w tm ρ o:=by
 unfold XC;rw[ho]
 have h1:=hρ x
 cases op with
 |neg=>
  refine RW λk a hx=>?_
  rw[hx] at h1
  have h1:=X2 h1
  rw[p7]
  exact Rt hs (by simp only[execOp,ho,h1];exact Vc (by simp[Op.unary,Op.intArith]))
 |not=>
  refine A8 λb hx=>?_
  rw[hx] at h1
  have h1:=TJ h1
  refine Yc hs (x:=.bool (!b)) (by simp only[execOp,ho,h1];exact Vc (by simp[Op.unary])) (by cases b<;>simp[Yn])
 |xor=>
  refine RW λk a hx=>?_
  rw[hx] at h1
  have h1:=X2 h1
  refine Rt hs ?_
  simp only[execOp,ho,h1]
  refine Vc ?_
  simp only[Op.unary]
  exact ai P w k a
 |plus=>trivial
theorem ZbP(hs:WE P σ H w)(hρ:Rn P σ tm ρ){o:Oper}{t:TypeId}{x:Operand}(ho:o.op=.makeInterface t x){d:TypeDesc}(ht:P.underlying t=some d)(hd:(d matches .interface _)=false):
  Y5 P σ H w ((execOp ρ o).run P w) (OK (YV P x) t tm H):=by
 refine Yc hs (x:=.iface t (ρ x)) ?_ (by simp only[Yn];exact⟨_,hρ x,rfl⟩)
 simp only[execOp,ho]
 refine Vc ?_
 simp only[Instr.makeInterface,Sem.run_bind,run_underlying ht,Result.andThen_ok]
 cases d<;>first|rfl|cases hd
theorem KF(hρ:Rn P σ tm ρ): ∀l:List Operand,YR σ (evs tm (l.map (YV P))) (l.map ρ)
 |[]=>V2
 |x::l=>Ww (hρ x) (KF hρ l)
theorem ko(hs:WE P σ H w)(hρ:Rn P σ tm ρ){o:Oper}{fn:Fn}{a b:Array Operand}(ho:o.op=.makeFunc fn a b):XC P σ H w tm ρ o:=by
 unfold XC;rw[ho]
 have hr:(execOp ρ o).run P w=.ok (.value (.func fn (a.map ρ) (b.map ρ))) w:=by
  simp only[execOp,ho]
  exact Vc (by simp[Instr.makeFunc])
 show Y5 P σ H w _ ((match fn with
  |.func f=>v9 f (args P a) (args P b)
  |.method n=>ZdJ P n a.toList b.toList
  |_=>VZ) tm H)
 split
 ·rename_i f
  refine Yc hs hr ?_
  simp only[Yn]
  refine⟨a.toList.map ρ,b.toList.map ρ,KF hρ _,KF hρ _,?_⟩
  congr 1<;>(apply Array.ext';simp)
 ·rename_i n
  obtain⟨a⟩:=a
  obtain⟨b⟩:=b
  match a,b with
  |[x],[]=>
   refine Yc hs hr ?_
   simp only[Yn]
   exact⟨ρ x,hρ x,by simp⟩
  |[],_=>trivial
  |[_],_::_=>trivial
  |_::_::_,_=>trivial
 ·trivial
theorem qa(hs:WE P σ H w)(hρ:Rn P σ tm ρ){o:Oper}{x:Operand}{i:Nat}(ho:o.op=.extract x i):XC P σ H w tm ρ o:=by
 unfold XC;rw[ho]
 refine gI λvs hx=>QD λv hv=>?_
 have h1:=hρ x
 rw[hx] at h1
 simp only[Yn] at h1
 obtain⟨us,hu,e⟩:=h1
 rw[Je] at hv
 obtain⟨u,hu1,hu2⟩:=hu.get hv
 refine Yc hs (x:=u) ?_ hu2
 simp only[execOp,ho]
 refine Vc ?_
 rw[e]
 simp[Instr.extract,hu1]
theorem T6{r:Result Next}:Y5 P σ H w r (VZ tm H):=trivial
theorem WT{b:Bool}{f g:Vv}{r:Result Next}(h1:b=true->Y5 P σ H w r (f tm H))(h2:b=false->Y5 P σ H w r (g tm H)):Y5 P σ H w r ((cond b f g) tm H):=by
 cases b with
 |false=>exact h2 rfl
 |true=>exact h1 rfl
theorem XT{t:Nat}{f:TypeInfo->Vv}{r:Result Next}(h: ∀i,P.info? t=some i->Y5 P σ H w r (f i tm H)):Y5 P σ H w r (U1 P t f tm H):=by
 unfold U1
 cases e:P.info? t with
 |none=>exact trivial
 |some i=>exact h i e
theorem Xq{t:Nat}{f:TypeDesc->Vv}{r:Result Next}(h: ∀d,P.underlying t=some d->Y5 P σ H w r (f d tm H)):Y5 P σ H w r (V1 P t f tm H):=by
 unfold V1
 cases e:P.underlying t with
 |none=>exact trivial
 |some i=>exact h i e
theorem Ut{α:Type}{x:Option α}{f:α->Vv}{r:Result Next}(h: ∀a,x=some a->Y5 P σ H w r (f a tm H)):Y5 P σ H w r (Pk x f tm H):=by
 cases x with
 |none=>exact trivial
 |some i=>exact h i rfl
theorem HN{f:Array Field->Vv}{d:TypeDesc}{r:Result Next}(h: ∀fs,d=.struct fs->Y5 P σ H w r (f fs tm H)):Y5 P σ H w r (x8 f d tm H):=by
 cases d<;>first|exact trivial|exact h _ rfl
theorem N9{f:Nat->Vv}{d:TypeDesc}{r:Result Next}(h: ∀e,d=.slice e->Y5 P σ H w r (f e tm H)):Y5 P σ H w r (BU f d tm H):=by
 cases d<;>first|exact trivial|exact h _ rfl
theorem mw{f:Nat->Vv}{d:TypeDesc}{r:Result Next}(h: ∀e,d=.pointer e->Y5 P σ H w r (f e tm H)):Y5 P σ H w r (Zjq f d tm H):=by
 cases d<;>first|exact trivial|exact h _ rfl
theorem Cr{f:Vv}{d:TypeDesc}{r:Result Next}(h:d=.int .u8->Y5 P σ H w r (f tm H)):Y5 P σ H w r (tU8 f d tm H):=by
 cases d with
 |int k=>cases k<;>first|exact trivial|exact h rfl
 |_=>exact trivial
theorem PW{t:Nat}{d:TypeDesc}(h:P.underlying t=some d):(isAgg t).run P w=.ok (Mr P t) w:=by
 unfold isAgg Mr
 rw[h]
 simp only[Sem.run_bind,run_underlying h,Result.andThen_ok]
 cases d<;>rfl
theorem WD{t:Nat}{i:TypeInfo}(h:P.info? t=some i):(sizeOf t).run P w=.ok i.size w:=by
 rw[run_sizeOf w h,Program.cellsOf,h];rfl
theorem Uu{b o:Nat}{v:Value}(h:Yn σ (.ptr b o) v): ∃l,σ b=some l∧v=.pointer (some ⟨l.blk,l.base+o,none⟩):=by simpa only[Yn] using h
theorem MW{b o:Nat}{l:Loc}(h:σ b=some l):Yn σ (.ptr b o) (.pointer (some ⟨l.blk,l.base+o,none⟩)):=by simp only[Yn];exact⟨l,h,rfl⟩
theorem RT(b o n:Nat):Addr.add ⟨b,o,none⟩ n=⟨b,o+n,none⟩:=by
 unfold Addr.add
 by_cases h:n=0
 ·rw[if_pos h,h];rfl
 ·rw[if_neg h]
theorem xH(hs:WE P σ H w)(hρ:Rn P σ tm ρ){o:Oper}{t:TypeId}{x:Operand}{f:Nat}(ho:o.op=.fieldAddr t x f):XC P σ H w tm ρ o:=by
 unfold XC;rw[ho]
 refine Xq λd hu=>HN λfs hd=>Ut λg hg=>XT λi hi=>WT (λh1=>?_) λ_=>T6
 subst hd
 refine Q4 λb off hx=>?_
 have h1':=hρ x
 rw[hx] at h1'
 obtain⟨l,hl,e⟩:=Uu h1'
 rw[Xh] at h1
 have h1:1<=i.size:=Zm h1
 refine Yc hs ?_ (MW hl)
 simp only[execOp,ho]
 refine Vc ?_
 rw[e]
 simp only[Instr.fieldAt,Sem.run_bind,run_underlying hu,Result.andThen_ok,hg,Instr.sureAddr,Sem.run_pure,fieldPlace,WD hi]
 rw[if_neg (by omega)]
 simp only[Sem.run_pure,Result.andThen_ok,RT,XR]
 rfl
theorem dR(hs:WE P σ H w)(hρ:Rn P σ tm ρ){o:Oper}{t:TypeId}{x:Operand}{f:Nat}(ho:o.op=.field t x f):XC P σ H w tm ρ o:=by
 unfold XC;rw[ho]
 refine Xq λd hu=>HN λfs hd=>Ut λg hg=>XT λi hi=>Xq λd2 hu2=>?_
 subst hd
 have hag:=PW (w:=w) hu2
 refine WT (λh1=>?_) λh1=>?_
 ·refine HK λcs hx=>?_
  have h1':=hρ x
  rw[hx] at h1'
  simp only[Yn] at h1'
  obtain⟨vs,hvs,hone,e⟩:=h1'
  rw[h1] at hag
  refine Yc hs (x:=.agg ⟨(vs.drop g.offset).take i.size⟩) ?_ ?_
  ·simp only[execOp,ho]
   refine Vc ?_
   rw[e]
   simp only[Instr.field,Sem.run_bind,run_underlying hu,Result.andThen_ok,hg,asAgg,Sem.run_pure,part,hag,if_true,WD hi]
   congr 2
   apply Array.ext'
   simp[W4]
  ·rw[M7,MC]
   simp only[Yn]
   exact⟨_,(hvs.drop _).take _,λy hy=>hone y (VC (X5 hy)),rfl⟩
 ·refine HK λcs hx=>QD λv hv=>?_
  have h1':=hρ x
  rw[hx] at h1'
  simp only[Yn] at h1'
  obtain⟨vs,hvs,hone,e⟩:=h1'
  rw[h1] at hag
  rw[Je] at hv
  obtain⟨u,hu1,hu2⟩:=hvs.get hv
  refine Yc hs (x:=u) ?_ hu2
  simp only[execOp,ho]
  refine Vc ?_
  rw[e]
  simp only[Instr.field,Sem.run_bind,run_underlying hu,Result.andThen_ok,hg,asAgg,Sem.run_pure,part,hag]
  simp[hu1]
theorem xI(hs:WE P σ H w)(hρ:Rn P σ tm ρ){o:Oper}{t:TypeId}{x i:Operand}(ho:o.op=.indexAddr t x i):XC P σ H w tm ρ o:=by
 unfold XC;rw[ho]
 refine Xq λd hu=>?_
 cases d<;>try exact trivial
 case slice el=>
  refine XT λj hj=>SF λk n hn=>Sq (λ_=>trivial) λb off len cap hx=>Yj λhlt=>?_
  have h1:=hρ x
  have h2:=hρ i
  rw[hx] at h1;rw[hn] at h2
  simp only[Yn] at h1
  obtain⟨l,hl,e⟩:=h1
  have h2:=X2 h2
  rw[Xh] at hlt
  have hlt:n+1<=len:=Zm hlt
  refine Yc hs ?_ (MW hl)
  simp only[execOp,ho]
  refine Vc ?_
  rw[e,h2]
  simp only[Instr.indexAt,Sem.run_bind,asIntOf,Sem.run_pure,Result.andThen_ok,run_underlying hu]
  rw[if_pos (by constructor<;>simp only[YC]<;>omega)]
  simp only[Sem.run_bind,WD hj,Result.andThen_ok,Sem.run_pure,RT,XR,YC,XX]
  rfl
 case array m el=>
  refine XT λj hj=>SF λk n hn=>Q4 λb off hx=>Yj λhlt=>?_
  have h1:=hρ x
  have h2:=hρ i
  rw[hx] at h1;rw[hn] at h2
  obtain⟨l,hl,e⟩:=Uu h1
  have h2:=X2 h2
  rw[Xh] at hlt
  have hlt:n+1<=m:=Zm hlt
  refine Yc hs ?_ (MW hl)
  simp only[execOp,ho]
  refine Vc ?_
  rw[e,h2]
  simp only[Instr.indexAt,Sem.run_bind,asIntOf,Sem.run_pure,Result.andThen_ok,run_underlying hu,Instr.sureAddr]
  rw[if_pos (by constructor<;>simp only[YC]<;>omega)]
  simp only[Sem.run_bind,WD hj,Result.andThen_ok,Sem.run_pure,RT,XR,YC,XX]
  rfl
theorem dS(hs:WE P σ H w)(hρ:Rn P σ tm ρ){o:Oper}{t:TypeId}{x i:Operand}(ho:o.op=.index t x i):XC P σ H w tm ρ o:=by
 unfold XC;rw[ho]
 refine Xq λd hu=>?_
 cases d<;>try exact trivial
 case string=>
  refine SF λk n hn=>Oe λs hx=>QD λb hb=>N7 ?_
  have h1:=hρ x
  have h2:=hρ i
  rw[hx] at h1;rw[hn] at h2
  have h1:=V3 h1
  have h2:=X2 h2
  rw[xz] at hb
  refine Yc hs (x:=.int .u8 b.toNat) ?_ (by simp[Yn])
  simp only[execOp,ho]
  refine Vc ?_
  rw[h1,h2]
  have hb':(ByteArray.mk s.toArray)[n]? =some b:=by
   rw[<-hb]
   by_cases h:n<s.length
   ·have h':n<(ByteArray.mk s.toArray).size:=by rw[Mh];exact h
    rw[getElem?_pos (ByteArray.mk s.toArray) n h',Zl h];rfl
   ·rw[getElem?_neg (ByteArray.mk s.toArray) n (by rw[Mh];exact h),Y1 (by omega)]
  simp only[Instr.index,Sem.run_bind,asIntOf,Sem.run_pure,Result.andThen_ok,run_underlying hu]
  rw[if_pos (by simp only[YC];omega)]
  simp only[YC,XX,hb',Sem.run_pure]
 case array m el=>
  refine XT λj hj=>Xq λd2 hu2=>?_
  have hag:=PW (w:=w) hu2
  refine WT (λh1=>?_) λh1=>WT (λhz=>?_) λ_=>T6
  ·refine SF λk n hn=>HK λcs hx=>Yj λhlt=>?_
   have g1:=hρ x
   have g2:=hρ i
   rw[hx] at g1;rw[hn] at g2
   have g2:=X2 g2
   simp only[Yn] at g1
   obtain⟨vs,hvs,hone,e⟩:=g1
   rw[h1] at hag
   rw[Xh] at hlt
   have hlt:n+1<=m:=Zm hlt
   refine Yc hs (x:=.agg ⟨(vs.drop (n*j.size)).take j.size⟩) ?_ ?_
   ·simp only[execOp,ho]
    refine Vc ?_
    rw[e,g2]
    simp only[Instr.index,Sem.run_bind,asIntOf,Sem.run_pure,Result.andThen_ok,run_underlying hu]
    rw[if_pos (by constructor<;>simp only[YC]<;>omega)]
    simp only[Sem.run_bind,WD hj,Result.andThen_ok,part,hag,if_true,Sem.run_pure,YC,XX]
    congr 2
    apply Array.ext'
    simp[W4]
   ·rw[M7,MC]
    simp only[Yn]
    exact⟨_,(hvs.drop _).take _,λy hy=>hone y (VC (X5 hy)),rfl⟩
  ·refine SF λk n hn=>HK λcs hx=>Yj λhlt=>QD λv hv=>?_
   have g1:=hρ x
   have g2:=hρ i
   rw[hx] at g1;rw[hn] at g2
   have g2:=X2 g2
   simp only[Yn] at g1
   obtain⟨vs,hvs,hone,e⟩:=g1
   rw[h1] at hag
   rw[Xh] at hlt
   have hlt:n+1<=m:=Zm hlt
   rw[Yy] at hz
   have hz:j.size=1:=Zm hz
   rw[Je] at hv
   obtain⟨u,hu1,ZmT⟩:=hvs.get hv
   refine Yc hs (x:=u) ?_ ZmT
   simp only[execOp,ho]
   refine Vc ?_
   rw[e,g2]
   simp only[Instr.index,Sem.run_bind,asIntOf,Sem.run_pure,Result.andThen_ok,run_underlying hu]
   rw[if_pos (by constructor<;>simp only[YC]<;>omega)]
   simp only[Sem.run_bind,WD hj,Result.andThen_ok,part,hag,YC,XX,hz,Xl]
   simp[hu1]
theorem IE{r:Result Next}{x:Option Operand}{dflt top:Nat}{f:Nat->OR}(hρ:Rn P σ tm ρ)
  (h: ∀n,(∀code,(match x.map ρ with|some v=>Instr.sliceBound v top code|none=>pure dflt:Sem Nat).run P w=.ok n w)->((x=none∧n=dflt)∨(x.isSome=true∧n<=top))->Y5 P σ H w r (f n)):
  Y5 P σ H w r (pd tm (opt P x) dflt top f):=by
 cases x with
 |none=>exact h dflt (λ_=>rfl) (.inl ⟨rfl,rfl⟩)
 |some x=>
  refine SF (v:=YV P x tm) λk n hn=>Yj λhle=>?_
  rw[Xh] at hle
  have hle:n<=top:=Zm hle
  refine h n (λcode=>?_) (.inr ⟨rfl,hle⟩)
  have h1:=hρ x
  rw[hn] at h1
  have h1:=X2 h1
  simp only[XZ,h1,Instr.sliceBound,Sem.run_bind,asIntOf,Sem.run_pure,Result.andThen_ok]
  rw[if_pos (by constructor<;>simp only[YC]<;>omega)]
  simp
theorem Od{r:Result Next}{lo hi mx:Option Operand}{len cap capC:Nat}{f:Nat->Nat->Nat->OR}(isSlice:Bool)(hρ:Rn P σ tm ρ)(hmx:mx.isSome=true->hi.isSome=true)(hc:cap<=capC)
  (h: ∀l h m mC,(Instr.sliceBounds isSlice len capC (lo.map ρ) (hi.map ρ) (mx.map ρ)).run P w=.ok (l,h,mC) w->l<=h->m<=cap->(mx=none->m=cap∧mC=capC)->(mx.isSome=true->m=mC)->(hi=none->h=len)->(hi.isSome=true->h<=m)->Y5 P σ H w r (f l h m)):
  Y5 P σ H w r (Iu tm (opt P lo) (opt P hi) (opt P mx) len cap f):=by
 unfold Iu
 have up: ∀(x:Option Operand) (dflt top topC n:Nat),top<=topC->(∀code,(match x.map ρ with|some v=>Instr.sliceBound v top code|none=>pure dflt:Sem Nat).run P w=.ok n w)->((x=none∧n=dflt)∨(x.isSome=true∧n<=top))->
   (∀d2,(x=none->d2=n)-> ∀code,(match x.map ρ with|some v=>Instr.sliceBound v topC code|none=>pure d2:Sem Nat).run P w=.ok n w):=by
  intro x dflt top topC n ht h1 h2 d2 hd code
  cases x with
  |none=>rw[hd rfl];rfl
  |some x=>
   have h1:=h1 code
   simp only[XZ] at h1 ⊢
   have h2:n<=top:=by rcases h2 with⟨h2,_⟩|⟨_,h2⟩;cases h2;exact h2
   unfold Instr.sliceBound at h1 ⊢
   cases hv:ρ x<;>rw[hv] at h1<;>simp only[asIntOf,Sem.run_bind,Sem.run_pure,Result.andThen_ok,run_stuck,Result.andThen_halt,run_unsupported] at h1 ⊢
   case int k i=>
    by_cases hh:0<=i∧i<=(top:Int)
    ·rw[if_pos hh] at h1
     rw[if_pos (by omega)];exact h1
    ·rw[if_neg hh] at h1
     exfalso
     have hr:=h1
     first
      |(obtain⟨s',w',hp⟩:=run_boundsPanic (P:=P) (w:=w) (α:=Nat) _ i top code
        rw[hp] at hr;cases hr)
      |(obtain⟨s',w',hp⟩:=run_boundsPanic (P:=P) (w:=w) (α:=Nat) _ i top code
        simp[hp] at hr)
   all_goals (first|cases h1|(rename_i p;cases p<;>simp at h1))
 refine IE hρ λm hm hm2=>IE hρ λhh hh1 hh2=>IE hρ λl hl hl2=>?_
 have hmc:m<=cap:=by rcases hm2 with⟨_,e⟩|⟨_,e⟩<;>omega
 have hlh:l<=hh:=by rcases hl2 with⟨_,e⟩|⟨_,e⟩<;>omega
 have fin: ∀mC,(mx=none->m=cap∧mC=capC)->(mx.isSome=true->m=mC)->(Instr.sliceBounds isSlice len capC (lo.map ρ) (hi.map ρ) (mx.map ρ)).run P w=.ok (l,hh,mC) w->Y5 P σ H w r (f l hh m):=by
  intro mC q1 q2 q3
  refine h l hh m mC q3 hlh hmc q1 q2 (λe=>?_) (λe=>?_)
  ·rcases hh2 with⟨_,e2⟩|⟨e2,_⟩;exact e2;rw[e] at e2;cases e2
  ·rcases hh2 with⟨e2,_⟩|⟨_,e2⟩;rw[e2] at e;cases e;exact e2
 cases mx with
 |none=>
  have hm':m=cap:=by rcases hm2 with⟨_,e⟩|⟨e,_⟩;exact e;cases e
  refine fin capC (λ_=>⟨hm',rfl⟩) (λe=>by cases e) ?_
  have h2:=up hi len m capC hh (by omega) hh1 hh2
  unfold Instr.sliceBounds
  cases hi with
  |none=>
   have e1:hh=len:=by rcases hh2 with⟨_,e⟩|⟨e,_⟩;exact e;cases e
   subst e1
   cases lo with
   |none=>
    have e2:l=0:=by rcases hl2 with⟨_,e⟩|⟨e,_⟩;exact e;cases e
    subst e2;simp
   |some lo=>have hl':=λc=>hl c;simp only[XZ] at hl';simp[hl']
  |some hi=>
   have h2':=λc=>h2 0 (λe=>by cases e) c
   simp only[XZ] at h2'
   cases lo with
   |none=>
    have e2:l=0:=by rcases hl2 with⟨_,e⟩|⟨e,_⟩;exact e;cases e
    subst e2;simp[h2']
   |some lo=>have hl':=λc=>hl c;simp only[XZ] at hl';simp[hl',h2']
 |some mx=>
  refine fin m (λe=>by cases e) (λ_=>rfl) ?_
  have h3:=up (some mx) cap cap capC m hc hm hm2
  have h3':=λc=>h3 0 (λe=>by cases e) c
  simp only[XZ] at h3'
  unfold Instr.sliceBounds
  cases hi with
  |none=>have:=hmx rfl;cases this
  |some hi=>
   have hh':=λc=>hh1 c
   simp only[XZ] at hh'
   cases lo with
   |none=>
    have e2:l=0:=by rcases hl2 with⟨_,e⟩|⟨e,_⟩;exact e;cases e
    subst e2;simp[hh',h3']
   |some lo=>
    have hl':=λc=>hl c
    simp only[XZ] at hl'
    simp[hl',hh',h3']
end
section
variable {P:Program} {σ:Mp} {H:Heap} {w:World}
theorem WE.row(hs:WE P σ H w){b:Nat}{r:Row}{l:Loc}(hb:H.t.get b=some (.row r))(hl:σ b=some l):
  ∃cs fr,w.heap[l.blk]? =some (.cells cs r.elem fr)∧Ql σ r l cs fr:=by
 obtain⟨c,hc,ho⟩:=hs.alive b _ l hb hl
 obtain⟨cs,fr,rfl,hr⟩:=ho
 exact⟨cs,fr,hc,hr⟩
theorem Hz{w:World}{g:Nat}{cs:Array Value}{t:TypeId}{fr:Nat×Nat}(h:w.heap[g]? =some (.cells cs t fr))(i:Nat):w.cell? ⟨g,i,none⟩=cs[i]? :=
 cell_of_row w g i cs t fr h
theorem Row.get_eq(r:Row)(i:Nat):r.get i=(r.cells.get i).getD r.dflt:=by
 unfold Row.get
 cases r.cells.get i<;>rfl
theorem Ss(r:Row): ∀(n o:Nat),(Vf r o n).length=n
 |0,_=>rfl
 |n+1,o=>by simp[Vf,Ss r n]
theorem PT{r:Row}{l:Loc}{cs:Array Value}{fr:Nat×Nat}(h:Ql σ r l cs fr): ∀(n o:Nat),o+n<=r.size->
  ∃vs,YR σ (Vf r o n) vs∧vs.length=n∧(∀(j:Nat) (v:Value),vs[j]? =some v->cs[l.base+o+j]? =some v)∧ ∀v∈vs,v.oneCell'=true
 |0,o,_=>⟨[],V2,rfl,by simp,by simp⟩
 |n+1,o,ho=>by
  obtain⟨v,hv,hr⟩:=h.cell o (by omega)
  obtain⟨vs,h1,h2,h3,h4⟩:=PT h n (o+1) (by omega)
  refine⟨v::vs,Ww hr h1,by simp[h2],?_,?_⟩
  ·intro j u hj
   cases j with
   |zero=>simp at hj;subst hj;exact hv
   |succ j=>
    have:=h3 j u (by simpa using hj)
    rw[<-this];congr 1;omega
  ·intro u hu
   rcases ZO.1 hu with rfl|hu
   ·exact h.one _ _ (by omega) hv
   ·exact h4 u hu
theorem Rg{g o:Nat}{cs:Array Value}{t:TypeId}{fr:Nat×Nat}(h:w.heap[g]? =some (.cells cs t fr))(vs:List Value)
  (hv: ∀(j:Nat) (v:Value),vs[j]? =some v->cs[o+j]? =some v):(loadCells ⟨g,o,none⟩ vs.length).run P w=.ok vs.toArray w:=by
 refine run_loadCells_list (w:=w) ⟨g,o,none⟩ vs λj v hj=>?_
 rw[RT,Hz h]
 exact hv j v hj
def Qh(cs:Array Value)(o:Nat):List Value->Array Value
 |[]=>cs
 |v::vs=>Qh (cs.setIfInBounds o v) (o+1) vs
theorem P7(vs:List Value): ∀(cs:Array Value) (o:Nat),(Qh cs o vs).size=cs.size:=by
 induction vs with
 |nil=>intro cs o;rfl
 |cons v vs ih=>intro cs o;simp[Qh,ih]
theorem Ps(vs:List Value): ∀(cs:Array Value) (o i:Nat),o+vs.length<=cs.size->
  (Qh cs o vs)[i]? =if o<=i∧i<o+vs.length then vs[i - o]? else cs[i]? :=by
 induction vs with
 |nil=>intro cs o i _;rw[if_neg (by simp)];rfl
 |cons v vs ih=>
  intro cs o i h
  simp only[ZS] at h ⊢
  show(Qh (cs.setIfInBounds o v) (o+1) vs)[i]? =_
  rw[ih _ _ _ (by simp;omega)]
  by_cases h1:o+1<=i∧i<o+1+vs.length
  ·rw[if_pos h1,if_pos (by omega),show i - o=(i - (o+1))+1 by omega];simp
  ·rw[if_neg h1,YX]
   by_cases h2:o=i
   ·subst h2
    rw[if_pos rfl,if_pos (by omega),if_pos (by omega)];simp
   ·rw[if_neg h2,if_neg (by omega)]
theorem Qy(vs:List AV): ∀(c:T AV) (o i:Nat),(WY c o vs).get i=if o<=i∧i<o+vs.length then vs[i - o]? else c.get i:=by
 induction vs with
 |nil=>intro c o i;rw[if_neg (by simp)];rfl
 |cons v vs ih=>
  intro c o i
  show(WY (c.set o v) (o+1) vs).get i=_
  rw[ih,T.get_set]
  simp only[ZS]
  by_cases h1:o+1<=i∧i<o+1+vs.length
  ·rw[if_pos h1,if_pos (by omega),show i - o=(i - (o+1))+1 by omega];simp
  ·rw[if_neg h1]
   by_cases h2:o=i
   ·subst h2;rw[if_pos rfl,if_pos (by omega)];simp
   ·rw[if_neg h2,if_neg (by omega)]
structure Ay(w w':World)(g:Nat)(c:Go.Obj):Prop where
 size:w'.heap.size=w.heap.size
 new:w'.heap[g]? =some c
 old: ∀k,k≠g->w'.heap[k]? =w.heap[k]?
 tape:w'.tape=w.tape
 os:w'.os=w.os
 out:w'.output=w.output
theorem Ap{w:World}{g i:Nat}{cs:Array Value}{t:TypeId}{fr:Nat×Nat}(h:w.heap[g]? =some (.cells cs t fr))(v:Value):
  Ay w (w.setCell ⟨g,i,none⟩ v) g (.cells (cs.setIfInBounds i v) t fr):=by
 have hlt:=(ZQ.1 h).1
 refine⟨by simp[World.setCell],?_,λk hk=>?_,rfl,rfl,rfl⟩
 ·simp only[World.setCell,WB]
  rw[h];simp
 ·simp only[World.setCell,WB]
  rw[if_neg (λe=>hk e.symm)]
theorem mg{w:World}{g i:Nat}{cs:Array Value}{t:TypeId}{fr:Nat×Nat}(h:w.heap[g]? =some (.cells cs t fr))(hf: ¬(fr.1<=i∧i<fr.2)):w.frozen? ⟨g,i,none⟩=false:=by
 unfold World.frozen?
 rw[h]
 obtain⟨a,b⟩:=fr
 simp only[Bool.and_eq_false_iff,decide_eq_false_iff_not]
 simp only at hf
 omega
theorem ON{P:Program}{g o:Nat}{t:TypeId}{fr:Nat×Nat}: ∀(vs:List Value) (i:Nat) (w:World) (cs:Array Value),w.heap[g]? =some (.cells cs t fr)->
  o+i+vs.length<=cs.size->(∀v∈vs,v.oneCell'=true)->(∀j,j<vs.length-> ¬(fr.1<=o+i+j∧o+i+j<fr.2))->
  ∃w',(storeCells ⟨g,o,none⟩ vs i).run P w=.ok () w'∧Ay w w' g (.cells (Qh cs (o+i) vs) t fr)
 |[],i,w,cs,h,_,_,_=>⟨w,rfl,⟨rfl,h,λ_ _=>rfl,rfl,rfl,rfl⟩⟩
 |v::vs,i,w,cs,h,hsz,hone,hfr=>by
  simp only[ZS] at hsz hfr
  have hw:=Ap (i:=o+i) h v
  obtain⟨w',hr,h'⟩:=ON (P:=P) (g:=g) (o:=o) (t:=t) (fr:=fr) vs (i+1) (w.setCell ⟨g,o+i,none⟩ v) (cs.setIfInBounds (o+i) v) hw.new
   (by simp;omega) (λu hu=>hone u (by simp[hu])) (λj hj=>by have:=hfr (j+1) (by omega);rwa [show o+(i+1)+j=o+i+(j+1) by omega])
  refine⟨w',?_,?_⟩
  ·simp only[storeCells,Sem.run_bind,RT]
   rw[run_store P w _ v .plain (hone v (by simp)),Hz h,W3 (by omega)]
   simp only
   rw[mg h (by have:=hfr 0 (by omega);simpa using this)]
   simp only[XA,if_false,Result.andThen_ok]
   exact hr
  ·refine⟨by rw[h'.size,hw.size],?_,λk hk=>by rw[h'.old k hk,hw.old k hk],by rw[h'.tape,hw.tape],by rw[h'.os,hw.os],by rw[h'.out,hw.out]⟩
   rw[h'.new];rfl
theorem Wr.of_may{b:Nat}{r:Row}(h:H.may r b=true)(hb:H.t.get b=some (.row r)):Wr H b∧r.own=true:=by
 unfold Heap.may at h
 cases ho:r.own with
 |false=>rw[ho] at h;cases h
 |true=>
  rw[ho] at h
  have:H.ro<=b:=ZR h
  refine⟨⟨this,_,hb,λr' e=>?_,λe=>by cases e⟩,rfl⟩
  cases e;exact ho
theorem F1(hs:WE P σ H w){b:Nat}{r:Row}{l:Loc}(hb:H.t.get b=some (.row r))(hl:σ b=some l)(OI:H.may r b=true){o:Nat}{as:List AV}{vs:List Value}
  (ha:YR σ as vs)(hone: ∀v∈vs,v.oneCell'=true)(hsz:o+vs.length<=r.size)(hfz:r.fz<=o):
  ∃w',(storeCells ⟨l.blk,l.base+o,none⟩ vs 0).run P w=.ok () w'∧Tr P σ H w σ (H.put b (.row (r.setCells (WY r.cells o as)))) w':=by
 obtain⟨cs,fr,hc,hr⟩:=hs.row hb hl
 obtain⟨hwr,hown⟩:=Wr.of_may OI hb
 have h1:=hr.fits
 have h2:=hr.room
 have hlen:=ha.length
 obtain⟨w',hrun,hw⟩:=ON (P:=P) (o:=l.base+o) vs 0 w cs hc (by omega) hone (λj hj=>by
  have:=hr.frz hown (o+j) (by omega) (by omega)
  rwa [show l.base+o+0+j=l.base+(o+j) by omega])
 refine⟨w',hrun,Tr.write hs hb hl hwr hw.size hw.new hw.old ⟨_,fr,rfl,?_⟩ hw.tape hw.os hw.out⟩
 refine⟨hr.sz,hr.sz1,hr.fits,by rw[P7];exact hr.room,λe=>by rw[P7];exact hr.exact e,?_,?_,hr.frz,hr.frs⟩
 ·intro i hi
  have hi:i<r.size:=hi
  rw[Row.get_eq]
  show ∃v,_∧Yn σ (((WY r.cells o as).get i).getD r.dflt) v
  rw[Qy,Ps _ _ _ _ (by omega)]
  by_cases hin:o<=i∧i<o+as.length
  ·rw[if_pos hin,if_pos (by omega)]
   obtain⟨a,hga⟩: ∃a,as[i - o]? =some a:=⟨as[i - o]'(by omega),Zl (by omega)⟩
   obtain⟨v,hv,hrel⟩:=ha.get hga
   refine⟨v,?_,?_⟩
   ·rw[show l.base+i - (l.base+o+0)=i - o by omega];exact hv
   ·rw[hga];exact hrel
  ·rw[if_neg hin,if_neg (by omega)]
   obtain⟨v,hv,hrel⟩:=hr.cell i hi
   rw[Row.get_eq] at hrel
   exact⟨v,hv,hrel⟩
 ·intro i v hi hv
  have hi:i<r.size:=hi
  rw[Ps _ _ _ _ (by omega)] at hv
  split at hv
  ·exact hone v (VB hv)
  ·exact hr.one i v hi hv
end
theorem DJ{n:Nat}(h:n % 2=1):bits n=true::bits (n/2):=by
 unfold bits
 obtain⟨m,rfl⟩: ∃m,n=m+1:=⟨n - 1,by omega⟩
 rw[Qp,if_neg (by omega),if_pos h,Lc ((m+1)/2) _ m (Zp _) (by omega)]
theorem Fc{n:Nat}(h0:n≠0)(h:n % 2=0):bits n=false::bits (n/2 - 1):=by
 unfold bits
 obtain⟨m,rfl⟩: ∃m,n=m+1:=⟨n - 1,by omega⟩
 rw[Qp,if_neg (by omega),if_neg (by omega),Lc ((m+1)/2 - 1) _ m (Zp _) (by omega)]
namespace T
variable {α:Type}
theorem gB(l r:T α)(v:Option α)(n:Nat):(T.node l v r).get n=if n=0 then v else if n % 2=1 then l.get (n/2) else r.get (n/2 - 1):=by
 unfold get
 by_cases h0:n=0
 ·subst h0;rfl
 ·rw[if_neg h0]
  by_cases h1:n % 2=1
  ·rw[if_pos h1,DJ h1];rfl
  ·rw[if_neg h1,Fc h0 (by omega)];rfl
theorem Be: ∀(l:List α) (k:Nat),(U9 l)[k]? =l[2*k]?
 |[],k=>by simp[U9]
 |[x],k=>by cases k<;>simp[U9]
 |x::y::l,0=>by simp[U9]
 |x::y::l,k+1=>by
  show(x::U9 l)[k+1]? =(x::y::l)[2*(k+1)]?
  rw[show 2*(k+1)=(2*k+1)+1 by omega]
  simp[Be l k]
theorem KA: ∀l:List α,(U9 l).length<=l.length
 |[]=>by simp[U9]
 |[x]=>by simp[U9]
 |x::y::l=>by have:=KA l;simp[U9];omega
theorem Ke: ∀(f:Nat) (l:List α) (i:Nat),l.length<=f->(TH f l).get i=l[i]?
 |0,l,i,h=>by
  have:l=[]:=by cases l<;>simp_all
  subst this;simp[TH,get_leaf]
 |f+1,[],i,_=>by simp[TH,get_leaf]
 |f+1,x::l,i,h=>by
  simp only[ZS] at h
  show(T.node (TH f (U9 l)) (some x) (TH f (U9 l.tail))).get i=_
  rw[gB]
  by_cases h0:i=0
  ·subst h0;simp
  ·rw[if_neg h0]
   by_cases h1:i % 2=1
   ·rw[if_pos h1,Ke f _ _ (by have:=KA l;omega),Be]
    rw[show 2*(i/2)=i - 1 by omega]
    obtain⟨k,rfl⟩: ∃k,i=k+1:=⟨i - 1,by omega⟩
    simp
   ·rw[if_neg h1,Ke f _ _ (by have:=KA l.tail;simp at this;omega),Be]
    rw[show 2*(i/2 - 1)=i - 2 by omega]
    obtain⟨k,rfl⟩: ∃k,i=k+2:=⟨i - 2,by omega⟩
    simp
theorem Gf(l:List α):Zir l=l.length:=YF l
theorem get_ofList(l:List α)(i:Nat):(ofList l).get i=l[i]? :=Ke _ _ _ (by rw[Gf];exact Zp _)
end T
section
variable {P:Program} {σ:Mp} {H:Heap} {w:World}
theorem I5{σ:Mp}{e sz tot:Nat}{as:List AV}{vs rest:List Value}{sm exact:Bool}{blk:Nat}{fr:Nat×Nat}(ha:YR σ as vs)(hone: ∀v∈vs++rest,v.oneCell'=true)(hsz:1<=sz)
  (hfit:as.length<=tot*sz)(hroom:tot*sz<=(vs++rest).length)(hex:exact=true->as.length=tot*sz∧rest=[])(hfr:if sm then tot*sz<=fr.1 else fr.1=fr.2):
  Ql σ ⟨e,sz,YK as,T.ofList as,.unk,0,sm,true,exact⟩ ⟨blk,0,tot,sz⟩ ⟨vs++rest⟩ fr:=by
 have hlen:=ha.length
 refine⟨rfl,hsz,by rw[YF];exact hfit,by simpa using hroom,λh=>?_,?_,?_,?_,?_⟩
 ·obtain⟨h1,h2⟩:=hex h
  subst h2
  exact⟨by rw[YF];exact h1,rfl,by rw[YF];simp[hlen]⟩
 ·intro i hi
  have hi:i<as.length:=by rw[<-YF];exact hi
  rw[Row.get_eq]
  show ∃v,_∧Yn σ (((T.ofList as).get i).getD .unk) v
  rw[T.get_ofList,Zl hi]
  obtain⟨v,hv,hr⟩:=ha.get (Zl hi)
  refine⟨v,?_,hr⟩
  simp only[Zd,Wj]
  rw[Yh (by omega)]
  exact hv
 ·intro i v _ hv
  simp only[Wj] at hv
  exact hone v (VB hv)
 ·intro _ i _ hi
  cases sm with
  |true=>simp only[if_true] at hfr;simp only at hi ⊢;omega
  |false=>simp only[XA,if_false] at hfr;simp only at hi ⊢;omega
 ·intro _ hsm
  have hsm:sm=false:=hsm
  subst hsm
  simp only[XA,if_false] at hfr
  exact .inl hfr
theorem Jd(hs:WE P σ H w){e sz tot:Nat}{as:List AV}{vs:List Value}(ha:YR σ as vs)(hone: ∀v∈vs,v.oneCell'=true)(hsz:1<=sz)(hlen:as.length=tot*sz):
  Tr P σ H w (σ.put H.nx ⟨w.heap.size,0,tot,sz⟩) (H.newRow e sz as true) (w.alloc (.cells ⟨vs⟩ e)):=by
 refine Tr.alloc hs _ _ _ rfl ⟨⟨vs⟩,(0,0),rfl,?_⟩
 have:=I5 (σ:=σ.put H.nx ⟨w.heap.size,0,tot,sz⟩) (e:=e) (sm:=false) (exact:=true) (blk:=w.heap.size) (fr:=(0,0)) (rest:=[]) (ha.mono (Mp.put_ext _ (hs.fresh (Zp _)))) (by simpa using hone) hsz (by omega) (by simp;have:=ha.length;omega) (λ_=>⟨hlen,rfl⟩) rfl
 simpa using this
theorem oo(hs:WE P σ H w){e n:Nat}{a:AV}{v:Value}(ha:Yn σ a v)(hone:v.oneCell'=true):
  Tr P σ H w (σ.put H.nx ⟨w.heap.size,0,n,1⟩) (H.new (.row ⟨e,1,n,.leaf,a,0,false,true,true⟩)) (w.alloc (.cells ⟨List.replicate n v⟩ e)):=by
 refine Tr.alloc hs _ _ _ rfl ⟨_,(0,0),rfl,⟨rfl,Zp _,by simp,by simp,λ_=>⟨by simp,rfl,by simp⟩,?_,?_,?_,?_⟩⟩
 ·intro i hi
  have hi:i<n:=hi
  rw[Row.get_eq]
  refine⟨v,?_,?_⟩
  ·simp[XO,hi]
  ·rw[T.get_leaf];exact ha.mono (Mp.put_ext _ (hs.fresh (Zp _)))
 ·intro i u _ hu
  simp only[Wj,XO] at hu
  split at hu
  ·cases hu;exact hone
  ·cases hu
 ·intro _ i _ hi;simp only;omega
 ·intro _ _;exact .inl rfl
end
section
variable {P:Program} {σ:Mp} {H:Heap} {w:World} {tm:TM} {ρ:Operand->Value}
theorem Ji{σ:Mp}{b:Nat}{l:Loc}(hb:l.base=0):Yn (σ.put b l) (.ptr b 0) (.pointer (some ⟨l.blk,0,none⟩)):=by
 simp only[Yn];exact⟨l,Mp.put_same _ _ _,by rw[hb]⟩
theorem SA{σ:Mp}{b n:Nat}{l:Loc}(hb:l.base=0):Yn (σ.put b l) (.slice b 0 n none) (.slice (some ⟨l.blk,0,none⟩) n l.tot):=by
 simp only[Yn];exact⟨l,Mp.put_same _ _ _,by rw[hb];simp⟩
theorem VN{r:Result Next}{σ':Mp}{H':Heap}{w':World}{v:AV}{x:Value}(ht:Tr P σ H w σ' H' w')(hr:r=.ok (.value x) w')(hx:Yn σ' v x):Y5 P σ H w r (.val v H'):=
 ⟨σ',w',x,.inl hr,hx,ht⟩
theorem T9{t:Nat}{i:TypeInfo}{z:Value}(h:P.info? t=some i)(hz:i.zero=some z):(zeroValue t).run P w=.ok z w:=by
 simp[zeroValue,typeInfo,h,hz]
theorem S0(z:Value)(h:1<=(W1 z).cells.length):YR σ (W1 z).cells z.cells.toList∧ ∀x∈z.cells.toList,x.oneCell'=true:=(PL σ z).cells h
theorem qW{kd:IntKind}{m:Int}: ∀{l:List Value},aD kd m l=true->l=List.replicate l.length (.int kd m)
 |[],_=>rfl
 |v::l,h=>by
  unfold aD at h
  split at h
  ·rename_i j n
   cases h1:P3 kd j with
   |false=>rw[h1] at h;cases h
   |true=>
    have:=S3 h1;subst this
    rw[h1] at h
    cases h2:Ge m n with
    |false=>rw[h2] at h;cases h
    |true=>
     rw[h2] at h
     rw[Qr] at h2
     have h2:m=n:=by simpa using h2
     subst h2
     have ih:=qW h
     rw[ZS,Wa,<-ih]
  ·cases h
theorem dM(hs:WE P σ H w){o:Oper}{t:TypeId}(ho:o.op=.alloc t):XC P σ H w tm ρ o:=by
 unfold XC;rw[ho]
 refine XT λi hi=>Ut λz hz=>?_
 have hrun:(execOp ρ o).run P w=.ok (.value (.pointer (some ⟨w.heap.size,0,none⟩))) (w.alloc (.cells z.cells t)):=by
  simp only[execOp,ho]
  refine Vc ?_
  simp only[Instr.alloc,Sem.run_bind,T9 hi hz,Result.andThen_ok]
  simp[newVar,newRow]
 have key:Y5 P σ H w ((execOp ρ o).run P w) (Ue t (W1 z).cells tm H):=by
  refine Yj λh1=>?_
  rw[Xh,YF] at h1
  have h1:1<=(W1 z).cells.length:=Zm h1
  obtain⟨hr,hone⟩:=S0 (σ:=σ) z h1
  exact VN (Jd hs (tot:=(W1 z).cells.length) hr hone (Zp _) (by simp)) hrun (Ji rfl)
 show Y5 P σ H w _ (jI t z.cells.toList (W1 z).cells tm H)
 cases hl:z.cells.toList with
 |nil=>exact key
 |cons v l'=>
  cases v<;>try exact key
  case int kd m=>
   refine WT (λ_=>WT (λha=>?_) λ_=>key) λ_=>key
   have hrep:=qW ha
   rw[YF]
   refine VN (oo hs (n:=l'.length+1) (v:=.int kd m) (by simp[Yn]) rfl) ?_ (Ji rfl)
   rw[hrun]
   have:z.cells=⟨List.replicate (l'.length+1) (.int kd m)⟩:=by
    apply Array.ext'
    rw[hl,Wa,<-hrep]
   rw[this]
theorem ZfY(hs:WE P σ H w)(hρ:Rn P σ tm ρ){o:Oper}{t:TypeId}{x:Operand}(ho:o.op=.box t x):XC P σ H w tm ρ o:=by
 unfold XC;rw[ho]
 refine Yj λh1=>?_
 rw[Xh,YF] at h1
 have h1:1<=(YV P x tm).cells.length:=Zm h1
 obtain⟨hr,hone⟩:=(hρ x).cells h1
 refine VN (Jd hs (tot:=(YV P x tm).cells.length) hr hone (Zp _) (by simp)) ?_ (Ji rfl)
 simp only[execOp,ho]
 refine Vc ?_
 simp[Instr.box,newVar,newRow]
theorem ZbO(hs:WE P σ H w)(hρ:Rn P σ tm ρ){o:Oper}{t:TypeId}{x:Operand}(ho:o.op=.load t x):XC P σ H w tm ρ o:=by
 unfold XC;rw[ho]
 refine XT λi hi=>Xq λd hu=>?_
 have hag:=PW (w:=w) hu
 refine WT (λh1=>?_) λh1=>?_
 ·refine Q4 λb off hx=>TC λr hr=>Yj λhle=>?_
  rw[Xh] at hle
  have hle:off+i.size<=r.size:=Zm hle
  have g:=hρ x
  rw[hx] at g
  obtain⟨l,hl,e⟩:=Uu g
  obtain⟨cs,fr,hc,hrr⟩:=hs.row hr hl
  obtain⟨vs,h2,h3,h4,h5⟩:=PT hrr i.size off hle
  rw[h1] at hag
  refine Yc hs (x:=.agg ⟨vs⟩) ?_ (by simp only[Yn];exact⟨vs,h2,h5,rfl⟩)
  simp only[execOp,ho]
  refine Vc ?_
  rw[e]
  have:=Rg (P:=P) hc vs (o:=l.base+off) h4
  rw[h3] at this
  simp only[Instr.loadAt,Instr.sureAddr,Sem.run_bind,Sem.run_pure,Result.andThen_ok,loadVar,hag,if_true,WD hi,this]
 ·refine Q4 λb off hx=>TC λr hr=>Yj λhle=>?_
  rw[Xh] at hle
  have hle:off+1<=r.size:=Zm hle
  have g:=hρ x
  rw[hx] at g
  obtain⟨l,hl,e⟩:=Uu g
  obtain⟨cs,fr,hc,hrr⟩:=hs.row hr hl
  obtain⟨v,hv,hrel⟩:=hrr.cell off hle
  rw[h1] at hag
  refine Yc hs (x:=v) ?_ hrel
  simp only[execOp,ho]
  refine Vc ?_
  rw[e]
  simp only[Instr.loadAt,Instr.sureAddr,Sem.run_bind,Sem.run_pure,Result.andThen_ok,loadVar,hag,XA,if_false,run_load,Hz hc,hv]
theorem dW(hs:WE P σ H w)(hρ:Rn P σ tm ρ){o:Oper}{t:TypeId}{x y:Operand}(ho:o.op=.store t x y):XC P σ H w tm ρ o:=by
 unfold XC;rw[ho]
 refine XT λi hi=>?_
 refine Q4 λb off hx=>TC λr hr=>Yj λhn=>Yj λOI=>Yj λhle=>Yj λhfz=>Yj λhlen=>?_
 rw[Xh] at hn hle hfz
 rw[Yy,YF] at hlen
 have hn:1<=i.size:=Zm hn
 have hle:off+i.size<=r.size:=Zm hle
 have hfz:r.fz<=off:=Zm hfz
 have hlen:(YV P y tm).cells.length=i.size:=Zm hlen
 have g:=hρ x
 rw[hx] at g
 obtain⟨l,hl,e⟩:=Uu g
 obtain⟨hrel,hone⟩:=(hρ y).cells (by omega)
 have hl2:=hrel.length
 obtain⟨w',hrun,htr⟩:=F1 hs hr hl OI hrel hone (o:=off) (by omega) hfz
 refine⟨σ,w',undef,.inr ⟨?_,rfl⟩,by simp[Xz,undef,Yn,YR],htr⟩
 simp only[execOp,ho]
 rw[e]
 have hsz:(ρ y).cells.size=i.size:=by rw[<-hlen,hl2];simp
 simp only[Instr.storeAt,Instr.sureAddr,Sem.run_bind,Sem.run_pure,Result.andThen_ok,storeVar,WD hi,hsz]
 simp[hrun]
theorem JO(off:Nat): ∀(l:List Value) (i:Nat) (cs:Array Value),(l.zipIdx i).foldl (λcs (x:Value×Nat)=>cs.setIfInBounds (off+x.2) x.1) cs=Qh cs (off+i) l
 |[],_,_=>rfl
 |v::l,i,cs=>by
  simp only[List.zipIdx_cons,Wf]
  rw[JO off l (i+1)]
  rfl
theorem E6{cs:Array Value}{o:Nat}{vs:List Value}(h:o+vs.length<=cs.size):(Qh cs o vs).toList=cs.toList.take o++(vs++cs.toList.drop (o+vs.length)):=by
 apply WQ
 intro i
 rw[Yf,Ps _ _ _ _ h]
 have hlen:(cs.toList.take o).length=o:=by simp;omega
 by_cases h1:i<o
 ·rw[if_neg (by omega),Yh (by omega),List.getElem?_take,if_pos h1,Yf]
 ·rw[Yi (by omega),hlen]
  by_cases h2:i - o<vs.length
  ·rw[if_pos (by omega),Yh h2]
  ·rw[if_neg (by omega),Yi (by omega),Xa,Yf]
   congr 1;omega
theorem Fu{r:Result Next}(hρ:Rn P σ tm ρ){place:Nat->Option (Nat×Nat)}{k:List AV->OR}: ∀(ps:List (Nat×Operand)) (cells:List AV) (cs:Array Value),
  YR σ cells cs.toList->(∀v∈cs.toList,v.oneCell'=true)->
  (∀cells' cs',YR σ cells' cs'.toList->(∀v∈cs'.toList,v.oneCell'=true)->cs'.size=cs.size->Instr.fill place cs (ps.map λp=>(p.1,ρ p.2))=some cs'->Y5 P σ H w r (k cells'))->
  Y5 P σ H w r (AU tm k (ps.map (PD P place)) cells)
 |[],cells,cs,h1,h2,h3=>h3 cells cs h1 h2 rfl rfl
 |p::ps,cells,cs,h1,h2,h3=>by
  show Y5 P σ H w r (ZP (Nat.ble 1 (PD P place p).sz)<|ZP (Nat.beq (YK ((PD P place p).x tm).cells) (PD P place p).sz) (ZP (Nat.ble (Nat.add (PD P place p).off (PD P place p).sz) (YK cells))
   (AU tm k (ps.map (PD P place)) (Ow (PD P place p).off cells++(((PD P place p).x tm).cells++PB (Nat.add (PD P place p).off (PD P place p).sz) cells)))))
  refine Yj λg1=>Yj λg2=>Yj λg3=>?_
  cases hp:place p.1 with
  |none=>unfold PD at g1;rw[hp] at g1;cases g1
  |some q=>
   obtain⟨off,sz⟩:=q
   have hpe:PD P place p=⟨off,sz,YV P p.2⟩:=by unfold PD;rw[hp]
   rw[hpe] at g1 g2 g3 ⊢
   simp only at g1 g2 g3 ⊢
   rw[Xh] at g1 g3
   rw[Yy,YF] at g2
   rw[YF] at g3
   have g1:1<=sz:=Zm g1
   have g2:(YV P p.2 tm).cells.length=sz:=Zm g2
   have g3:off+sz<=cells.length:=Zm g3
   obtain⟨hr,hone⟩:=(hρ p.2).cells (by omega)
   have hl:=hr.length
   have hl1:=h1.length
   have hsz:(ρ p.2).cells.size=sz:=by rw[<-g2,hl];simp
   have hcs:cells.length=cs.size:=by rw[hl1];simp
   have hw:(Qh cs off (ρ p.2).cells.toList).toList=cs.toList.take off++((ρ p.2).cells.toList++cs.toList.drop (off+sz)):=by
    rw[E6 (by simp;omega)];simp[hsz]
   refine Fu hρ ps _ (Qh cs off (ρ p.2).cells.toList) ?_ ?_ λcells' cs' k1 k2 k3 k4=>h3 cells' cs' k1 k2 (by rw[k3,P7]) ?_
   ·rw[hw,M7,MC]
    exact(h1.take _).append (hr.append (h1.drop _))
   ·intro v hv
    rw[hw] at hv
    rcases Zr.1 hv with hv|hv
    ·exact h2 v (X5 hv)
    ·rcases Zr.1 hv with hv|hv
     ·exact hone v hv
     ·exact h2 v (VC hv)
   ·simp only[ZD,Instr.fill,hp]
    rw[if_neg (by simp only[Uz,decide_eq_true_eq];omega)]
    rw[<-k4]
    congr 1
    have:=JO off (ρ p.2).cells.toList 0 cs
    rw[Zg] at this
    rw[<-this,<-Array.foldl_toList,Array.toList_zipIdx]
theorem dN(hs:WE P σ H w)(hρ:Rn P σ tm ρ){o:Oper}{t:TypeId}{ps:Array (Nat×Operand)}(ho:o.op=.build t ps):XC P σ H w tm ρ o:=by
 unfold XC;rw[ho]
 refine XT λi hi=>Ut λz hz=>Xq λd hu=>?_
 have hps:(ps.map λ(x:Nat×Operand)=>(x.1,ρ x.2)).toList=ps.toList.map λp=>(p.1,ρ p.2):=by simp
 have fin: ∀(place:Nat->Option (Nat×Nat)),(∀cs',Instr.fill place z.cells (ps.toList.map λp=>(p.1,ρ p.2))=some cs'->P.built t (ps.toList.map λp=>(p.1,ρ p.2))=some cs')->
   Y5 P σ H w ((execOp ρ o).run P w) (UZ (W1 z).cells (ps.toList.map (PD P place)) tm H):=by
  intro place hb
  refine Yj λh1=>?_
  rw[Xh,YF] at h1
  have h1:1<=(W1 z).cells.length:=Zm h1
  obtain⟨hr,hone⟩:=S0 (σ:=σ) z h1
  refine Fu hρ _ _ _ hr hone λcells' cs' k1 k2 k3 k4=>?_
  refine Yc hs (x:=.agg cs') ?_ (by simp only[Yn];exact⟨cs'.toList,k1,k2,rfl⟩)
  simp only[execOp,ho]
  refine Vc ?_
  exact run_build w t _ cs' (by rw[hps];exact hb cs' k4)
 cases d<;>try exact trivial
 case struct fs=>
  refine Ut λplaces hp=>fin _ λcs' hf=>?_
  simp only[Program.built,hi,hu,hz,hp]
  exact hf
 case array n e=>
  refine XT λj hj=>fin _ λcs' hf=>?_
  simp only[Program.built,hi,hu,hz,hj]
  exact hf
theorem Es{α:Type}(l:List α)(hl:1<=l.length): ∀(n i:Nat),(List.replicate n l).flatten[i]? =if i<n*l.length then l[i % l.length]? else none
 |0,i=>by simp
 |n+1,i=>by
  rw[Wa,XY,WC]
  by_cases h:i<l.length
  ·rw[Yh h,if_pos (by omega),YB h]
  ·rw[Yi (by omega),Es l hl n]
   have e:i % l.length=(i - l.length) % l.length:=by
    conv=>lhs;rw[show i=(i - l.length)+l.length by omega]
    rw[Nat.add_mod_right]
   rw[<-e]
   by_cases h2:i - l.length<n*l.length
   ·rw[if_pos h2,if_pos (by omega)]
   ·rw[if_neg h2,if_neg (by omega)]
theorem Eb{as:List AV}{z:Array Value}(h:YR σ as z.toList)(hone: ∀v∈z.toList,v.oneCell'=true)(h1:1<=as.length)(n:Nat):
  YR σ (List.replicate n as).flatten ((Array.range (n*as.length)).map (z[· % z.size]!)).toList∧ ∀v∈((Array.range (n*as.length)).map (z[· % z.size]!)).toList,v.oneCell'=true:=by
 have hl:as.length=z.size:=by rw[h.length];simp
 have hz: ∀i,i % z.size<z.size:=λi=>WF _ (by omega)
 constructor
 ·refine YR.of_get ?_ λi a v ha hv=>?_
  ·simp[List.length_flatten]
  ·rw[Es _ h1] at ha
   split at ha
   ·rename_i hi
    simp only[Ro,Array.toList_range,YE] at hv
    rw[VA hi] at hv
    simp only[XZ,Option.some.injEq] at hv
    obtain⟨u,hu,hr⟩:=h.get ha
    rw[Yf,hl,W3 (hz i)] at hu
    cases hu
    rw[<-hv,getElem!_pos z _ (hz i)]
    exact hr
   ·cases ha
 ·intro v hv
  simp only[Ro,YQ] at hv
  obtain⟨i,_,rfl⟩:=hv
  rw[getElem!_pos z _ (hz i)]
  exact hone _ (Array.getElem_mem_toList _)
theorem km(hs:WE P σ H w)(hρ:Rn P σ tm ρ){o:Oper}{t:TypeId}{n:Nat}{ps:Array (Nat×Operand)}(ho:o.op=.buildSlice t n ps):XC P σ H w tm ρ o:=by
 unfold XC;rw[ho]
 refine Xq λd hu=>N9 λe hd=>XT λj hj=>Ut λz hz=>WT (λhsz=>?_) λ_=>T6
 subst hd
 have hps:(ps.map λ(x:Nat×Operand)=>(x.1,ρ x.2)).toList=ps.toList.map λp=>(p.1,ρ p.2):=by simp
 refine Yj λg1=>Yj λg2=>?_
 rw[Xh] at g1 hsz
 rw[Yy,YF] at g2
 have g1:1<=j.size:=Zm g1
 have hsz:n*j.size<=16777216:=Zm hsz
 have g2:(List.replicate n (W1 z).cells).flatten.length=n*j.size:=Zm g2
 have hlen:n=0∨(W1 z).cells.length=j.size:=by
  rw[List.length_flatten] at g2
  simp only[Sk,List.sum_replicate_nat] at g2
  by_cases h0:n=0
  ·exact .inl h0
  ·exact .inr (Nat.eq_of_mul_eq_mul_left (by omega) g2)
 have base: ∃zc:Array Value,YR σ (List.replicate n (W1 z).cells).flatten zc.toList∧(∀v∈zc.toList,v.oneCell'=true)∧zc.size=n*j.size∧
   (do let zero<-if n*j.size=0 then pure #[] else do pure (<-zeroValue e).cells
       pure ((Array.range (n*j.size)).map (zero[· % zero.size]!)):Sem (Array Value)).run P w=.ok zc w:=by
  rcases hlen with h0|h0
  ·subst h0
   exact⟨#[],by simpa using V2,by simp,by simp,by simp⟩
  ·obtain⟨hr,hone⟩:=S0 (σ:=σ) z (by omega)
   obtain⟨k1,k2⟩:=Eb hr hone (by omega) n
   rw[h0] at k1 k2
   refine⟨_,k1,k2,by simp,?_⟩
   by_cases hn:n*j.size=0
   ·simp[hn]
   ·simp[hn,T9 hj hz]
 obtain⟨zc,b1,b2,b3,b4⟩:=base
 refine Fu hρ _ _ zc b1 b2 λcells' cs' k1 k2 k3 k4=>?_
 have hl':cells'.length=n*j.size:=by rw[k1.length];simp[k3,b3]
 refine VN (Jd hs (tot:=n) k1 k2 g1 hl') ?_ (SA rfl)
 simp only[execOp,ho]
 refine Vc ?_
 simp only[Instr.buildSlice,Sem.run_bind,run_underlying hu,Result.andThen_ok,WD hj]
 rw[if_neg (by omega)]
 by_cases hn:n*j.size=0
 ·rw[if_pos hn] at b4 ⊢
  simp only[Sem.run_bind,Sem.run_pure,Result.andThen_ok,Result.ok.injEq,and_true] at b4 ⊢
  rw[b4,hps,k4]
  simp[newRow]
 ·rw[if_neg hn] at b4 ⊢
  simp only[Sem.run_bind,T9 hj hz,Sem.run_pure,Result.andThen_ok,Result.ok.injEq,and_true] at b4 ⊢
  rw[b4,hps,k4]
  simp[newRow]
theorem F9{n:Int}(h0:0<=n)(h1:n<9223372036854775808):IntKind.i64.wrap n=n:=by
 rw[<-NQ]
 obtain⟨m,rfl⟩:=Int.eq_ofNat_of_zero_le h0
 show cond (Nat.ble 9223372036854775808 m) (IntKind.wrap .i64 (Int.ofNat m)) (Int.ofNat m)=_
 rw[Xh,Zb (by omega)]
 rfl
theorem IV(f:Nat->Value):Array.map f (Array.range 0)= #[]:=by apply Array.ext';simp
def vY(e n l c:Nat):Sem Next:=do
 let zero<-if n=0 then pure #[] else do pure (<-zeroValue e).cells
 let a<-newRow e ((Array.range n).map (zero[· % zero.size]!))
 pure (Next.value (.slice (some a) l c))
theorem qc(hs:WE P σ H w)(hρ:Rn P σ tm ρ){o:Oper}{t:TypeId}{x y:Operand}(ho:o.op=.makeSlice t x y):XC P σ H w tm ρ o:=by
 unfold XC;rw[ho]
 refine Xq λd hu=>N9 λe hd=>XT λi hi=>Ut λz hz=>?_
 subst hd
 refine SF λk1 l hx=>SF λk2 c hy=>Yj λg1=>Yj λg2=>Yj λg3=>Yj λg4=>?_
 have h1:=hρ x;rw[hx] at h1
 have h2:=hρ y;rw[hy] at h2
 have h1:=X2 h1
 have h2:=X2 h2
 rw[Xh] at g1 g2 g3 g4
 have g1:1<=i.size:=Zm g1
 have g2:l<=c:=Zm g2
 have g3:c<=140737488355328:=Zm g3
 have g4:c*i.bytes<=140737488355328:=Zm g4
 have hrun:(execOp ρ o).run P w=(vY e (c*i.size) l c).run P w:=by
  simp only[execOp,ho,h1,h2]
  simp only[Instr.makeSlice,Sem.run_bind,run_underlying hu,Result.andThen_ok,asInt,asIntOf,Sem.run_pure,typeInfo,run_program,hi,YC]
  rw[F9 (by omega) (by omega),F9 (by omega) (by omega)]
  have e1:((i.bytes:Int)*(c:Int))<=140737488355328:=by
   have e0:(i.bytes:Int)*(c:Int)=((c*i.bytes:Nat):Int):=by rw[Int.natCast_mul,Int.mul_comm]
   rw[e0]
   generalize c*i.bytes=p at g4
   omega
  have e2: ¬((decide ((c:Int)<0)||decide ((i.bytes:Int)*(c:Int)>2^48)||decide ((l:Int)<0)||decide ((l:Int)>(c:Int)))=true):=by
   simp only[Uz,decide_eq_true_eq]
   omega
  rw[if_neg e2]
  simp only[XX,Sem.run_bind,run_askRoom,Result.andThen_ok,WD hi]
  by_cases hn:c*i.size=0
  ·simp[vY,hn,newRow]
  ·simp[vY,hn,T9 hi hz,newRow]
 have pR: ∀zc:Array Value,(c*i.size=0∨zc=z.cells)->(c*i.size=0->zc= #[])->(execOp ρ o).run P w=.ok (.value (.slice (some ⟨w.heap.size,0,none⟩) l c)) (w.alloc (.cells ((Array.range (c*i.size)).map (zc[· % zc.size]!)) e)):=by
  intro zc h3 h4
  rw[hrun]
  by_cases hn:c*i.size=0
  ·rw[h4 hn];simp[vY,hn,newRow]
  ·rcases h3 with h3|h3
   ·exact absurd h3 hn
   ·rw[h3];simp[vY,hn,T9 hi hz,newRow]
 show Y5 P σ H w _ (oj H e i.size l c (W1 z).cells)
 have gen:1<=(W1 z).cells.length->(W1 z).cells.length=i.size->Y5 P σ H w ((execOp ρ o).run P w) (.val (.slice H.nx 0 l none) (H.newRow e i.size ((List.replicate c (W1 z).cells).flatten) true)):=by
  intro q1 q2
  obtain⟨hr,hone⟩:=S0 (σ:=σ) z q1
  obtain⟨k1,k2⟩:=Eb hr hone q1 c
  refine VN (Jd hs (tot:=c) k1 k2 g1 (by simp[List.length_flatten,q2])) ?_ (SA rfl)
  by_cases hn:c*i.size=0
  ·rw[pR #[] (.inl hn) (λ_=>rfl),q2,hn,IV,IV]
  ·rw[pR z.cells (.inr rfl) (λh=>absurd h hn),q2]
 cases hz2:(W1 z).cells with
 |nil=>
  refine Yj λq=>?_
  rw[Yy] at q
  have q:0=i.size:=Zm q
  omega
 |cons a as=>
  cases as with
  |nil=>
   refine Yj λq=>?_
   rw[Yy] at q
   have q:i.size=1:=Zm q
   obtain⟨hr,hone⟩:=S0 (σ:=σ) z (by rw[hz2];simp)
   rw[hz2] at hr
   obtain⟨v,vs,h3,h4,h5⟩:=hr.cons_inv
   rw[h4.nil_inv] at h5
   refine VN (oo hs (n:=c) h3 (hone v (by rw[h5];simp))) ?_ (SA rfl)
   have hzc:z.cells= #[v]:=by apply Array.ext';rw[h5]
   by_cases hn:c=0
   ·subst hn
    rw[pR #[] (.inl (by simp)) (λ_=>rfl),Vh,IV];rfl
   ·rw[pR z.cells (.inr rfl) (λh=>by rw[q] at h;omega),hzc,q]
    congr 2
    congr 1
    apply Array.ext'
    apply WQ
    intro j
    simp only[Xl,List.size_toArray,List.length_singleton,Nat.mod_one,Ro,Array.toList_range,YE,XO]
    by_cases hj:j<c
    ·rw[VA hj,if_pos hj];rfl
    ·rw[if_neg hj,Y1 (by simp;omega)];rfl
  |cons a2 as2=>
   refine Yj λq=>?_
   rw[Yy,YF,<-hz2] at q
   have:=gen (by rw[hz2];simp) (Zm q)
   rw[hz2] at this
   exact this
theorem Mp.put_old{σ:Mp}{b c:Nat}{l:Loc}(h:c≠b):σ.put b l c=σ c:=by unfold Mp.put;rw[if_neg h]
theorem Tr.ghost(hs:WE P σ H w)(l:Loc):Tr P σ H w (σ.put H.nx l) ⟨Nat.succ H.nx,H.t,H.ro⟩ w:=by
 have he:=Mp.put_ext l (hs.fresh (Zp H.nx))
 have hold: ∀b o,H.t.get b=some o->σ.put H.nx l b=σ b:=λb o hb=>Mp.put_old (by have:=hs.get_lt hb;omega)
 refine⟨he,⟨?_,?_,?_,?_,?_,?_⟩,Zp _,λ_ _ _=>rfl,?_,VL _,rfl,λ_ _=>rfl,rfl,rfl,rfl,λb hb hn=>⟨rfl,by rw[Mp.put_old (by omega)];exact hn⟩⟩
 ·intro b m hb
  show b<H.nx+1
  by_cases e:b=H.nx
  ·omega
  ·rw[Mp.put_old e] at hb;have:=hs.dom b m hb;omega
 ·intro b o hb
  show b<H.nx+1
  have:=hs.low b o hb;omega
 ·intro b o l' hb hl'
  rw[hold b o hb] at hl'
  obtain⟨c,hc,ho⟩:=hs.alive b o l' hb hl'
  exact⟨c,hc,ho.mono he⟩
 ·intro b b' o o' l1 l2 h1 h2 k1 k2 e
  rw[hold b o h1] at k1;rw[hold b' o' h2] at k2
  exact hs.inj b b' o o' l1 l2 h1 h2 k1 k2 e
 ·intro g hg
  obtain⟨l',h1,h2⟩:=hs.glob g hg
  exact⟨l',he g l' h1,h2⟩
 ·show H.ro<=H.nx+1;have:=hs.ro;omega
 ·intro b l1 hw hl hlt
  obtain⟨hro,o,ho,hown⟩:=hw
  rw[hold b o ho] at hl
  exact⟨b,l1,⟨hro,o,ho,hown⟩,hl,rfl⟩
theorem Uq{b o n:Nat}{cap:Option Nat}{v:Value}(h:Yn σ (.slice b o n cap) v): ∃l,σ b=some l∧v=.slice (some ⟨l.blk,l.base+o,none⟩) n (cap.getD (l.tot - o/l.sz)):=by simpa only[Yn] using h
theorem Rc{b o n:Nat}{cap:Option Nat}{l:Loc}(h:σ b=some l):Yn σ (.slice b o n cap) (.slice (some ⟨l.blk,l.base+o,none⟩) n (cap.getD (l.tot - o/l.sz))):=by simp only[Yn];exact⟨l,h,rfl⟩
theorem D4{r:Row}{l:Loc}{cs:Array Value}{fr:Nat×Nat}(hr:Ql σ r l cs fr)(o:Nat)(cap:Option Nat):Te r o cap<=cap.getD (l.tot - o/l.sz):=by
 cases cap with
 |some c=>exact Zp _
 |none=>
  show cond (Nat.beq r.sz 1) (r.size - o) ((r.size - o)/r.sz)<=l.tot - o/l.sz
  have h1:=hr.sz
  have h2:=hr.sz1
  have h3:=hr.fits
  have key:(r.size - o)/l.sz<=l.tot - o/l.sz:=by
   rw[Nat.div_le_iff_le_mul_add_pred (by omega)]
   have:=SX o l.sz
   have hm:=WF o (show 0<l.sz by omega)
   rw[Nat.mul_sub]
   have e1:l.sz*l.tot=l.tot*l.sz:=VW _ _
   omega
  rw[Yy]
  by_cases e:r.sz=1
  ·rw[Ze e]
   show r.size - o<=_
   have e2:l.sz=1:=by omega
   rw[e2] at key ⊢;simpa using key
  ·rw[Zb e]
   show(r.size - o)/r.sz<=_
   rw[<-h1];exact key
theorem ki{hi mx:Option Operand}(h:ZfW hi mx=true):mx.isSome=true->hi.isSome=true:=by
 cases mx<;>cases hi<;>simp_all [ZfW]
theorem dV(hs:WE P σ H w)(hρ:Rn P σ tm ρ){o:Oper}{t:TypeId}{x:Operand}{lo hi mx:Option Operand}(ho:o.op=.slice t x lo hi mx):XC P σ H w tm ρ o:=by
 unfold XC;rw[ho]
 refine WT (λhmx=>?_) λ_=>T6
 have hmx:=ki hmx
 refine Xq λd hu=>?_
 have h1:=hρ x
 cases d<;>try exact trivial
 case string=>
  cases mx with
  |some m=>exact trivial
  |none=>
   refine Oe λs hx=>?_
   rw[hx] at h1
   have h1:=V3 h1
   refine Od (mx:=none) false hρ hmx (Zp _) λl h m mC hr hlh hm q1 _ q3 q4=>?_
   refine Yc hs (x:=.string ⟨((s.take h).drop l).toArray⟩) ?_ (by rw[NN,HD];simp[Yn])
   simp only[execOp,ho]
   refine Vc ?_
   rw[h1]
   rw[YF] at hr
   simp only[Instr.sliceAt,Sem.run_bind,run_underlying hu,Result.andThen_ok,Instr.slice,UM,Option.isSome_none,XA,if_false,Mh,hr,Sem.run_pure]
   simp only[UM] at hr
   simp only[hr,Result.andThen_ok]
   congr 2
   rw[ByteArray.ext_iff]
   simp only[ByteArray.data_extract]
   apply Array.ext'
   simp[W4,List.drop_take]
 case slice e=>
  refine XT λi hi'=>HM (λhx=>?_) (Sq (λhx=>?_) λb off len cap hx=>TC λr hr=>Yj λhsz=>?_)
  ·rw[hx] at h1
   obtain⟨a,h1⟩: ∃a,ρ x=.slice (some a) 0 0:=by simpa only[Yn] using h1
   refine Od (capC:=0) true hρ hmx (Zp _) λl h m mC hr hlh hm q1 q2 q3 q4=>?_
   have hh:h=0:=by
    cases hi with
    |none=>exact q3 rfl
    |some y=>have:=q4 rfl;omega
   have hl:l=0:=by omega
   have hmC:mC=0:=by
    cases mx with
    |none=>exact(q1 rfl).2
    |some y=>have:=q2 rfl;omega
   refine Yc hs (x:=.slice (some a) 0 0) ?_ (by simp[Yn])
   simp only[execOp,ho]
   refine Vc ?_
   rw[h1]
   simp only[Instr.sliceAt,Sem.run_bind,run_underlying hu,Result.andThen_ok,Instr.slice,hr,WD hi',Sem.run_pure]
   subst hh;subst hl;subst hmC
   simp
  ·rw[hx] at h1
   have h1:ρ x=.slice none 0 0:=by simpa only[Yn] using h1
   refine Od (capC:=0) true hρ hmx (Zp _) λl h m mC hr hlh hm q1 q2 q3 q4=>?_
   have hh:h=0:=by
    cases hi with
    |none=>exact q3 rfl
    |some y=>have:=q4 rfl;omega
   have hl:l=0:=by omega
   have hmC:mC=0:=by
    cases mx with
    |none=>exact(q1 rfl).2
    |some y=>have:=q2 rfl;omega
   refine Yc hs (x:=.slice none 0 0) ?_ (by simp[Yn])
   simp only[execOp,ho]
   refine Vc ?_
   rw[h1]
   simp only[Instr.sliceAt,Sem.run_bind,run_underlying hu,Result.andThen_ok,Instr.slice,hr,WD hi',Sem.run_pure]
   subst hh;subst hl;subst hmC
   simp
  ·rw[hx] at h1
   obtain⟨l,hl,e1⟩:=Uq h1
   obtain⟨cs,fr,hc,hrr⟩:=hs.row hr hl
   refine Od (capC:=cap.getD (l.tot - off/l.sz)) true hρ hmx (D4 hrr off cap) λlo' h m mC hrun hlh hm q1 q2 q3 q4=>?_
   have run:(execOp ρ o).run P w=.ok (.value (.slice (some (if mC=lo' then⟨l.blk,l.base+off,none⟩ else⟨l.blk,l.base+off+lo'*i.size,none⟩)) (h - lo') (mC - lo'))) w:=by
    simp only[execOp,ho]
    refine Vc ?_
    rw[e1]
    simp only[Instr.sliceAt,Sem.run_bind,run_underlying hu,Result.andThen_ok,Instr.slice,hrun,WD hi',Sem.run_pure]
    by_cases hmm:mC=lo'
    ·simp[hmm]
    ·simp[hmm,RT]
   refine Yj λhle=>?_
   rw[Xh] at hle
   have hle:lo'<=m:=Zm hle
   refine Uo (λhlm=>?_) λhlm=>?_
   ·rw[Yy] at hlm
    have hlm:lo'=m:=Zm hlm
    cases mx with
    |none=>
     cases cap with
     |some c=>
      obtain⟨z1,z2⟩:=q1 rfl
      have z1:m=c:=z1
      have z2:mC=c:=z2
      have hmm:mC=lo':=by omega
      refine Yc hs run ?_
      rw[if_pos hmm,hmm,Rq]
      exact Rc (cap:=some 0) hl
     |none=>
     refine VN (Tr.ghost hs ⟨l.blk,(if mC=lo' then l.base+off else l.base+off+lo'*i.size),mC - lo',1⟩) run ?_
     simp only[Yn]
     refine⟨_,Mp.put_same _ _ _,?_⟩
     by_cases hmm:mC=lo'
     ·simp[hmm]
     ·simp[hmm]
    |some y=>
     have hmm:mC=lo':=by have:=q2 rfl;omega
     refine Yc hs run ?_
     rw[if_pos hmm,hmm,Rq]
     exact Rc (cap:=some 0) hl
   ·rw[Yy] at hlm
    have hlm:lo'≠m:=of_decide_eq_false hlm
    have ZmF:mC≠lo':=by
     cases mx with
     |none=>
      obtain⟨z1,z2⟩:=q1 rfl
      have:=D4 hrr off cap
      omega
     |some y=>have:=q2 rfl;omega
    refine Yc hs run ?_
    rw[if_neg ZmF]
    have e2:l.base+off+lo'*i.size=l.base+(off+lo'*i.size):=by omega
    rw[e2]
    cases mx with
    |some y=>
     have hmm:mC=m:=(q2 rfl).symm
     rw[hmm]
     exact Rc (cap:=some (m - lo')) hl
    |none=>
     obtain⟨z1,z2⟩:=q1 rfl
     cases cap with
     |some c=>
      rw[z2]
      exact Rc (cap:=some (c - lo')) hl
     |none=>
      rw[z2]
      have hz:l.sz=i.size:=by
       rw[hrr.sz]
       have:Nat.beq r.sz i.size=true:=hsz
       rw[Yy] at this
       exact Zm this
      have h2:=hrr.sz1
      have e3:l.tot - off/l.sz - lo'=l.tot - (off+lo'*i.size)/l.sz:=by
       rw[<-hz,Nat.add_mul_div_right _ _ (by omega),Nat.sub_sub]
      show Yn σ (.slice b (off+lo'*i.size) (h - lo') none) (.slice _ _ (l.tot - off/l.sz - lo'))
      rw[e3]
      exact Rc (cap:=none) hl
 case array n e=>
  refine XT λi hi'=>Q4 λb off hx=>?_
  rw[hx] at h1
  obtain⟨l,hl,e1⟩:=Uu h1
  refine Od (capC:=n) false hρ hmx (Zp _) λlo' h m mC hrun hlh hm q1 q2 q3 q4=>?_
  have hmC:mC=m:=by
   cases mx with
   |none=>obtain⟨z1,z2⟩:=q1 rfl;omega
   |some y=>exact(q2 rfl).symm
  subst hmC
  have run:(execOp ρ o).run P w=.ok (.value (.slice (some (if mC=lo' then⟨l.blk,l.base+off,none⟩ else⟨l.blk,l.base+off+lo'*i.size,none⟩)) (h - lo') (mC - lo'))) w:=by
   simp only[execOp,ho]
   refine Vc ?_
   rw[e1]
   simp only[Instr.sliceAt,Sem.run_bind,run_underlying hu,Result.andThen_ok,Instr.sureAddr,hrun,WD hi',Sem.run_pure]
   by_cases hmm:mC=lo'
   ·simp[hmm]
   ·simp[hmm,RT]
  refine Uo (λhlm=>?_) λhlm=>?_
  ·rw[Yy] at hlm
   have hlm:lo'=mC:=Zm hlm
   refine Yc hs run ?_
   rw[if_pos hlm.symm]
   exact Rc (cap:=some (mC - lo')) hl
  ·rw[Yy] at hlm
   have hlm:lo'≠mC:=of_decide_eq_false hlm
   refine Yc hs run ?_
   rw[if_neg (λe=>hlm e.symm),XR]
   exact Rc (cap:=some (mC - lo')) hl
end
end
end Go.AI
