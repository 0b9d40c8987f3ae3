/- What the interpreter's values and heaps tell of the model's, and the first operations: proved for every world that is told. -/
import Derived.Test.YthhmkldnnnajhaaGreatDoorP1
import Derived.Laws.World
import Derived.Laws.Sem
import Derived.Laws.Rows
import Derived.Laws.Entries
import Derived.ChangeKeysEq
import Derived.Laws.Strings
import Derived.Laws.Slices
import Derived.Laws.Strings2
import Derived.Laws.Panics
import Derived.Laws.Cells
import Derived.Laws.Tables
set_option maxRecDepth 1000000
set_option maxHeartbeats 0
set_option linter.unusedVariables false
set_option linter.unusedSimpArgs false
namespace Go.AI
open Go
noncomputable section
namespace T
variable {α:Type}
theorem Ha(bs:List Bool):(T.leaf:T α).getB bs=none:=rfl
theorem Ib(l r:T α)(v:Option α):(T.node l v r).getB []=v:=rfl
theorem NM(l r:T α)(v:Option α)(b:Bool)(bs:List Bool):(T.node l v r).getB (b::bs)=if b then l.getB bs else r.getB bs:=by cases b<;>rfl
theorem BA(x:α): ∀bs cs:List Bool,(T.single x bs).getB cs=if bs=cs then some x else none:=by
 intro bs
 induction bs with
 |nil=>intro cs;cases cs with
  |nil=>rfl
  |cons c cs=>cases c<;>rfl
 |cons b bs ih=>
  intro cs
  cases cs with
  |nil=>cases b<;>rfl
  |cons c cs=>
   cases b<;>cases c
   ·show(T.single x bs).getB cs=_;rw[ih];simp
   ·show(T.leaf:T α).getB cs=_;simp[Ha]
   ·show(T.leaf:T α).getB cs=_;simp[Ha]
   ·show(T.single x bs).getB cs=_;rw[ih];simp
theorem wL(x:α)(t:T α): ∀bs cs:List Bool,(T.setB x t bs).getB cs=if bs=cs then some x else t.getB cs:=by
 induction t with
 |leaf=>intro bs cs;show(T.single x bs).getB cs=_;rw[BA];rfl
 |node l v r ihl ihr=>
  intro bs cs
  cases bs with
  |nil=>cases cs with
   |nil=>rfl
   |cons c cs=>cases c<;>simp[show T.setB x (.node l v r) []=.node l (some x) r from rfl,NM]
  |cons b bs=>
   cases b
   ·show(T.node l v (T.setB x r bs)).getB cs=_
    cases cs with
    |nil=>simp[Ib]
    |cons c cs=>cases c<;>simp[NM,ihr]
   ·show(T.node (T.setB x l bs) v r).getB cs=_
    cases cs with
    |nil=>simp[Ib]
    |cons c cs=>cases c<;>simp[NM,ihl]
theorem wK(t:T α): ∀bs cs:List Bool,(T.delB t bs).getB cs=if bs=cs then none else t.getB cs:=by
 induction t with
 |leaf=>intro bs cs;show(T.leaf:T α).getB cs=_;simp[Ha]
 |node l v r ihl ihr=>
  intro bs cs
  cases bs with
  |nil=>cases cs with
   |nil=>rfl
   |cons c cs=>cases c<;>simp[show T.delB (.node l v r) []=.node l none r from rfl,NM]
  |cons b bs=>
   cases b
   ·show(T.node l v (T.delB r bs)).getB cs=_
    cases cs with
    |nil=>simp[Ib]
    |cons c cs=>cases c<;>simp[NM,ihr]
   ·show(T.node (T.delB l bs) v r).getB cs=_
    cases cs with
    |nil=>simp[Ib]
    |cons c cs=>cases c<;>simp[NM,ihl]
end T
theorem Pa(f n:Nat):K3 (f+1) n=if n=0 then [] else if n % 2=1 then true::K3 f (n/2) else false::K3 f (n/2 - 1):=by
 show @Bool.rec (λ_=>List Bool) (@Bool.rec (λ_=>List Bool) (false::K3 f (n/2 - 1)) (true::K3 f (n/2)) (Nat.beq (n % 2) 1)) [] (Nat.beq n 0)=_
 by_cases h:n=0
 ·subst h;rfl
 ·rw[if_neg h]
  have h0:Nat.beq n 0=false:=by cases n with|zero=>exact absurd rfl h|succ n=>rfl
  rw[h0]
  by_cases h1:n % 2=1
  ·rw[if_pos h1,h1];rfl
  ·have:n % 2=0:=by omega
   rw[if_neg h1,this];rfl
theorem x7: ∀f n m,n<=f->m<=f->K3 f n=K3 f m->n=m:=by
 intro f
 induction f with
 |zero=>intro n m hn hm _;omega
 |succ f ih=>
  intro n m hn hm h
  rw[Pa,Pa] at h
  by_cases n0:n=0
  ·by_cases m0:m=0
   ·omega
   ·rw[if_pos n0,if_neg m0] at h
    split at h<;>cases h
  ·by_cases m0:m=0
   ·rw[if_neg n0,if_pos m0] at h
    split at h<;>cases h
   ·rw[if_neg n0,if_neg m0] at h
    by_cases n1:n % 2=1<;>by_cases m1:m % 2=1
    ·rw[if_pos n1,if_pos m1] at h
     have:=ih (n/2) (m/2) (by omega) (by omega) (List.cons.inj h).2
     omega
    ·rw[if_pos n1,if_neg m1] at h;simp at h
    ·rw[if_neg n1,if_pos m1] at h;simp at h
    ·rw[if_neg n1,if_neg m1] at h
     have:=ih (n/2 - 1) (m/2 - 1) (by omega) (by omega) (List.cons.inj h).2
     omega
theorem MW: ∀f n g,n<=f->f<=g->K3 g n=K3 f n:=by
 intro f
 induction f with
 |zero=>
  intro n g hn _
  have:n=0:=by omega
  subst this
  cases g with
  |zero=>rfl
  |succ g=>rw[Pa];rfl
 |succ f ih=>
  intro n g hn hg
  obtain⟨g,rfl⟩: ∃g',g=g'+1:=⟨g - 1,by omega⟩
  rw[Pa,Pa]
  by_cases n0:n=0
  ·rw[if_pos n0,if_pos n0]
  ·rw[if_neg n0,if_neg n0]
   by_cases n1:n % 2=1
   ·rw[if_pos n1,if_pos n1,ih (n/2) g (by omega) (by omega)]
   ·rw[if_neg n1,if_neg n1,ih (n/2 - 1) g (by omega) (by omega)]
theorem Bm{n m:Nat}(h:bits n=bits m):n=m:=by
 unfold bits at h
 rw[<-MW n n (n+m) (Z2 _) (by omega),<-MW m m (n+m) (Z2 _) (by omega)] at h
 exact x7 (n+m) n m (by omega) (by omega) h
namespace T
variable {α:Type}
theorem get_set(t:T α)(n m:Nat)(x:α):(t.set n x).get m=if n=m then some x else t.get m:=by
 unfold get set
 rw[wL]
 by_cases h:n=m
 ·subst h;simp
 ·rw[if_neg h,if_neg (λe=>h (Bm e))]
theorem get_del(t:T α)(n m:Nat):(t.del n).get m=if n=m then none else t.get m:=by
 unfold get del
 rw[wK]
 by_cases h:n=m
 ·subst h;simp
 ·rw[if_neg h,if_neg (λe=>h (Bm e))]
theorem get_leaf(n:Nat):(T.leaf:T α).get n=none:=rfl
end T
structure Loc where
 blk:Nat
 base:Nat
 tot:Nat
 sz:Nat
abbrev Mp:=Nat->Option Loc
mutual
def Y2(σ:Mp):AV->Value->Prop
 |.unk,_=>True
 |.bool b,v=>v=.bool b
 |.int k n,v=>v=.int k n
 |.str s,v=>v=.string ⟨s.toArray⟩
 |.nilp,v=>v=.pointer none
 |.ptr b o,v=> ∃l,σ b=some l∧v=.pointer (some ⟨l.blk,l.base+o,none⟩)
 |.nils,v=>v=.slice none 0 0
 |.slice b o n cap,v=> ∃l,σ b=some l∧v=.slice (some ⟨l.blk,l.base+o,none⟩) n (cap.getD (l.tot - o/l.sz))
 |.slice0,v=> ∃a,v=.slice (some a) 0 0
 |.nilm,v=>v=.map none
 |.map b,v=> ∃l,σ b=some l∧v=.map (some l.blk)
 |.func f a b,v=> ∃x y,XG σ a x∧XG σ b y∧v=.func (.func f) ⟨x⟩ ⟨y⟩
 |.meth n r,v=> ∃x,Y2 σ r x∧v=.func (.method n) #[x] #[]
 |.yield b,v=> ∃l,σ b=some l∧v=.func (.yield l.blk) #[] #[]
 |.nilf,v=>v=.nilFunc
 |.iface t x,v=> ∃y,Y2 σ x y∧v=.iface t y
 |.nili,v=>v=.nilIface
 |.agg cs,v=> ∃vs,XG σ cs vs∧(∀x∈vs,x.oneCell'=true)∧v=.agg ⟨vs⟩
 |.tup cs,v=> ∃vs,XG σ cs vs∧v=.tuple ⟨vs⟩
def XG(σ:Mp):List AV->List Value->Prop
 |[],l=>l=[]
 |a::as,l=> ∃v vs,Y2 σ a v∧XG σ as vs∧l=v::vs
end
def Ext(σ σ':Mp):Prop:= ∀b l,σ b=some l->σ' b=some l
theorem Ext.refl(σ:Mp):Ext σ σ:=λ_ _ h=>h
theorem Ext.trans{σ σ' σ'':Mp}(h:Ext σ σ')(h':Ext σ' σ''):Ext σ σ'':=λb l x=>h' b l (h b l x)
mutual
theorem Y2.mono{σ σ':Mp}(h:Ext σ σ'): ∀{a:AV} {v:Value},Y2 σ a v->Y2 σ' a v
 |.unk,_,_=>by simp[Y2]
 |.bool b,v,r=>by simpa [Y2] using r
 |.int k n,v,r=>by simpa [Y2] using r
 |.str s,v,r=>by simpa [Y2] using r
 |.nilp,v,r=>by simpa [Y2] using r
 |.ptr b o,v,r=>by
  simp only[Y2] at r ⊢
  obtain⟨l,hl,hv⟩:=r
  exact⟨l,h _ _ hl,hv⟩
 |.nils,v,r=>by simpa [Y2] using r
 |.slice0,v,r=>by simpa [Y2] using r
 |.slice b o n cap,v,r=>by
  simp only[Y2] at r ⊢
  obtain⟨l,hl,hv⟩:=r
  exact⟨l,h _ _ hl,hv⟩
 |.nilm,v,r=>by simpa [Y2] using r
 |.map b,v,r=>by
  simp only[Y2] at r ⊢
  obtain⟨l,hl,hv⟩:=r
  exact⟨l,h _ _ hl,hv⟩
 |.func f a b,v,r=>by
  simp only[Y2] at r ⊢
  obtain⟨x,y,hx,hy,hv⟩:=r
  exact⟨x,y,XG.mono h hx,XG.mono h hy,hv⟩
 |.meth n a,v,r=>by
  simp only[Y2] at r ⊢
  obtain⟨x,hx,hv⟩:=r
  exact⟨x,Y2.mono h hx,hv⟩
 |.yield b,v,r=>by
  simp only[Y2] at r ⊢
  obtain⟨l,hl,hv⟩:=r
  exact⟨l,h _ _ hl,hv⟩
 |.nilf,v,r=>by simpa [Y2] using r
 |.iface t x,v,r=>by
  simp only[Y2] at r ⊢
  obtain⟨y,hy,hv⟩:=r
  exact⟨y,Y2.mono h hy,hv⟩
 |.nili,v,r=>by simpa [Y2] using r
 |.agg cs,v,r=>by
  simp only[Y2] at r ⊢
  obtain⟨vs,hx,h1,hv⟩:=r
  exact⟨vs,XG.mono h hx,h1,hv⟩
 |.tup cs,v,r=>by
  simp only[Y2] at r ⊢
  obtain⟨vs,hx,hv⟩:=r
  exact⟨vs,XG.mono h hx,hv⟩
theorem XG.mono{σ σ':Mp}(h:Ext σ σ'): ∀{a:List AV} {v:List Value},XG σ a v->XG σ' a v
 |[],v,r=>by simpa [XG] using r
 |a::as,v,r=>by
  simp only[XG] at r ⊢
  obtain⟨x,xs,hx,hxs,hv⟩:=r
  exact⟨x,xs,Y2.mono h hx,XG.mono h hxs,hv⟩
end
theorem XK{α:Type}(l:List α):XX l=l.length:=by
 induction l with
 |nil=>rfl
 |cons a l ih=>show Nat.succ (XX l)=_;rw[ih];rfl
theorem MQ: ∀(n:Nat) (l:List AV),NA n l=l.take n
 |0,_=>by simp[NA]
 |n+1,[]=>by simp[NA]
 |n+1,v::l=>by simp[NA,MQ n l]
theorem MF: ∀(n:Nat) (l:List AV),OU n l=l.drop n
 |0,_=>by simp[OU]
 |n+1,[]=>by simp[OU]
 |n+1,v::l=>by simp[OU,MF n l]
theorem KD: ∀(n:Nat) (l:List UInt8),Jj n l=l.take n
 |0,_=>by simp[Jj]
 |n+1,[]=>by simp[Jj]
 |n+1,v::l=>by simp[Jj,KD n l]
theorem G8: ∀(n:Nat) (l:List UInt8),J5 n l=l.drop n
 |0,_=>by simp[J5]
 |n+1,[]=>by simp[J5]
 |n+1,v::l=>by simp[J5,G8 n l]
theorem It: ∀(l:List AV) (n:Nat),FG l n=l[n]?
 |[],_=>by simp[FG]
 |v::_,0=>by simp[FG]
 |_::l,n+1=>by simp[FG,It l n]
theorem CS: ∀(l:List UInt8) (n:Nat),B1 l n=l[n]?
 |[],_=>by simp[B1]
 |v::_,0=>by simp[B1]
 |_::l,n+1=>by simp[B1,CS l n]
section
variable {σ:Mp}
theorem U8:XG σ [] []:=by simp[XG]
theorem VA{a:AV}{as:List AV}{v:Value}{vs:List Value}(h:Y2 σ a v)(h':XG σ as vs):XG σ (a::as) (v::vs):=by
 simp only[XG];exact⟨v,vs,h,h',rfl⟩
theorem Tl{a:AV}{v:Value}(h:Y2 σ a v):XG σ [a] [v]:=VA h U8
theorem XG.nil_inv{l:List Value}(h:XG σ [] l):l=[]:=by simpa [XG] using h
theorem XG.cons_inv{a:AV}{as:List AV}{l:List Value}(h:XG σ (a::as) l): ∃v vs,Y2 σ a v∧XG σ as vs∧l=v::vs:=by simpa [XG] using h
theorem XG.length: ∀{as:List AV} {vs:List Value},XG σ as vs->as.length=vs.length
 |[],vs,h=>by rw[h.nil_inv];rfl
 |a::as,vs,h=>by
  obtain⟨v,vs,_,h',rfl⟩:=h.cons_inv
  simp[XG.length h']
theorem XG.append: ∀{as bs:List AV} {vs us:List Value},XG σ as vs->XG σ bs us->XG σ (as++bs) (vs++us)
 |[],bs,vs,us,h,h'=>by rw[h.nil_inv];exact h'
 |a::as,bs,vs,us,h,h'=>by
  obtain⟨v,vs,h1,h2,rfl⟩:=h.cons_inv
  exact VA h1 (XG.append h2 h')
theorem XG.get: ∀{as:List AV} {vs:List Value} {i:Nat} {a:AV},XG σ as vs->as[i]? =some a-> ∃v,vs[i]? =some v∧Y2 σ a v
 |[],vs,i,a,h,e=>by simp at e
 |x::as,vs,i,a,h,e=>by
  obtain⟨v,vs,h1,h2,rfl⟩:=h.cons_inv
  cases i with
  |zero=>simp at e;subst e;exact⟨v,rfl,h1⟩
  |succ i=>simp at e;obtain⟨u,hu,hr⟩:=XG.get h2 e;exact⟨u,by simpa using hu,hr⟩
theorem XG.take: ∀{as:List AV} {vs:List Value} (n:Nat),XG σ as vs->XG σ (as.take n) (vs.take n)
 |[],vs,n,h=>by rw[h.nil_inv];simpa using U8
 |a::as,vs,0,h=>by simpa using U8
 |a::as,vs,n+1,h=>by
  obtain⟨v,vs,h1,h2,rfl⟩:=h.cons_inv
  simpa using VA h1 (XG.take n h2)
theorem XG.drop: ∀{as:List AV} {vs:List Value} (n:Nat),XG σ as vs->XG σ (as.drop n) (vs.drop n)
 |[],vs,n,h=>by rw[h.nil_inv];simpa using U8
 |a::as,vs,0,h=>by simpa using h
 |a::as,vs,n+1,h=>by
  obtain⟨v,vs,h1,h2,rfl⟩:=h.cons_inv
  simpa using XG.drop n h2
theorem XG.of_get: ∀{as:List AV} {vs:List Value},as.length=vs.length->(∀(i:Nat) (a:AV) (v:Value),as[i]? =some a->vs[i]? =some v->Y2 σ a v)->XG σ as vs
 |[],[],_,_=>U8
 |[],_::_,h,_=>by simp at h
 |_::_,[],h,_=>by simp at h
 |a::as,v::vs,h,g=>VA (g 0 a v rfl rfl) (XG.of_get (by simpa using h) λi x y hx hy=>g (i+1) x y (by simpa using hx) (by simpa using hy))
theorem Qs{a:AV}{v:Value}(h:Y2 σ a v)(h1:v.oneCell'=true):XG σ [a] [v]∧ ∀x∈[v],x.oneCell'=true:=⟨Tl h,by simpa using h1⟩
theorem Y2.cells{a:AV}{v:Value}(h:Y2 σ a v)(h1:1<=a.cells.length):XG σ a.cells v.cells.toList∧ ∀x∈v.cells.toList,x.oneCell'=true:=by
 cases a<;>simp only[AV.cells,Zu] at h1 ⊢ <;>first
  |omega
  |(simp only[Y2] at h;subst h;exact Qs (by simp[Y2]) rfl)
  |skip
 case ptr b o=>obtain⟨l,hl,rfl⟩:=(by simpa only[Y2] using h);exact Qs (by simp only[Y2];exact⟨l,hl,rfl⟩) rfl
 case slice b o n c=>obtain⟨l,hl,rfl⟩:=(by simpa only[Y2] using h);exact Qs (by simp only[Y2];exact⟨l,hl,rfl⟩) rfl
 case slice0=>have h0:=h;obtain⟨l,rfl⟩:=(by simpa only[Y2] using h);exact Qs h0 rfl
 case map b=>obtain⟨l,hl,rfl⟩:=(by simpa only[Y2] using h);exact Qs (by simp only[Y2];exact⟨l,hl,rfl⟩) rfl
 case func f x y=>have h0:=h;obtain⟨p,q,hp,hq,rfl⟩:=(by simpa only[Y2] using h);exact Qs h0 rfl
 case meth n x=>have h0:=h;obtain⟨p,hp,rfl⟩:=(by simpa only[Y2] using h);exact Qs h0 rfl
 case yield b=>have h0:=h;obtain⟨p,hp,rfl⟩:=(by simpa only[Y2] using h);exact Qs h0 rfl
 case iface t x=>have h0:=h;obtain⟨p,hp,rfl⟩:=(by simpa only[Y2] using h);exact Qs h0 rfl
 case agg cs=>obtain⟨vs,hvs,h2,rfl⟩:=(by simpa only[Y2] using h);exact⟨hvs,h2⟩
end
def Mr(σ:Mp)(a:RP)(e:MapEntry):Prop:=Y2 σ a.key e.key∧Y2 σ a.val e.val∧a.born=e.born
def Xf(σ:Mp):List RP->List MapEntry->Prop
 |[],l=>l=[]
 |a::as,l=> ∃e es,Mr σ a e∧Xf σ as es∧l=e::es
noncomputable def LG(a b:AV):Bool:=match a,b with
 |.str a,.str b=>!KB a b
 |.int j a,.int k b=>MU j k&&!Eu a b
 |_,_=>false
def Rh(e:RP):AV×AV:=(e.key,e.val)
def D3(a b:RP):Prop:=LG a.key b.key=true∧LG b.key a.key=true
def I0(es:List RP)(clock:Nat):Prop:=es.Pairwise (λa b=>a.born<b.born)∧ ∀e∈es,e.born<clock
structure Q6(σ:Mp)(r:Row)(l:Loc)(cs:Array Value)(fr:Nat×Nat):Prop where
 sz:l.sz=r.sz
 sz1:1<=l.sz
 fits:r.size<=l.tot*l.sz
 room:l.base+l.tot*l.sz<=cs.size
 exact:r.exact=true->r.size=l.tot*l.sz∧l.base=0∧cs.size=r.size
 cell: ∀i,i<r.size-> ∃v,cs[l.base+i]? =some v∧Y2 σ (r.get i) v
 one: ∀(i:Nat) (v:Value),i<r.size->cs[l.base+i]? =some v->v.oneCell'=true
 frz:r.own=true-> ∀i,r.fz<=i->i<l.tot*l.sz-> ¬(fr.1<=l.base+i∧l.base+i<fr.2)
 frs:r.own=true->r.sm=false->fr.1=fr.2∨(1<=r.fz∧fr.2<=l.base+r.fz)
def TN(σ:Mp)(o:Obj)(l:Loc)(c:Go.Obj):Prop:=match o with
 |.row r=> ∃cs fr,c=.cells cs r.elem fr∧Q6 σ r l cs fr
 |.map es clock=> ∃ents,c=.map ents clock∧Xf σ es ents.toList∧I0 es clock
 |.siter s pos=>c=.stringIter ⟨s.toArray⟩ pos∧l.base=0
 |.miter m since cur=> ∃seen st,c=.mapIter (m.bind λb=>(σ b).map (·.blk)) since seen st∧(∀b,m=some b->(σ b).isSome=true)∧l.base=0∧
   match cur with
   |none=>seen= #[]∧st=since
   |some (n,t)=>seen.back? =some n∧st=t
 |.loop=> ∃lp,c=.loop lp
 |.cmap es=> ∃ents clock fs,c=.map ents clock∧Xf σ fs ents.toList∧(fs.map Rh).Perm (es.map Rh)∧es.Pairwise D3
def Lw(o:Obj):Prop:= ∃r,o=.row r∧r.own=false
theorem Lw.not_own{o:Obj}(h:Lw o)(hw: ∀r,o=.row r->r.own=true):False:=by
 obtain⟨r,rfl,e⟩:=h
 rw[hw r rfl] at e;cases e
structure VP(P:Program)(σ:Mp)(H:Heap)(w:World):Prop where
 dom: ∀b l,σ b=some l->b<H.nx
 low: ∀b o,H.t.get b=some o->b<H.nx
 alive: ∀b o l,H.t.get b=some o->σ b=some l-> ∃c,w.heap[l.blk]? =some c∧TN σ o l c
 inj: ∀b b' o o' l l',H.t.get b=some o->H.t.get b'=some o'->σ b=some l->σ b'=some l'->l.blk=l'.blk->b=b'∨(Lw o∧Lw o')
 glob: ∀g,g<P.globals.size-> ∃l,σ g=some l∧l.blk=g∧l.base=0
 ro:H.ro<=H.nx
def Wr(H:Heap)(b:Nat):Prop:=H.ro<=b∧ ∃o,H.t.get b=some o∧(∀r,o=.row r->r.own=true)∧o≠.loop
theorem Wr.hard{H:Heap}{b:Nat}{o:Obj}(h:Wr H b)(ho:H.t.get b=some o)(hs:Lw o):False:=by
 obtain⟨_,o',ho',hw,_⟩:=h
 rw[ho] at ho';cases ho'
 exact hs.not_own hw
theorem VP.alone{P:Program}{σ:Mp}{H:Heap}{w:World}(h:VP P σ H w){b b':Nat}{o o':Obj}{l l':Loc}(hb:H.t.get b=some o)(hb':H.t.get b'=some o')(hl:σ b=some l)(hl':σ b'=some l')(e:l.blk=l'.blk)(hs: ¬(Lw o∧Lw o')):b=b':=
 (h.inj b b' o o' l l' hb hb' hl hl' e).resolve_right hs
structure Tr(P:Program)(σ:Mp)(H:Heap)(w:World)(σ':Mp)(H':Heap)(w':World):Prop where
 ext:Ext σ σ'
 sim:VP P σ' H' w'
 size:w.heap.size<=w'.heap.size
 frame: ∀k,k<w.heap.size->(∀b l,Wr H b->σ b=some l->l.blk≠k)->w'.heap[k]? =w.heap[k]?
 wr: ∀b l,Wr H' b->σ' b=some l->l.blk<w.heap.size-> ∃b0 l0,Wr H b0∧σ b0=some l0∧l0.blk=l.blk
 nx:H.nx<=H'.nx
 ro:H'.ro=H.ro
 low: ∀b,b<H.ro->H'.t.get b=H.t.get b
 tape:w'.tape=w.tape
 os:w'.os=w.os
 out:w'.output=w.output
 pend: ∀b,b<H.nx->σ b=none->H'.t.get b=H.t.get b∧σ' b=none
theorem Tr.refl{P:Program}{σ:Mp}{H:Heap}{w:World}(h:VP P σ H w):Tr P σ H w σ H w:=
 ⟨Ext.refl σ,h,Z2 _,λ_ _ _=>rfl,λb l hw hl _=>⟨b,l,hw,hl,rfl⟩,Z2 _,rfl,λ_ _=>rfl,rfl,rfl,rfl,λ_ _ h=>⟨rfl,h⟩⟩
theorem Tr.trans{P:Program}{σ σ' σ'':Mp}{H H' H'':Heap}{w w' w'':World}(h:Tr P σ H w σ' H' w')(h':Tr P σ' H' w' σ'' H'' w''):
  Tr P σ H w σ'' H'' w'':=by
 refine⟨h.ext.trans h'.ext,h'.sim,YZ h.size h'.size,?_,?_,YZ h.nx h'.nx,h'.ro.trans h.ro,?_,h'.tape.trans h.tape,h'.os.trans h.os,h'.out.trans h.out,?_⟩
 ·intro k hk hn
  rw[h'.frame k (YV hk h.size) ?_,h.frame k hk hn]
  intro b l hw hl e
  obtain⟨b0,l0,hw0,hl0,e0⟩:=h.wr b l hw hl (by rw[e];exact hk)
  exact hn b0 l0 hw0 hl0 (e0.trans e)
 ·intro b l hw hl hlt
  obtain⟨b1,l1,hw1,hl1,e1⟩:=h'.wr b l hw hl (YV hlt h.size)
  obtain⟨b0,l0,hw0,hl0,e0⟩:=h.wr b1 l1 hw1 hl1 (by rw[e1];exact hlt)
  exact⟨b0,l0,hw0,hl0,e0.trans e1⟩
 ·intro b hb
  rw[h'.low b (by rw[h.ro];exact hb),h.low b hb]
 ·intro b hb hn
  obtain⟨h1,h2⟩:=h.pend b hb hn
  obtain⟨h3,h4⟩:=h'.pend b (YV hb h.nx) h2
  exact⟨h3.trans h1,h4⟩
theorem Mr.mono{σ σ':Mp}(h:Ext σ σ'){a:RP}{e:MapEntry}(r:Mr σ a e):Mr σ' a e:=⟨r.1.mono h,r.2.1.mono h,r.2.2⟩
theorem Xf.mono{σ σ':Mp}(h:Ext σ σ'): ∀{as:List RP} {es:List MapEntry},Xf σ as es->Xf σ' as es
 |[],es,r=>by simpa [Xf] using r
 |a::as,es,r=>by
  simp only[Xf] at r ⊢
  obtain⟨e,es',h1,h2,h3⟩:=r
  exact⟨e,es',h1.mono h,Xf.mono h h2,h3⟩
theorem Q6.mono{σ σ':Mp}(h:Ext σ σ'){r:Row}{l:Loc}{cs:Array Value}{fr:Nat×Nat}(x:Q6 σ r l cs fr):Q6 σ' r l cs fr:=
 ⟨x.sz,x.sz1,x.fits,x.room,x.exact,λi hi=>let ⟨v,hv,hr⟩:=x.cell i hi;⟨v,hv,hr.mono h⟩,x.one,x.frz,x.frs⟩
theorem TN.mono{σ σ':Mp}(h:Ext σ σ'){o:Obj}{l:Loc}{c:Go.Obj}(x:TN σ o l c):TN σ' o l c:=by
 cases o with
 |row r=>obtain⟨cs,fr,e,x⟩:=x;exact⟨cs,fr,e,x.mono h⟩
 |map es clock=>obtain⟨ents,e,x,y⟩:=x;exact⟨ents,e,x.mono h,y⟩
 |cmap es=>obtain⟨ents,cl,fs,e,x,y⟩:=x;exact⟨ents,cl,fs,e,x.mono h,y⟩
 |siter s pos=>exact x
 |miter m since cur=>
  obtain⟨seen,st,e,hm,y⟩:=x
  refine⟨seen,st,?_,?_,y⟩
  ·rw[e]
   cases m with
   |none=>rfl
   |some b=>
    have:=hm b rfl
    cases hb:σ b with
    |none=>rw[hb] at this;cases this
    |some l=>simp[hb,h b l hb]
  ·intro b hb
   have:=hm b hb
   cases hs:σ b with
   |none=>rw[hs] at this;cases this
   |some l=>rw[h b l hs];rfl
 |loop=>exact x
def Mp.put(σ:Mp)(b:Nat)(l:Loc):Mp:=λc=>if c=b then some l else σ c
theorem Mp.put_same(σ:Mp)(b:Nat)(l:Loc):σ.put b l b=some l:=by simp[Mp.put]
theorem Mp.put_ext{σ:Mp}{b:Nat}(l:Loc)(h:σ b=none):Ext σ (σ.put b l):=by
 intro c m hc
 unfold Mp.put
 by_cases e:c=b
 ·subst e;rw[h] at hc;cases hc
 ·rw[if_neg e];exact hc
theorem VP.fresh{P:Program}{σ:Mp}{H:Heap}{w:World}(h:VP P σ H w){b:Nat}(hb:H.nx<=b):σ b=none:=by
 cases e:σ b with
 |none=>rfl
 |some l=>have:=h.dom b l e;omega
theorem VP.get_lt{P:Program}{σ:Mp}{H:Heap}{w:World}(h:VP P σ H w){b:Nat}{o:Obj}(hb:H.t.get b=some o):b<H.nx:=by
 exact h.low b o hb
theorem VP.blk_lt{P:Program}{σ:Mp}{H:Heap}{w:World}(h:VP P σ H w){b:Nat}{o:Obj}{l:Loc}(hb:H.t.get b=some o)(hl:σ b=some l):l.blk<w.heap.size:=by
 obtain⟨c,hc,_⟩:=h.alive b o l hb hl
 exact(Yy.1 hc).1
theorem Heap.get_new(H:Heap)(o:Obj)(b:Nat):(H.new o).t.get b=if H.nx=b then some o else H.t.get b:=T.get_set _ _ _ _
theorem Heap.nx_new(H:Heap)(o:Obj):(H.new o).nx=H.nx+1:=rfl
theorem Heap.ro_new(H:Heap)(o:Obj):(H.new o).ro=H.ro:=rfl
theorem Heap.get_put(H:Heap)(c:Nat)(o:Obj)(b:Nat):(H.put c o).t.get b=if c=b then some o else H.t.get b:=T.get_set _ _ _ _
theorem RE{w:World}{o:Go.Obj}{k:Nat}(h:k<w.heap.size):(w.alloc o).heap[k]? =w.heap[k]? :=heap_alloc_old w o k h
theorem RC(w:World)(o:Go.Obj):(w.alloc o).heap[w.heap.size]? =some o:=heap_alloc_new w o
theorem Tr.alloc{P:Program}{σ:Mp}{H:Heap}{w:World}(h:VP P σ H w)(o:Obj)(c:Go.Obj)(l:Loc)(hl:l.blk=w.heap.size)
  (ho:TN (σ.put H.nx l) o l c):Tr P σ H w (σ.put H.nx l) (H.new o) (w.alloc c):=by
 have hf:σ H.nx=none:=h.fresh (Z2 _)
 have he:=Mp.put_ext l hf
 refine⟨he,⟨?_,?_,?_,?_,?_,?_⟩,by simp,?_,?_,by simp[Heap.nx_new],rfl,?_,rfl,rfl,rfl,λb hb hn=>⟨by rw[Heap.get_new,if_neg (by omega)],by unfold Mp.put;rw[if_neg (by omega)];exact hn⟩⟩
 ·intro b m hb
  rw[Heap.nx_new]
  unfold Mp.put at hb
  by_cases e:b=H.nx
  ·omega
  ·rw[if_neg e] at hb;have:=h.dom b m hb;omega
 ·intro b o' hb
  rw[Heap.get_new] at hb
  rw[Heap.nx_new]
  by_cases e:H.nx=b
  ·omega
  ·rw[if_neg e] at hb;have:=h.low b o' hb;omega
 ·intro b o' l' hb hl'
  rw[Heap.get_new] at hb
  by_cases e:H.nx=b
  ·rw[if_pos e] at hb;cases hb;subst e
   rw[Mp.put_same] at hl';cases hl'
   exact⟨c,by rw[hl];exact RC w c,ho⟩
  ·rw[if_neg e] at hb
   have hl2:σ b=some l':=by unfold Mp.put at hl';rwa [if_neg (λx=>e x.symm)] at hl'
   obtain⟨c',hc',hr⟩:=h.alive b o' l' hb hl2
   exact⟨c',by rw[RE (Yy.1 hc').1];exact hc',hr.mono he⟩
 ·intro b b' o1 o2 l1 l2 hb hb' hl1 hl2 e
  rw[Heap.get_new] at hb hb'
  by_cases e1:H.nx=b<;>by_cases e2:H.nx=b'
  ·omega
  ·rw[if_neg e2] at hb'
   subst e1
   rw[Mp.put_same] at hl1;cases hl1
   have kN:σ b'=some l2:=by unfold Mp.put at hl2;rwa [if_neg (λx=>e2 x.symm)] at hl2
   have:=h.blk_lt hb' kN
   omega
  ·rw[if_neg e1] at hb
   subst e2
   rw[Mp.put_same] at hl2;cases hl2
   have kM:σ b=some l1:=by unfold Mp.put at hl1;rwa [if_neg (λx=>e1 x.symm)] at hl1
   have:=h.blk_lt hb kM
   omega
  ·rw[if_neg e1] at hb;rw[if_neg e2] at hb'
   have kM:σ b=some l1:=by unfold Mp.put at hl1;rwa [if_neg (λx=>e1 x.symm)] at hl1
   have kN:σ b'=some l2:=by unfold Mp.put at hl2;rwa [if_neg (λx=>e2 x.symm)] at hl2
   exact h.inj b b' o1 o2 l1 l2 hb hb' kM kN e
 ·intro g hg
  obtain⟨l',h1,h2⟩:=h.glob g hg
  exact⟨l',he g l' h1,h2⟩
 ·rw[Heap.ro_new,Heap.nx_new];have:=h.ro;omega
 ·intro k hk _
  exact RE hk
 ·intro b l' hw hl' hlt
  obtain⟨hro,o',ho',hown⟩:=hw
  rw[Heap.get_new] at ho'
  by_cases e:H.nx=b
  ·subst e
   rw[Mp.put_same] at hl';cases hl'
   omega
  ·rw[if_neg e] at ho'
   have hl2:σ b=some l':=by unfold Mp.put at hl';rwa [if_neg (λx=>e x.symm)] at hl'
   exact⟨b,l',⟨hro,o',ho',hown⟩,hl2,rfl⟩
 ·intro b hb
  rw[Heap.get_new,if_neg]
  have:=h.ro;omega
theorem Tr.write{P:Program}{σ:Mp}{H:Heap}{w w':World}(h:VP P σ H w){b:Nat}{o o':Obj}{l:Loc}{c':Go.Obj}
  (hb:H.t.get b=some o)(hl:σ b=some l)(hw:Wr H b)
  (hsize:w'.heap.size=w.heap.size)(hnew:w'.heap[l.blk]? =some c')(hold: ∀k,k≠l.blk->w'.heap[k]? =w.heap[k]?)
  (ho:TN σ o' l c')(ht:w'.tape=w.tape)(hos:w'.os=w.os)(hout:w'.output=w.output):Tr P σ H w σ (H.put b o') w':=by
 refine⟨Ext.refl σ,⟨h.dom,?_,?_,?_,h.glob,h.ro⟩,by omega,?_,?_,Z2 _,rfl,?_,ht,hos,hout,λb1 _ hn=>⟨by rw[Heap.get_put,if_neg (λe=>by subst e;rw[hl] at hn;cases hn)],hn⟩⟩
 ·intro b1 o1 hb1
  rw[Heap.get_put] at hb1
  by_cases e:b=b1
  ·subst e;exact h.low b o hb
  ·rw[if_neg e] at hb1;exact h.low b1 o1 hb1
 ·intro b1 o1 l1 hb1 hl1
  rw[Heap.get_put] at hb1
  by_cases e:b=b1
  ·rw[if_pos e] at hb1;cases hb1;subst e
   rw[hl] at hl1;cases hl1
   exact⟨c',hnew,ho⟩
  ·rw[if_neg e] at hb1
   obtain⟨c1,hc1,hr⟩:=h.alive b1 o1 l1 hb1 hl1
   refine⟨c1,?_,hr⟩
   rw[hold l1.blk ?_];exact hc1
   intro e2
   exact e (h.alone hb hb1 hl hl1 e2.symm λs=>hw.hard hb s.1)
 ·intro b1 b2 o1 o2 l1 l2 h1 h2 k1 k2 e
  have g: ∀(x:Nat) (ox:Obj),(H.put b o').t.get x=some ox-> ∃oy,H.t.get x=some oy:=by
   intro x ox hx
   rw[Heap.get_put] at hx
   by_cases ex:b=x
   ·subst ex;exact⟨o,hb⟩
   ·rw[if_neg ex] at hx;exact⟨ox,hx⟩
  obtain⟨o1',h1'⟩:=g b1 o1 h1
  obtain⟨o2',h2'⟩:=g b2 o2 h2
  rcases h.inj b1 b2 o1' o2' l1 l2 h1' h2' k1 k2 e with e1|⟨s1,s2⟩
  ·exact .inl e1
  ·rw[Heap.get_put] at h1 h2
   rw[if_neg (λx=>by subst x;exact hw.hard h1' s1)] at h1
   rw[if_neg (λx=>by subst x;exact hw.hard h2' s2)] at h2
   rw[h1] at h1';cases h1'
   rw[h2] at h2';cases h2'
   exact .inr ⟨s1,s2⟩
 ·intro k hk hn
  exact hold k λe=>hn b l hw hl e.symm
 ·intro b1 l1 hw1 hl1 hlt
  by_cases e:b=b1
  ·subst e;exact⟨b,l1,hw,hl1,rfl⟩
  ·obtain⟨hro,o1,ho1,hown⟩:=hw1
   rw[Heap.get_put,if_neg e] at ho1
   exact⟨b1,l1,⟨hro,o1,ho1,hown⟩,hl1,rfl⟩
 ·intro b1 hb1
  rw[Heap.get_put,if_neg]
  intro e;have:=hw.1;omega
namespace N8
variable {α:Type}
theorem proj_upd(i j:Nat)(hi:i<8)(hj:j<8)(f:α->α)(n:N8 α):proj i (upd j f n)=if i=j then f (proj i n) else proj i n:=by
 obtain⟨a,b,c,d,e,g,h,k⟩:=n
 match i,hi,j,hj with
 |0,_,0,_=>rfl|0,_,1,_=>rfl|0,_,2,_=>rfl|0,_,3,_=>rfl|0,_,4,_=>rfl|0,_,5,_=>rfl|0,_,6,_=>rfl|0,_,7,_=>rfl
 |1,_,0,_=>rfl|1,_,1,_=>rfl|1,_,2,_=>rfl|1,_,3,_=>rfl|1,_,4,_=>rfl|1,_,5,_=>rfl|1,_,6,_=>rfl|1,_,7,_=>rfl
 |2,_,0,_=>rfl|2,_,1,_=>rfl|2,_,2,_=>rfl|2,_,3,_=>rfl|2,_,4,_=>rfl|2,_,5,_=>rfl|2,_,6,_=>rfl|2,_,7,_=>rfl
 |3,_,0,_=>rfl|3,_,1,_=>rfl|3,_,2,_=>rfl|3,_,3,_=>rfl|3,_,4,_=>rfl|3,_,5,_=>rfl|3,_,6,_=>rfl|3,_,7,_=>rfl
 |4,_,0,_=>rfl|4,_,1,_=>rfl|4,_,2,_=>rfl|4,_,3,_=>rfl|4,_,4,_=>rfl|4,_,5,_=>rfl|4,_,6,_=>rfl|4,_,7,_=>rfl
 |5,_,0,_=>rfl|5,_,1,_=>rfl|5,_,2,_=>rfl|5,_,3,_=>rfl|5,_,4,_=>rfl|5,_,5,_=>rfl|5,_,6,_=>rfl|5,_,7,_=>rfl
 |6,_,0,_=>rfl|6,_,1,_=>rfl|6,_,2,_=>rfl|6,_,3,_=>rfl|6,_,4,_=>rfl|6,_,5,_=>rfl|6,_,6,_=>rfl|6,_,7,_=>rfl
 |7,_,0,_=>rfl|7,_,1,_=>rfl|7,_,2,_=>rfl|7,_,3,_=>rfl|7,_,4,_=>rfl|7,_,5,_=>rfl|7,_,6,_=>rfl|7,_,7,_=>rfl
theorem proj_all(i:Nat)(x:α):proj i (all x)=x:=by
 unfold proj
 split<;>rfl
end N8
theorem J9(n m:Nat)(hn:n<512)(hm:m<512)(tm:TM)(v:AV):Ru n (OK m tm v)=if n=m then v else Ru n tm:=by
 show N8.proj (n % 8) (N8.proj (n/8 % 8) (N8.proj (n/64) (N8.upd (m/64) (N8.upd (m/8 % 8) (N8.upd (m % 8) (λ_=>v))) tm)))=if n=m then v else N8.proj (n % 8) (N8.proj (n/8 % 8) (N8.proj (n/64) tm))
 rw[N8.proj_upd _ _ (by omega) (by omega)]
 by_cases h1:n/64=m/64
 ·rw[if_pos h1,N8.proj_upd _ _ (by omega) (by omega)]
  by_cases h2:n/8 % 8=m/8 % 8
  ·rw[if_pos h2,N8.proj_upd _ _ (by omega) (by omega)]
   by_cases h3:n % 8=m % 8
   ·rw[if_pos h3,if_pos (by omega)]
   ·rw[if_neg h3,if_neg (by omega)]
  ·rw[if_neg h2,if_neg (by omega)]
 ·rw[if_neg h1,if_neg (by omega)]
theorem y5(n:Nat):Ru n LA=.unk:=by
 show N8.proj (n % 8) (N8.proj (n/8 % 8) (N8.proj (n/64) LA))=_
 rw[show LA=N8.all u64 from rfl,N8.proj_all,show u64=N8.all u8 from rfl,N8.proj_all,show u8=N8.all AV.unk from rfl,N8.proj_all]
structure PA(σ:Mp)(N:Nat)(tm:TM)(t:Array Value):Prop where
 size:N<=t.size
 get: ∀n,n<512->Y2 σ (Ru n tm) (t.getD n undef)
theorem PA.mono{σ σ':Mp}{N:Nat}{tm:TM}{t:Array Value}(h:Ext σ σ')(x:PA σ N tm t):PA σ' N tm t:=⟨x.size,λn hn=>(x.get n hn).mono h⟩
theorem PA.set{σ:Mp}{N:Nat}{tm:TM}{t:Array Value}(x:PA σ N tm t){d:Nat}{a:AV}{v:Value}(hd:d<N)(h:Y2 σ a v):
  PA σ N (Vf (some d) tm a) (t.setIfInBounds d v):=by
 refine⟨by simpa using x.size,λn hn=>?_⟩
 have hs:=x.size
 by_cases h5:d<=511
 ·have hb:Nat.ble d 511=true:=Z1 h5
  have e:Vf (some d)=OK d:=by show cond (Nat.ble d 511) (OK d) d0=_;rw[hb];rfl
  rw[e,J9 n d hn (by omega)]
  by_cases e1:n=d
  ·subst e1
   rw[if_pos rfl]
   simp only[YF,XQ]
   have:n<t.size:=by omega
   simpa [this] using h
  ·rw[if_neg e1]
   simp only[YF,XQ]
   rw[if_neg (λz=>e1 z.symm)]
   have:=x.get n hn
   simpa only[YF] using this
 ·have hb:Nat.ble d 511=false:=by
   cases e:Nat.ble d 511 with
   |false=>rfl
   |true=>exact absurd (YE e) h5
  have e:Vf (some d)=d0:=by show cond (Nat.ble d 511) (OK d) d0=_;rw[hb];rfl
  rw[e]
  show Y2 σ (Ru n tm) _
  simp only[YF,XQ]
  rw[if_neg (by omega)]
  have:=x.get n hn
  simpa only[YF] using this
theorem Kn{σ:Mp}{f:Value->AV}: ∀(l:List Value),(∀v∈l,Y2 σ (f v) v)->XG σ (CV f l) l
 |[],_=>U8
 |v::l,h=>VA (h v (by simp)) (Kn l λu hu=>h u (by simp[hu]))
theorem z7(σ:Mp): ∀(n:Nat) (v:Value),Ld n v=true->Y2 σ (JH n v) v:=by
 intro n
 induction n with
 |zero=>intro v _;simp[JH,Y2]
 |succ n ih=>
  intro v hp
  unfold JH
  split
  ·simp[Y2]
  ·simp[Y2]
  ·rename_i s;simp only[Y2]
  ·simp[Y2]
  ·simp[Y2]
  ·simp[Y2]
  ·simp[Y2]
  ·simp only[Y2];exact⟨[],[],U8,U8,rfl⟩
  ·simp[Y2]
  ·rename_i t u;simp only[Y2];exact⟨u,ih u (by simpa [Ld] using hp),rfl⟩
  ·rename_i cs
   simp only[Ld,Xw,Xv] at hp
   simp only[Y2]
   exact⟨cs,Kn cs λv hv=>ih v (hp v hv).2,λv hv=>(by have:=(hp v hv).1;cases v<;>first|rfl|exact this),rfl⟩
  ·rename_i cs
   simp only[Ld,Xw] at hp
   simp only[Y2]
   exact⟨cs,Kn cs λv hv=>ih v (hp v hv),rfl⟩
  ·simp[Y2]
theorem NL{α:Type}(a:Nat)(f:Nat->α):RZ a f=f a:=by cases a<;>rfl
theorem E5{α:Type}(n:Int)(f:Int->α):Jv n f=f n:=by
 cases n with
 |ofNat a=>show RZ a (λa=>f (.ofNat a))=_;rw[NL]
 |negSucc a=>show RZ a (λa=>f (.negSucc a))=_;rw[NL]
theorem oH(a b:Int):w8 a b=a+b:=by cases a<;>cases b<;>rfl
theorem xo(a b:Int):Cv a b=a - b:=by
 cases a<;>cases b<;>try rfl
 rename_i x y
 show cond (Nat.ble y x) (Int.ofNat (x - y)) (Int.ofNat x - Int.ofNat y)=_
 cases h:Nat.ble y x with
 |false=>rfl
 |true=>have:=YE h;show Int.ofNat (x - y)=_;simp only[Xz];omega
theorem xk(a b:Int):s0 a b=a*b:=by cases a<;>cases b<;>rfl
theorem oI(a b:Int):kX a b=a.tdiv b:=by cases a<;>cases b<;>rfl
theorem oM(a b:Int):kY a b=a.tmod b:=by cases a<;>cases b<;>rfl
theorem Xx(a b:Nat):Nat.beq a b=decide (a=b):=by
 by_cases h:a=b
 ·subst h;simp
 ·rw[Zj h]
  cases e:Nat.beq a b with
  |false=>rfl
  |true=>exact absurd (Yt e) h
theorem X8(a b:Nat):Nat.ble a b=decide (a<=b):=by
 by_cases h:a<=b
 ·rw[Zr h];exact Z1 h
 ·rw[Zj h]
  cases e:Nat.ble a b with
  |false=>rfl
  |true=>exact absurd (YE e) h
theorem PP(a b:Int):Eu a b=(a==b):=by
 cases a<;>cases b
 ·rename_i x y;show Nat.beq x y=_;rw[Xx,Um];simp;omega
 ·rfl
 ·rfl
 ·rename_i x y;show Nat.beq x y=_;rw[Xx,Um];simp
theorem NW(a b:Int):Ct a b=decide (a<b):=by
 cases a<;>cases b
 ·rename_i x y;show Nat.ble (x+1) y=_;rw[X8,Um];simp;omega
 ·rename_i x y;show false=_;rw[Um];simp;omega
 ·rename_i x y;show true=_;rw[Um];simp;omega
 ·rename_i x y;show Nat.ble (y+1) x=_;rw[X8,Um];simp;omega
theorem ja(a b:IntKind):MU a b=decide (a=b):=by cases a<;>cases b<;>rfl
theorem R4{a b:IntKind}(h:MU a b=true):a=b:=by rw[ja] at h;exact ZB h
theorem IY(k:IntKind)(m:Nat)(n:Int)(hs:k.signed=false)(hm:(2^k.bits:Int)=m):DV k m n=k.wrap n:=by
 cases n with
 |negSucc a=>rfl
 |ofNat a=>
  show cond (Nat.ble m a) (Int.ofNat (a % m)) (Int.ofNat a)=_
  unfold IntKind.wrap
  simp only[hs,hm,PB,WO,if_false]
  rw[X8]
  by_cases h:m<=a
  ·rw[Zr h];simp
  ·rw[Zj h]
   show Int.ofNat a=_
   rw[Xz,Int.emod_eq_of_lt (by omega) (by omega)]
theorem IX(k:IntKind)(h:Nat)(n:Int)(hs:k.signed=true)(hm:(2^k.bits:Int)=2*h)(hh:(2^(k.bits - 1):Int)=h)(h0:0<h):AX k h n=k.wrap n:=by
 cases n with
 |ofNat a=>
  show cond (Nat.ble h a) (k.wrap (Int.ofNat a)) (Int.ofNat a)=_
  rw[X8]
  by_cases g:h<=a
  ·rw[Zr g];rfl
  ·rw[Zj g]
   show Int.ofNat a=_
   unfold IntKind.wrap
   simp only[hs,hm,hh,Ur]
   rw[Xz,Int.emod_eq_of_lt (by omega) (by omega),if_neg]
   simp;omega
 |negSucc a=>
  show cond (Nat.ble h a) (k.wrap (Int.negSucc a)) (Int.negSucc a)=_
  rw[X8]
  by_cases g:h<=a
  ·rw[Zr g];rfl
  ·rw[Zj g]
   show Int.negSucc a=_
   unfold IntKind.wrap
   simp only[hs,hm,hh,Ur]
   have e:(Int.negSucc a) % (2*(h:Int))=Int.negSucc a+2*h:=by
    have:=Int.add_mul_emod_self_left (Int.negSucc a) (2*(h:Int)) 1
    rw[<-this,Int.mul_one,Int.emod_eq_of_lt (by omega) (by omega)]
   rw[e,if_pos]
   ·omega
   ·simp;omega
theorem MT(k:IntKind)(n:Int):lY k n=k.wrap n:=by
 cases k
 ·exact IX .i8 128 n rfl (by decide) (by decide) (by decide)
 ·exact IX .i16 32768 n rfl (by decide) (by decide) (by decide)
 ·exact IX .i32 2147483648 n rfl (by decide) (by decide) (by decide)
 ·exact IX .i64 9223372036854775808 n rfl (by decide) (by decide) (by decide)
 ·exact IY .u8 256 n rfl (by decide)
 ·exact IY .u16 65536 n rfl (by decide)
 ·exact IY .u32 4294967296 n rfl (by decide)
 ·exact IY .u64 18446744073709551616 n rfl (by decide)
theorem FD(k:IntKind):O7 k=2^k.bits:=by cases k<;>rfl
theorem tC(k:IntKind):yW k=k.bits:=by cases k<;>rfl
theorem I4(k:IntKind)(n:Int):Ms (O7 k) n=(BitVec.ofInt k.bits n).toNat:=by
 rw[BitVec.toNat_ofInt,FD]
 have hp:0<2^k.bits:=Nat.two_pow_pos _
 generalize 2^k.bits=m at*
 cases n with
 |ofNat a=>
  show a % m=_
  simp only[Xz]
  norm_cast
 |negSucc a=>
  show(m - 1) - a % m=_
  have h:(Int.negSucc a) % (m:Int)=((m - 1 - a % m:Nat):Int):=by
   rw[Int.negSucc_emod _ (by omega)]
   have:=Rk a hp
   omega
  rw[h];simp
theorem Bj(k:IntKind)(a b:Int):Nat.land (BitVec.ofInt k.bits a).toNat ((2^k.bits - 1) - (BitVec.ofInt k.bits b).toNat)=(BitVec.ofInt k.bits a&&& ~~~ (BitVec.ofInt k.bits b)).toNat:=by
 rw[BitVec.toNat_and,BitVec.toNat_not];rfl
theorem BK(P:Program)(w:World)(op:BinOp)(f:Nat->Nat->Nat->Nat)(hop:(op=.and∧f=So)∨(op=.or∧f=QQ)∨(op=.xor∧f=AZ)∨(op=.andNot∧f=KG))(k:IntKind)(a b:Int):
  (Op.intBits op k a b).run P w=.ok (.int k (k.wrap (Int.ofNat (f (O7 k) (Ms (O7 k) a) (Ms (O7 k) b))))) w:=by
 rw[I4,I4]
 rcases hop with⟨rfl,rfl⟩|⟨rfl,rfl⟩|⟨rfl,rfl⟩|⟨rfl,rfl⟩
 ·simp[Op.intBits,So]
 ·simp[Op.intBits,QQ]
 ·simp[Op.intBits,AZ]
 ·unfold KG;rw[FD]
  have:=Bj k a b
  simp only[Op.intBits]
  rw[show(Nat.land (BitVec.ofInt k.bits a).toNat (Nat.sub (Nat.sub (2^k.bits) 1) (BitVec.ofInt k.bits b).toNat))=_ from this]
  rfl
theorem pi(P:Program)(w:World)(k:IntKind)(a:Int):
  (Op.intBits .xor k (if k.signed then -1 else k.max) a).run P w=.ok (.int k (k.wrap (Int.ofNat (Nat.sub (Nat.sub (O7 k) 1) (Ms (O7 k) a))))) w:=by
 rw[I4,FD]
 have h:BitVec.ofInt k.bits (if k.signed then -1 else k.max)=BitVec.allOnes k.bits:=by
  cases k<;>decide
 simp only[Op.intBits,h]
 have e:(BitVec.allOnes k.bits^^^BitVec.ofInt k.bits a)= ~~~ (BitVec.ofInt k.bits a):=by rw[BitVec.allOnes_xor]
 rw[e,BitVec.toNat_not]
 rfl
theorem oQ(a:Int)(b:Nat):k9 a b=a.fdiv (2^b):=by
 have hp:(0:Int)<((2^b:Nat):Int):=by have:=Nat.two_pow_pos b;omega
 have he:(2^b:Int)=((2^b:Nat):Int):=by simp
 rw[he,Int.fdiv_eq_ediv_of_nonneg _ (by omega)]
 cases a with
 |ofNat x=>
  show Int.ofNat (x/2^b)=_
  rfl
 |negSucc x=>
  show Int.negSucc (x/2^b)=_
  rw[Int.negSucc_ediv _ hp]
  rfl
def XY(P:Program)(σ:Mp)(H:Heap)(w:World)(r:Result Next):OR->Prop
 |.val v H'=> ∃σ' w' x,(r=.ok (.value x) w'∨(r=.ok .skip w'∧x=undef))∧Y2 σ' v x∧Tr P σ H w σ' H' w'
 |.oth .fail=>True
 |.oth (.call f args H')=>H'=H∧ ∃vs,XG σ args vs∧r=(callFunc f ⟨vs⟩).run P w
 |.oth (.yield b args H')=>H'=H∧ ∃l vs,σ b=some l∧XG σ args vs∧r=(Instr.yield l.blk ⟨vs⟩).run P w
 |.oth (.pan v H')=>H'=H∧ ∃x,Y2 σ v x∧r=.halt (.panic x) w
 |.oth .recov=>r=.ok .recover w
 |.oth (.defer f args)=> ∀g a b,f=.func g a b-> ∃x y z,XG σ a x∧XG σ args y∧XG σ b z∧r=.ok (.defer {target:=.fn (.func g) ⟨z⟩,args:=⟨x++y⟩}) w
section
variable {P:Program} {σ:Mp} {H:Heap} {w:World} {r:Result Next}
theorem YT(hs:VP P σ H w){v:AV}{x:Value}(h:r=.ok (.value x) w)(hr:Y2 σ v x):XY P σ H w r (.val v H):=
 ⟨σ,w,x,.inl h,hr,Tr.refl hs⟩
theorem QI{v:AV}{f:IntKind->Int->OR}(h: ∀k n,v=.int k n->XY P σ H w r (f k n)):XY P σ H w r (Pm v f):=by
 unfold Pm;split
 ·exact h _ _ rfl
 ·trivial
theorem Rv{v:AV}{f:Nat->OR}(h: ∀k n,v=.int k (.ofNat n)->XY P σ H w r (f n)):XY P σ H w r (R6 v f):=by
 unfold R6;split
 ·exact h _ _ rfl
 ·trivial
theorem E7{v:AV}{f:Bool->OR}(h: ∀b,v=.bool b->XY P σ H w r (f b)):XY P σ H w r (Hm v f):=by
 unfold Hm;split
 ·exact h _ rfl
 ·trivial
theorem OX{v:AV}{f:List UInt8->OR}(h: ∀s,v=.str s->XY P σ H w r (f s)):XY P σ H w r (O8 v f):=by
 unfold O8;split
 ·exact h _ rfl
 ·trivial
theorem PG{v:AV}{f:Nat->Nat->OR}(h: ∀b o,v=.ptr b o->XY P σ H w r (f b o)):XY P σ H w r (Qz v f):=by
 unfold Qz;split
 ·exact h _ _ rfl
 ·trivial
theorem Ic{v:AV}{f:List AV->OR}(h: ∀cs,v=.agg cs->XY P σ H w r (f cs)):XY P σ H w r (Dt v f):=by
 unfold Dt;split
 ·exact h _ rfl
 ·trivial
theorem sH{v:AV}{f:List AV->OR}(h: ∀cs,v=.tup cs->XY P σ H w r (f cs)):XY P σ H w r (xG v f):=by
 unfold xG;split
 ·exact h _ rfl
 ·trivial
theorem NT{v:AV}{n:OR}{f:Nat->AV->OR}(h0:v=.nili->XY P σ H w r n)(h: ∀t x,v=.iface t x->XY P σ H w r (f t x)):XY P σ H w r (PT v n f):=by
 unfold PT;split
 ·exact h _ _ rfl
 ·exact h0 rfl
 ·trivial
theorem Rm{v:AV}{n:OR}{f:Nat->Nat->Nat->Option Nat->OR}(h0:v=.nils->XY P σ H w r n)(h: ∀b o l c,v=.slice b o l c->XY P σ H w r (f b o l c)):XY P σ H w r (SH v n f):=by
 unfold SH;split
 ·exact h _ _ _ _ rfl
 ·exact h0 rfl
 ·trivial
theorem Ie{v:AV}{z n:OR}(h0:v=.slice0->XY P σ H w r z)(h:XY P σ H w r n):XY P σ H w r (nT v z n):=by
 unfold nT;split
 ·exact h0 rfl
 ·exact h
theorem Id{v:AV}{n:OR}{f:Nat->OR}(h0:v=.nilm->XY P σ H w r n)(h: ∀b,v=.map b->XY P σ H w r (f b)):XY P σ H w r (FO v n f):=by
 unfold FO;split
 ·exact h _ rfl
 ·exact h0 rfl
 ·trivial
theorem NU{b:Nat}{f:Obj->OR}(h: ∀o,H.t.get b=some o->XY P σ H w r (f o)):XY P σ H w r (Jb H b f):=by
 unfold Jb;split
 ·rename_i o ho;exact h _ ho
 ·trivial
theorem SB{b:Nat}{f:Row->OR}(h: ∀o,H.t.get b=some (.row o)->XY P σ H w r (f o)):XY P σ H w r (Uc H b f):=by
 unfold Uc;split
 ·rename_i o ho;exact h _ ho
 ·trivial
theorem Pf{α:Type}{x:Option α}{f:α->OR}(h: ∀a,x=some a->XY P σ H w r (f a)):XY P σ H w r (S0 x f):=by
 unfold S0;split
 ·exact h _ rfl
 ·trivial
theorem Y0{b:Bool}{f:OR}(h:b=true->XY P σ H w r f):XY P σ H w r (YP b f):=by
 cases b with
 |false=>exact trivial
 |true=>exact h rfl
theorem Tp{b:Bool}{f g:OR}(h1:b=true->XY P σ H w r f)(h2:b=false->XY P σ H w r g):XY P σ H w r (cond b f g):=by
 cases b with
 |false=>exact h2 rfl
 |true=>exact h1 rfl
theorem Ma{a:Nat}{f:Nat->OR}(h:XY P σ H w r (f a)):XY P σ H w r (RZ a f):=by rw[NL];exact h
theorem LS{a:Int}{f:Int->OR}(h:XY P σ H w r (f a)):XY P σ H w r (Jv a f):=by rw[E5];exact h
theorem Qo(hs:VP P σ H w){k:IntKind}{n:Int}(h:r=.ok (.value (.int k (k.wrap n))) w):XY P σ H w r (OM k n H):=by
 unfold OM
 refine LS ?_
 rw[MT]
 exact YT hs h (by simp[Y2])
theorem Jy(hs:VP P σ H w){b:Bool}(h:r=.ok (.value (.bool b)) w):XY P σ H w r (RO b H):=by
 unfold RO
 cases b
 ·exact YT hs h (by simp[Y2])
 ·exact YT hs h (by simp[Y2])
theorem wO{x y:AV}{f:IntKind->Int->Int->OR}(h: ∀k a b,x=.int k a->y=.int k b->XY P σ H w r (f k a b)):XY P σ H w r (Hg x y f):=by
 unfold Hg
 refine QI λj a hx=>QI λl b hy=>Y0 λhk=>?_
 have:=R4 hk;subst this
 exact h j a b hx hy
def Ql(P:Program)(σ:Mp)(tm:TM)(ρ:Operand->Value):Prop:= ∀x,Y2 σ (XO P x tm) (ρ x)
theorem OC(σ:Mp)(v:Value):Y2 σ (Ud v) v:=by
 unfold Ud
 cases h:Ld 20 v with
 |false=>simp[Y2]
 |true=>exact z7 σ 20 v h
theorem Kj(hs:VP P σ H w){N:Nat}{tm:TM}{a:Act}(ht:PA σ N tm a.tmps):Ql P σ tm a.eval:=by
 intro x
 cases x with
 |tmp t=>
  show Y2 σ ((cond (Nat.ble t 511) (Ru t) (k .unk)) tm) _
  rw[X8]
  by_cases h:t<=511
  ·rw[Zr h];exact ht.get t (Q3 h)
  ·rw[Zj h];simp[k,Y2]
 |const v=>exact OC σ v
 |global g=>
  show Y2 σ ((cond (Nat.ble (Nat.succ g) P.globals.size) (k (.ptr g 0)) (k .unk)) tm) _
  rw[X8]
  by_cases h:Nat.succ g<=P.globals.size
  ·rw[Zr h]
   obtain⟨l,hl,hb,h0⟩:=hs.glob g h
   show Y2 σ (.ptr g 0) (.pointer (some ⟨g,0,none⟩))
   simp only[Y2]
   exact⟨l,hl,by rw[hb,h0]⟩
  ·rw[Zj h];simp[k,Y2]
 |func f=>simp only[Act.eval,XO,k,Y2];exact⟨[],[],U8,U8,rfl⟩
theorem W3{k:IntKind}{n:Int}{v:Value}(h:Y2 σ (.int k n) v):v=.int k n:=by simpa [Y2] using h
theorem SJ{b:Bool}{v:Value}(h:Y2 σ (.bool b) v):v=.bool b:=by simpa [Y2] using h
theorem U9{s:List UInt8}{v:Value}(h:Y2 σ (.str s) v):v=.string ⟨s.toArray⟩:=by simpa [Y2] using h
theorem Up{s:Sem Value}{x:Value}{w':World}(h:s.run P w=.ok x w'):((do pure (Next.value (<-s)):Sem Next)).run P w=.ok (.value x) w':=by
 simp[h]
end
section
variable {P:Program} {σ:Mp} {H:Heap} {w:World} {tm:TM} {ρ:Operand->Value}
def WB(P:Program)(σ:Mp)(H:Heap)(w:World)(tm:TM)(ρ:Operand->Value)(o:Oper):Prop:=
 XY P σ H w ((execOp ρ o).run P w) (UP P o.op tm H)
theorem nP(hs:VP P σ H w)(hρ:Ql P σ tm ρ){o:Oper}{x:Operand}(ho:o.op=.move x):WB P σ H w tm ρ o:=by
 unfold WB;rw[ho]
 exact YT hs (by simp[execOp,ho]) (hρ x)
theorem v7(hs:VP P σ H w)(hρ:Ql P σ tm ρ){o:Oper}{x:Operand}(ho:o.op=.assign x):WB P σ H w tm ρ o:=by
 unfold WB;rw[ho]
 exact YT hs (by simp[execOp,ho]) (hρ x)
theorem nR(hs:VP P σ H w)(hρ:Ql P σ tm ρ){o:Oper}{c a b:Operand}(ho:o.op=.pick c a b):WB P σ H w tm ρ o:=by
 unfold WB;rw[ho]
 refine E7 λt ht=>?_
 have hc:=hρ c;rw[ht] at hc
 have hc:=SJ hc
 cases t
 ·exact YT hs (x:=ρ b) (by simp[execOp,ho,asBool,hc]) (hρ b)
 ·exact YT hs (x:=ρ a) (by simp[execOp,ho,asBool,hc]) (hρ a)
theorem jG(hs:VP P σ H w)(hρ:Ql P σ tm ρ){o:Oper}{x:Operand}(ho:o.op=.nilCheck x):WB P σ H w tm ρ o:=by
 unfold WB;rw[ho]
 show XY P σ H w _ (CP (XO P x tm) (.val (XO P x tm) H))
 have hx:=hρ x
 unfold CP
 split
 ·rename_i b o' e
  rw[e] at hx
  have h0:=hx
  simp only[Y2] at hx
  obtain⟨l,hl,hv⟩:=hx
  rw[e]
  exact YT hs (x:=ρ x) (by simp[execOp,ho,hv]) h0
 ·rename_i f a b e
  rw[e] at hx
  have h0:=hx
  simp only[Y2] at hx
  obtain⟨p,q,_,_,hv⟩:=hx
  rw[e]
  exact YT hs (x:=ρ x) (by simp[execOp,ho,hv]) h0
 ·rename_i t v e
  rw[e] at hx
  have h0:=hx
  simp only[Y2] at hx
  obtain⟨p,_,hv⟩:=hx
  rw[e]
  exact YT hs (x:=ρ x) (by simp[execOp,ho,hv]) h0
 ·rename_i b e
  rw[e] at hx
  have h0:=hx
  simp only[Y2] at hx
  obtain⟨p,_,hv⟩:=hx
  rw[e]
  exact YT hs (x:=ρ x) (by simp[execOp,ho,hv]) h0
 ·trivial
theorem Lg{o:Oper}{op:BinOp}{t:TypeId}{x y:Operand}{u:TypeId}(ho:o.op=.binOp op t x y u)(hg:(op matches .eql|.neq)=false){v:Value}(h:(binOp op t (ρ x) (ρ y)).run P w=.ok v w):
  (execOp ρ o).run P w=.ok (.value v) w:=by
 simp only[execOp,ho]
 refine Up ?_
 have:(eqGuard op t x y (ρ x) (ρ y)).run P w=.ok () w:=by
  cases op<;>first|rfl|cases hg
 simp[this,h]
theorem KX(s:List UInt8):(ByteArray.mk s.toArray).toList=s:=by
 exact ByteArray.toList_eq _
theorem Ml(s:List UInt8):(ByteArray.mk s.toArray).size=s.length:=by simp[ByteArray.size]
theorem EJ(a b:UInt8):I5 a b=(a==b):=by
 unfold I5
 rw[Xx,Um]
 simp[Q4]
theorem Qk: ∀a b:List UInt8,KB a b=(a==b)
 |[],[]=>rfl
 |[],_::_=>rfl
 |_::_,[]=>rfl
 |a::x,b::y=>by
  show cond (I5 a b) (KB x y) false=_
  rw[EJ,Qk x y]
  rw[show((a::x)==(b::y))=(a==b&&x==y) from rfl]
  cases(a==b)<;>rfl
theorem KC: ∀a b:List UInt8,YB a b=Op.bytesLess a b
 |[],[]=>rfl
 |[],_::_=>rfl
 |_::_,[]=>rfl
 |a::x,b::y=>by
  show cond (Nat.ble (Nat.succ a.toNat) b.toNat) true (cond (I5 a b) (YB x y) false)=_
  rw[EJ,KC x y,X8]
  simp only[Op.bytesLess]
  have:decide (a.toNat.succ<=b.toNat)=decide (a<b):=by
   rw[decide_eq_decide,Ta];omega
  rw[this]
  cases decide (a<b)<;>cases(a==b)<;>simp
theorem Ix(hs:VP P σ H w)(hρ:Ql P σ tm ρ){o:Oper}{op:BinOp}{t:TypeId}{x y:Operand}{u:TypeId}(ho:o.op=.binOp op t x y u)(hg:(op matches .eql|.neq)=false)
  {f:IntKind->Int->Int->OR}(h: ∀k a b,ρ x=.int k a->ρ y=.int k b->(∀v,(binOp op t (.int k a) (.int k b)).run P w=.ok v w->(execOp ρ o).run P w=.ok (.value v) w)->XY P σ H w ((execOp ρ o).run P w) (f k a b)):
  XY P σ H w ((execOp ρ o).run P w) (Hg (XO P x tm) (XO P y tm) f):=by
 refine wO λk a b hx hy=>?_
 have h1:=hρ x;rw[hx] at h1
 have h2:=hρ y;rw[hy] at h2
 have h1:=W3 h1
 have h2:=W3 h2
 exact h k a b h1 h2 λv hv=>Lg ho hg (by rw[h1,h2];exact hv)
theorem jL(hs:VP P σ H w)(hρ:Ql P σ tm ρ){o:Oper}{t:TypeId}{x y:Operand}{u:TypeId}(ho:o.op=.binOp .sub t x y u):WB P σ H w tm ρ o:=by
 unfold WB;rw[ho]
 refine Ix hs hρ ho rfl λk a b _ _ hr=>?_
 rw[xo]
 exact Qo hs (hr _ (by simp[binOp,Op.intArith]))
theorem jE(hs:VP P σ H w)(hρ:Ql P σ tm ρ){o:Oper}{t:TypeId}{x y:Operand}{u:TypeId}(ho:o.op=.binOp .mul t x y u):WB P σ H w tm ρ o:=by
 unfold WB;rw[ho]
 refine Ix hs hρ ho rfl λk a b _ _ hr=>?_
 rw[xk]
 exact Qo hs (hr _ (by simp[binOp,Op.intArith]))
theorem jH(hs:VP P σ H w)(hρ:Ql P σ tm ρ){o:Oper}{t:TypeId}{x y:Operand}{u:TypeId}(ho:o.op=.binOp .quo t x y u):WB P σ H w tm ρ o:=by
 unfold WB;rw[ho]
 refine Ix hs hρ ho rfl λk a b _ _ hr=>?_
 refine Tp (λ_=>trivial) λh0=>?_
 rw[PP] at h0
 have h0: ¬b=0:=by simpa using h0
 rw[oI]
 exact Qo hs (hr _ (by simp[binOp,Op.intDiv,h0]))
theorem jI(hs:VP P σ H w)(hρ:Ql P σ tm ρ){o:Oper}{t:TypeId}{x y:Operand}{u:TypeId}(ho:o.op=.binOp .rem t x y u):WB P σ H w tm ρ o:=by
 unfold WB;rw[ho]
 refine Ix hs hρ ho rfl λk a b _ _ hr=>?_
 refine Tp (λ_=>trivial) λh0=>LS ?_
 rw[PP] at h0
 have h0: ¬b=0:=by simpa using h0
 rw[oM]
 exact YT hs (x:=.int k (a.tmod b)) (hr _ (by simp[binOp,Op.intDiv,h0])) (by simp[Y2])
theorem GH(hs:VP P σ H w)(hρ:Ql P σ tm ρ){o:Oper}{op:BinOp}{f:Nat->Nat->Nat->Nat}{t:TypeId}{x y:Operand}{u:TypeId}(ho:o.op=.binOp op t x y u)
  (hop:(op=.and∧f=So)∨(op=.or∧f=QQ)∨(op=.xor∧f=AZ)∨(op=.andNot∧f=KG)):
  XY P σ H w ((execOp ρ o).run P w) (W6 (XO P x) (XO P y) f tm H):=by
 refine Ix hs hρ ho (by rcases hop with⟨rfl,_⟩|⟨rfl,_⟩|⟨rfl,_⟩|⟨rfl,_⟩<;>rfl) λk a b _ _ hr=>?_
 refine Qo hs (hr _ ?_)
 rw[<-BK P w op f hop k a b]
 rcases hop with⟨rfl,_⟩|⟨rfl,_⟩|⟨rfl,_⟩|⟨rfl,_⟩<;>simp[binOp]
theorem jJ(hs:VP P σ H w)(hρ:Ql P σ tm ρ){o:Oper}{t:TypeId}{x y:Operand}{u:TypeId}(ho:o.op=.binOp .shl t x y u):WB P σ H w tm ρ o:=by
 unfold WB;rw[ho]
 refine QI λk a hx=>Rv λj b hy=>?_
 have h1:=hρ x;rw[hx] at h1
 have h2:=hρ y;rw[hy] at h2
 have h1:=W3 h1
 have h2:=W3 h2
 rw[xk]
 have e:k.wrap (a*Int.ofNat (Nat.pow 2 (cond (Nat.ble b 64) b 64)))=k.wrap (a*2^(min b k.bits)):=by
  have hk:k.bits<=64:=by cases k<;>decide
  have key: ∀c:Nat,k.bits<=c->k.wrap (a*((2^c:Nat):Int))=k.wrap (a*((2^k.bits:Nat):Int)):=by
   intro c hc
   unfold IntKind.wrap
   have:(a*((2^c:Nat):Int)) % (2^k.bits:Int)=0:=by
    apply Int.emod_eq_zero_of_dvd
    refine Int.dvd_trans ?_ (Int.dvd_mul_left _ _)
    obtain⟨d,rfl⟩: ∃d,c=k.bits+d:=⟨c - k.bits,by omega⟩
    exact⟨2^d,by rw[Nat.pow_add];simp⟩
   have h2:(a*((2^k.bits:Nat):Int)) % (2^k.bits:Int)=0:=by
    apply Int.emod_eq_zero_of_dvd
    exact⟨a,by rw[Int.mul_comm];simp⟩
   rw[this,h2]
  rw[X8]
  by_cases hb:b<=64
  ·rw[Zr hb]
   show k.wrap (a*((2^b:Nat):Int))=_
   by_cases hb2:b<=k.bits
   ·rw[VV hb2];simp
   ·rw[TQ (by omega),key b (by omega)];simp
  ·rw[Zj hb]
   show k.wrap (a*((2^64:Nat):Int))=_
   rw[TQ (by omega),key 64 hk];simp
 refine Qo hs (Lg ho rfl ?_)
 rw[h1,h2,e]
 have hn: ¬(Int.ofNat b<0):=by rw[Xz];omega
 simp only[binOp,Op.shift]
 rw[if_neg hn]
 simp
theorem jK(hs:VP P σ H w)(hρ:Ql P σ tm ρ){o:Oper}{t:TypeId}{x y:Operand}{u:TypeId}(ho:o.op=.binOp .shr t x y u):WB P σ H w tm ρ o:=by
 unfold WB;rw[ho]
 refine QI λk a hx=>Rv λj b hy=>LS ?_
 have h1:=hρ x;rw[hx] at h1
 have h2:=hρ y;rw[hy] at h2
 have h1:=W3 h1
 have h2:=W3 h2
 have e:BY b (yW k)=min b k.bits:=by
  unfold BY
  rw[X8,tC]
  by_cases hb:b<=k.bits
  ·rw[Zr hb,VV hb];rfl
  ·rw[Zj hb,TQ (by omega)];rfl
 rw[oQ,e]
 refine YT hs (x:=.int k (a.fdiv (2^(min b k.bits)))) (Lg ho rfl ?_) (by simp[Y2])
 rw[h1,h2]
 have hn: ¬(Int.ofNat b<0):=by rw[Xz];omega
 simp only[binOp,Op.shift]
 rw[if_neg hn]
 simp
theorem jv(hs:VP P σ H w)(hρ:Ql P σ tm ρ){o:Oper}{t:TypeId}{x y:Operand}{u:TypeId}(ho:o.op=.binOp .add t x y u):WB P σ H w tm ρ o:=by
 unfold WB;rw[ho]
 show XY P σ H w _ (Yh (XO P x) (XO P y) tm H)
 have h1:=hρ x
 have h2:=hρ y
 unfold Yh
 split
 ·rename_i j a e
  rw[e] at h1
  have h1:=W3 h1
  refine QI λl b hy=>Y0 λhk=>?_
  have:=R4 hk;subst this
  rw[hy] at h2
  have h2:=W3 h2
  rw[oH]
  exact Qo hs (Lg ho rfl (by rw[h1,h2];simp[binOp,Op.intArith]))
 ·rename_i a e
  rw[e] at h1
  have h1:=U9 h1
  refine OX λb hy=>Y0 λhk=>?_
  rw[hy] at h2
  have h2:=U9 h2
  rw[X8,XK,XK] at hk
  have hk:a.length+b.length<=4611686018427387904:=ZB hk
  refine YT hs (x:=.string ⟨(a++b).toArray⟩) (Lg ho rfl ?_) (by simp[Y2])
  rw[h1,h2]
  have hm: ¬(((a.length+b.length:Nat):Int)>IntKind.i64.max):=by
   have:IntKind.i64.max=9223372036854775807:=by decide
   rw[this];omega
  simp only[binOp,Op.stringOp,Ml]
  rw[if_neg hm]
  simp only[Sem.run_pure]
  congr 2
 ·trivial
theorem CW(hs:VP P σ H w)(hρ:Ql P σ tm ρ){o:Oper}{op:BinOp}{t:TypeId}{x y:Operand}{u:TypeId}(ho:o.op=.binOp op t x y u)(hg:(op matches .eql|.neq)=false)
  {f:Int->Int->Bool}{g:List UInt8->List UInt8->Bool}
  (hf: ∀k a b,(binOp op t (.int k a) (.int k b)).run P w=.ok (.bool (f a b)) w)
  (hh: ∀a b:List UInt8,(binOp op t (.string ⟨a.toArray⟩) (.string ⟨b.toArray⟩)).run P w=.ok (.bool (g a b)) w):
  XY P σ H w ((execOp ρ o).run P w) (Yl (XO P x) (XO P y) f g tm H):=by
 have h1:=hρ x
 have h2:=hρ y
 unfold Yl
 split
 ·rename_i j a e
  rw[e] at h1
  have h1:=W3 h1
  refine QI λl b hy=>Y0 λhk=>?_
  have:=R4 hk;subst this
  rw[hy] at h2
  have h2:=W3 h2
  exact Jy hs (Lg ho hg (by rw[h1,h2];exact hf _ _ _))
 ·rename_i a e
  rw[e] at h1
  have h1:=U9 h1
  refine OX λb hy=>?_
  rw[hy] at h2
  have h2:=U9 h2
  exact Jy hs (Lg ho hg (by rw[h1,h2];exact hh _ _))
 ·trivial
theorem Np: ∀a b:List UInt8,(Op.bytesLess a b||a==b)=!Op.bytesLess b a
 |[],[]=>rfl
 |[],_::_=>rfl
 |_::_,[]=>rfl
 |a::x,b::y=>by
  have ih:=Np x y
  simp only[Op.bytesLess]
  have e1:((a::x)==(b::y))=(a==b&&x==y):=rfl
  rw[e1]
  rcases Nat.lt_trichotomy a.toNat b.toNat with h|h|h
  ·have h1:decide (a<b)=true:=Zr (Ta.2 h)
   have h2:decide (b<a)=false:=Zj (λz=>by have:=Ta.1 z;omega)
   have h3:(b==a)=false:=by rw[beq_eq_false_iff_ne];intro z;subst z;omega
   rw[h1,h2,h3];rfl
  ·have hab:a=b:=Q4.1 h
   subst hab
   have h1:decide (a<a)=false:=Zj (λz=>by have:=Ta.1 z;omega)
   rw[h1]
   simpa using ih
  ·have h1:decide (a<b)=false:=Zj (λz=>by have:=Ta.1 z;omega)
   have h2:decide (b<a)=true:=Zr (Ta.2 h)
   have h3:(a==b)=false:=by rw[beq_eq_false_iff_ne];intro z;subst z;omega
   rw[h1,h2,h3];rfl
theorem jD(hs:VP P σ H w)(hρ:Ql P σ tm ρ){o:Oper}{t:TypeId}{x y:Operand}{u:TypeId}(ho:o.op=.binOp .lss t x y u):WB P σ H w tm ρ o:=by
 unfold WB;rw[ho]
 refine CW hs hρ ho rfl (λk a b=>?_) λa b=>?_
 ·simp[binOp,Op.intCmp,Y9,NW]
 ·simp[binOp,Op.stringOp,KC]
theorem jA(hs:VP P σ H w)(hρ:Ql P σ tm ρ){o:Oper}{t:TypeId}{x y:Operand}{u:TypeId}(ho:o.op=.binOp .gtr t x y u):WB P σ H w tm ρ o:=by
 unfold WB;rw[ho]
 refine CW hs hρ ho rfl (λk a b=>?_) λa b=>?_
 ·simp[binOp,Op.intCmp,Tb,NW]
 ·have:=Np a b
  simp[binOp,Op.stringOp,Vl,KC,this]
theorem jC(hs:VP P σ H w)(hρ:Ql P σ tm ρ){o:Oper}{t:TypeId}{x y:Operand}{u:TypeId}(ho:o.op=.binOp .leq t x y u):WB P σ H w tm ρ o:=by
 unfold WB;rw[ho]
 refine CW hs hρ ho rfl (λk a b=>?_) λa b=>?_
 ·have:decide (a<=b)=!decide (b<a):=by rw[Um];simp
  simp[binOp,Op.intCmp,TG,NW,this]
 ·have:=Np a b
  simp[binOp,Op.stringOp,VN,KC,this]
theorem jz(hs:VP P σ H w)(hρ:Ql P σ tm ρ){o:Oper}{t:TypeId}{x y:Operand}{u:TypeId}(ho:o.op=.binOp .geq t x y u):WB P σ H w tm ρ o:=by
 unfold WB;rw[ho]
 refine CW hs hρ ho rfl (λk a b=>?_) λa b=>?_
 ·have:decide (b<=a)=!decide (a<b):=by rw[Um];simp
  simp[binOp,Op.intCmp,VE,NW,this]
 ·simp[binOp,Op.stringOp,XW,KC]
theorem bC(hs:VP P σ H w)(hρ:Ql P σ tm ρ){o:Oper}{op:UnOp}{t:TypeId}{x:Operand}(ho:o.op=.unOp op t x):WB P σ H w tm ρ o:=by
 unfold WB;rw[ho]
 have h1:=hρ x
 cases op with
 |neg=>
  refine QI λk a hx=>?_
  rw[hx] at h1
  have h1:=W3 h1
  rw[xo]
  exact Qo hs (by simp only[execOp,ho,h1];exact Up (by simp[Op.unary,Op.intArith]))
 |not=>
  refine E7 λb hx=>?_
  rw[hx] at h1
  have h1:=SJ h1
  refine YT hs (x:=.bool (!b)) (by simp only[execOp,ho,h1];exact Up (by simp[Op.unary])) (by cases b<;>simp[Y2])
 |xor=>
  refine QI λk a hx=>?_
  rw[hx] at h1
  have h1:=W3 h1
  refine Qo hs ?_
  simp only[execOp,ho,h1]
  refine Up ?_
  simp only[Op.unary]
  exact pi P w k a
 |plus=>trivial
theorem nO(hs:VP P σ H w)(hρ:Ql P σ tm ρ){o:Oper}{t:TypeId}{x:Operand}(ho:o.op=.makeInterface t x){d:TypeDesc}(ht:P.underlying t=some d)(hd:(d matches .interface _)=false):
  XY P σ H w ((execOp ρ o).run P w) (Wn (XO P x) t tm H):=by
 refine YT hs (x:=.iface t (ρ x)) ?_ (by simp only[Y2];exact⟨_,hρ x,rfl⟩)
 simp only[execOp,ho]
 refine Up ?_
 simp only[Instr.makeInterface,Sem.run_bind,run_underlying ht,Result.andThen_ok]
 cases d<;>first|rfl|cases hd
theorem Km(hρ:Ql P σ tm ρ): ∀l:List Operand,XG σ (evs tm (l.map (XO P))) (l.map ρ)
 |[]=>U8
 |x::l=>VA (hρ x) (Km hρ l)
theorem ua(hs:VP P σ H w)(hρ:Ql P σ tm ρ){o:Oper}{fn:Fn}{a b:Array Operand}(ho:o.op=.makeFunc fn a b):WB P σ H w tm ρ o:=by
 unfold WB;rw[ho]
 have hr:(execOp ρ o).run P w=.ok (.value (.func fn (a.map ρ) (b.map ρ))) w:=by
  simp only[execOp,ho]
  exact Up (by simp[Instr.makeFunc])
 show XY P σ H w _ ((match fn with
  |.func f=>Oj f (args P a) (args P b)
  |.method n=>lv P n a.toList b.toList
  |_=>U6) tm H)
 split
 ·rename_i f
  refine YT hs hr ?_
  simp only[Y2]
  refine⟨a.toList.map ρ,b.toList.map ρ,Km hρ _,Km hρ _,?_⟩
  congr 1<;>(apply Array.ext';simp)
 ·rename_i n
  obtain⟨a⟩:=a
  obtain⟨b⟩:=b
  match a,b with
  |[x],[]=>
   refine YT hs hr ?_
   simp only[Y2]
   exact⟨ρ x,hρ x,by simp⟩
  |[],_=>trivial
  |[_],_::_=>trivial
  |_::_::_,_=>trivial
 ·trivial
theorem yb(hs:VP P σ H w)(hρ:Ql P σ tm ρ){o:Oper}{x:Operand}{i:Nat}(ho:o.op=.extract x i):WB P σ H w tm ρ o:=by
 unfold WB;rw[ho]
 refine sH λvs hx=>Pf λv hv=>?_
 have h1:=hρ x
 rw[hx] at h1
 simp only[Y2] at h1
 obtain⟨us,hu,e⟩:=h1
 rw[It] at hv
 obtain⟨u,hu1,hu2⟩:=hu.get hv
 refine YT hs (x:=u) ?_ hu2
 simp only[execOp,ho]
 refine Up ?_
 rw[e]
 simp[Instr.extract,hu1]
theorem SX{r:Result Next}:XY P σ H w r (U6 tm H):=trivial
theorem V6{b:Bool}{f g:UD}{r:Result Next}(h1:b=true->XY P σ H w r (f tm H))(h2:b=false->XY P σ H w r (g tm H)):XY P σ H w r ((cond b f g) tm H):=by
 cases b with
 |false=>exact h2 rfl
 |true=>exact h1 rfl
theorem WY{t:Nat}{f:TypeInfo->UD}{r:Result Next}(h: ∀i,P.info? t=some i->XY P σ H w r (f i tm H)):XY P σ H w r (T7 P t f tm H):=by
 unfold T7
 cases e:P.info? t with
 |none=>exact trivial
 |some i=>exact h i e
theorem Wk{t:Nat}{f:TypeDesc->UD}{r:Result Next}(h: ∀d,P.underlying t=some d->XY P σ H w r (f d tm H)):XY P σ H w r (U7 P t f tm H):=by
 unfold U7
 cases e:P.underlying t with
 |none=>exact trivial
 |some i=>exact h i e
theorem Tw{α:Type}{x:Option α}{f:α->UD}{r:Result Next}(h: ∀a,x=some a->XY P σ H w r (f a tm H)):XY P σ H w r (PU x f tm H):=by
 cases x with
 |none=>exact trivial
 |some i=>exact h i rfl
theorem If{f:Array Field->UD}{d:TypeDesc}{r:Result Next}(h: ∀fs,d=.struct fs->XY P σ H w r (f fs tm H)):XY P σ H w r (Ba f d tm H):=by
 cases d<;>first|exact trivial|exact h _ rfl
theorem Mb{f:Nat->UD}{d:TypeDesc}{r:Result Next}(h: ∀e,d=.slice e->XY P σ H w r (f e tm H)):XY P σ H w r (Eb f d tm H):=by
 cases d<;>first|exact trivial|exact h _ rfl
theorem wP{f:Nat->UD}{d:TypeDesc}{r:Result Next}(h: ∀e,d=.pointer e->XY P σ H w r (f e tm H)):XY P σ H w r (b8 f d tm H):=by
 cases d<;>first|exact trivial|exact h _ rfl
theorem Fi{f:UD}{d:TypeDesc}{r:Result Next}(h:d=.int .u8->XY P σ H w r (f tm H)):XY P σ H w r (aO f d tm H):=by
 cases d with
 |int k=>cases k<;>first|exact trivial|exact h rfl
 |_=>exact trivial
theorem OJ{t:Nat}{d:TypeDesc}(h:P.underlying t=some d):(isAgg t).run P w=.ok (Mx P t) w:=by
 unfold isAgg Mx
 rw[h]
 simp only[Sem.run_bind,run_underlying h,Result.andThen_ok]
 cases d<;>rfl
theorem VO{t:Nat}{i:TypeInfo}(h:P.info? t=some i):(sizeOf t).run P w=.ok i.size w:=by
 rw[run_sizeOf w h,Program.cellsOf,h];rfl
theorem TA{b o:Nat}{v:Value}(h:Y2 σ (.ptr b o) v): ∃l,σ b=some l∧v=.pointer (some ⟨l.blk,l.base+o,none⟩):=by simpa only[Y2] using h
theorem MN{b o:Nat}{l:Loc}(h:σ b=some l):Y2 σ (.ptr b o) (.pointer (some ⟨l.blk,l.base+o,none⟩)):=by simp only[Y2];exact⟨l,h,rfl⟩
theorem QF(b o n:Nat):Addr.add ⟨b,o,none⟩ n=⟨b,o+n,none⟩:=by
 unfold Addr.add
 by_cases h:n=0
 ·rw[if_pos h,h];rfl
 ·rw[if_neg h]
theorem CX(hs:VP P σ H w)(hρ:Ql P σ tm ρ){o:Oper}{t:TypeId}{x:Operand}{f:Nat}(ho:o.op=.fieldAddr t x f):WB P σ H w tm ρ o:=by
 unfold WB;rw[ho]
 refine Wk λd hu=>If λfs hd=>Tw λg hg=>WY λi hi=>V6 (λh1=>?_) λ_=>SX
 subst hd
 refine PG λb off hx=>?_
 have h1':=hρ x
 rw[hx] at h1'
 obtain⟨l,hl,e⟩:=TA h1'
 rw[X8] at h1
 have h1:1<=i.size:=ZB h1
 refine YT hs ?_ (MN hl)
 simp only[execOp,ho]
 refine Up ?_
 rw[e]
 simp only[Instr.fieldAt,Sem.run_bind,run_underlying hu,Result.andThen_ok,hg,Instr.sureAddr,Sem.run_pure,fieldPlace,VO hi]
 rw[if_neg (by omega)]
 simp only[Sem.run_pure,Result.andThen_ok,QF,SL]
 rfl
theorem qf(hs:VP P σ H w)(hρ:Ql P σ tm ρ){o:Oper}{t:TypeId}{x:Operand}{f:Nat}(ho:o.op=.field t x f):WB P σ H w tm ρ o:=by
 unfold WB;rw[ho]
 refine Wk λd hu=>If λfs hd=>Tw λg hg=>WY λi hi=>Wk λd2 hu2=>?_
 subst hd
 have hag:=OJ (w:=w) hu2
 refine V6 (λh1=>?_) λh1=>?_
 ·refine Ic λcs hx=>?_
  have h1':=hρ x
  rw[hx] at h1'
  simp only[Y2] at h1'
  obtain⟨vs,hvs,hone,e⟩:=h1'
  rw[h1] at hag
  refine YT hs (x:=.agg ⟨(vs.drop g.offset).take i.size⟩) ?_ ?_
  ·simp only[execOp,ho]
   refine Up ?_
   rw[e]
   simp only[Instr.field,Sem.run_bind,run_underlying hu,Result.andThen_ok,hg,asAgg,Sem.run_pure,part,hag,if_true,VO hi]
   congr 2
   apply Array.ext'
   simp[Ui]
  ·rw[MQ,MF]
   simp only[Y2]
   exact⟨_,(hvs.drop _).take _,λy hy=>hone y (Se (Tn hy)),rfl⟩
 ·refine Ic λcs hx=>Pf λv hv=>?_
  have h1':=hρ x
  rw[hx] at h1'
  simp only[Y2] at h1'
  obtain⟨vs,hvs,hone,e⟩:=h1'
  rw[h1] at hag
  rw[It] at hv
  obtain⟨u,hu1,hu2⟩:=hvs.get hv
  refine YT hs (x:=u) ?_ hu2
  simp only[execOp,ho]
  refine Up ?_
  rw[e]
  simp only[Instr.field,Sem.run_bind,run_underlying hu,Result.andThen_ok,hg,asAgg,Sem.run_pure,part,hag]
  simp[hu1]
theorem CY(hs:VP P σ H w)(hρ:Ql P σ tm ρ){o:Oper}{t:TypeId}{x i:Operand}(ho:o.op=.indexAddr t x i):WB P σ H w tm ρ o:=by
 unfold WB;rw[ho]
 refine Wk λd hu=>?_
 cases d<;>try exact trivial
 case slice el=>
  refine WY λj hj=>Rv λk n hn=>Rm (λ_=>trivial) λb off len cap hx=>Y0 λhlt=>?_
  have h1:=hρ x
  have h2:=hρ i
  rw[hx] at h1;rw[hn] at h2
  simp only[Y2] at h1
  obtain⟨l,hl,e⟩:=h1
  have h2:=W3 h2
  rw[X8] at hlt
  have hlt:n+1<=len:=ZB hlt
  refine YT hs ?_ (MN hl)
  simp only[execOp,ho]
  refine Up ?_
  rw[e,h2]
  simp only[Instr.indexAt,Sem.run_bind,asIntOf,Sem.run_pure,Result.andThen_ok,run_underlying hu]
  rw[if_pos (by constructor<;>simp only[Xz]<;>omega)]
  simp only[Sem.run_bind,VO hj,Result.andThen_ok,Sem.run_pure,QF,SL,Xz,UA]
  rfl
 case array m el=>
  refine WY λj hj=>Rv λk n hn=>PG λb off hx=>Y0 λhlt=>?_
  have h1:=hρ x
  have h2:=hρ i
  rw[hx] at h1;rw[hn] at h2
  obtain⟨l,hl,e⟩:=TA h1
  have h2:=W3 h2
  rw[X8] at hlt
  have hlt:n+1<=m:=ZB hlt
  refine YT hs ?_ (MN hl)
  simp only[execOp,ho]
  refine Up ?_
  rw[e,h2]
  simp only[Instr.indexAt,Sem.run_bind,asIntOf,Sem.run_pure,Result.andThen_ok,run_underlying hu,Instr.sureAddr]
  rw[if_pos (by constructor<;>simp only[Xz]<;>omega)]
  simp only[Sem.run_bind,VO hj,Result.andThen_ok,Sem.run_pure,QF,SL,Xz,UA]
  rfl
theorem qg(hs:VP P σ H w)(hρ:Ql P σ tm ρ){o:Oper}{t:TypeId}{x i:Operand}(ho:o.op=.index t x i):WB P σ H w tm ρ o:=by
 unfold WB;rw[ho]
 refine Wk λd hu=>?_
 cases d<;>try exact trivial
 case string=>
  refine Rv λk n hn=>OX λs hx=>Pf λb hb=>Ma ?_
  have h1:=hρ x
  have h2:=hρ i
  rw[hx] at h1;rw[hn] at h2
  have h1:=U9 h1
  have h2:=W3 h2
  rw[CS] at hb
  refine YT hs (x:=.int .u8 b.toNat) ?_ (by simp[Y2])
  simp only[execOp,ho]
  refine Up ?_
  rw[h1,h2]
  have hb':(ByteArray.mk s.toArray)[n]? =some b:=by
   rw[<-hb]
   by_cases h:n<s.length
   ·have h':n<(ByteArray.mk s.toArray).size:=by rw[Ml];exact h
    rw[getElem?_pos (ByteArray.mk s.toArray) n h',ZW h];rfl
   ·rw[getElem?_neg (ByteArray.mk s.toArray) n (by rw[Ml];exact h),WC (by omega)]
  simp only[Instr.index,Sem.run_bind,asIntOf,Sem.run_pure,Result.andThen_ok,run_underlying hu]
  rw[if_pos (by simp only[Xz];omega)]
  simp only[Xz,UA,hb',Sem.run_pure]
 case array m el=>
  refine WY λj hj=>Wk λd2 hu2=>?_
  have hag:=OJ (w:=w) hu2
  refine V6 (λh1=>?_) λh1=>V6 (λhz=>?_) λ_=>SX
  ·refine Rv λk n hn=>Ic λcs hx=>Y0 λhlt=>?_
   have g1:=hρ x
   have g2:=hρ i
   rw[hx] at g1;rw[hn] at g2
   have g2:=W3 g2
   simp only[Y2] at g1
   obtain⟨vs,hvs,hone,e⟩:=g1
   rw[h1] at hag
   rw[X8] at hlt
   have hlt:n+1<=m:=ZB hlt
   refine YT hs (x:=.agg ⟨(vs.drop (n*j.size)).take j.size⟩) ?_ ?_
   ·simp only[execOp,ho]
    refine Up ?_
    rw[e,g2]
    simp only[Instr.index,Sem.run_bind,asIntOf,Sem.run_pure,Result.andThen_ok,run_underlying hu]
    rw[if_pos (by constructor<;>simp only[Xz]<;>omega)]
    simp only[Sem.run_bind,VO hj,Result.andThen_ok,part,hag,if_true,Sem.run_pure,Xz,UA]
    congr 2
    apply Array.ext'
    simp[Ui]
   ·rw[MQ,MF]
    simp only[Y2]
    exact⟨_,(hvs.drop _).take _,λy hy=>hone y (Se (Tn hy)),rfl⟩
  ·refine Rv λk n hn=>Ic λcs hx=>Y0 λhlt=>Pf λv hv=>?_
   have g1:=hρ x
   have g2:=hρ i
   rw[hx] at g1;rw[hn] at g2
   have g2:=W3 g2
   simp only[Y2] at g1
   obtain⟨vs,hvs,hone,e⟩:=g1
   rw[h1] at hag
   rw[X8] at hlt
   have hlt:n+1<=m:=ZB hlt
   rw[Xx] at hz
   have hz:j.size=1:=ZB hz
   rw[It] at hv
   obtain⟨u,hu1,Zd9⟩:=hvs.get hv
   refine YT hs (x:=u) ?_ Zd9
   simp only[execOp,ho]
   refine Up ?_
   rw[e,g2]
   simp only[Instr.index,Sem.run_bind,asIntOf,Sem.run_pure,Result.andThen_ok,run_underlying hu]
   rw[if_pos (by constructor<;>simp only[Xz]<;>omega)]
   simp only[Sem.run_bind,VO hj,Result.andThen_ok,part,hag,Xz,UA,hz,RV]
   simp[hu1]
theorem Jw{r:Result Next}{x:Option Operand}{dflt top:Nat}{f:Nat->OR}(hρ:Ql P σ tm ρ)
  (h: ∀n,(∀code,(match x.map ρ with|some v=>Instr.sliceBound v top code|none=>pure dflt:Sem Nat).run P w=.ok n w)->((x=none∧n=dflt)∨(x.isSome=true∧n<=top))->XY P σ H w r (f n)):
  XY P σ H w r (yX tm (opt P x) dflt top f):=by
 cases x with
 |none=>exact h dflt (λ_=>rfl) (.inl ⟨rfl,rfl⟩)
 |some x=>
  refine Rv (v:=XO P x tm) λk n hn=>Y0 λhle=>?_
  rw[X8] at hle
  have hle:n<=top:=ZB hle
  refine h n (λcode=>?_) (.inr ⟨rfl,hle⟩)
  have h1:=hρ x
  rw[hn] at h1
  have h1:=W3 h1
  simp only[VW,h1,Instr.sliceBound,Sem.run_bind,asIntOf,Sem.run_pure,Result.andThen_ok]
  rw[if_pos (by constructor<;>simp only[Xz]<;>omega)]
  simp
theorem OW{r:Result Next}{lo hi mx:Option Operand}{len cap capC:Nat}{f:Nat->Nat->Nat->OR}(isSlice:Bool)(hρ:Ql P σ tm ρ)(hmx:mx.isSome=true->hi.isSome=true)(hc:cap<=capC)
  (h: ∀l h m mC,(Instr.sliceBounds isSlice len capC (lo.map ρ) (hi.map ρ) (mx.map ρ)).run P w=.ok (l,h,mC) w->l<=h->m<=cap->(mx=none->m=cap∧mC=capC)->(mx.isSome=true->m=mC)->(hi=none->h=len)->(hi.isSome=true->h<=m)->XY P σ H w r (f l h m)):
  XY P σ H w r (Jq tm (opt P lo) (opt P hi) (opt P mx) len cap f):=by
 unfold Jq
 have up: ∀(x:Option Operand) (dflt top topC n:Nat),top<=topC->(∀code,(match x.map ρ with|some v=>Instr.sliceBound v top code|none=>pure dflt:Sem Nat).run P w=.ok n w)->((x=none∧n=dflt)∨(x.isSome=true∧n<=top))->
   (∀d2,(x=none->d2=n)-> ∀code,(match x.map ρ with|some v=>Instr.sliceBound v topC code|none=>pure d2:Sem Nat).run P w=.ok n w):=by
  intro x dflt top topC n ht h1 h2 d2 hd code
  cases x with
  |none=>rw[hd rfl];rfl
  |some x=>
   have h1:=h1 code
   simp only[VW] at h1 ⊢
   have h2:n<=top:=by rcases h2 with⟨h2,_⟩|⟨_,h2⟩;cases h2;exact h2
   unfold Instr.sliceBound at h1 ⊢
   cases hv:ρ x<;>rw[hv] at h1<;>simp only[asIntOf,Sem.run_bind,Sem.run_pure,Result.andThen_ok,run_stuck,Result.andThen_halt,run_unsupported] at h1 ⊢
   case int k i=>
    by_cases hh:0<=i∧i<=(top:Int)
    ·rw[if_pos hh] at h1
     rw[if_pos (by omega)];exact h1
    ·rw[if_neg hh] at h1
     exfalso
     have hr:=h1
     first
      |(obtain⟨s',w',hp⟩:=run_boundsPanic (P:=P) (w:=w) (α:=Nat) _ i top code
        rw[hp] at hr;cases hr)
      |(obtain⟨s',w',hp⟩:=run_boundsPanic (P:=P) (w:=w) (α:=Nat) _ i top code
        simp[hp] at hr)
   all_goals (first|cases h1|(rename_i p;cases p<;>simp at h1))
 refine Jw hρ λm hm hm2=>Jw hρ λhh hh1 iA=>Jw hρ λl hl hl2=>?_
 have hmc:m<=cap:=by rcases hm2 with⟨_,e⟩|⟨_,e⟩<;>omega
 have hlh:l<=hh:=by rcases hl2 with⟨_,e⟩|⟨_,e⟩<;>omega
 have fin: ∀mC,(mx=none->m=cap∧mC=capC)->(mx.isSome=true->m=mC)->(Instr.sliceBounds isSlice len capC (lo.map ρ) (hi.map ρ) (mx.map ρ)).run P w=.ok (l,hh,mC) w->XY P σ H w r (f l hh m):=by
  intro mC q1 q2 q3
  refine h l hh m mC q3 hlh hmc q1 q2 (λe=>?_) (λe=>?_)
  ·rcases iA with⟨_,e2⟩|⟨e2,_⟩;exact e2;rw[e] at e2;cases e2
  ·rcases iA with⟨e2,_⟩|⟨_,e2⟩;rw[e2] at e;cases e;exact e2
 cases mx with
 |none=>
  have hm':m=cap:=by rcases hm2 with⟨_,e⟩|⟨e,_⟩;exact e;cases e
  refine fin capC (λ_=>⟨hm',rfl⟩) (λe=>by cases e) ?_
  have h2:=up hi len m capC hh (by omega) hh1 iA
  unfold Instr.sliceBounds
  cases hi with
  |none=>
   have e1:hh=len:=by rcases iA with⟨_,e⟩|⟨e,_⟩;exact e;cases e
   subst e1
   cases lo with
   |none=>
    have e2:l=0:=by rcases hl2 with⟨_,e⟩|⟨e,_⟩;exact e;cases e
    subst e2;simp
   |some lo=>have hl':=λc=>hl c;simp only[VW] at hl';simp[hl']
  |some hi=>
   have h2':=λc=>h2 0 (λe=>by cases e) c
   simp only[VW] at h2'
   cases lo with
   |none=>
    have e2:l=0:=by rcases hl2 with⟨_,e⟩|⟨e,_⟩;exact e;cases e
    subst e2;simp[h2']
   |some lo=>have hl':=λc=>hl c;simp only[VW] at hl';simp[hl',h2']
 |some mx=>
  refine fin m (λe=>by cases e) (λ_=>rfl) ?_
  have h3:=up (some mx) cap cap capC m hc hm hm2
  have h3':=λc=>h3 0 (λe=>by cases e) c
  simp only[VW] at h3'
  unfold Instr.sliceBounds
  cases hi with
  |none=>have:=hmx rfl;cases this
  |some hi=>
   have hh':=λc=>hh1 c
   simp only[VW] at hh'
   cases lo with
   |none=>
    have e2:l=0:=by rcases hl2 with⟨_,e⟩|⟨e,_⟩;exact e;cases e
    subst e2;simp[hh',h3']
   |some lo=>
    have hl':=λc=>hl c
    simp only[VW] at hl'
    simp[hl',hh',h3']
end
section
variable {P:Program} {σ:Mp} {H:Heap} {w:World}
theorem VP.row(hs:VP P σ H w){b:Nat}{r:Row}{l:Loc}(hb:H.t.get b=some (.row r))(hl:σ b=some l):
  ∃cs fr,w.heap[l.blk]? =some (.cells cs r.elem fr)∧Q6 σ r l cs fr:=by
 obtain⟨c,hc,ho⟩:=hs.alive b _ l hb hl
 obtain⟨cs,fr,rfl,hr⟩:=ho
 exact⟨cs,fr,hc,hr⟩
theorem J1{w:World}{g:Nat}{cs:Array Value}{t:TypeId}{fr:Nat×Nat}(h:w.heap[g]? =some (.cells cs t fr))(i:Nat):w.cell? ⟨g,i,none⟩=cs[i]? :=
 cell_of_row w g i cs t fr h
theorem Row.get_eq(r:Row)(i:Nat):r.get i=(r.cells.get i).getD r.dflt:=by
 unfold Row.get
 cases r.cells.get i<;>rfl
theorem PR(r:Row): ∀(n o:Nat),(U5 r o n).length=n
 |0,_=>rfl
 |n+1,o=>by simp[U5,PR r n]
theorem OH{r:Row}{l:Loc}{cs:Array Value}{fr:Nat×Nat}(h:Q6 σ r l cs fr): ∀(n o:Nat),o+n<=r.size->
  ∃vs,XG σ (U5 r o n) vs∧vs.length=n∧(∀(j:Nat) (v:Value),vs[j]? =some v->cs[l.base+o+j]? =some v)∧ ∀v∈vs,v.oneCell'=true
 |0,o,_=>⟨[],U8,rfl,by simp,by simp⟩
 |n+1,o,ho=>by
  obtain⟨v,hv,hr⟩:=h.cell o (by omega)
  obtain⟨vs,h1,h2,h3,h4⟩:=OH h n (o+1) (by omega)
  refine⟨v::vs,VA hr h1,by simp[h2],?_,?_⟩
  ·intro j u hj
   cases j with
   |zero=>simp at hj;subst hj;exact hv
   |succ j=>
    have:=h3 j u (by simpa using hj)
    rw[<-this];congr 1;omega
  ·intro u hu
   rcases Yv.1 hu with rfl|hu
   ·exact h.one _ _ (by omega) hv
   ·exact h4 u hu
theorem Qa{g o:Nat}{cs:Array Value}{t:TypeId}{fr:Nat×Nat}(h:w.heap[g]? =some (.cells cs t fr))(vs:List Value)
  (hv: ∀(j:Nat) (v:Value),vs[j]? =some v->cs[o+j]? =some v):(loadCells ⟨g,o,none⟩ vs.length).run P w=.ok vs.toArray w:=by
 refine run_loadCells_list (w:=w) ⟨g,o,none⟩ vs λj v hj=>?_
 rw[QF,J1 h]
 exact hv j v hj
def Q1(cs:Array Value)(o:Nat):List Value->Array Value
 |[]=>cs
 |v::vs=>Q1 (cs.setIfInBounds o v) (o+1) vs
theorem OQ(vs:List Value): ∀(cs:Array Value) (o:Nat),(Q1 cs o vs).size=cs.size:=by
 induction vs with
 |nil=>intro cs o;rfl
 |cons v vs ih=>intro cs o;simp[Q1,ih]
theorem P6(vs:List Value): ∀(cs:Array Value) (o i:Nat),o+vs.length<=cs.size->
  (Q1 cs o vs)[i]? =if o<=i∧i<o+vs.length then vs[i - o]? else cs[i]? :=by
 induction vs with
 |nil=>intro cs o i _;rw[if_neg (by simp)];rfl
 |cons v vs ih=>
  intro cs o i h
  simp only[Zm] at h ⊢
  show(Q1 (cs.setIfInBounds o v) (o+1) vs)[i]? =_
  rw[ih _ _ _ (by simp;omega)]
  by_cases h1:o+1<=i∧i<o+1+vs.length
  ·rw[if_pos h1,if_pos (by omega),show i - o=(i - (o+1))+1 by omega];simp
  ·rw[if_neg h1,XQ]
   by_cases h2:o=i
   ·subst h2
    rw[if_pos rfl,if_pos (by omega),if_pos (by omega)];simp
   ·rw[if_neg h2,if_neg (by omega)]
theorem N3(vs:List AV): ∀(c:T AV) (o i:Nat),(Tv c o vs).get i=if o<=i∧i<o+vs.length then vs[i - o]? else c.get i:=by
 induction vs with
 |nil=>intro c o i;rw[if_neg (by simp)];rfl
 |cons v vs ih=>
  intro c o i
  show(Tv (c.set o v) (o+1) vs).get i=_
  rw[ih,T.get_set]
  simp only[Zm]
  by_cases h1:o+1<=i∧i<o+1+vs.length
  ·rw[if_pos h1,if_pos (by omega),show i - o=(i - (o+1))+1 by omega];simp
  ·rw[if_neg h1]
   by_cases h2:o=i
   ·subst h2;rw[if_pos rfl,if_pos (by omega)];simp
   ·rw[if_neg h2,if_neg (by omega)]
structure EG(w w':World)(g:Nat)(c:Go.Obj):Prop where
 size:w'.heap.size=w.heap.size
 new:w'.heap[g]? =some c
 old: ∀k,k≠g->w'.heap[k]? =w.heap[k]?
 tape:w'.tape=w.tape
 os:w'.os=w.os
 out:w'.output=w.output
theorem EA{w:World}{g i:Nat}{cs:Array Value}{t:TypeId}{fr:Nat×Nat}(h:w.heap[g]? =some (.cells cs t fr))(v:Value):
  EG w (w.setCell ⟨g,i,none⟩ v) g (.cells (cs.setIfInBounds i v) t fr):=by
 have hlt:=(Yy.1 h).1
 refine⟨by simp[World.setCell],?_,λk hk=>?_,rfl,rfl,rfl⟩
 ·simp only[World.setCell,VH]
  rw[h];simp
 ·simp only[World.setCell,VH]
  rw[if_neg (λe=>hk e.symm)]
theorem wI{w:World}{g i:Nat}{cs:Array Value}{t:TypeId}{fr:Nat×Nat}(h:w.heap[g]? =some (.cells cs t fr))(hf: ¬(fr.1<=i∧i<fr.2)):w.frozen? ⟨g,i,none⟩=false:=by
 unfold World.frozen?
 rw[h]
 obtain⟨a,b⟩:=fr
 simp only[Bool.and_eq_false_iff,decide_eq_false_iff_not]
 simp only at hf
 omega
theorem Ns{P:Program}{g o:Nat}{t:TypeId}{fr:Nat×Nat}: ∀(vs:List Value) (i:Nat) (w:World) (cs:Array Value),w.heap[g]? =some (.cells cs t fr)->
  o+i+vs.length<=cs.size->(∀v∈vs,v.oneCell'=true)->(∀j,j<vs.length-> ¬(fr.1<=o+i+j∧o+i+j<fr.2))->
  ∃w',(storeCells ⟨g,o,none⟩ vs i).run P w=.ok () w'∧EG w w' g (.cells (Q1 cs (o+i) vs) t fr)
 |[],i,w,cs,h,_,_,_=>⟨w,rfl,⟨rfl,h,λ_ _=>rfl,rfl,rfl,rfl⟩⟩
 |v::vs,i,w,cs,h,hsz,hone,hfr=>by
  simp only[Zm] at hsz hfr
  have hw:=EA (i:=o+i) h v
  obtain⟨w',hr,h'⟩:=Ns (P:=P) (g:=g) (o:=o) (t:=t) (fr:=fr) vs (i+1) (w.setCell ⟨g,o+i,none⟩ v) (cs.setIfInBounds (o+i) v) hw.new
   (by simp;omega) (λu hu=>hone u (by simp[hu])) (λj hj=>by have:=hfr (j+1) (by omega);rwa [show o+(i+1)+j=o+i+(j+1) by omega])
  refine⟨w',?_,?_⟩
  ·simp only[storeCells,Sem.run_bind,QF]
   rw[run_store P w _ v .plain (hone v (by simp)),J1 h,Uh (by omega)]
   simp only
   rw[wI h (by have:=hfr 0 (by omega);simpa using this)]
   simp only[WO,if_false,Result.andThen_ok]
   exact hr
  ·refine⟨by rw[h'.size,hw.size],?_,λk hk=>by rw[h'.old k hk,hw.old k hk],by rw[h'.tape,hw.tape],by rw[h'.os,hw.os],by rw[h'.out,hw.out]⟩
   rw[h'.new];rfl
theorem Wr.of_may{b:Nat}{r:Row}(h:H.may r b=true)(hb:H.t.get b=some (.row r)):Wr H b∧r.own=true:=by
 unfold Heap.may at h
 cases ho:r.own with
 |false=>rw[ho] at h;cases h
 |true=>
  rw[ho] at h
  have:H.ro<=b:=YE h
  refine⟨⟨this,_,hb,λr' e=>?_,λe=>by cases e⟩,rfl⟩
  cases e;exact ho
theorem Ht(hs:VP P σ H w){b:Nat}{r:Row}{l:Loc}(hb:H.t.get b=some (.row r))(hl:σ b=some l)(Mv:H.may r b=true){o:Nat}{as:List AV}{vs:List Value}
  (ha:XG σ as vs)(hone: ∀v∈vs,v.oneCell'=true)(hsz:o+vs.length<=r.size)(hfz:r.fz<=o):
  ∃w',(storeCells ⟨l.blk,l.base+o,none⟩ vs 0).run P w=.ok () w'∧Tr P σ H w σ (H.put b (.row (r.setCells (Tv r.cells o as)))) w':=by
 obtain⟨cs,fr,hc,hr⟩:=hs.row hb hl
 obtain⟨hwr,hown⟩:=Wr.of_may Mv hb
 have h1:=hr.fits
 have h2:=hr.room
 have hlen:=ha.length
 obtain⟨w',hrun,hw⟩:=Ns (P:=P) (o:=l.base+o) vs 0 w cs hc (by omega) hone (λj hj=>by
  have:=hr.frz hown (o+j) (by omega) (by omega)
  rwa [show l.base+o+0+j=l.base+(o+j) by omega])
 refine⟨w',hrun,Tr.write hs hb hl hwr hw.size hw.new hw.old ⟨_,fr,rfl,?_⟩ hw.tape hw.os hw.out⟩
 refine⟨hr.sz,hr.sz1,hr.fits,by rw[OQ];exact hr.room,λe=>by rw[OQ];exact hr.exact e,?_,?_,hr.frz,hr.frs⟩
 ·intro i hi
  have hi:i<r.size:=hi
  rw[Row.get_eq]
  show ∃v,_∧Y2 σ (((Tv r.cells o as).get i).getD r.dflt) v
  rw[N3,P6 _ _ _ _ (by omega)]
  by_cases hin:o<=i∧i<o+as.length
  ·rw[if_pos hin,if_pos (by omega)]
   obtain⟨a,hga⟩: ∃a,as[i - o]? =some a:=⟨as[i - o]'(by omega),ZW (by omega)⟩
   obtain⟨v,hv,hrel⟩:=ha.get hga
   refine⟨v,?_,?_⟩
   ·rw[show l.base+i - (l.base+o+0)=i - o by omega];exact hv
   ·rw[hga];exact hrel
  ·rw[if_neg hin,if_neg (by omega)]
   obtain⟨v,hv,hrel⟩:=hr.cell i hi
   rw[Row.get_eq] at hrel
   exact⟨v,hv,hrel⟩
 ·intro i v hi hv
  have hi:i<r.size:=hi
  rw[P6 _ _ _ _ (by omega)] at hv
  split at hv
  ·exact hone v (UO hv)
  ·exact hr.one i v hi hv
end
theorem Bn{n:Nat}(h:n % 2=1):bits n=true::bits (n/2):=by
 unfold bits
 obtain⟨m,rfl⟩: ∃m,n=m+1:=⟨n - 1,by omega⟩
 rw[Pa,if_neg (by omega),if_pos h,MW ((m+1)/2) _ m (Z2 _) (by omega)]
theorem EI{n:Nat}(h0:n≠0)(h:n % 2=0):bits n=false::bits (n/2 - 1):=by
 unfold bits
 obtain⟨m,rfl⟩: ∃m,n=m+1:=⟨n - 1,by omega⟩
 rw[Pa,if_neg (by omega),if_neg (by omega),MW ((m+1)/2 - 1) _ m (Z2 _) (by omega)]
namespace T
variable {α:Type}
theorem sC(l r:T α)(v:Option α)(n:Nat):(T.node l v r).get n=if n=0 then v else if n % 2=1 then l.get (n/2) else r.get (n/2 - 1):=by
 unfold get
 by_cases h0:n=0
 ·subst h0;rfl
 ·rw[if_neg h0]
  by_cases h1:n % 2=1
  ·rw[if_pos h1,Bn h1];rfl
  ·rw[if_neg h1,EI h0 (by omega)];rfl
theorem FJ: ∀(l:List α) (k:Nat),(RG l)[k]? =l[2*k]?
 |[],k=>by simp[RG]
 |[x],k=>by cases k<;>simp[RG]
 |x::y::l,0=>by simp[RG]
 |x::y::l,k+1=>by
  show(x::RG l)[k+1]? =(x::y::l)[2*(k+1)]?
  rw[show 2*(k+1)=(2*k+1)+1 by omega]
  simp[FJ l k]
theorem Ki: ∀l:List α,(RG l).length<=l.length
 |[]=>by simp[RG]
 |[x]=>by simp[RG]
 |x::y::l=>by have:=Ki l;simp[RG];omega
theorem LQ: ∀(f:Nat) (l:List α) (i:Nat),l.length<=f->(Qr f l).get i=l[i]?
 |0,l,i,h=>by
  have:l=[]:=by cases l<;>simp_all
  subst this;simp[Qr,get_leaf]
 |f+1,[],i,_=>by simp[Qr,get_leaf]
 |f+1,x::l,i,h=>by
  simp only[Zm] at h
  show(T.node (Qr f (RG l)) (some x) (Qr f (RG l.tail))).get i=_
  rw[sC]
  by_cases h0:i=0
  ·subst h0;simp
  ·rw[if_neg h0]
   by_cases h1:i % 2=1
   ·rw[if_pos h1,LQ f _ _ (by have:=Ki l;omega),FJ]
    rw[show 2*(i/2)=i - 1 by omega]
    obtain⟨k,rfl⟩: ∃k,i=k+1:=⟨i - 1,by omega⟩
    simp
   ·rw[if_neg h1,LQ f _ _ (by have:=Ki l.tail;simp at this;omega),FJ]
    rw[show 2*(i/2 - 1)=i - 2 by omega]
    obtain⟨k,rfl⟩: ∃k,i=k+2:=⟨i - 2,by omega⟩
    simp
theorem CC(l:List α):bm l=l.length:=XK l
theorem get_ofList(l:List α)(i:Nat):(ofList l).get i=l[i]? :=LQ _ _ _ (by rw[CC];exact Z2 _)
end T
section
variable {P:Program} {σ:Mp} {H:Heap} {w:World}
theorem JL{σ:Mp}{e sz tot:Nat}{as:List AV}{vs rest:List Value}{sm exact:Bool}{blk:Nat}{fr:Nat×Nat}(ha:XG σ as vs)(hone: ∀v∈vs++rest,v.oneCell'=true)(hsz:1<=sz)
  (hfit:as.length<=tot*sz)(hroom:tot*sz<=(vs++rest).length)(hex:exact=true->as.length=tot*sz∧rest=[])(hfr:if sm then tot*sz<=fr.1 else fr.1=fr.2):
  Q6 σ ⟨e,sz,XX as,T.ofList as,.unk,0,sm,true,exact⟩ ⟨blk,0,tot,sz⟩ ⟨vs++rest⟩ fr:=by
 have hlen:=ha.length
 refine⟨rfl,hsz,by rw[XK];exact hfit,by simpa using hroom,λh=>?_,?_,?_,?_,?_⟩
 ·obtain⟨h1,h2⟩:=hex h
  subst h2
  exact⟨by rw[XK];exact h1,rfl,by rw[XK];simp[hlen]⟩
 ·intro i hi
  have hi:i<as.length:=by rw[<-XK];exact hi
  rw[Row.get_eq]
  show ∃v,_∧Y2 σ (((T.ofList as).get i).getD .unk) v
  rw[T.get_ofList,ZW hi]
  obtain⟨v,hv,hr⟩:=ha.get (ZW hi)
  refine⟨v,?_,hr⟩
  simp only[Zd,Ve]
  rw[Xb (by omega)]
  exact hv
 ·intro i v _ hv
  simp only[Ve] at hv
  exact hone v (UO hv)
 ·intro _ i _ hi
  cases sm with
  |true=>simp only[if_true] at hfr;simp only at hi ⊢;omega
  |false=>simp only[WO,if_false] at hfr;simp only at hi ⊢;omega
 ·intro _ hsm
  have hsm:sm=false:=hsm
  subst hsm
  simp only[WO,if_false] at hfr
  exact .inl hfr
theorem KN(hs:VP P σ H w){e sz tot:Nat}{as:List AV}{vs:List Value}(ha:XG σ as vs)(hone: ∀v∈vs,v.oneCell'=true)(hsz:1<=sz)(hlen:as.length=tot*sz):
  Tr P σ H w (σ.put H.nx ⟨w.heap.size,0,tot,sz⟩) (H.newRow e sz as true) (w.alloc (.cells ⟨vs⟩ e)):=by
 refine Tr.alloc hs _ _ _ rfl ⟨⟨vs⟩,(0,0),rfl,?_⟩
 have:=JL (σ:=σ.put H.nx ⟨w.heap.size,0,tot,sz⟩) (e:=e) (sm:=false) (exact:=true) (blk:=w.heap.size) (fr:=(0,0)) (rest:=[]) (ha.mono (Mp.put_ext _ (hs.fresh (Z2 _)))) (by simpa using hone) hsz (by omega) (by simp;have:=ha.length;omega) (λ_=>⟨hlen,rfl⟩) rfl
 simpa using this
theorem xC(hs:VP P σ H w){e n:Nat}{a:AV}{v:Value}(ha:Y2 σ a v)(hone:v.oneCell'=true):
  Tr P σ H w (σ.put H.nx ⟨w.heap.size,0,n,1⟩) (H.new (.row ⟨e,1,n,.leaf,a,0,false,true,true⟩)) (w.alloc (.cells ⟨List.replicate n v⟩ e)):=by
 refine Tr.alloc hs _ _ _ rfl ⟨_,(0,0),rfl,⟨rfl,Z2 _,by simp,by simp,λ_=>⟨by simp,rfl,by simp⟩,?_,?_,?_,?_⟩⟩
 ·intro i hi
  have hi:i<n:=hi
  rw[Row.get_eq]
  refine⟨v,?_,?_⟩
  ·simp[Uu,hi]
  ·rw[T.get_leaf];exact ha.mono (Mp.put_ext _ (hs.fresh (Z2 _)))
 ·intro i u _ hu
  simp only[Ve,Uu] at hu
  split at hu
  ·cases hu;exact hone
  ·cases hu
 ·intro _ i _ hi;simp only;omega
 ·intro _ _;exact .inl rfl
end
section
variable {P:Program} {σ:Mp} {H:Heap} {w:World} {tm:TM} {ρ:Operand->Value}
theorem KT{σ:Mp}{b:Nat}{l:Loc}(hb:l.base=0):Y2 (σ.put b l) (.ptr b 0) (.pointer (some ⟨l.blk,0,none⟩)):=by
 simp only[Y2];exact⟨l,Mp.put_same _ _ _,by rw[hb]⟩
theorem Rp{σ:Mp}{b n:Nat}{l:Loc}(hb:l.base=0):Y2 (σ.put b l) (.slice b 0 n none) (.slice (some ⟨l.blk,0,none⟩) n l.tot):=by
 simp only[Y2];exact⟨l,Mp.put_same _ _ _,by rw[hb];simp⟩
theorem UW{r:Result Next}{σ':Mp}{H':Heap}{w':World}{v:AV}{x:Value}(ht:Tr P σ H w σ' H' w')(hr:r=.ok (.value x) w')(hx:Y2 σ' v x):XY P σ H w r (.val v H'):=
 ⟨σ',w',x,.inl hr,hx,ht⟩
theorem S1{t:Nat}{i:TypeInfo}{z:Value}(h:P.info? t=some i)(hz:i.zero=some z):(zeroValue t).run P w=.ok z w:=by
 simp[zeroValue,typeInfo,h,hz]
theorem RY(z:Value)(h:1<=(Ud z).cells.length):XG σ (Ud z).cells z.cells.toList∧ ∀x∈z.cells.toList,x.oneCell'=true:=(OC σ z).cells h
theorem yS{kd:IntKind}{m:Int}: ∀{l:List Value},py kd m l=true->l=List.replicate l.length (.int kd m)
 |[],_=>rfl
 |v::l,h=>by
  unfold py at h
  split at h
  ·rename_i j n
   cases h1:MU kd j with
   |false=>rw[h1] at h;cases h
   |true=>
    have:=R4 h1;subst this
    rw[h1] at h
    cases h2:Eu m n with
    |false=>rw[h2] at h;cases h
    |true=>
     rw[h2] at h
     rw[PP] at h2
     have h2:m=n:=by simpa using h2
     subst h2
     have ih:=yS h
     rw[Zm,TV,<-ih]
  ·cases h
theorem r9(hs:VP P σ H w){o:Oper}{t:TypeId}(ho:o.op=.alloc t):WB P σ H w tm ρ o:=by
 unfold WB;rw[ho]
 refine WY λi hi=>Tw λz hz=>?_
 have hrun:(execOp ρ o).run P w=.ok (.value (.pointer (some ⟨w.heap.size,0,none⟩))) (w.alloc (.cells z.cells t)):=by
  simp only[execOp,ho]
  refine Up ?_
  simp only[Instr.alloc,Sem.run_bind,S1 hi hz,Result.andThen_ok]
  simp[newVar,newRow]
 have key:XY P σ H w ((execOp ρ o).run P w) (Xa t (Ud z).cells tm H):=by
  refine Y0 λh1=>?_
  rw[X8,XK] at h1
  have h1:1<=(Ud z).cells.length:=ZB h1
  obtain⟨hr,hone⟩:=RY (σ:=σ) z h1
  exact UW (KN hs (tot:=(Ud z).cells.length) hr hone (Z2 _) (by simp)) hrun (KT rfl)
 show XY P σ H w _ (tw t z.cells.toList (Ud z).cells tm H)
 cases hl:z.cells.toList with
 |nil=>exact key
 |cons v l'=>
  cases v<;>try exact key
  case int kd m=>
   refine V6 (λ_=>V6 (λha=>?_) λ_=>key) λ_=>key
   have hrep:=yS ha
   rw[XK]
   refine UW (xC hs (n:=l'.length+1) (v:=.int kd m) (by simp[Y2]) rfl) ?_ (KT rfl)
   rw[hrun]
   have:z.cells=⟨List.replicate (l'.length+1) (.int kd m)⟩:=by
    apply Array.ext'
    rw[hl,TV,<-hrep]
   rw[this]
theorem jw(hs:VP P σ H w)(hρ:Ql P σ tm ρ){o:Oper}{t:TypeId}{x:Operand}(ho:o.op=.box t x):WB P σ H w tm ρ o:=by
 unfold WB;rw[ho]
 refine Y0 λh1=>?_
 rw[X8,XK] at h1
 have h1:1<=(XO P x tm).cells.length:=ZB h1
 obtain⟨hr,hone⟩:=(hρ x).cells h1
 refine UW (KN hs (tot:=(XO P x tm).cells.length) hr hone (Z2 _) (by simp)) ?_ (KT rfl)
 simp only[execOp,ho]
 refine Up ?_
 simp[Instr.box,newVar,newRow]
theorem nN(hs:VP P σ H w)(hρ:Ql P σ tm ρ){o:Oper}{t:TypeId}{x:Operand}(ho:o.op=.load t x):WB P σ H w tm ρ o:=by
 unfold WB;rw[ho]
 refine WY λi hi=>Wk λd hu=>?_
 have hag:=OJ (w:=w) hu
 refine V6 (λh1=>?_) λh1=>?_
 ·refine PG λb off hx=>SB λr hr=>Y0 λhle=>?_
  rw[X8] at hle
  have hle:off+i.size<=r.size:=ZB hle
  have g:=hρ x
  rw[hx] at g
  obtain⟨l,hl,e⟩:=TA g
  obtain⟨cs,fr,hc,hrr⟩:=hs.row hr hl
  obtain⟨vs,h2,h3,h4,h5⟩:=OH hrr i.size off hle
  rw[h1] at hag
  refine YT hs (x:=.agg ⟨vs⟩) ?_ (by simp only[Y2];exact⟨vs,h2,h5,rfl⟩)
  simp only[execOp,ho]
  refine Up ?_
  rw[e]
  have:=Qa (P:=P) hc vs (o:=l.base+off) h4
  rw[h3] at this
  simp only[Instr.loadAt,Instr.sureAddr,Sem.run_bind,Sem.run_pure,Result.andThen_ok,loadVar,hag,if_true,VO hi,this]
 ·refine PG λb off hx=>SB λr hr=>Y0 λhle=>?_
  rw[X8] at hle
  have hle:off+1<=r.size:=ZB hle
  have g:=hρ x
  rw[hx] at g
  obtain⟨l,hl,e⟩:=TA g
  obtain⟨cs,fr,hc,hrr⟩:=hs.row hr hl
  obtain⟨v,hv,hrel⟩:=hrr.cell off hle
  rw[h1] at hag
  refine YT hs (x:=v) ?_ hrel
  simp only[execOp,ho]
  refine Up ?_
  rw[e]
  simp only[Instr.loadAt,Instr.sureAddr,Sem.run_bind,Sem.run_pure,Result.andThen_ok,loadVar,hag,WO,if_false,run_load,J1 hc,hv]
theorem qk(hs:VP P σ H w)(hρ:Ql P σ tm ρ){o:Oper}{t:TypeId}{x y:Operand}(ho:o.op=.store t x y):WB P σ H w tm ρ o:=by
 unfold WB;rw[ho]
 refine WY λi hi=>?_
 refine PG λb off hx=>SB λr hr=>Y0 λhn=>Y0 λMv=>Y0 λhle=>Y0 λhfz=>Y0 λhlen=>?_
 rw[X8] at hn hle hfz
 rw[Xx,XK] at hlen
 have hn:1<=i.size:=ZB hn
 have hle:off+i.size<=r.size:=ZB hle
 have hfz:r.fz<=off:=ZB hfz
 have hlen:(XO P y tm).cells.length=i.size:=ZB hlen
 have g:=hρ x
 rw[hx] at g
 obtain⟨l,hl,e⟩:=TA g
 obtain⟨hrel,hone⟩:=(hρ y).cells (by omega)
 have hl2:=hrel.length
 obtain⟨w',hrun,htr⟩:=Ht hs hr hl Mv hrel hone (o:=off) (by omega) hfz
 refine⟨σ,w',undef,.inr ⟨?_,rfl⟩,by simp[WK,undef,Y2,XG],htr⟩
 simp only[execOp,ho]
 rw[e]
 have hsz:(ρ y).cells.size=i.size:=by rw[<-hlen,hl2];simp
 simp only[Instr.storeAt,Instr.sureAddr,Sem.run_bind,Sem.run_pure,Result.andThen_ok,storeVar,VO hi,hsz]
 simp[hrun]
theorem K4(off:Nat): ∀(l:List Value) (i:Nat) (cs:Array Value),(l.zipIdx i).foldl (λcs (x:Value×Nat)=>cs.setIfInBounds (off+x.2) x.1) cs=Q1 cs (off+i) l
 |[],_,_=>rfl
 |v::l,i,cs=>by
  simp only[List.zipIdx_cons,Q2]
  rw[K4 off l (i+1)]
  rfl
theorem Gx{cs:Array Value}{o:Nat}{vs:List Value}(h:o+vs.length<=cs.size):(Q1 cs o vs).toList=cs.toList.take o++(vs++cs.toList.drop (o+vs.length)):=by
 apply UT
 intro i
 rw[YO,P6 _ _ _ _ h]
 have hlen:(cs.toList.take o).length=o:=by simp;omega
 by_cases h1:i<o
 ·rw[if_neg (by omega),Xb (by omega),List.getElem?_take,if_pos h1,YO]
 ·rw[Xs (by omega),hlen]
  by_cases h2:i - o<vs.length
  ·rw[if_pos (by omega),Xb h2]
  ·rw[if_neg (by omega),Xs (by omega),Ua,YO]
   congr 1;omega
theorem Hc{r:Result Next}(hρ:Ql P σ tm ρ){place:Nat->Option (Nat×Nat)}{k:List AV->OR}: ∀(ps:List (Nat×Operand)) (cells:List AV) (cs:Array Value),
  XG σ cells cs.toList->(∀v∈cs.toList,v.oneCell'=true)->
  (∀cells' cs',XG σ cells' cs'.toList->(∀v∈cs'.toList,v.oneCell'=true)->cs'.size=cs.size->Instr.fill place cs (ps.map λp=>(p.1,ρ p.2))=some cs'->XY P σ H w r (k cells'))->
  XY P σ H w r (EW tm k (ps.map (Ok P place)) cells)
 |[],cells,cs,h1,h2,h3=>h3 cells cs h1 h2 rfl rfl
 |p::ps,cells,cs,h1,h2,h3=>by
  show XY P σ H w r (YP (Nat.ble 1 (Ok P place p).sz)<|YP (Nat.beq (XX ((Ok P place p).x tm).cells) (Ok P place p).sz) (YP (Nat.ble (Nat.add (Ok P place p).off (Ok P place p).sz) (XX cells))
   (EW tm k (ps.map (Ok P place)) (NA (Ok P place p).off cells++(((Ok P place p).x tm).cells++OU (Nat.add (Ok P place p).off (Ok P place p).sz) cells)))))
  refine Y0 λg1=>Y0 λg2=>Y0 λg3=>?_
  cases hp:place p.1 with
  |none=>unfold Ok at g1;rw[hp] at g1;cases g1
  |some q=>
   obtain⟨off,sz⟩:=q
   have hpe:Ok P place p=⟨off,sz,XO P p.2⟩:=by unfold Ok;rw[hp]
   rw[hpe] at g1 g2 g3 ⊢
   simp only at g1 g2 g3 ⊢
   rw[X8] at g1 g3
   rw[Xx,XK] at g2
   rw[XK] at g3
   have g1:1<=sz:=ZB g1
   have g2:(XO P p.2 tm).cells.length=sz:=ZB g2
   have g3:off+sz<=cells.length:=ZB g3
   obtain⟨hr,hone⟩:=(hρ p.2).cells (by omega)
   have hl:=hr.length
   have hl1:=h1.length
   have hsz:(ρ p.2).cells.size=sz:=by rw[<-g2,hl];simp
   have hcs:cells.length=cs.size:=by rw[hl1];simp
   have hw:(Q1 cs off (ρ p.2).cells.toList).toList=cs.toList.take off++((ρ p.2).cells.toList++cs.toList.drop (off+sz)):=by
    rw[Gx (by simp;omega)];simp[hsz]
   refine Hc hρ ps _ (Q1 cs off (ρ p.2).cells.toList) ?_ ?_ λcells' cs' k1 k2 k3 k4=>h3 cells' cs' k1 k2 (by rw[k3,OQ]) ?_
   ·rw[hw,MQ,MF]
    exact(h1.take _).append (hr.append (h1.drop _))
   ·intro v hv
    rw[hw] at hv
    rcases Z6.1 hv with hv|hv
    ·exact h2 v (Tn hv)
    ·rcases Z6.1 hv with hv|hv
     ·exact hone v hv
     ·exact h2 v (Se hv)
   ·simp only[VC,Instr.fill,hp]
    rw[if_neg (by simp only[Sc,decide_eq_true_eq];omega)]
    rw[<-k4]
    congr 1
    have:=K4 off (ρ p.2).cells.toList 0 cs
    rw[Zf] at this
    rw[<-this,<-Array.foldl_toList,Array.toList_zipIdx]
theorem qa(hs:VP P σ H w)(hρ:Ql P σ tm ρ){o:Oper}{t:TypeId}{ps:Array (Nat×Operand)}(ho:o.op=.build t ps):WB P σ H w tm ρ o:=by
 unfold WB;rw[ho]
 refine WY λi hi=>Tw λz hz=>Wk λd hu=>?_
 have hps:(ps.map λ(x:Nat×Operand)=>(x.1,ρ x.2)).toList=ps.toList.map λp=>(p.1,ρ p.2):=by simp
 have fin: ∀(place:Nat->Option (Nat×Nat)),(∀cs',Instr.fill place z.cells (ps.toList.map λp=>(p.1,ρ p.2))=some cs'->P.built t (ps.toList.map λp=>(p.1,ρ p.2))=some cs')->
   XY P σ H w ((execOp ρ o).run P w) (W7 (Ud z).cells (ps.toList.map (Ok P place)) tm H):=by
  intro place hb
  refine Y0 λh1=>?_
  rw[X8,XK] at h1
  have h1:1<=(Ud z).cells.length:=ZB h1
  obtain⟨hr,hone⟩:=RY (σ:=σ) z h1
  refine Hc hρ _ _ _ hr hone λcells' cs' k1 k2 k3 k4=>?_
  refine YT hs (x:=.agg cs') ?_ (by simp only[Y2];exact⟨cs'.toList,k1,k2,rfl⟩)
  simp only[execOp,ho]
  refine Up ?_
  exact run_build w t _ cs' (by rw[hps];exact hb cs' k4)
 cases d<;>try exact trivial
 case struct fs=>
  refine Tw λplaces hp=>fin _ λcs' hf=>?_
  simp only[Program.built,hi,hu,hz,hp]
  exact hf
 case array n e=>
  refine WY λj hj=>fin _ λcs' hf=>?_
  simp only[Program.built,hi,hu,hz,hj]
  exact hf
theorem HT{α:Type}(l:List α)(hl:1<=l.length): ∀(n i:Nat),(List.replicate n l).flatten[i]? =if i<n*l.length then l[i % l.length]? else none
 |0,i=>by simp
 |n+1,i=>by
  rw[TV,Sx,VJ]
  by_cases h:i<l.length
  ·rw[Xb h,if_pos (by omega),Sf h]
  ·rw[Xs (by omega),HT l hl n]
   have e:i % l.length=(i - l.length) % l.length:=by
    conv=>lhs;rw[show i=(i - l.length)+l.length by omega]
    rw[Nat.add_mod_right]
   rw[<-e]
   by_cases h2:i - l.length<n*l.length
   ·rw[if_pos h2,if_pos (by omega)]
   ·rw[if_neg h2,if_neg (by omega)]
theorem HB{as:List AV}{z:Array Value}(h:XG σ as z.toList)(hone: ∀v∈z.toList,v.oneCell'=true)(h1:1<=as.length)(n:Nat):
  XG σ (List.replicate n as).flatten ((Array.range (n*as.length)).map (z[· % z.size]!)).toList∧ ∀v∈((Array.range (n*as.length)).map (z[· % z.size]!)).toList,v.oneCell'=true:=by
 have hl:as.length=z.size:=by rw[h.length];simp
 have hz: ∀i,i % z.size<z.size:=λi=>Rk _ (by omega)
 constructor
 ·refine XG.of_get ?_ λi a v ha hv=>?_
  ·simp[List.length_flatten]
  ·rw[HT _ h1] at ha
   split at ha
   ·rename_i hi
    simp only[Qm,Array.toList_range,Vx] at hv
    rw[UN hi] at hv
    simp only[VW,Option.some.injEq] at hv
    obtain⟨u,hu,hr⟩:=h.get ha
    rw[YO,hl,Uh (hz i)] at hu
    cases hu
    rw[<-hv,getElem!_pos z _ (hz i)]
    exact hr
   ·cases ha
 ·intro v hv
  simp only[Qm,Wj] at hv
  obtain⟨i,_,rfl⟩:=hv
  rw[getElem!_pos z _ (hz i)]
  exact hone _ (Array.getElem_mem_toList _)
theorem v8(hs:VP P σ H w)(hρ:Ql P σ tm ρ){o:Oper}{t:TypeId}{n:Nat}{ps:Array (Nat×Operand)}(ho:o.op=.buildSlice t n ps):WB P σ H w tm ρ o:=by
 unfold WB;rw[ho]
 refine Wk λd hu=>Mb λe hd=>WY λj hj=>Tw λz hz=>V6 (λhsz=>?_) λ_=>SX
 subst hd
 have hps:(ps.map λ(x:Nat×Operand)=>(x.1,ρ x.2)).toList=ps.toList.map λp=>(p.1,ρ p.2):=by simp
 refine Y0 λg1=>Y0 λg2=>?_
 rw[X8] at g1 hsz
 rw[Xx,XK] at g2
 have g1:1<=j.size:=ZB g1
 have hsz:n*j.size<=16777216:=ZB hsz
 have g2:(List.replicate n (Ud z).cells).flatten.length=n*j.size:=ZB g2
 have hlen:n=0∨(Ud z).cells.length=j.size:=by
  rw[List.length_flatten] at g2
  simp only[List.map_replicate,List.sum_replicate_nat] at g2
  by_cases h0:n=0
  ·exact .inl h0
  ·exact .inr (Nat.eq_of_mul_eq_mul_left (by omega) g2)
 have base: ∃zc:Array Value,XG σ (List.replicate n (Ud z).cells).flatten zc.toList∧(∀v∈zc.toList,v.oneCell'=true)∧zc.size=n*j.size∧
   (do let zero<-if n*j.size=0 then pure #[] else do pure (<-zeroValue e).cells
       pure ((Array.range (n*j.size)).map (zero[· % zero.size]!)):Sem (Array Value)).run P w=.ok zc w:=by
  rcases hlen with h0|h0
  ·subst h0
   exact⟨#[],by simpa using U8,by simp,by simp,by simp⟩
  ·obtain⟨hr,hone⟩:=RY (σ:=σ) z (by omega)
   obtain⟨k1,k2⟩:=HB hr hone (by omega) n
   rw[h0] at k1 k2
   refine⟨_,k1,k2,by simp,?_⟩
   by_cases hn:n*j.size=0
   ·simp[hn]
   ·simp[hn,S1 hj hz]
 obtain⟨zc,b1,b2,b3,b4⟩:=base
 refine Hc hρ _ _ zc b1 b2 λcells' cs' k1 k2 k3 k4=>?_
 have hl':cells'.length=n*j.size:=by rw[k1.length];simp[k3,b3]
 refine UW (KN hs (tot:=n) k1 k2 g1 hl') ?_ (Rp rfl)
 simp only[execOp,ho]
 refine Up ?_
 simp only[Instr.buildSlice,Sem.run_bind,run_underlying hu,Result.andThen_ok,VO hj]
 rw[if_neg (by omega)]
 by_cases hn:n*j.size=0
 ·rw[if_pos hn] at b4 ⊢
  simp only[Sem.run_bind,Sem.run_pure,Result.andThen_ok,Result.ok.injEq,and_true] at b4 ⊢
  rw[b4,hps,k4]
  simp[newRow]
 ·rw[if_neg hn] at b4 ⊢
  simp only[Sem.run_bind,S1 hj hz,Sem.run_pure,Result.andThen_ok,Result.ok.injEq,and_true] at b4 ⊢
  rw[b4,hps,k4]
  simp[newRow]
theorem HA{n:Int}(h0:0<=n)(h1:n<9223372036854775808):IntKind.i64.wrap n=n:=by
 rw[<-MT]
 obtain⟨m,rfl⟩:=Int.eq_ofNat_of_zero_le h0
 show cond (Nat.ble 9223372036854775808 m) (IntKind.wrap .i64 (Int.ofNat m)) (Int.ofNat m)=_
 rw[X8,Zj (by omega)]
 rfl
theorem JF(f:Nat->Value):Array.map f (Array.range 0)= #[]:=by apply Array.ext';simp
def BZ(e n l c:Nat):Sem Next:=do
 let zero<-if n=0 then pure #[] else do pure (<-zeroValue e).cells
 let a<-newRow e ((Array.range n).map (zero[· % zero.size]!))
 pure (Next.value (.slice (some a) l c))
theorem yd(hs:VP P σ H w)(hρ:Ql P σ tm ρ){o:Oper}{t:TypeId}{x y:Operand}(ho:o.op=.makeSlice t x y):WB P σ H w tm ρ o:=by
 unfold WB;rw[ho]
 refine Wk λd hu=>Mb λe hd=>WY λi hi=>Tw λz hz=>?_
 subst hd
 refine Rv λk1 l hx=>Rv λk2 c hy=>Y0 λg1=>Y0 λg2=>Y0 λg3=>Y0 λg4=>?_
 have h1:=hρ x;rw[hx] at h1
 have h2:=hρ y;rw[hy] at h2
 have h1:=W3 h1
 have h2:=W3 h2
 rw[X8] at g1 g2 g3 g4
 have g1:1<=i.size:=ZB g1
 have g2:l<=c:=ZB g2
 have g3:c<=140737488355328:=ZB g3
 have g4:c*i.bytes<=140737488355328:=ZB g4
 have hrun:(execOp ρ o).run P w=(BZ e (c*i.size) l c).run P w:=by
  simp only[execOp,ho,h1,h2]
  simp only[Instr.makeSlice,Sem.run_bind,run_underlying hu,Result.andThen_ok,asInt,asIntOf,Sem.run_pure,typeInfo,run_program,hi,Xz]
  rw[HA (by omega) (by omega),HA (by omega) (by omega)]
  have e1:((i.bytes:Int)*(c:Int))<=140737488355328:=by
   have e0:(i.bytes:Int)*(c:Int)=((c*i.bytes:Nat):Int):=by rw[Int.natCast_mul,Int.mul_comm]
   rw[e0]
   generalize c*i.bytes=p at g4
   omega
  have e2: ¬((decide ((c:Int)<0)||decide ((i.bytes:Int)*(c:Int)>2^48)||decide ((l:Int)<0)||decide ((l:Int)>(c:Int)))=true):=by
   simp only[Sc,decide_eq_true_eq]
   omega
  rw[if_neg e2]
  simp only[UA,Sem.run_bind,run_askRoom,Result.andThen_ok,VO hi]
  by_cases hn:c*i.size=0
  ·simp[BZ,hn,newRow]
  ·simp[BZ,hn,S1 hi hz,newRow]
 have xg: ∀zc:Array Value,(c*i.size=0∨zc=z.cells)->(c*i.size=0->zc= #[])->(execOp ρ o).run P w=.ok (.value (.slice (some ⟨w.heap.size,0,none⟩) l c)) (w.alloc (.cells ((Array.range (c*i.size)).map (zc[· % zc.size]!)) e)):=by
  intro zc h3 h4
  rw[hrun]
  by_cases hn:c*i.size=0
  ·rw[h4 hn];simp[BZ,hn,newRow]
  ·rcases h3 with h3|h3
   ·exact absurd h3 hn
   ·rw[h3];simp[BZ,hn,S1 hi hz,newRow]
 show XY P σ H w _ (xA H e i.size l c (Ud z).cells)
 have gen:1<=(Ud z).cells.length->(Ud z).cells.length=i.size->XY P σ H w ((execOp ρ o).run P w) (.val (.slice H.nx 0 l none) (H.newRow e i.size ((List.replicate c (Ud z).cells).flatten) true)):=by
  intro q1 q2
  obtain⟨hr,hone⟩:=RY (σ:=σ) z q1
  obtain⟨k1,k2⟩:=HB hr hone q1 c
  refine UW (KN hs (tot:=c) k1 k2 g1 (by simp[List.length_flatten,q2])) ?_ (Rp rfl)
  by_cases hn:c*i.size=0
  ·rw[xg #[] (.inl hn) (λ_=>rfl),q2,hn,JF,JF]
  ·rw[xg z.cells (.inr rfl) (λh=>absurd h hn),q2]
 cases hz2:(Ud z).cells with
 |nil=>
  refine Y0 λq=>?_
  rw[Xx] at q
  have q:0=i.size:=ZB q
  omega
 |cons a as=>
  cases as with
  |nil=>
   refine Y0 λq=>?_
   rw[Xx] at q
   have q:i.size=1:=ZB q
   obtain⟨hr,hone⟩:=RY (σ:=σ) z (by rw[hz2];simp)
   rw[hz2] at hr
   obtain⟨v,vs,h3,h4,h5⟩:=hr.cons_inv
   rw[h4.nil_inv] at h5
   refine UW (xC hs (n:=c) h3 (hone v (by rw[h5];simp))) ?_ (Rp rfl)
   have hzc:z.cells= #[v]:=by apply Array.ext';rw[h5]
   by_cases hn:c=0
   ·subst hn
    rw[xg #[] (.inl (by simp)) (λ_=>rfl),UH,JF];rfl
   ·rw[xg z.cells (.inr rfl) (λh=>by rw[q] at h;omega),hzc,q]
    congr 2
    congr 1
    apply Array.ext'
    apply UT
    intro j
    simp only[RV,List.size_toArray,List.length_singleton,Nat.mod_one,Qm,Array.toList_range,Vx,Uu]
    by_cases hj:j<c
    ·rw[UN hj,if_pos hj];rfl
    ·rw[if_neg hj,WC (by simp;omega)];rfl
  |cons a2 as2=>
   refine Y0 λq=>?_
   rw[Xx,XK,<-hz2] at q
   have:=gen (by rw[hz2];simp) (ZB q)
   rw[hz2] at this
   exact this
theorem Mp.put_old{σ:Mp}{b c:Nat}{l:Loc}(h:c≠b):σ.put b l c=σ c:=by unfold Mp.put;rw[if_neg h]
theorem Tr.ghost(hs:VP P σ H w)(l:Loc):Tr P σ H w (σ.put H.nx l) ⟨Nat.succ H.nx,H.t,H.ro⟩ w:=by
 have he:=Mp.put_ext l (hs.fresh (Z2 H.nx))
 have hold: ∀b o,H.t.get b=some o->σ.put H.nx l b=σ b:=λb o hb=>Mp.put_old (by have:=hs.get_lt hb;omega)
 refine⟨he,⟨?_,?_,?_,?_,?_,?_⟩,Z2 _,λ_ _ _=>rfl,?_,Un _,rfl,λ_ _=>rfl,rfl,rfl,rfl,λb hb hn=>⟨rfl,by rw[Mp.put_old (by omega)];exact hn⟩⟩
 ·intro b m hb
  show b<H.nx+1
  by_cases e:b=H.nx
  ·omega
  ·rw[Mp.put_old e] at hb;have:=hs.dom b m hb;omega
 ·intro b o hb
  show b<H.nx+1
  have:=hs.low b o hb;omega
 ·intro b o l' hb hl'
  rw[hold b o hb] at hl'
  obtain⟨c,hc,ho⟩:=hs.alive b o l' hb hl'
  exact⟨c,hc,ho.mono he⟩
 ·intro b b' o o' l1 l2 h1 h2 k1 k2 e
  rw[hold b o h1] at k1;rw[hold b' o' h2] at k2
  exact hs.inj b b' o o' l1 l2 h1 h2 k1 k2 e
 ·intro g hg
  obtain⟨l',h1,h2⟩:=hs.glob g hg
  exact⟨l',he g l' h1,h2⟩
 ·show H.ro<=H.nx+1;have:=hs.ro;omega
 ·intro b l1 hw hl hlt
  obtain⟨hro,o,ho,hown⟩:=hw
  rw[hold b o ho] at hl
  exact⟨b,l1,⟨hro,o,ho,hown⟩,hl,rfl⟩
theorem Tt{b o n:Nat}{cap:Option Nat}{v:Value}(h:Y2 σ (.slice b o n cap) v): ∃l,σ b=some l∧v=.slice (some ⟨l.blk,l.base+o,none⟩) n (cap.getD (l.tot - o/l.sz)):=by simpa only[Y2] using h
theorem R8{b o n:Nat}{cap:Option Nat}{l:Loc}(h:σ b=some l):Y2 σ (.slice b o n cap) (.slice (some ⟨l.blk,l.base+o,none⟩) n (cap.getD (l.tot - o/l.sz))):=by simp only[Y2];exact⟨l,h,rfl⟩
theorem GY{r:Row}{l:Loc}{cs:Array Value}{fr:Nat×Nat}(hr:Q6 σ r l cs fr)(o:Nat)(cap:Option Nat):RK r o cap<=cap.getD (l.tot - o/l.sz):=by
 cases cap with
 |some c=>exact Z2 _
 |none=>
  show cond (Nat.beq r.sz 1) (r.size - o) ((r.size - o)/r.sz)<=l.tot - o/l.sz
  have h1:=hr.sz
  have h2:=hr.sz1
  have h3:=hr.fits
  have key:(r.size - o)/l.sz<=l.tot - o/l.sz:=by
   rw[Nat.div_le_iff_le_mul_add_pred (by omega)]
   have:=RT o l.sz
   have hm:=Rk o (show 0<l.sz by omega)
   rw[Nat.mul_sub]
   have e1:l.sz*l.tot=l.tot*l.sz:=T1 _ _
   omega
  rw[Xx]
  by_cases e:r.sz=1
  ·rw[Zr e]
   show r.size - o<=_
   have e2:l.sz=1:=by omega
   rw[e2] at key ⊢;simpa using key
  ·rw[Zj e]
   show(r.size - o)/r.sz<=_
   rw[<-h1];exact key
theorem v5{hi mx:Option Operand}(h:ju hi mx=true):mx.isSome=true->hi.isSome=true:=by
 cases mx<;>cases hi<;>simp_all [ju]
theorem qj(hs:VP P σ H w)(hρ:Ql P σ tm ρ){o:Oper}{t:TypeId}{x:Operand}{lo hi mx:Option Operand}(ho:o.op=.slice t x lo hi mx):WB P σ H w tm ρ o:=by
 unfold WB;rw[ho]
 refine V6 (λhmx=>?_) λ_=>SX
 have hmx:=v5 hmx
 refine Wk λd hu=>?_
 have h1:=hρ x
 cases d<;>try exact trivial
 case string=>
  cases mx with
  |some m=>exact trivial
  |none=>
   refine OX λs hx=>?_
   rw[hx] at h1
   have h1:=U9 h1
   refine OW (mx:=none) false hρ hmx (Z2 _) λl h m mC hr hlh hm q1 _ q3 q4=>?_
   refine YT hs (x:=.string ⟨((s.take h).drop l).toArray⟩) ?_ (by rw[KD,G8];simp[Y2])
   simp only[execOp,ho]
   refine Up ?_
   rw[h1]
   rw[XK] at hr
   simp only[Instr.sliceAt,Sem.run_bind,run_underlying hu,Result.andThen_ok,Instr.slice,Option.map_none,Option.isSome_none,WO,if_false,Ml,hr,Sem.run_pure]
   simp only[Option.map_none] at hr
   simp only[hr,Result.andThen_ok]
   congr 2
   rw[ByteArray.ext_iff]
   simp only[ByteArray.data_extract]
   apply Array.ext'
   simp[Ui,List.drop_take]
 case slice e=>
  refine WY λi hi'=>Ie (λhx=>?_) (Rm (λhx=>?_) λb off len cap hx=>SB λr hr=>Y0 λhsz=>?_)
  ·rw[hx] at h1
   obtain⟨a,h1⟩: ∃a,ρ x=.slice (some a) 0 0:=by simpa only[Y2] using h1
   refine OW (capC:=0) true hρ hmx (Z2 _) λl h m mC hr hlh hm q1 q2 q3 q4=>?_
   have hh:h=0:=by
    cases hi with
    |none=>exact q3 rfl
    |some y=>have:=q4 rfl;omega
   have hl:l=0:=by omega
   have cJ:mC=0:=by
    cases mx with
    |none=>exact(q1 rfl).2
    |some y=>have:=q2 rfl;omega
   refine YT hs (x:=.slice (some a) 0 0) ?_ (by simp[Y2])
   simp only[execOp,ho]
   refine Up ?_
   rw[h1]
   simp only[Instr.sliceAt,Sem.run_bind,run_underlying hu,Result.andThen_ok,Instr.slice,hr,VO hi',Sem.run_pure]
   subst hh;subst hl;subst cJ
   simp
  ·rw[hx] at h1
   have h1:ρ x=.slice none 0 0:=by simpa only[Y2] using h1
   refine OW (capC:=0) true hρ hmx (Z2 _) λl h m mC hr hlh hm q1 q2 q3 q4=>?_
   have hh:h=0:=by
    cases hi with
    |none=>exact q3 rfl
    |some y=>have:=q4 rfl;omega
   have hl:l=0:=by omega
   have cJ:mC=0:=by
    cases mx with
    |none=>exact(q1 rfl).2
    |some y=>have:=q2 rfl;omega
   refine YT hs (x:=.slice none 0 0) ?_ (by simp[Y2])
   simp only[execOp,ho]
   refine Up ?_
   rw[h1]
   simp only[Instr.sliceAt,Sem.run_bind,run_underlying hu,Result.andThen_ok,Instr.slice,hr,VO hi',Sem.run_pure]
   subst hh;subst hl;subst cJ
   simp
  ·rw[hx] at h1
   obtain⟨l,hl,e1⟩:=Tt h1
   obtain⟨cs,fr,hc,hrr⟩:=hs.row hr hl
   refine OW (capC:=cap.getD (l.tot - off/l.sz)) true hρ hmx (GY hrr off cap) λlo' h m mC hrun hlh hm q1 q2 q3 q4=>?_
   have run:(execOp ρ o).run P w=.ok (.value (.slice (some (if mC=lo' then⟨l.blk,l.base+off,none⟩ else⟨l.blk,l.base+off+lo'*i.size,none⟩)) (h - lo') (mC - lo'))) w:=by
    simp only[execOp,ho]
    refine Up ?_
    rw[e1]
    simp only[Instr.sliceAt,Sem.run_bind,run_underlying hu,Result.andThen_ok,Instr.slice,hrun,VO hi',Sem.run_pure]
    by_cases hmm:mC=lo'
    ·simp[hmm]
    ·simp[hmm,QF]
   refine Y0 λhle=>?_
   rw[X8] at hle
   have hle:lo'<=m:=ZB hle
   refine Tp (λhlm=>?_) λhlm=>?_
   ·rw[Xx] at hlm
    have hlm:lo'=m:=ZB hlm
    cases mx with
    |none=>
     cases cap with
     |some c=>
      obtain⟨z1,z2⟩:=q1 rfl
      have z1:m=c:=z1
      have z2:mC=c:=z2
      have hmm:mC=lo':=by omega
      refine YT hs run ?_
      rw[if_pos hmm,hmm,NB]
      exact R8 (cap:=some 0) hl
     |none=>
     refine UW (Tr.ghost hs ⟨l.blk,(if mC=lo' then l.base+off else l.base+off+lo'*i.size),mC - lo',1⟩) run ?_
     simp only[Y2]
     refine⟨_,Mp.put_same _ _ _,?_⟩
     by_cases hmm:mC=lo'
     ·simp[hmm]
     ·simp[hmm]
    |some y=>
     have hmm:mC=lo':=by have:=q2 rfl;omega
     refine YT hs run ?_
     rw[if_pos hmm,hmm,NB]
     exact R8 (cap:=some 0) hl
   ·rw[Xx] at hlm
    have hlm:lo'≠m:=of_decide_eq_false hlm
    have ZdU:mC≠lo':=by
     cases mx with
     |none=>
      obtain⟨z1,z2⟩:=q1 rfl
      have:=GY hrr off cap
      omega
     |some y=>have:=q2 rfl;omega
    refine YT hs run ?_
    rw[if_neg ZdU]
    have e2:l.base+off+lo'*i.size=l.base+(off+lo'*i.size):=by omega
    rw[e2]
    cases mx with
    |some y=>
     have hmm:mC=m:=(q2 rfl).symm
     rw[hmm]
     exact R8 (cap:=some (m - lo')) hl
    |none=>
     obtain⟨z1,z2⟩:=q1 rfl
     cases cap with
     |some c=>
      rw[z2]
      exact R8 (cap:=some (c - lo')) hl
     |none=>
      rw[z2]
      have hz:l.sz=i.size:=by
       rw[hrr.sz]
       have:Nat.beq r.sz i.size=true:=hsz
       rw[Xx] at this
       exact ZB this
      have h2:=hrr.sz1
      have e3:l.tot - off/l.sz - lo'=l.tot - (off+lo'*i.size)/l.sz:=by
       rw[<-hz,Nat.add_mul_div_right _ _ (by omega),Nat.sub_sub]
      show Y2 σ (.slice b (off+lo'*i.size) (h - lo') none) (.slice _ _ (l.tot - off/l.sz - lo'))
      rw[e3]
      exact R8 (cap:=none) hl
 case array n e=>
  refine WY λi hi'=>PG λb off hx=>?_
  rw[hx] at h1
  obtain⟨l,hl,e1⟩:=TA h1
  refine OW (capC:=n) false hρ hmx (Z2 _) λlo' h m mC hrun hlh hm q1 q2 q3 q4=>?_
  have cJ:mC=m:=by
   cases mx with
   |none=>obtain⟨z1,z2⟩:=q1 rfl;omega
   |some y=>exact(q2 rfl).symm
  subst cJ
  have run:(execOp ρ o).run P w=.ok (.value (.slice (some (if mC=lo' then⟨l.blk,l.base+off,none⟩ else⟨l.blk,l.base+off+lo'*i.size,none⟩)) (h - lo') (mC - lo'))) w:=by
   simp only[execOp,ho]
   refine Up ?_
   rw[e1]
   simp only[Instr.sliceAt,Sem.run_bind,run_underlying hu,Result.andThen_ok,Instr.sureAddr,hrun,VO hi',Sem.run_pure]
   by_cases hmm:mC=lo'
   ·simp[hmm]
   ·simp[hmm,QF]
  refine Tp (λhlm=>?_) λhlm=>?_
  ·rw[Xx] at hlm
   have hlm:lo'=mC:=ZB hlm
   refine YT hs run ?_
   rw[if_pos hlm.symm]
   exact R8 (cap:=some (mC - lo')) hl
  ·rw[Xx] at hlm
   have hlm:lo'≠mC:=of_decide_eq_false hlm
   refine YT hs run ?_
   rw[if_neg (λe=>hlm e.symm),SL]
   exact R8 (cap:=some (mC - lo')) hl
end
end
end Go.AI
