/- What values and heaps tell; the first operations: proved for told worlds. -/
import Derived.Test.YtmnmknjlgpjcbaaGreatDoorP1
import Derived.Laws.World
import Derived.Laws.Sem
import Derived.Laws.Rows
import Derived.Laws.Entries
import Derived.ChangeKeysEq
import Derived.Laws.Strings
import Derived.Laws.Slices
import Derived.Laws.Strings2
import Derived.Laws.Panics
import Derived.Laws.Cells
import Derived.Laws.Tables
set_option maxRecDepth 1000000
set_option maxHeartbeats 0
set_option linter.unusedVariables false
set_option linter.unusedSimpArgs false
namespace Go.AI
open Go
noncomputable section
namespace T
variable {α:Type}
theorem GM(bs:List Bool):(T.leaf:T α).getB bs=none:=rfl
theorem IT(l r:T α)(v:Option α):(T.node l v r).getB []=v:=rfl
theorem OK(l r:T α)(v:Option α)(b:Bool)(bs:List Bool):(T.node l v r).getB (b::bs)=if b then l.getB bs else r.getB bs:=by cases b<;>rfl
theorem vL(x:α): ∀bs cs:List Bool,(T.single x bs).getB cs=if bs=cs then some x else none:=by
 intro bs
 induction bs with
 |nil=>intro cs;cases cs with
  |nil=>rfl
  |cons c cs=>cases c<;>rfl
 |cons b bs ih=>
  intro cs
  cases cs with
  |nil=>cases b<;>rfl
  |cons c cs=>
   cases b<;>cases c
   ·show(T.single x bs).getB cs=_;rw[ih];simp
   ·show(T.leaf:T α).getB cs=_;simp[GM]
   ·show(T.leaf:T α).getB cs=_;simp[GM]
   ·show(T.single x bs).getB cs=_;rw[ih];simp
theorem lz(x:α)(t:T α): ∀bs cs:List Bool,(T.setB x t bs).getB cs=if bs=cs then some x else t.getB cs:=by
 induction t with
 |leaf=>intro bs cs;show(T.single x bs).getB cs=_;rw[vL];rfl
 |node l v r ihl ihr=>
  intro bs cs
  cases bs with
  |nil=>cases cs with
   |nil=>rfl
   |cons c cs=>cases c<;>simp[show T.setB x (.node l v r) []=.node l (some x) r from rfl,OK]
  |cons b bs=>
   cases b
   ·show(T.node l v (T.setB x r bs)).getB cs=_
    cases cs with
    |nil=>simp[IT]
    |cons c cs=>cases c<;>simp[OK,ihr]
   ·show(T.node (T.setB x l bs) v r).getB cs=_
    cases cs with
    |nil=>simp[IT]
    |cons c cs=>cases c<;>simp[OK,ihl]
theorem lw(t:T α): ∀bs cs:List Bool,(T.delB t bs).getB cs=if bs=cs then none else t.getB cs:=by
 induction t with
 |leaf=>intro bs cs;show(T.leaf:T α).getB cs=_;simp[GM]
 |node l v r ihl ihr=>
  intro bs cs
  cases bs with
  |nil=>cases cs with
   |nil=>rfl
   |cons c cs=>cases c<;>simp[show T.delB (.node l v r) []=.node l none r from rfl,OK]
  |cons b bs=>
   cases b
   ·show(T.node l v (T.delB r bs)).getB cs=_
    cases cs with
    |nil=>simp[IT]
    |cons c cs=>cases c<;>simp[OK,ihr]
   ·show(T.node (T.delB l bs) v r).getB cs=_
    cases cs with
    |nil=>simp[IT]
    |cons c cs=>cases c<;>simp[OK,ihl]
end T
theorem Qb(f n:Nat):JA (f+1) n=if n=0 then [] else if n % 2=1 then true::JA f (n/2) else false::JA f (n/2 - 1):=by
 show @Bool.rec (λ_=>List Bool) (@Bool.rec (λ_=>List Bool) (false::JA f (n/2 - 1)) (true::JA f (n/2)) (Nat.beq (n % 2) 1)) [] (Nat.beq n 0)=_
 by_cases h:n=0
 ·subst h;rfl
 ·rw[if_neg h]
  have h0:Nat.beq n 0=false:=by cases n with|zero=>exact absurd rfl h|succ n=>rfl
  rw[h0]
  by_cases h1:n % 2=1
  ·rw[if_pos h1,h1];rfl
  ·have:n % 2=0:=by omega
   rw[if_neg h1,this];rfl
theorem mN: ∀f n m,n<=f->m<=f->JA f n=JA f m->n=m:=by
 intro f
 induction f with
 |zero=>intro n m hn hm _;omega
 |succ f ih=>
  intro n m hn hm h
  rw[Qb,Qb] at h
  by_cases n0:n=0
  ·by_cases m0:m=0
   ·omega
   ·rw[if_pos n0,if_neg m0] at h
    split at h<;>cases h
  ·by_cases m0:m=0
   ·rw[if_neg n0,if_pos m0] at h
    split at h<;>cases h
   ·rw[if_neg n0,if_neg m0] at h
    by_cases n1:n % 2=1<;>by_cases m1:m % 2=1
    ·rw[if_pos n1,if_pos m1] at h
     have:=ih (n/2) (m/2) (by omega) (by omega) (List.cons.inj h).2
     omega
    ·rw[if_pos n1,if_neg m1] at h;simp at h
    ·rw[if_neg n1,if_pos m1] at h;simp at h
    ·rw[if_neg n1,if_neg m1] at h
     have:=ih (n/2 - 1) (m/2 - 1) (by omega) (by omega) (List.cons.inj h).2
     omega
theorem Mx: ∀f n g,n<=f->f<=g->JA g n=JA f n:=by
 intro f
 induction f with
 |zero=>
  intro n g hn _
  have:n=0:=by omega
  subst this
  cases g with
  |zero=>rfl
  |succ g=>rw[Qb];rfl
 |succ f ih=>
  intro n g hn hg
  obtain⟨g,rfl⟩: ∃g',g=g'+1:=⟨g - 1,by omega⟩
  rw[Qb,Qb]
  by_cases n0:n=0
  ·rw[if_pos n0,if_pos n0]
  ·rw[if_neg n0,if_neg n0]
   by_cases n1:n % 2=1
   ·rw[if_pos n1,if_pos n1,ih (n/2) g (by omega) (by omega)]
   ·rw[if_neg n1,if_neg n1,ih (n/2 - 1) g (by omega) (by omega)]
theorem vh{n m:Nat}(h:bits n=bits m):n=m:=by
 unfold bits at h
 rw[<-Mx n n (n+m) (Zj _) (by omega),<-Mx m m (n+m) (Zj _) (by omega)] at h
 exact mN (n+m) n m (by omega) (by omega) h
namespace T
variable {α:Type}
theorem get_set(t:T α)(n m:Nat)(x:α):(t.set n x).get m=if n=m then some x else t.get m:=by
 unfold get set
 rw[lz]
 by_cases h:n=m
 ·subst h;simp
 ·rw[if_neg h,if_neg (λe=>h (vh e))]
theorem get_del(t:T α)(n m:Nat):(t.del n).get m=if n=m then none else t.get m:=by
 unfold get del
 rw[lw]
 by_cases h:n=m
 ·subst h;simp
 ·rw[if_neg h,if_neg (λe=>h (vh e))]
theorem get_leaf(n:Nat):(T.leaf:T α).get n=none:=rfl
end T
structure Loc where
 blk:Nat
 base:Nat
 tot:Nat
 sz:Nat
abbrev Mp:=Nat->Option Loc
mutual
def Ys(σ:Mp):AV->Value->Prop
 |.unk,_=>True
 |.bool b,v=>v=.bool b
 |.int k n,v=>v=.int k n
 |.str s,v=>v=.string ⟨s.toArray⟩
 |.nilp,v=>v=.pointer none
 |.ptr b o,v=> ∃l,σ b=some l∧v=.pointer (some ⟨l.blk,l.base+o,none⟩)
 |.nils,v=>v=.slice none 0 0
 |.slice b o n cap,v=> ∃l,σ b=some l∧v=.slice (some ⟨l.blk,l.base+o,none⟩) n (cap.getD (l.tot - o/l.sz))
 |.nilm,v=>v=.map none
 |.map b,v=> ∃l,σ b=some l∧v=.map (some l.blk)
 |.func f a b,v=> ∃x y,YM σ a x∧YM σ b y∧v=.func (.func f) ⟨x⟩ ⟨y⟩
 |.meth n r,v=> ∃x,Ys σ r x∧v=.func (.method n) #[x] #[]
 |.yield b,v=> ∃l,σ b=some l∧v=.func (.yield l.blk) #[] #[]
 |.nilf,v=>v=.nilFunc
 |.iface t x,v=> ∃y,Ys σ x y∧v=.iface t y
 |.nili,v=>v=.nilIface
 |.agg cs,v=> ∃vs,YM σ cs vs∧(∀x∈vs,x.oneCell'=true)∧v=.agg ⟨vs⟩
 |.tup cs,v=> ∃vs,YM σ cs vs∧v=.tuple ⟨vs⟩
def YM(σ:Mp):List AV->List Value->Prop
 |[],l=>l=[]
 |a::as,l=> ∃v vs,Ys σ a v∧YM σ as vs∧l=v::vs
end
def Oq(σ σ':Mp):Prop:= ∀b l,σ b=some l->σ' b=some l
theorem Oq.refl(σ:Mp):Oq σ σ:=λ_ _ h=>h
theorem Oq.trans{σ σ' σ'':Mp}(h:Oq σ σ')(h':Oq σ' σ''):Oq σ σ'':=λb l x=>h' b l (h b l x)
mutual
theorem Ys.mono{σ σ':Mp}(h:Oq σ σ'): ∀{a:AV} {v:Value},Ys σ a v->Ys σ' a v
 |.unk,_,_=>by simp[Ys]
 |.bool b,v,r=>by simpa [Ys] using r
 |.int k n,v,r=>by simpa [Ys] using r
 |.str s,v,r=>by simpa [Ys] using r
 |.nilp,v,r=>by simpa [Ys] using r
 |.ptr b o,v,r=>by
  simp only[Ys] at r ⊢
  obtain⟨l,hl,hv⟩:=r
  exact⟨l,h _ _ hl,hv⟩
 |.nils,v,r=>by simpa [Ys] using r
 |.slice b o n cap,v,r=>by
  simp only[Ys] at r ⊢
  obtain⟨l,hl,hv⟩:=r
  exact⟨l,h _ _ hl,hv⟩
 |.nilm,v,r=>by simpa [Ys] using r
 |.map b,v,r=>by
  simp only[Ys] at r ⊢
  obtain⟨l,hl,hv⟩:=r
  exact⟨l,h _ _ hl,hv⟩
 |.func f a b,v,r=>by
  simp only[Ys] at r ⊢
  obtain⟨x,y,hx,hy,hv⟩:=r
  exact⟨x,y,YM.mono h hx,YM.mono h hy,hv⟩
 |.meth n a,v,r=>by
  simp only[Ys] at r ⊢
  obtain⟨x,hx,hv⟩:=r
  exact⟨x,Ys.mono h hx,hv⟩
 |.yield b,v,r=>by
  simp only[Ys] at r ⊢
  obtain⟨l,hl,hv⟩:=r
  exact⟨l,h _ _ hl,hv⟩
 |.nilf,v,r=>by simpa [Ys] using r
 |.iface t x,v,r=>by
  simp only[Ys] at r ⊢
  obtain⟨y,hy,hv⟩:=r
  exact⟨y,Ys.mono h hy,hv⟩
 |.nili,v,r=>by simpa [Ys] using r
 |.agg cs,v,r=>by
  simp only[Ys] at r ⊢
  obtain⟨vs,hx,h1,hv⟩:=r
  exact⟨vs,YM.mono h hx,h1,hv⟩
 |.tup cs,v,r=>by
  simp only[Ys] at r ⊢
  obtain⟨vs,hx,hv⟩:=r
  exact⟨vs,YM.mono h hx,hv⟩
theorem YM.mono{σ σ':Mp}(h:Oq σ σ'): ∀{a:List AV} {v:List Value},YM σ a v->YM σ' a v
 |[],v,r=>by simpa [YM] using r
 |a::as,v,r=>by
  simp only[YM] at r ⊢
  obtain⟨x,xs,hx,hxs,hv⟩:=r
  exact⟨x,xs,Ys.mono h hx,YM.mono h hxs,hv⟩
end
theorem YC{α:Type}(l:List α):YH l=l.length:=by
 induction l with
 |nil=>rfl
 |cons a l ih=>show Nat.succ (YH l)=_;rw[ih];rfl
theorem Mt: ∀(n:Nat) (l:List AV),Oo n l=l.take n
 |0,_=>by simp[Oo]
 |n+1,[]=>by simp[Oo]
 |n+1,v::l=>by simp[Oo,Mt n l]
theorem N3: ∀(n:Nat) (l:List AV),PH n l=l.drop n
 |0,_=>by simp[PH]
 |n+1,[]=>by simp[PH]
 |n+1,v::l=>by simp[PH,N3 n l]
theorem PZ: ∀(n:Nat) (l:List UInt8),Ng n l=l.take n
 |0,_=>by simp[Ng]
 |n+1,[]=>by simp[Ng]
 |n+1,v::l=>by simp[Ng,PZ n l]
theorem IL: ∀(n:Nat) (l:List UInt8),JB n l=l.drop n
 |0,_=>by simp[JB]
 |n+1,[]=>by simp[JB]
 |n+1,v::l=>by simp[JB,IL n l]
theorem Hj: ∀(l:List AV) (n:Nat),E2 l n=l[n]?
 |[],_=>by simp[E2]
 |v::_,0=>by simp[E2]
 |_::l,n+1=>by simp[E2,Hj l n]
theorem xZ: ∀(l:List UInt8) (n:Nat),uz l n=l[n]?
 |[],_=>by simp[uz]
 |v::_,0=>by simp[uz]
 |_::l,n+1=>by simp[uz,xZ l n]
section
variable {σ:Mp}
theorem UM:YM σ [] []:=by simp[YM]
theorem WC{a:AV}{as:List AV}{v:Value}{vs:List Value}(h:Ys σ a v)(h':YM σ as vs):YM σ (a::as) (v::vs):=by
 simp only[YM];exact⟨v,vs,h,h',rfl⟩
theorem T7{a:AV}{v:Value}(h:Ys σ a v):YM σ [a] [v]:=WC h UM
theorem YM.nil_inv{l:List Value}(h:YM σ [] l):l=[]:=by simpa [YM] using h
theorem YM.cons_inv{a:AV}{as:List AV}{l:List Value}(h:YM σ (a::as) l): ∃v vs,Ys σ a v∧YM σ as vs∧l=v::vs:=by simpa [YM] using h
theorem YM.length: ∀{as:List AV} {vs:List Value},YM σ as vs->as.length=vs.length
 |[],vs,h=>by rw[h.nil_inv];rfl
 |a::as,vs,h=>by
  obtain⟨v,vs,_,h',rfl⟩:=h.cons_inv
  simp[YM.length h']
theorem YM.append: ∀{as bs:List AV} {vs us:List Value},YM σ as vs->YM σ bs us->YM σ (as++bs) (vs++us)
 |[],bs,vs,us,h,h'=>by rw[h.nil_inv];exact h'
 |a::as,bs,vs,us,h,h'=>by
  obtain⟨v,vs,h1,h2,rfl⟩:=h.cons_inv
  exact WC h1 (YM.append h2 h')
theorem YM.get: ∀{as:List AV} {vs:List Value} {i:Nat} {a:AV},YM σ as vs->as[i]? =some a-> ∃v,vs[i]? =some v∧Ys σ a v
 |[],vs,i,a,h,e=>by simp at e
 |x::as,vs,i,a,h,e=>by
  obtain⟨v,vs,h1,h2,rfl⟩:=h.cons_inv
  cases i with
  |zero=>simp at e;subst e;exact⟨v,rfl,h1⟩
  |succ i=>simp at e;obtain⟨u,hu,hr⟩:=YM.get h2 e;exact⟨u,by simpa using hu,hr⟩
theorem YM.take: ∀{as:List AV} {vs:List Value} (n:Nat),YM σ as vs->YM σ (as.take n) (vs.take n)
 |[],vs,n,h=>by rw[h.nil_inv];simpa using UM
 |a::as,vs,0,h=>by simpa using UM
 |a::as,vs,n+1,h=>by
  obtain⟨v,vs,h1,h2,rfl⟩:=h.cons_inv
  simpa using WC h1 (YM.take n h2)
theorem YM.drop: ∀{as:List AV} {vs:List Value} (n:Nat),YM σ as vs->YM σ (as.drop n) (vs.drop n)
 |[],vs,n,h=>by rw[h.nil_inv];simpa using UM
 |a::as,vs,0,h=>by simpa using h
 |a::as,vs,n+1,h=>by
  obtain⟨v,vs,h1,h2,rfl⟩:=h.cons_inv
  simpa using YM.drop n h2
theorem YM.of_get: ∀{as:List AV} {vs:List Value},as.length=vs.length->(∀(i:Nat) (a:AV) (v:Value),as[i]? =some a->vs[i]? =some v->Ys σ a v)->YM σ as vs
 |[],[],_,_=>UM
 |[],_::_,h,_=>by simp at h
 |_::_,[],h,_=>by simp at h
 |a::as,v::vs,h,g=>WC (g 0 a v rfl rfl) (YM.of_get (by simpa using h) λi x y hx hy=>g (i+1) x y (by simpa using hx) (by simpa using hy))
theorem Qo{a:AV}{v:Value}(h:Ys σ a v)(h1:v.oneCell'=true):YM σ [a] [v]∧ ∀x∈[v],x.oneCell'=true:=⟨T7 h,by simpa using h1⟩
theorem Ys.cells{a:AV}{v:Value}(h:Ys σ a v)(h1:1<=a.cells.length):YM σ a.cells v.cells.toList∧ ∀x∈v.cells.toList,x.oneCell'=true:=by
 cases a<;>simp only[AV.cells,ZA] at h1 ⊢ <;>first
  |omega
  |(simp only[Ys] at h;subst h;exact Qo (by simp[Ys]) rfl)
  |skip
 case ptr b o=>obtain⟨l,hl,rfl⟩:=(by simpa only[Ys] using h);exact Qo (by simp only[Ys];exact⟨l,hl,rfl⟩) rfl
 case slice b o n c=>obtain⟨l,hl,rfl⟩:=(by simpa only[Ys] using h);exact Qo (by simp only[Ys];exact⟨l,hl,rfl⟩) rfl
 case map b=>obtain⟨l,hl,rfl⟩:=(by simpa only[Ys] using h);exact Qo (by simp only[Ys];exact⟨l,hl,rfl⟩) rfl
 case func f x y=>have h0:=h;obtain⟨p,q,hp,hq,rfl⟩:=(by simpa only[Ys] using h);exact Qo h0 rfl
 case meth n x=>have h0:=h;obtain⟨p,hp,rfl⟩:=(by simpa only[Ys] using h);exact Qo h0 rfl
 case yield b=>have h0:=h;obtain⟨p,hp,rfl⟩:=(by simpa only[Ys] using h);exact Qo h0 rfl
 case iface t x=>have h0:=h;obtain⟨p,hp,rfl⟩:=(by simpa only[Ys] using h);exact Qo h0 rfl
 case agg cs=>obtain⟨vs,xA,h2,rfl⟩:=(by simpa only[Ys] using h);exact⟨xA,h2⟩
end
def NI(σ:Mp)(a:RH)(e:MapEntry):Prop:=Ys σ a.key e.key∧Ys σ a.val e.val∧a.born=e.born
def YE(σ:Mp):List RH->List MapEntry->Prop
 |[],l=>l=[]
 |a::as,l=> ∃e es,NI σ a e∧YE σ as es∧l=e::es
noncomputable def Gw(a b:AV):Bool:=match a,b with
 |.str a,.str b=>!Lo a b
 |.int j a,.int k b=>Qd j k&&!G5 a b
 |_,_=>false
def Nf(e:RH):AV×AV:=(e.key,e.val)
def sJ(a b:RH):Prop:=Gw a.key b.key=true∧Gw b.key a.key=true
def Gu(es:List RH)(clock:Nat):Prop:=es.Pairwise (λa b=>a.born<b.born)∧ ∀e∈es,e.born<clock
structure R9(σ:Mp)(r:Row)(l:Loc)(cs:Array Value)(fr:Nat×Nat):Prop where
 sz:l.sz=r.sz
 sz1:1<=l.sz
 fits:r.size<=l.tot*l.sz
 room:l.base+l.tot*l.sz<=cs.size
 exact:r.exact=true->r.size=l.tot*l.sz∧l.base=0∧cs.size=r.size
 cell: ∀i,i<r.size-> ∃v,cs[l.base+i]? =some v∧Ys σ (r.get i) v
 one: ∀(i:Nat) (v:Value),i<r.size->cs[l.base+i]? =some v->v.oneCell'=true
 frz:r.own=true-> ∀i,r.fz<=i->i<l.tot*l.sz-> ¬(fr.1<=l.base+i∧l.base+i<fr.2)
 frs:r.own=true->r.sm=false->fr.1=fr.2∨(1<=r.fz∧fr.2<=l.base+r.fz)
def Uz(σ:Mp)(o:Obj)(l:Loc)(c:Go.Obj):Prop:=match o with
 |.row r=> ∃cs fr,c=.cells cs r.elem fr∧R9 σ r l cs fr
 |.map es clock=> ∃ents,c=.map ents clock∧YE σ es ents.toList∧Gu es clock
 |.siter s pos=>c=.stringIter ⟨s.toArray⟩ pos∧l.base=0
 |.miter m since cur=> ∃seen st,c=.mapIter (m.bind λb=>(σ b).map (·.blk)) since seen st∧(∀b,m=some b->(σ b).isSome=true)∧l.base=0∧
   match cur with
   |none=>seen= #[]∧st=since
   |some (n,t)=>seen.back? =some n∧st=t
 |.loop=> ∃lp,c=.loop lp
 |.cmap es=> ∃ents clock fs,c=.map ents clock∧YE σ fs ents.toList∧(fs.map Nf).Perm (es.map Nf)∧es.Pairwise sJ
def LF(o:Obj):Prop:= ∃r,o=.row r∧r.own=false
theorem LF.not_own{o:Obj}(h:LF o)(hw: ∀r,o=.row r->r.own=true):False:=by
 obtain⟨r,rfl,e⟩:=h
 rw[hw r rfl] at e;cases e
structure Wh(P:Program)(σ:Mp)(H:Zc)(w:World):Prop where
 dom: ∀b l,σ b=some l->b<H.nx
 low: ∀b o,H.t.get b=some o->b<H.nx
 alive: ∀b o l,H.t.get b=some o->σ b=some l-> ∃c,w.heap[l.blk]? =some c∧Uz σ o l c
 inj: ∀b b' o o' l l',H.t.get b=some o->H.t.get b'=some o'->σ b=some l->σ b'=some l'->l.blk=l'.blk->b=b'∨(LF o∧LF o')
 glob: ∀g,g<P.globals.size-> ∃l,σ g=some l∧l.blk=g∧l.base=0
 ro:H.ro<=H.nx
def Wr(H:Zc)(b:Nat):Prop:=H.ro<=b∧ ∃o,H.t.get b=some o∧(∀r,o=.row r->r.own=true)∧o≠.loop
theorem Wr.hard{H:Zc}{b:Nat}{o:Obj}(h:Wr H b)(ho:H.t.get b=some o)(hs:LF o):False:=by
 obtain⟨_,o',Eh,hw,_⟩:=h
 rw[ho] at Eh;cases Eh
 exact hs.not_own hw
theorem Wh.alone{P:Program}{σ:Mp}{H:Zc}{w:World}(h:Wh P σ H w){b b':Nat}{o o':Obj}{l l':Loc}(hb:H.t.get b=some o)(B3:H.t.get b'=some o')(hl:σ b=some l)(SS:σ b'=some l')(e:l.blk=l'.blk)(hs: ¬(LF o∧LF o')):b=b':=
 (h.inj b b' o o' l l' hb B3 hl SS e).resolve_right hs
structure Tr(P:Program)(σ:Mp)(H:Zc)(w:World)(σ':Mp)(H':Zc)(w':World):Prop where
 ext:Oq σ σ'
 sim:Wh P σ' H' w'
 size:w.heap.size<=w'.heap.size
 frame: ∀k,k<w.heap.size->(∀b l,Wr H b->σ b=some l->l.blk≠k)->w'.heap[k]? =w.heap[k]?
 wr: ∀b l,Wr H' b->σ' b=some l->l.blk<w.heap.size-> ∃b0 l0,Wr H b0∧σ b0=some l0∧l0.blk=l.blk
 nx:H.nx<=H'.nx
 ro:H'.ro=H.ro
 low: ∀b,b<H.ro->H'.t.get b=H.t.get b
 tape:w'.tape=w.tape
 os:w'.os=w.os
 out:w'.output=w.output
 pend: ∀b,b<H.nx->σ b=none->H'.t.get b=H.t.get b∧σ' b=none
theorem Tr.refl{P:Program}{σ:Mp}{H:Zc}{w:World}(h:Wh P σ H w):Tr P σ H w σ H w:=
 ⟨Oq.refl σ,h,Zj _,λ_ _ _=>rfl,λb l hw hl _=>⟨b,l,hw,hl,rfl⟩,Zj _,rfl,λ_ _=>rfl,rfl,rfl,rfl,λ_ _ h=>⟨rfl,h⟩⟩
theorem Tr.trans{P:Program}{σ σ' σ'':Mp}{H H' H'':Zc}{w w' w'':World}(h:Tr P σ H w σ' H' w')(h':Tr P σ' H' w' σ'' H'' w''):
  Tr P σ H w σ'' H'' w'':=by
 refine⟨h.ext.trans h'.ext,h'.sim,Yt h.size h'.size,?_,?_,Yt h.nx h'.nx,h'.ro.trans h.ro,?_,h'.tape.trans h.tape,h'.os.trans h.os,h'.out.trans h.out,?_⟩
 ·intro k hk hn
  rw[h'.frame k (ZH hk h.size) ?_,h.frame k hk hn]
  intro b l hw hl e
  obtain⟨b0,l0,i6,Aj,e0⟩:=h.wr b l hw hl (by rw[e];exact hk)
  exact hn b0 l0 i6 Aj (e0.trans e)
 ·intro b l hw hl Y6
  obtain⟨b1,l1,hw1,NX,e1⟩:=h'.wr b l hw hl (ZH Y6 h.size)
  obtain⟨b0,l0,i6,Aj,e0⟩:=h.wr b1 l1 hw1 NX (by rw[e1];exact Y6)
  exact⟨b0,l0,i6,Aj,e0.trans e1⟩
 ·intro b hb
  rw[h'.low b (by rw[h.ro];exact hb),h.low b hb]
 ·intro b hb hn
  obtain⟨h1,h2⟩:=h.pend b hb hn
  obtain⟨h3,h4⟩:=h'.pend b (ZH hb h.nx) h2
  exact⟨h3.trans h1,h4⟩
theorem NI.mono{σ σ':Mp}(h:Oq σ σ'){a:RH}{e:MapEntry}(r:NI σ a e):NI σ' a e:=⟨r.1.mono h,r.2.1.mono h,r.2.2⟩
theorem YE.mono{σ σ':Mp}(h:Oq σ σ'): ∀{as:List RH} {es:List MapEntry},YE σ as es->YE σ' as es
 |[],es,r=>by simpa [YE] using r
 |a::as,es,r=>by
  simp only[YE] at r ⊢
  obtain⟨e,es',h1,h2,h3⟩:=r
  exact⟨e,es',h1.mono h,YE.mono h h2,h3⟩
theorem R9.mono{σ σ':Mp}(h:Oq σ σ'){r:Row}{l:Loc}{cs:Array Value}{fr:Nat×Nat}(x:R9 σ r l cs fr):R9 σ' r l cs fr:=
 ⟨x.sz,x.sz1,x.fits,x.room,x.exact,λi hi=>let ⟨v,hv,hr⟩:=x.cell i hi;⟨v,hv,hr.mono h⟩,x.one,x.frz,x.frs⟩
theorem Uz.mono{σ σ':Mp}(h:Oq σ σ'){o:Obj}{l:Loc}{c:Go.Obj}(x:Uz σ o l c):Uz σ' o l c:=by
 cases o with
 |row r=>obtain⟨cs,fr,e,x⟩:=x;exact⟨cs,fr,e,x.mono h⟩
 |map es clock=>obtain⟨ents,e,x,y⟩:=x;exact⟨ents,e,x.mono h,y⟩
 |cmap es=>obtain⟨ents,cl,fs,e,x,y⟩:=x;exact⟨ents,cl,fs,e,x.mono h,y⟩
 |siter s pos=>exact x
 |miter m since cur=>
  obtain⟨seen,st,e,hm,y⟩:=x
  refine⟨seen,st,?_,?_,y⟩
  ·rw[e]
   cases m with
   |none=>rfl
   |some b=>
    have:=hm b rfl
    cases hb:σ b with
    |none=>rw[hb] at this;cases this
    |some l=>simp[hb,h b l hb]
  ·intro b hb
   have:=hm b hb
   cases hs:σ b with
   |none=>rw[hs] at this;cases this
   |some l=>rw[h b l hs];rfl
 |loop=>exact x
def Mp.put(σ:Mp)(b:Nat)(l:Loc):Mp:=λc=>if c=b then some l else σ c
theorem Mp.put_same(σ:Mp)(b:Nat)(l:Loc):σ.put b l b=some l:=by simp[Mp.put]
theorem Mp.put_ext{σ:Mp}{b:Nat}(l:Loc)(h:σ b=none):Oq σ (σ.put b l):=by
 intro c m hc
 unfold Mp.put
 by_cases e:c=b
 ·subst e;rw[h] at hc;cases hc
 ·rw[if_neg e];exact hc
theorem Wh.fresh{P:Program}{σ:Mp}{H:Zc}{w:World}(h:Wh P σ H w){b:Nat}(hb:H.nx<=b):σ b=none:=by
 cases e:σ b with
 |none=>rfl
 |some l=>have:=h.dom b l e;omega
theorem Wh.get_lt{P:Program}{σ:Mp}{H:Zc}{w:World}(h:Wh P σ H w){b:Nat}{o:Obj}(hb:H.t.get b=some o):b<H.nx:=by
 exact h.low b o hb
theorem Wh.blk_lt{P:Program}{σ:Mp}{H:Zc}{w:World}(h:Wh P σ H w){b:Nat}{o:Obj}{l:Loc}(hb:H.t.get b=some o)(hl:σ b=some l):l.blk<w.heap.size:=by
 obtain⟨c,hc,_⟩:=h.alive b o l hb hl
 exact(ZW.1 hc).1
theorem Zc.get_new(H:Zc)(o:Obj)(b:Nat):(H.new o).t.get b=if H.nx=b then some o else H.t.get b:=T.get_set _ _ _ _
theorem Zc.nx_new(H:Zc)(o:Obj):(H.new o).nx=H.nx+1:=rfl
theorem Zc.ro_new(H:Zc)(o:Obj):(H.new o).ro=H.ro:=rfl
theorem Zc.get_put(H:Zc)(c:Nat)(o:Obj)(b:Nat):(H.put c o).t.get b=if c=b then some o else H.t.get b:=T.get_set _ _ _ _
theorem SG{w:World}{o:Go.Obj}{k:Nat}(h:k<w.heap.size):(w.alloc o).heap[k]? =w.heap[k]? :=heap_alloc_old w o k h
theorem SF(w:World)(o:Go.Obj):(w.alloc o).heap[w.heap.size]? =some o:=heap_alloc_new w o
theorem Tr.alloc{P:Program}{σ:Mp}{H:Zc}{w:World}(h:Wh P σ H w)(o:Obj)(c:Go.Obj)(l:Loc)(hl:l.blk=w.heap.size)
  (ho:Uz (σ.put H.nx l) o l c):Tr P σ H w (σ.put H.nx l) (H.new o) (w.alloc c):=by
 have hf:σ H.nx=none:=h.fresh (Zj _)
 have he:=Mp.put_ext l hf
 refine⟨he,⟨?_,?_,?_,?_,?_,?_⟩,by simp,?_,?_,by simp[Zc.nx_new],rfl,?_,rfl,rfl,rfl,λb hb hn=>⟨by rw[Zc.get_new,if_neg (by omega)],by unfold Mp.put;rw[if_neg (by omega)];exact hn⟩⟩
 ·intro b m hb
  rw[Zc.nx_new]
  unfold Mp.put at hb
  by_cases e:b=H.nx
  ·omega
  ·rw[if_neg e] at hb;have:=h.dom b m hb;omega
 ·intro b o' hb
  rw[Zc.get_new] at hb
  rw[Zc.nx_new]
  by_cases e:H.nx=b
  ·omega
  ·rw[if_neg e] at hb;have:=h.low b o' hb;omega
 ·intro b o' l' hb SS
  rw[Zc.get_new] at hb
  by_cases e:H.nx=b
  ·rw[if_pos e] at hb;cases hb;subst e
   rw[Mp.put_same] at SS;cases SS
   exact⟨c,by rw[hl];exact SF w c,ho⟩
  ·rw[if_neg e] at hb
   have Nl:σ b=some l':=by unfold Mp.put at SS;rwa [if_neg (λx=>e x.symm)] at SS
   obtain⟨c',rD,hr⟩:=h.alive b o' l' hb Nl
   exact⟨c',by rw[SG (ZW.1 rD).1];exact rD,hr.mono he⟩
 ·intro b b' o1 o2 l1 l2 hb B3 NX Nl e
  rw[Zc.get_new] at hb B3
  by_cases e1:H.nx=b<;>by_cases e2:H.nx=b'
  ·omega
  ·rw[if_neg e2] at B3
   subst e1
   rw[Mp.put_same] at NX;cases NX
   have Zf6:σ b'=some l2:=by unfold Mp.put at Nl;rwa [if_neg (λx=>e2 x.symm)] at Nl
   have:=h.blk_lt B3 Zf6
   omega
  ·rw[if_neg e1] at hb
   subst e2
   rw[Mp.put_same] at Nl;cases Nl
   have Zf5:σ b=some l1:=by unfold Mp.put at NX;rwa [if_neg (λx=>e1 x.symm)] at NX
   have:=h.blk_lt hb Zf5
   omega
  ·rw[if_neg e1] at hb;rw[if_neg e2] at B3
   have Zf5:σ b=some l1:=by unfold Mp.put at NX;rwa [if_neg (λx=>e1 x.symm)] at NX
   have Zf6:σ b'=some l2:=by unfold Mp.put at Nl;rwa [if_neg (λx=>e2 x.symm)] at Nl
   exact h.inj b b' o1 o2 l1 l2 hb B3 Zf5 Zf6 e
 ·intro g hg
  obtain⟨l',h1,h2⟩:=h.glob g hg
  exact⟨l',he g l' h1,h2⟩
 ·rw[Zc.ro_new,Zc.nx_new];have:=h.ro;omega
 ·intro k hk _
  exact SG hk
 ·intro b l' hw SS Y6
  obtain⟨YL,o',Eh,Kf⟩:=hw
  rw[Zc.get_new] at Eh
  by_cases e:H.nx=b
  ·subst e
   rw[Mp.put_same] at SS;cases SS
   omega
  ·rw[if_neg e] at Eh
   have Nl:σ b=some l':=by unfold Mp.put at SS;rwa [if_neg (λx=>e x.symm)] at SS
   exact⟨b,l',⟨YL,o',Eh,Kf⟩,Nl,rfl⟩
 ·intro b hb
  rw[Zc.get_new,if_neg]
  have:=h.ro;omega
theorem Tr.write{P:Program}{σ:Mp}{H:Zc}{w w':World}(h:Wh P σ H w){b:Nat}{o o':Obj}{l:Loc}{c':Go.Obj}
  (hb:H.t.get b=some o)(hl:σ b=some l)(hw:Wr H b)
  (hsize:w'.heap.size=w.heap.size)(Ia:w'.heap[l.blk]? =some c')(hold: ∀k,k≠l.blk->w'.heap[k]? =w.heap[k]?)
  (ho:Uz σ o' l c')(ht:w'.tape=w.tape)(hos:w'.os=w.os)(N9:w'.output=w.output):Tr P σ H w σ (H.put b o') w':=by
 refine⟨Oq.refl σ,⟨h.dom,?_,?_,?_,h.glob,h.ro⟩,by omega,?_,?_,Zj _,rfl,?_,ht,hos,N9,λb1 _ hn=>⟨by rw[Zc.get_put,if_neg (λe=>by subst e;rw[hl] at hn;cases hn)],hn⟩⟩
 ·intro b1 o1 Q3
  rw[Zc.get_put] at Q3
  by_cases e:b=b1
  ·subst e;exact h.low b o hb
  ·rw[if_neg e] at Q3;exact h.low b1 o1 Q3
 ·intro b1 o1 l1 Q3 NX
  rw[Zc.get_put] at Q3
  by_cases e:b=b1
  ·rw[if_pos e] at Q3;cases Q3;subst e
   rw[hl] at NX;cases NX
   exact⟨c',Ia,ho⟩
  ·rw[if_neg e] at Q3
   obtain⟨c1,hc1,hr⟩:=h.alive b1 o1 l1 Q3 NX
   refine⟨c1,?_,hr⟩
   rw[hold l1.blk ?_];exact hc1
   intro e2
   exact e (h.alone hb Q3 hl NX e2.symm λs=>hw.hard hb s.1)
 ·intro b1 b2 o1 o2 l1 l2 h1 h2 k1 k2 e
  have g: ∀(x:Nat) (ox:Obj),(H.put b o').t.get x=some ox-> ∃oy,H.t.get x=some oy:=by
   intro x ox hx
   rw[Zc.get_put] at hx
   by_cases ex:b=x
   ·subst ex;exact⟨o,hb⟩
   ·rw[if_neg ex] at hx;exact⟨ox,hx⟩
  obtain⟨o1',B2⟩:=g b1 o1 h1
  obtain⟨o2',eB⟩:=g b2 o2 h2
  rcases h.inj b1 b2 o1' o2' l1 l2 B2 eB k1 k2 e with e1|⟨s1,s2⟩
  ·exact .inl e1
  ·rw[Zc.get_put] at h1 h2
   rw[if_neg (λx=>by subst x;exact hw.hard B2 s1)] at h1
   rw[if_neg (λx=>by subst x;exact hw.hard eB s2)] at h2
   rw[h1] at B2;cases B2
   rw[h2] at eB;cases eB
   exact .inr ⟨s1,s2⟩
 ·intro k hk hn
  exact hold k λe=>hn b l hw hl e.symm
 ·intro b1 l1 hw1 NX Y6
  by_cases e:b=b1
  ·subst e;exact⟨b,l1,hw,NX,rfl⟩
  ·obtain⟨YL,o1,ho1,Kf⟩:=hw1
   rw[Zc.get_put,if_neg e] at ho1
   exact⟨b1,l1,⟨YL,o1,ho1,Kf⟩,NX,rfl⟩
 ·intro b1 Q3
  rw[Zc.get_put,if_neg]
  intro e;have:=hw.1;omega
namespace N8
variable {α:Type}
theorem proj_upd(i j:Nat)(hi:i<8)(hj:j<8)(f:α->α)(n:N8 α):proj i (upd j f n)=if i=j then f (proj i n) else proj i n:=by
 obtain⟨a,b,c,d,e,g,h,k⟩:=n
 match i,hi,j,hj with
 |0,_,0,_=>rfl|0,_,1,_=>rfl|0,_,2,_=>rfl|0,_,3,_=>rfl|0,_,4,_=>rfl|0,_,5,_=>rfl|0,_,6,_=>rfl|0,_,7,_=>rfl
 |1,_,0,_=>rfl|1,_,1,_=>rfl|1,_,2,_=>rfl|1,_,3,_=>rfl|1,_,4,_=>rfl|1,_,5,_=>rfl|1,_,6,_=>rfl|1,_,7,_=>rfl
 |2,_,0,_=>rfl|2,_,1,_=>rfl|2,_,2,_=>rfl|2,_,3,_=>rfl|2,_,4,_=>rfl|2,_,5,_=>rfl|2,_,6,_=>rfl|2,_,7,_=>rfl
 |3,_,0,_=>rfl|3,_,1,_=>rfl|3,_,2,_=>rfl|3,_,3,_=>rfl|3,_,4,_=>rfl|3,_,5,_=>rfl|3,_,6,_=>rfl|3,_,7,_=>rfl
 |4,_,0,_=>rfl|4,_,1,_=>rfl|4,_,2,_=>rfl|4,_,3,_=>rfl|4,_,4,_=>rfl|4,_,5,_=>rfl|4,_,6,_=>rfl|4,_,7,_=>rfl
 |5,_,0,_=>rfl|5,_,1,_=>rfl|5,_,2,_=>rfl|5,_,3,_=>rfl|5,_,4,_=>rfl|5,_,5,_=>rfl|5,_,6,_=>rfl|5,_,7,_=>rfl
 |6,_,0,_=>rfl|6,_,1,_=>rfl|6,_,2,_=>rfl|6,_,3,_=>rfl|6,_,4,_=>rfl|6,_,5,_=>rfl|6,_,6,_=>rfl|6,_,7,_=>rfl
 |7,_,0,_=>rfl|7,_,1,_=>rfl|7,_,2,_=>rfl|7,_,3,_=>rfl|7,_,4,_=>rfl|7,_,5,_=>rfl|7,_,6,_=>rfl|7,_,7,_=>rfl
theorem proj_all(i:Nat)(x:α):proj i (all x)=x:=by
 unfold proj
 split<;>rfl
end N8
theorem IQ(n m:Nat)(hn:n<512)(hm:m<512)(tm:TM)(v:AV):Su n (Pq m tm v)=if n=m then v else Su n tm:=by
 show N8.proj (n % 8) (N8.proj (n/8 % 8) (N8.proj (n/64) (N8.upd (m/64) (N8.upd (m/8 % 8) (N8.upd (m % 8) (λ_=>v))) tm)))=if n=m then v else N8.proj (n % 8) (N8.proj (n/8 % 8) (N8.proj (n/64) tm))
 rw[N8.proj_upd _ _ (by omega) (by omega)]
 by_cases h1:n/64=m/64
 ·rw[if_pos h1,N8.proj_upd _ _ (by omega) (by omega)]
  by_cases h2:n/8 % 8=m/8 % 8
  ·rw[if_pos h2,N8.proj_upd _ _ (by omega) (by omega)]
   by_cases h3:n % 8=m % 8
   ·rw[if_pos h3,if_pos (by omega)]
   ·rw[if_neg h3,if_neg (by omega)]
  ·rw[if_neg h2,if_neg (by omega)]
 ·rw[if_neg h1,if_neg (by omega)]
theorem oL(n:Nat):Su n Lb=.unk:=by
 show N8.proj (n % 8) (N8.proj (n/8 % 8) (N8.proj (n/64) Lb))=_
 rw[show Lb=N8.all u64 from rfl,N8.proj_all,show u64=N8.all u8 from rfl,N8.proj_all,show u8=N8.all AV.unk from rfl,N8.proj_all]
structure Qv(σ:Mp)(N:Nat)(tm:TM)(t:Array Value):Prop where
 size:N<=t.size
 get: ∀n,n<512->Ys σ (Su n tm) (t.getD n undef)
theorem Qv.mono{σ σ':Mp}{N:Nat}{tm:TM}{t:Array Value}(h:Oq σ σ')(x:Qv σ N tm t):Qv σ' N tm t:=⟨x.size,λn hn=>(x.get n hn).mono h⟩
theorem Qv.set{σ:Mp}{N:Nat}{tm:TM}{t:Array Value}(x:Qv σ N tm t){d:Nat}{a:AV}{v:Value}(hd:d<N)(h:Ys σ a v):
  Qv σ N (XR (some d) tm a) (t.setIfInBounds d v):=by
 refine⟨by simpa using x.size,λn hn=>?_⟩
 have hs:=x.size
 by_cases h5:d<=511
 ·have hb:Nat.ble d 511=true:=Zg h5
  have e:XR (some d)=Pq d:=by show cond (Nat.ble d 511) (Pq d) d0=_;rw[hb];rfl
  rw[e,IQ n d hn (by omega)]
  by_cases e1:n=d
  ·subst e1
   rw[if_pos rfl]
   simp only[Z0,Xh]
   have:n<t.size:=by omega
   simpa [this] using h
  ·rw[if_neg e1]
   simp only[Z0,Xh]
   rw[if_neg (λz=>e1 z.symm)]
   have:=x.get n hn
   simpa only[Z0] using this
 ·have hb:Nat.ble d 511=false:=by
   cases e:Nat.ble d 511 with
   |false=>rfl
   |true=>exact absurd (ZN e) h5
  have e:XR (some d)=d0:=by show cond (Nat.ble d 511) (Pq d) d0=_;rw[hb];rfl
  rw[e]
  show Ys σ (Su n tm) _
  simp only[Z0,Xh]
  rw[if_neg (by omega)]
  have:=x.get n hn
  simpa only[Z0] using this
theorem KH{σ:Mp}{f:Value->AV}: ∀(l:List Value),(∀v∈l,Ys σ (f v) v)->YM σ (x7 f l) l
 |[],_=>UM
 |v::l,h=>WC (h v (by simp)) (KH l λu hu=>h u (by simp[hu]))
theorem qP(σ:Mp): ∀(n:Nat) (v:Value),M3 n v=true->Ys σ (Ig n v) v:=by
 intro n
 induction n with
 |zero=>intro v _;simp[Ig,Ys]
 |succ n ih=>
  intro v hp
  unfold Ig
  split
  ·simp[Ys]
  ·simp[Ys]
  ·rename_i s;simp only[Ys]
  ·simp[Ys]
  ·simp[Ys]
  ·simp[Ys]
  ·simp[Ys]
  ·simp only[Ys];exact⟨[],[],UM,UM,rfl⟩
  ·simp[Ys]
  ·rename_i t u;simp only[Ys];exact⟨u,ih u (by simpa [M3] using hp),rfl⟩
  ·rename_i cs
   simp only[M3,Y7,XE] at hp
   simp only[Ys]
   exact⟨cs,KH cs λv hv=>ih v (hp v hv).2,λv hv=>(by have:=(hp v hv).1;cases v<;>first|rfl|exact this),rfl⟩
  ·rename_i cs
   simp only[M3,Y7] at hp
   simp only[Ys]
   exact⟨cs,KH cs λv hv=>ih v (hp v hv),rfl⟩
  ·simp[Ys]
theorem Pe{α:Type}(a:Nat)(f:Nat->α):SO a f=f a:=by cases a<;>rfl
theorem Rt{α:Type}(n:Int)(f:Int->α):QB n f=f n:=by
 cases n with
 |ofNat a=>show SO a (λa=>f (.ofNat a))=_;rw[Pe]
 |negSucc a=>show SO a (λa=>f (.negSucc a))=_;rw[Pe]
theorem Zb3(a b:Int):xB a b=a+b:=by cases a<;>cases b<;>rfl
theorem nu(a b:Int):Km a b=a - b:=by
 cases a<;>cases b<;>try rfl
 rename_i x y
 show cond (Nat.ble y x) (Int.ofNat (x - y)) (Int.ofNat x - Int.ofNat y)=_
 cases h:Nat.ble y x with
 |false=>rfl
 |true=>have:=ZN h;show Int.ofNat (x - y)=_;simp only[Yx];omega
theorem nj(a b:Int):Kk a b=a*b:=by cases a<;>cases b<;>rfl
theorem Zb4(a b:Int):Zgq a b=a.tdiv b:=by cases a<;>cases b<;>rfl
theorem Zb7(a b:Int):Zgr a b=a.tmod b:=by cases a<;>cases b<;>rfl
theorem Ym(a b:Nat):Nat.beq a b=decide (a=b):=by
 by_cases h:a=b
 ·subst h;simp
 ·rw[Za h]
  cases e:Nat.beq a b with
  |false=>rfl
  |true=>exact absurd (ZT e) h
theorem Y5(a b:Nat):Nat.ble a b=decide (a<=b):=by
 by_cases h:a<=b
 ·rw[Ze h];exact Zg h
 ·rw[Za h]
  cases e:Nat.ble a b with
  |false=>rfl
  |true=>exact absurd (ZN e) h
theorem Oa(a b:Int):G5 a b=(a==b):=by
 cases a<;>cases b
 ·rename_i x y;show Nat.beq x y=_;rw[Ym,W7];simp;omega
 ·rfl
 ·rfl
 ·rename_i x y;show Nat.beq x y=_;rw[Ym,W7];simp
theorem Kj(a b:Int):rT a b=decide (a<b):=by
 cases a<;>cases b
 ·rename_i x y;show Nat.ble (x+1) y=_;rw[Y5,W7];simp;omega
 ·rename_i x y;show false=_;rw[W7];simp;omega
 ·rename_i x y;show true=_;rw[W7];simp;omega
 ·rename_i x y;show Nat.ble (y+1) x=_;rw[Y5,W7];simp;omega
theorem Zgu(a b:IntKind):Qd a b=decide (a=b):=by cases a<;>cases b<;>rfl
theorem R1{a b:IntKind}(h:Qd a b=true):a=b:=by rw[Zgu] at h;exact Zn h
theorem Gq(k:IntKind)(m:Nat)(n:Int)(hs:k.signed=false)(hm:(2^k.bits:Int)=m):yL k m n=k.wrap n:=by
 cases n with
 |negSucc a=>rfl
 |ofNat a=>
  show cond (Nat.ble m a) (Int.ofNat (a % m)) (Int.ofNat a)=_
  unfold IntKind.wrap
  simp only[hs,hm,Xy,YO,if_false]
  rw[Y5]
  by_cases h:m<=a
  ·rw[Ze h];simp
  ·rw[Za h]
   show Int.ofNat a=_
   rw[Yx,Int.emod_eq_of_lt (by omega) (by omega)]
theorem Gp(k:IntKind)(h:Nat)(n:Int)(hs:k.signed=true)(hm:(2^k.bits:Int)=2*h)(hh:(2^(k.bits - 1):Int)=h)(h0:0<h):sB k h n=k.wrap n:=by
 cases n with
 |ofNat a=>
  show cond (Nat.ble h a) (k.wrap (Int.ofNat a)) (Int.ofNat a)=_
  rw[Y5]
  by_cases g:h<=a
  ·rw[Ze g];rfl
  ·rw[Za g]
   show Int.ofNat a=_
   unfold IntKind.wrap
   simp only[hs,hm,hh,YG]
   rw[Yx,Int.emod_eq_of_lt (by omega) (by omega),if_neg]
   simp;omega
 |negSucc a=>
  show cond (Nat.ble h a) (k.wrap (Int.negSucc a)) (Int.negSucc a)=_
  rw[Y5]
  by_cases g:h<=a
  ·rw[Ze g];rfl
  ·rw[Za g]
   show Int.negSucc a=_
   unfold IntKind.wrap
   simp only[hs,hm,hh,YG]
   have e:(Int.negSucc a) % (2*(h:Int))=Int.negSucc a+2*h:=by
    have:=Int.add_mul_emod_self_left (Int.negSucc a) (2*(h:Int)) 1
    rw[<-this,Int.mul_one,Int.emod_eq_of_lt (by omega) (by omega)]
   rw[e,if_pos]
   ·omega
   ·simp;omega
theorem P1(k:IntKind)(n:Int):ZeE k n=k.wrap n:=by
 cases k
 ·exact Gp .i8 128 n rfl (by decide) (by decide) (by decide)
 ·exact Gp .i16 32768 n rfl (by decide) (by decide) (by decide)
 ·exact Gp .i32 2147483648 n rfl (by decide) (by decide) (by decide)
 ·exact Gp .i64 9223372036854775808 n rfl (by decide) (by decide) (by decide)
 ·exact Gq .u8 256 n rfl (by decide)
 ·exact Gq .u16 65536 n rfl (by decide)
 ·exact Gq .u32 4294967296 n rfl (by decide)
 ·exact Gq .u64 18446744073709551616 n rfl (by decide)
theorem CN(k:IntKind):Rf k=2^k.bits:=by cases k<;>rfl
theorem gy(k:IntKind):oq k=k.bits:=by cases k<;>rfl
theorem Gx(k:IntKind)(n:Int):Qy (Rf k) n=(BitVec.ofInt k.bits n).toNat:=by
 rw[BitVec.toNat_ofInt,CN]
 have hp:0<2^k.bits:=Nat.two_pow_pos _
 generalize 2^k.bits=m at*
 cases n with
 |ofNat a=>
  show a % m=_
  simp only[Yx]
  norm_cast
 |negSucc a=>
  show(m - 1) - a % m=_
  have h:(Int.negSucc a) % (m:Int)=((m - 1 - a % m:Nat):Int):=by
   rw[Int.negSucc_emod _ (by omega)]
   have:=W1 a hp
   omega
  rw[h];simp
theorem vc(k:IntKind)(a b:Int):Nat.land (BitVec.ofInt k.bits a).toNat ((2^k.bits - 1) - (BitVec.ofInt k.bits b).toNat)=(BitVec.ofInt k.bits a&&& ~~~ (BitVec.ofInt k.bits b)).toNat:=by
 rw[BitVec.toNat_and,BitVec.toNat_not];rfl
theorem uf(P:Program)(w:World)(op:BinOp)(f:Nat->Nat->Nat->Nat)(sD:(op=.and∧f=Sf)∨(op=.or∧f=Re)∨(op=.xor∧f=Zaf)∨(op=.andNot∧f=Mv))(k:IntKind)(a b:Int):
  (Op.intBits op k a b).run P w=.ok (.int k (k.wrap (Int.ofNat (f (Rf k) (Qy (Rf k) a) (Qy (Rf k) b))))) w:=by
 rw[Gx,Gx]
 rcases sD with⟨rfl,rfl⟩|⟨rfl,rfl⟩|⟨rfl,rfl⟩|⟨rfl,rfl⟩
 ·simp[Op.intBits,Sf]
 ·simp[Op.intBits,Re]
 ·simp[Op.intBits,Zaf]
 ·unfold Mv;rw[CN]
  have:=vc k a b
  simp only[Op.intBits]
  rw[show(Nat.land (BitVec.ofInt k.bits a).toNat (Nat.sub (Nat.sub (2^k.bits) 1) (BitVec.ofInt k.bits b).toNat))=_ from this]
  rfl
theorem Zag(P:Program)(w:World)(k:IntKind)(a:Int):
  (Op.intBits .xor k (if k.signed then -1 else k.max) a).run P w=.ok (.int k (k.wrap (Int.ofNat (Nat.sub (Nat.sub (Rf k) 1) (Qy (Rf k) a))))) w:=by
 rw[Gx,CN]
 have h:BitVec.ofInt k.bits (if k.signed then -1 else k.max)=BitVec.allOnes k.bits:=by
  cases k<;>decide
 simp only[Op.intBits,h]
 have e:(BitVec.allOnes k.bits^^^BitVec.ofInt k.bits a)= ~~~ (BitVec.ofInt k.bits a):=by rw[BitVec.allOnes_xor]
 rw[e,BitVec.toNat_not]
 rfl
theorem Zcc(a:Int)(b:Nat):Zgt a b=a.fdiv (2^b):=by
 have hp:(0:Int)<((2^b:Nat):Int):=by have:=Nat.two_pow_pos b;omega
 have he:(2^b:Int)=((2^b:Nat):Int):=by simp
 rw[he,Int.fdiv_eq_ediv_of_nonneg _ (by omega)]
 cases a with
 |ofNat x=>
  show Int.ofNat (x/2^b)=_
  rfl
 |negSucc x=>
  show Int.negSucc (x/2^b)=_
  rw[Int.negSucc_ediv _ hp]
  rfl
def Y2(P:Program)(σ:Mp)(H:Zc)(w:World)(r:Result Next):OR->Prop
 |.val v H'=> ∃σ' w' x,(r=.ok (.value x) w'∨(r=.ok .skip w'∧x=undef))∧Ys σ' v x∧Tr P σ H w σ' H' w'
 |.oth .fail=>True
 |.oth (.call f args H')=>H'=H∧ ∃vs,YM σ args vs∧r=(callFunc f ⟨vs⟩).run P w
 |.oth (.yield b args H')=>H'=H∧ ∃l vs,σ b=some l∧YM σ args vs∧r=(Instr.yield l.blk ⟨vs⟩).run P w
 |.oth (.pan v H')=>H'=H∧ ∃x,Ys σ v x∧r=.halt (.panic x) w
 |.oth .recov=>r=.ok .recover w
 |.oth (.defer f args)=> ∀g a b,f=.func g a b-> ∃x y z,YM σ a x∧YM σ args y∧YM σ b z∧r=.ok (.defer {target:=.fn (.func g) ⟨z⟩,args:=⟨x++y⟩}) w
section
variable {P:Program} {σ:Mp} {H:Zc} {w:World} {r:Result Next}
theorem Yh(hs:Wh P σ H w){v:AV}{x:Value}(h:r=.ok (.value x) w)(hr:Ys σ v x):Y2 P σ H w r (.val v H):=
 ⟨σ,w,x,.inl h,hr,Tr.refl hs⟩
theorem RX{v:AV}{f:IntKind->Int->OR}(h: ∀k n,v=.int k n->Y2 P σ H w r (f k n)):Y2 P σ H w r (RC v f):=by
 unfold RC;split
 ·exact h _ _ rfl
 ·trivial
theorem Sy{v:AV}{f:Nat->OR}(h: ∀k n,v=.int k (.ofNat n)->Y2 P σ H w r (f n)):Y2 P σ H w r (SW v f):=by
 unfold SW;split
 ·exact h _ _ rfl
 ·trivial
theorem A9{v:AV}{f:Bool->OR}(h: ∀b,v=.bool b->Y2 P σ H w r (f b)):Y2 P σ H w r (Fk v f):=by
 unfold Fk;split
 ·exact h _ rfl
 ·trivial
theorem PJ{v:AV}{f:List UInt8->OR}(h: ∀s,v=.str s->Y2 P σ H w r (f s)):Y2 P σ H w r (Ol v f):=by
 unfold Ol;split
 ·exact h _ rfl
 ·trivial
theorem QC{v:AV}{f:Nat->Nat->OR}(h: ∀b o,v=.ptr b o->Y2 P σ H w r (f b o)):Y2 P σ H w r (QO v f):=by
 unfold QO;split
 ·exact h _ _ rfl
 ·trivial
theorem IU{v:AV}{f:List AV->OR}(h: ∀cs,v=.agg cs->Y2 P σ H w r (f cs)):Y2 P σ H w r (CY v f):=by
 unfold CY;split
 ·exact h _ rfl
 ·trivial
theorem fZ{v:AV}{f:List AV->OR}(h: ∀cs,v=.tup cs->Y2 P σ H w r (f cs)):Y2 P σ H w r (nM v f):=by
 unfold nM;split
 ·exact h _ rfl
 ·trivial
theorem OX{v:AV}{n:OR}{f:Nat->AV->OR}(h0:v=.nili->Y2 P σ H w r n)(h: ∀t x,v=.iface t x->Y2 P σ H w r (f t x)):Y2 P σ H w r (QN v n f):=by
 unfold QN;split
 ·exact h _ _ rfl
 ·exact h0 rfl
 ·trivial
theorem Sn{v:AV}{n:OR}{f:Nat->Nat->Nat->Option Nat->OR}(h0:v=.nils->Y2 P σ H w r n)(h: ∀b o l c,v=.slice b o l c->Y2 P σ H w r (f b o l c)):Y2 P σ H w r (Tk v n f):=by
 unfold Tk;split
 ·exact h _ _ _ _ rfl
 ·exact h0 rfl
 ·trivial
theorem IV{v:AV}{n:OR}{f:Nat->OR}(h0:v=.nilm->Y2 P σ H w r n)(h: ∀b,v=.map b->Y2 P σ H w r (f b)):Y2 P σ H w r (Et v n f):=by
 unfold Et;split
 ·exact h _ rfl
 ·exact h0 rfl
 ·trivial
theorem OY{b:Nat}{f:Obj->OR}(h: ∀o,H.t.get b=some o->Y2 P σ H w r (f o)):Y2 P σ H w r (KC H b f):=by
 unfold KC;split
 ·rename_i o ho;exact h _ ho
 ·trivial
theorem TD{b:Nat}{f:Row->OR}(h: ∀o,H.t.get b=some (.row o)->Y2 P σ H w r (f o)):Y2 P σ H w r (Y3 H b f):=by
 unfold Y3;split
 ·rename_i o ho;exact h _ ho
 ·trivial
theorem Ql{α:Type}{x:Option α}{f:α->OR}(h: ∀a,x=some a->Y2 P σ H w r (f a)):Y2 P σ H w r (TN x f):=by
 unfold TN;split
 ·exact h _ rfl
 ·trivial
theorem Yn{b:Bool}{f:OR}(h:b=true->Y2 P σ H w r f):Y2 P σ H w r (ZL b f):=by
 cases b with
 |false=>exact trivial
 |true=>exact h rfl
theorem Ux{b:Bool}{f g:OR}(h1:b=true->Y2 P σ H w r f)(h2:b=false->Y2 P σ H w r g):Y2 P σ H w r (cond b f g):=by
 cases b with
 |false=>exact h2 rfl
 |true=>exact h1 rfl
theorem Nu{a:Nat}{f:Nat->OR}(h:Y2 P σ H w r (f a)):Y2 P σ H w r (SO a f):=by rw[Pe];exact h
theorem LY{a:Int}{f:Int->OR}(h:Y2 P σ H w r (f a)):Y2 P σ H w r (QB a f):=by rw[Rt];exact h
theorem Ru(hs:Wh P σ H w){k:IntKind}{n:Int}(h:r=.ok (.value (.int k (k.wrap n))) w):Y2 P σ H w r (Vm k n H):=by
 unfold Vm
 refine LY ?_
 rw[P1]
 exact Yh hs h (by simp[Ys])
theorem J3(hs:Wh P σ H w){b:Bool}(h:r=.ok (.value (.bool b)) w):Y2 P σ H w r (SE b H):=by
 unfold SE
 cases b
 ·exact Yh hs h (by simp[Ys])
 ·exact Yh hs h (by simp[Ys])
theorem lE{x y:AV}{f:IntKind->Int->Int->OR}(h: ∀k a b,x=.int k a->y=.int k b->Y2 P σ H w r (f k a b)):Y2 P σ H w r (G6 x y f):=by
 unfold G6
 refine RX λj a hx=>RX λl b hy=>Yn λhk=>?_
 have:=R1 hk;subst this
 exact h j a b hx hy
def Rp(P:Program)(σ:Mp)(tm:TM)(ρ:Operand->Value):Prop:= ∀x,Ys σ (YN P x tm) (ρ x)
theorem Pb(σ:Mp)(v:Value):Ys σ (Wx v) v:=by
 unfold Wx
 cases h:M3 20 v with
 |false=>simp[Ys]
 |true=>exact qP σ 20 v h
theorem KD(hs:Wh P σ H w){N:Nat}{tm:TM}{a:Act}(ht:Qv σ N tm a.tmps):Rp P σ tm a.eval:=by
 intro x
 cases x with
 |tmp t=>
  show Ys σ ((cond (Nat.ble t 511) (Su t) (k .unk)) tm) _
  rw[Y5]
  by_cases h:t<=511
  ·rw[Ze h];exact ht.get t (R8 h)
  ·rw[Za h];simp[k,Ys]
 |const v=>exact Pb σ v
 |global g=>
  show Ys σ ((cond (Nat.ble (Nat.succ g) P.globals.size) (k (.ptr g 0)) (k .unk)) tm) _
  rw[Y5]
  by_cases h:Nat.succ g<=P.globals.size
  ·rw[Ze h]
   obtain⟨l,hl,hb,h0⟩:=hs.glob g h
   show Ys σ (.ptr g 0) (.pointer (some ⟨g,0,none⟩))
   simp only[Ys]
   exact⟨l,hl,by rw[hb,h0]⟩
  ·rw[Za h];simp[k,Ys]
 |func f=>simp only[Act.eval,YN,k,Ys];exact⟨[],[],UM,UM,rfl⟩
theorem XN{k:IntKind}{n:Int}{v:Value}(h:Ys σ (.int k n) v):v=.int k n:=by simpa [Ys] using h
theorem TI{b:Bool}{v:Value}(h:Ys σ (.bool b) v):v=.bool b:=by simpa [Ys] using h
theorem VU{s:List UInt8}{v:Value}(h:Ys σ (.str s) v):v=.string ⟨s.toArray⟩:=by simpa [Ys] using h
theorem WT{s:Sem Value}{x:Value}{w':World}(h:s.run P w=.ok x w'):((do pure (Next.value (<-s)):Sem Next)).run P w=.ok (.value x) w':=by
 simp[h]
end
section
variable {P:Program} {σ:Mp} {H:Zc} {w:World} {tm:TM} {ρ:Operand->Value}
def Xm(P:Program)(σ:Mp)(H:Zc)(w:World)(tm:TM)(ρ:Operand->Value)(o:Oper):Prop:=
 Y2 P σ H w ((execOp ρ o).run P w) (Vh P o.op tm H)
theorem ZcW(hs:Wh P σ H w)(hρ:Rp P σ tm ρ){o:Oper}{x:Operand}(ho:o.op=.move x):Xm P σ H w tm ρ o:=by
 unfold Xm;rw[ho]
 exact Yh hs (by simp[execOp,ho]) (hρ x)
theorem jt(hs:Wh P σ H w)(hρ:Rp P σ tm ρ){o:Oper}{x:Operand}(ho:o.op=.assign x):Xm P σ H w tm ρ o:=by
 unfold Xm;rw[ho]
 exact Yh hs (by simp[execOp,ho]) (hρ x)
theorem ZcY(hs:Wh P σ H w)(hρ:Rp P σ tm ρ){o:Oper}{c a b:Operand}(ho:o.op=.pick c a b):Xm P σ H w tm ρ o:=by
 unfold Xm;rw[ho]
 refine A9 λt ht=>?_
 have hc:=hρ c;rw[ht] at hc
 have hc:=TI hc
 cases t
 ·exact Yh hs (x:=ρ b) (by simp[execOp,ho,asBool,hc]) (hρ b)
 ·exact Yh hs (x:=ρ a) (by simp[execOp,ho,asBool,hc]) (hρ a)
theorem ZgO(hs:Wh P σ H w)(hρ:Rp P σ tm ρ){o:Oper}{x:Operand}(ho:o.op=.nilCheck x):Xm P σ H w tm ρ o:=by
 unfold Xm;rw[ho]
 show Y2 P σ H w _ (xX (YN P x tm) (.val (YN P x tm) H))
 have hx:=hρ x
 unfold xX
 split
 ·rename_i b o' e
  rw[e] at hx
  have h0:=hx
  simp only[Ys] at hx
  obtain⟨l,hl,hv⟩:=hx
  rw[e]
  exact Yh hs (x:=ρ x) (by simp[execOp,ho,hv]) h0
 ·rename_i f a b e
  rw[e] at hx
  have h0:=hx
  simp only[Ys] at hx
  obtain⟨p,q,_,_,hv⟩:=hx
  rw[e]
  exact Yh hs (x:=ρ x) (by simp[execOp,ho,hv]) h0
 ·rename_i t v e
  rw[e] at hx
  have h0:=hx
  simp only[Ys] at hx
  obtain⟨p,_,hv⟩:=hx
  rw[e]
  exact Yh hs (x:=ρ x) (by simp[execOp,ho,hv]) h0
 ·rename_i b e
  rw[e] at hx
  have h0:=hx
  simp only[Ys] at hx
  obtain⟨p,_,hv⟩:=hx
  rw[e]
  exact Yh hs (x:=ρ x) (by simp[execOp,ho,hv]) h0
 ·trivial
theorem M7{o:Oper}{op:BinOp}{t:TypeId}{x y:Operand}{u:TypeId}(ho:o.op=.binOp op t x y u)(hg:(op matches .eql|.neq)=false){v:Value}(h:(binOp op t (ρ x) (ρ y)).run P w=.ok v w):
  (execOp ρ o).run P w=.ok (.value v) w:=by
 simp only[execOp,ho]
 refine WT ?_
 have:(eqGuard op t x y (ρ x) (ρ y)).run P w=.ok () w:=by
  cases op<;>first|rfl|cases hg
 simp[this,h]
theorem Ji(s:List UInt8):(ByteArray.mk s.toArray).toList=s:=by
 exact ByteArray.toList_eq _
theorem NE(s:List UInt8):(ByteArray.mk s.toArray).size=s.length:=by simp[ByteArray.size]
theorem AH(a b:UInt8):My a b=(a==b):=by
 unfold My
 rw[Ym,W7]
 simp[WO]
theorem SD: ∀a b:List UInt8,Lo a b=(a==b)
 |[],[]=>rfl
 |[],_::_=>rfl
 |_::_,[]=>rfl
 |a::x,b::y=>by
  show cond (My a b) (Lo x y) false=_
  rw[AH,SD x y]
  rw[show((a::x)==(b::y))=(a==b&&x==y) from rfl]
  cases(a==b)<;>rfl
theorem KO: ∀a b:List UInt8,YD a b=Op.bytesLess a b
 |[],[]=>rfl
 |[],_::_=>rfl
 |_::_,[]=>rfl
 |a::x,b::y=>by
  show cond (Nat.ble (Nat.succ a.toNat) b.toNat) true (cond (My a b) (YD x y) false)=_
  rw[AH,KO x y,Y5]
  simp only[Op.bytesLess]
  have:decide (a.toNat.succ<=b.toNat)=decide (a<b):=by
   rw[decide_eq_decide,VF];omega
  rw[this]
  cases decide (a<b)<;>cases(a==b)<;>simp
theorem Hp(hs:Wh P σ H w)(hρ:Rp P σ tm ρ){o:Oper}{op:BinOp}{t:TypeId}{x y:Operand}{u:TypeId}(ho:o.op=.binOp op t x y u)(hg:(op matches .eql|.neq)=false)
  {f:IntKind->Int->Int->OR}(h: ∀k a b,ρ x=.int k a->ρ y=.int k b->(∀v,(binOp op t (.int k a) (.int k b)).run P w=.ok v w->(execOp ρ o).run P w=.ok (.value v) w)->Y2 P σ H w ((execOp ρ o).run P w) (f k a b)):
  Y2 P σ H w ((execOp ρ o).run P w) (G6 (YN P x tm) (YN P y tm) f):=by
 refine lE λk a b hx hy=>?_
 have h1:=hρ x;rw[hx] at h1
 have h2:=hρ y;rw[hy] at h2
 have h1:=XN h1
 have h2:=XN h2
 exact h k a b h1 h2 λv hv=>M7 ho hg (by rw[h1,h2];exact hv)
theorem ZgT(hs:Wh P σ H w)(hρ:Rp P σ tm ρ){o:Oper}{t:TypeId}{x y:Operand}{u:TypeId}(ho:o.op=.binOp .sub t x y u):Xm P σ H w tm ρ o:=by
 unfold Xm;rw[ho]
 refine Hp hs hρ ho rfl λk a b _ _ hr=>?_
 rw[nu]
 exact Ru hs (hr _ (by simp[binOp,Op.intArith]))
theorem ZgM(hs:Wh P σ H w)(hρ:Rp P σ tm ρ){o:Oper}{t:TypeId}{x y:Operand}{u:TypeId}(ho:o.op=.binOp .mul t x y u):Xm P σ H w tm ρ o:=by
 unfold Xm;rw[ho]
 refine Hp hs hρ ho rfl λk a b _ _ hr=>?_
 rw[nj]
 exact Ru hs (hr _ (by simp[binOp,Op.intArith]))
theorem ZgP(hs:Wh P σ H w)(hρ:Rp P σ tm ρ){o:Oper}{t:TypeId}{x y:Operand}{u:TypeId}(ho:o.op=.binOp .quo t x y u):Xm P σ H w tm ρ o:=by
 unfold Xm;rw[ho]
 refine Hp hs hρ ho rfl λk a b _ _ hr=>?_
 refine Ux (λ_=>trivial) λh0=>?_
 rw[Oa] at h0
 have h0: ¬b=0:=by simpa using h0
 rw[Zb4]
 exact Ru hs (hr _ (by simp[binOp,Op.intDiv,h0]))
theorem ZgQ(hs:Wh P σ H w)(hρ:Rp P σ tm ρ){o:Oper}{t:TypeId}{x y:Operand}{u:TypeId}(ho:o.op=.binOp .rem t x y u):Xm P σ H w tm ρ o:=by
 unfold Xm;rw[ho]
 refine Hp hs hρ ho rfl λk a b _ _ hr=>?_
 refine Ux (λ_=>trivial) λh0=>LY ?_
 rw[Oa] at h0
 have h0: ¬b=0:=by simpa using h0
 rw[Zb7]
 exact Yh hs (x:=.int k (a.tmod b)) (hr _ (by simp[binOp,Op.intDiv,h0])) (by simp[Ys])
theorem Dy(hs:Wh P σ H w)(hρ:Rp P σ tm ρ){o:Oper}{op:BinOp}{f:Nat->Nat->Nat->Nat}{t:TypeId}{x y:Operand}{u:TypeId}(ho:o.op=.binOp op t x y u)
  (sD:(op=.and∧f=Sf)∨(op=.or∧f=Re)∨(op=.xor∧f=Zaf)∨(op=.andNot∧f=Mv)):
  Y2 P σ H w ((execOp ρ o).run P w) (Wv (YN P x) (YN P y) f tm H):=by
 refine Hp hs hρ ho (by rcases sD with⟨rfl,_⟩|⟨rfl,_⟩|⟨rfl,_⟩|⟨rfl,_⟩<;>rfl) λk a b _ _ hr=>?_
 refine Ru hs (hr _ ?_)
 rw[<-uf P w op f sD k a b]
 rcases sD with⟨rfl,_⟩|⟨rfl,_⟩|⟨rfl,_⟩|⟨rfl,_⟩<;>simp[binOp]
theorem ZgR(hs:Wh P σ H w)(hρ:Rp P σ tm ρ){o:Oper}{t:TypeId}{x y:Operand}{u:TypeId}(ho:o.op=.binOp .shl t x y u):Xm P σ H w tm ρ o:=by
 unfold Xm;rw[ho]
 refine RX λk a hx=>Sy λj b hy=>?_
 have h1:=hρ x;rw[hx] at h1
 have h2:=hρ y;rw[hy] at h2
 have h1:=XN h1
 have h2:=XN h2
 rw[nj]
 have e:k.wrap (a*Int.ofNat (Nat.pow 2 (cond (Nat.ble b 64) b 64)))=k.wrap (a*2^(min b k.bits)):=by
  have hk:k.bits<=64:=by cases k<;>decide
  have key: ∀c:Nat,k.bits<=c->k.wrap (a*((2^c:Nat):Int))=k.wrap (a*((2^k.bits:Nat):Int)):=by
   intro c hc
   unfold IntKind.wrap
   have:(a*((2^c:Nat):Int)) % (2^k.bits:Int)=0:=by
    apply Int.emod_eq_zero_of_dvd
    refine Int.dvd_trans ?_ (Int.dvd_mul_left _ _)
    obtain⟨d,rfl⟩: ∃d,c=k.bits+d:=⟨c - k.bits,by omega⟩
    exact⟨2^d,by rw[Qj];simp⟩
   have h2:(a*((2^k.bits:Nat):Int)) % (2^k.bits:Int)=0:=by
    apply Int.emod_eq_zero_of_dvd
    exact⟨a,by rw[Int.mul_comm];simp⟩
   rw[this,h2]
  rw[Y5]
  by_cases hb:b<=64
  ·rw[Ze hb]
   show k.wrap (a*((2^b:Nat):Int))=_
   by_cases QY:b<=k.bits
   ·rw[VA QY];simp
   ·rw[Sv (by omega),key b (by omega)];simp
  ·rw[Za hb]
   show k.wrap (a*((2^64:Nat):Int))=_
   rw[Sv (by omega),key 64 hk];simp
 refine Ru hs (M7 ho rfl ?_)
 rw[h1,h2,e]
 have hn: ¬(Int.ofNat b<0):=by rw[Yx];omega
 simp only[binOp,Op.shift]
 rw[if_neg hn]
 simp
theorem ZgS(hs:Wh P σ H w)(hρ:Rp P σ tm ρ){o:Oper}{t:TypeId}{x y:Operand}{u:TypeId}(ho:o.op=.binOp .shr t x y u):Xm P σ H w tm ρ o:=by
 unfold Xm;rw[ho]
 refine RX λk a hx=>Sy λj b hy=>LY ?_
 have h1:=hρ x;rw[hx] at h1
 have h2:=hρ y;rw[hy] at h2
 have h1:=XN h1
 have h2:=XN h2
 have e:Me b (oq k)=min b k.bits:=by
  unfold Me
  rw[Y5,gy]
  by_cases hb:b<=k.bits
  ·rw[Ze hb,VA hb];rfl
  ·rw[Za hb,Sv (by omega)];rfl
 rw[Zcc,e]
 refine Yh hs (x:=.int k (a.fdiv (2^(min b k.bits)))) (M7 ho rfl ?_) (by simp[Ys])
 rw[h1,h2]
 have hn: ¬(Int.ofNat b<0):=by rw[Yx];omega
 simp only[binOp,Op.shift]
 rw[if_neg hn]
 simp
theorem ZgD(hs:Wh P σ H w)(hρ:Rp P σ tm ρ){o:Oper}{t:TypeId}{x y:Operand}{u:TypeId}(ho:o.op=.binOp .add t x y u):Xm P σ H w tm ρ o:=by
 unfold Xm;rw[ho]
 show Y2 P σ H w _ (YT (YN P x) (YN P y) tm H)
 have h1:=hρ x
 have h2:=hρ y
 unfold YT
 split
 ·rename_i j a e
  rw[e] at h1
  have h1:=XN h1
  refine RX λl b hy=>Yn λhk=>?_
  have:=R1 hk;subst this
  rw[hy] at h2
  have h2:=XN h2
  rw[Zb3]
  exact Ru hs (M7 ho rfl (by rw[h1,h2];simp[binOp,Op.intArith]))
 ·rename_i a e
  rw[e] at h1
  have h1:=VU h1
  refine PJ λb hy=>Yn λhk=>?_
  rw[hy] at h2
  have h2:=VU h2
  rw[Y5,YC,YC] at hk
  have hk:a.length+b.length<=4611686018427387904:=Zn hk
  refine Yh hs (x:=.string ⟨(a++b).toArray⟩) (M7 ho rfl ?_) (by simp[Ys])
  rw[h1,h2]
  have hm: ¬(((a.length+b.length:Nat):Int)>IntKind.i64.max):=by
   have:IntKind.i64.max=9223372036854775807:=by decide
   rw[this];omega
  simp only[binOp,Op.stringOp,NE]
  rw[if_neg hm]
  simp only[Sem.run_pure]
  congr 2
 ·trivial
theorem x8(hs:Wh P σ H w)(hρ:Rp P σ tm ρ){o:Oper}{op:BinOp}{t:TypeId}{x y:Operand}{u:TypeId}(ho:o.op=.binOp op t x y u)(hg:(op matches .eql|.neq)=false)
  {f:Int->Int->Bool}{g:List UInt8->List UInt8->Bool}
  (hf: ∀k a b,(binOp op t (.int k a) (.int k b)).run P w=.ok (.bool (f a b)) w)
  (hh: ∀a b:List UInt8,(binOp op t (.string ⟨a.toArray⟩) (.string ⟨b.toArray⟩)).run P w=.ok (.bool (g a b)) w):
  Y2 P σ H w ((execOp ρ o).run P w) (YP (YN P x) (YN P y) f g tm H):=by
 have h1:=hρ x
 have h2:=hρ y
 unfold YP
 split
 ·rename_i j a e
  rw[e] at h1
  have h1:=XN h1
  refine RX λl b hy=>Yn λhk=>?_
  have:=R1 hk;subst this
  rw[hy] at h2
  have h2:=XN h2
  exact J3 hs (M7 ho hg (by rw[h1,h2];exact hf _ _ _))
 ·rename_i a e
  rw[e] at h1
  have h1:=VU h1
  refine PJ λb hy=>?_
  rw[hy] at h2
  have h2:=VU h2
  exact J3 hs (M7 ho hg (by rw[h1,h2];exact hh _ _))
 ·trivial
theorem P5: ∀a b:List UInt8,(Op.bytesLess a b||a==b)=!Op.bytesLess b a
 |[],[]=>rfl
 |[],_::_=>rfl
 |_::_,[]=>rfl
 |a::x,b::y=>by
  have ih:=P5 x y
  simp only[Op.bytesLess]
  have e1:((a::x)==(b::y))=(a==b&&x==y):=rfl
  rw[e1]
  rcases Nat.lt_trichotomy a.toNat b.toNat with h|h|h
  ·have h1:decide (a<b)=true:=Ze (VF.2 h)
   have h2:decide (b<a)=false:=Za (λz=>by have:=VF.1 z;omega)
   have h3:(b==a)=false:=by rw[beq_eq_false_iff_ne];intro z;subst z;omega
   rw[h1,h2,h3];rfl
  ·have Cv:a=b:=WO.1 h
   subst Cv
   have h1:decide (a<a)=false:=Za (λz=>by have:=VF.1 z;omega)
   rw[h1]
   simpa using ih
  ·have h1:decide (a<b)=false:=Za (λz=>by have:=VF.1 z;omega)
   have h2:decide (b<a)=true:=Ze (VF.2 h)
   have h3:(a==b)=false:=by rw[beq_eq_false_iff_ne];intro z;subst z;omega
   rw[h1,h2,h3];rfl
theorem ZgL(hs:Wh P σ H w)(hρ:Rp P σ tm ρ){o:Oper}{t:TypeId}{x y:Operand}{u:TypeId}(ho:o.op=.binOp .lss t x y u):Xm P σ H w tm ρ o:=by
 unfold Xm;rw[ho]
 refine x8 hs hρ ho rfl (λk a b=>?_) λa b=>?_
 ·simp[binOp,Op.intCmp,XY,Kj]
 ·simp[binOp,Op.stringOp,KO]
theorem ZgI(hs:Wh P σ H w)(hρ:Rp P σ tm ρ){o:Oper}{t:TypeId}{x y:Operand}{u:TypeId}(ho:o.op=.binOp .gtr t x y u):Xm P σ H w tm ρ o:=by
 unfold Xm;rw[ho]
 refine x8 hs hρ ho rfl (λk a b=>?_) λa b=>?_
 ·simp[binOp,Op.intCmp,OA,Kj]
 ·have:=P5 a b
  simp[binOp,Op.stringOp,SX,KO,this]
theorem ZgK(hs:Wh P σ H w)(hρ:Rp P σ tm ρ){o:Oper}{t:TypeId}{x y:Operand}{u:TypeId}(ho:o.op=.binOp .leq t x y u):Xm P σ H w tm ρ o:=by
 unfold Xm;rw[ho]
 refine x8 hs hρ ho rfl (λk a b=>?_) λa b=>?_
 ·have:decide (a<=b)=!decide (b<a):=by rw[W7];simp
  simp[binOp,Op.intCmp,Nm,Kj,this]
 ·have:=P5 a b
  simp[binOp,Op.stringOp,RG,KO,this]
theorem ZgH(hs:Wh P σ H w)(hρ:Rp P σ tm ρ){o:Oper}{t:TypeId}{x y:Operand}{u:TypeId}(ho:o.op=.binOp .geq t x y u):Xm P σ H w tm ρ o:=by
 unfold Xm;rw[ho]
 refine x8 hs hρ ho rfl (λk a b=>?_) λa b=>?_
 ·have:decide (b<=a)=!decide (a<b):=by rw[W7];simp
  simp[binOp,Op.intCmp,T3,Kj,this]
 ·simp[binOp,Op.stringOp,Vs,KO]
theorem ZkO(hs:Wh P σ H w)(hρ:Rp P σ tm ρ){o:Oper}{op:UnOp}{t:TypeId}{x:Operand}(ho:o.op=.unOp op t x):Xm P σ H w tm ρ o:=by
 unfold Xm;rw[ho]
 have h1:=hρ x
 cases op with
 |neg=>
  refine RX λk a hx=>?_
  rw[hx] at h1
  have h1:=XN h1
  rw[nu]
  exact Ru hs (by simp only[execOp,ho,h1];exact WT (by simp[Op.unary,Op.intArith]))
 |not=>
  refine A9 λb hx=>?_
  rw[hx] at h1
  have h1:=TI h1
  refine Yh hs (x:=.bool (!b)) (by simp only[execOp,ho,h1];exact WT (by simp[Op.unary])) (by cases b<;>simp[Ys])
 |xor=>
  refine RX λk a hx=>?_
  rw[hx] at h1
  have h1:=XN h1
  refine Ru hs ?_
  simp only[execOp,ho,h1]
  refine WT ?_
  simp only[Op.unary]
  exact Zag P w k a
 |plus=>trivial
theorem ZcV(hs:Wh P σ H w)(hρ:Rp P σ tm ρ){o:Oper}{t:TypeId}{x:Operand}(ho:o.op=.makeInterface t x){d:TypeDesc}(ht:P.underlying t=some d)(hd:(d matches .interface _)=false):
  Y2 P σ H w ((execOp ρ o).run P w) (X3 (YN P x) t tm H):=by
 refine Yh hs (x:=.iface t (ρ x)) ?_ (by simp only[Ys];exact⟨_,hρ x,rfl⟩)
 simp only[execOp,ho]
 refine WT ?_
 simp only[Instr.makeInterface,Sem.run_bind,run_underlying ht,Result.andThen_ok]
 cases d<;>first|rfl|cases hd
theorem KG(hρ:Rp P σ tm ρ): ∀l:List Operand,YM σ (evs tm (l.map (YN P))) (l.map ρ)
 |[]=>UM
 |x::l=>WC (hρ x) (KG hρ l)
theorem jy(hs:Wh P σ H w)(hρ:Rp P σ tm ρ){o:Oper}{fn:Fn}{a b:Array Operand}(ho:o.op=.makeFunc fn a b):Xm P σ H w tm ρ o:=by
 unfold Xm;rw[ho]
 have hr:(execOp ρ o).run P w=.ok (.value (.func fn (a.map ρ) (b.map ρ))) w:=by
  simp only[execOp,ho]
  exact WT (by simp[Instr.makeFunc])
 show Y2 P σ H w _ ((match fn with
  |.func f=>Nz f (args P a) (args P b)
  |.method n=>Zes P n a.toList b.toList
  |_=>VC) tm H)
 split
 ·rename_i f
  refine Yh hs hr ?_
  simp only[Ys]
  refine⟨a.toList.map ρ,b.toList.map ρ,KG hρ _,KG hρ _,?_⟩
  congr 1<;>(apply Array.ext';simp)
 ·rename_i n
  obtain⟨a⟩:=a
  obtain⟨b⟩:=b
  match a,b with
  |[x],[]=>
   refine Yh hs hr ?_
   simp only[Ys]
   exact⟨ρ x,hρ x,by simp⟩
  |[],_=>trivial
  |[_],_::_=>trivial
  |_::_::_,_=>trivial
 ·trivial
theorem qT(hs:Wh P σ H w)(hρ:Rp P σ tm ρ){o:Oper}{x:Operand}{i:Nat}(ho:o.op=.extract x i):Xm P σ H w tm ρ o:=by
 unfold Xm;rw[ho]
 refine fZ λvs hx=>Ql λv hv=>?_
 have h1:=hρ x
 rw[hx] at h1
 simp only[Ys] at h1
 obtain⟨us,hu,e⟩:=h1
 rw[Hj] at hv
 obtain⟨u,hu1,hu2⟩:=hu.get hv
 refine Yh hs (x:=u) ?_ hu2
 simp only[execOp,ho]
 refine WT ?_
 rw[e]
 simp[Instr.extract,hu1]
theorem T0{r:Result Next}:Y2 P σ H w r (VC tm H):=trivial
theorem Wq{b:Bool}{f g:W2}{r:Result Next}(h1:b=true->Y2 P σ H w r (f tm H))(h2:b=false->Y2 P σ H w r (g tm H)):Y2 P σ H w r ((cond b f g) tm H):=by
 cases b with
 |false=>exact h2 rfl
 |true=>exact h1 rfl
theorem XD{t:Nat}{f:TypeInfo->W2}{r:Result Next}(h: ∀i,P.info? t=some i->Y2 P σ H w r (f i tm H)):Y2 P σ H w r (UV P t f tm H):=by
 unfold UV
 cases e:P.info? t with
 |none=>exact trivial
 |some i=>exact h i e
theorem Xb{t:Nat}{f:TypeDesc->W2}{r:Result Next}(h: ∀d,P.underlying t=some d->Y2 P σ H w r (f d tm H)):Y2 P σ H w r (VD P t f tm H):=by
 unfold VD
 cases e:P.underlying t with
 |none=>exact trivial
 |some i=>exact h i e
theorem Ud{α:Type}{x:Option α}{f:α->W2}{r:Result Next}(h: ∀a,x=some a->Y2 P σ H w r (f a tm H)):Y2 P σ H w r (QP x f tm H):=by
 cases x with
 |none=>exact trivial
 |some i=>exact h i rfl
theorem IW{f:Array Field->W2}{d:TypeDesc}{r:Result Next}(h: ∀fs,d=.struct fs->Y2 P σ H w r (f fs tm H)):Y2 P σ H w r (wG f d tm H):=by
 cases d<;>first|exact trivial|exact h _ rfl
theorem Nv{f:Nat->W2}{d:TypeDesc}{r:Result Next}(h: ∀e,d=.slice e->Y2 P σ H w r (f e tm H)):Y2 P σ H w r (BM f d tm H):=by
 cases d<;>first|exact trivial|exact h _ rfl
theorem lG{f:Nat->W2}{d:TypeDesc}{r:Result Next}(h: ∀e,d=.pointer e->Y2 P σ H w r (f e tm H)):Y2 P σ H w r (Zly f d tm H):=by
 cases d<;>first|exact trivial|exact h _ rfl
theorem Cd{f:W2}{d:TypeDesc}{r:Result Next}(h:d=.int .u8->Y2 P σ H w r (f tm H)):Y2 P σ H w r (tU8 f d tm H):=by
 cases d with
 |int k=>cases k<;>first|exact trivial|exact h rfl
 |_=>exact trivial
theorem Pn{t:Nat}{d:TypeDesc}(h:P.underlying t=some d):(isAgg t).run P w=.ok (NR P t) w:=by
 unfold isAgg NR
 rw[h]
 simp only[Sem.run_bind,run_underlying h,Result.andThen_ok]
 cases d<;>rfl
theorem Wo{t:Nat}{i:TypeInfo}(h:P.info? t=some i):(sizeOf t).run P w=.ok i.size w:=by
 rw[run_sizeOf w h,Program.cellsOf,h];rfl
theorem Ug{b o:Nat}{v:Value}(h:Ys σ (.ptr b o) v): ∃l,σ b=some l∧v=.pointer (some ⟨l.blk,l.base+o,none⟩):=by simpa only[Ys] using h
theorem Mo{b o:Nat}{l:Loc}(h:σ b=some l):Ys σ (.ptr b o) (.pointer (some ⟨l.blk,l.base+o,none⟩)):=by simp only[Ys];exact⟨l,h,rfl⟩
theorem RV(b o n:Nat):Addr.add ⟨b,o,none⟩ n=⟨b,o+n,none⟩:=by
 unfold Addr.add
 by_cases h:n=0
 ·rw[if_pos h,h];rfl
 ·rw[if_neg h]
theorem x9(hs:Wh P σ H w)(hρ:Rp P σ tm ρ){o:Oper}{t:TypeId}{x:Operand}{f:Nat}(ho:o.op=.fieldAddr t x f):Xm P σ H w tm ρ o:=by
 unfold Xm;rw[ho]
 refine Xb λd hu=>IW λfs hd=>Ud λg hg=>XD λi hi=>Wq (λh1=>?_) λ_=>T0
 subst hd
 refine QC λb off hx=>?_
 have B2:=hρ x
 rw[hx] at B2
 obtain⟨l,hl,e⟩:=Ug B2
 rw[Y5] at h1
 have h1:1<=i.size:=Zn h1
 refine Yh hs ?_ (Mo hl)
 simp only[execOp,ho]
 refine WT ?_
 rw[e]
 simp only[Instr.fieldAt,Sem.run_bind,run_underlying hu,Result.andThen_ok,hg,Instr.sureAddr,Sem.run_pure,fieldPlace,Wo hi]
 rw[if_neg (by omega)]
 simp only[Sem.run_pure,Result.andThen_ok,RV,XC]
 rfl
theorem cT(hs:Wh P σ H w)(hρ:Rp P σ tm ρ){o:Oper}{t:TypeId}{x:Operand}{f:Nat}(ho:o.op=.field t x f):Xm P σ H w tm ρ o:=by
 unfold Xm;rw[ho]
 refine Xb λd hu=>IW λfs hd=>Ud λg hg=>XD λi hi=>Xb λd2 hu2=>?_
 subst hd
 have Cx:=Pn (w:=w) hu2
 refine Wq (λh1=>?_) λh1=>?_
 ·refine IU λcs hx=>?_
  have B2:=hρ x
  rw[hx] at B2
  simp only[Ys] at B2
  obtain⟨vs,xA,UL,e⟩:=B2
  rw[h1] at Cx
  refine Yh hs (x:=.agg ⟨(vs.drop g.offset).take i.size⟩) ?_ ?_
  ·simp only[execOp,ho]
   refine WT ?_
   rw[e]
   simp only[Instr.field,Sem.run_bind,run_underlying hu,Result.andThen_ok,hg,asAgg,Sem.run_pure,part,Cx,if_true,Wo hi]
   congr 2
   apply Array.ext'
   simp[WA]
  ·rw[Mt,N3]
   simp only[Ys]
   exact⟨_,(xA.drop _).take _,λy hy=>UL y (Sk (Tb hy)),rfl⟩
 ·refine IU λcs hx=>Ql λv hv=>?_
  have B2:=hρ x
  rw[hx] at B2
  simp only[Ys] at B2
  obtain⟨vs,xA,UL,e⟩:=B2
  rw[h1] at Cx
  rw[Hj] at hv
  obtain⟨u,hu1,hu2⟩:=xA.get hv
  refine Yh hs (x:=u) ?_ hu2
  simp only[execOp,ho]
  refine WT ?_
  rw[e]
  simp only[Instr.field,Sem.run_bind,run_underlying hu,Result.andThen_ok,hg,asAgg,Sem.run_pure,part,Cx]
  simp[hu1]
theorem wa(hs:Wh P σ H w)(hρ:Rp P σ tm ρ){o:Oper}{t:TypeId}{x i:Operand}(ho:o.op=.indexAddr t x i):Xm P σ H w tm ρ o:=by
 unfold Xm;rw[ho]
 refine Xb λd hu=>?_
 cases d<;>try exact trivial
 case slice el=>
  refine XD λj hj=>Sy λk n hn=>Sn (λ_=>trivial) λb off len cap hx=>Yn λY6=>?_
  have h1:=hρ x
  have h2:=hρ i
  rw[hx] at h1;rw[hn] at h2
  simp only[Ys] at h1
  obtain⟨l,hl,e⟩:=h1
  have h2:=XN h2
  rw[Y5] at Y6
  have Y6:n+1<=len:=Zn Y6
  refine Yh hs ?_ (Mo hl)
  simp only[execOp,ho]
  refine WT ?_
  rw[e,h2]
  simp only[Instr.indexAt,Sem.run_bind,asIntOf,Sem.run_pure,Result.andThen_ok,run_underlying hu]
  rw[if_pos (by constructor<;>simp only[Yx]<;>omega)]
  simp only[Sem.run_bind,Wo hj,Result.andThen_ok,Sem.run_pure,RV,XC,Yx,W3]
  rfl
 case array m el=>
  refine XD λj hj=>Sy λk n hn=>QC λb off hx=>Yn λY6=>?_
  have h1:=hρ x
  have h2:=hρ i
  rw[hx] at h1;rw[hn] at h2
  obtain⟨l,hl,e⟩:=Ug h1
  have h2:=XN h2
  rw[Y5] at Y6
  have Y6:n+1<=m:=Zn Y6
  refine Yh hs ?_ (Mo hl)
  simp only[execOp,ho]
  refine WT ?_
  rw[e,h2]
  simp only[Instr.indexAt,Sem.run_bind,asIntOf,Sem.run_pure,Result.andThen_ok,run_underlying hu,Instr.sureAddr]
  rw[if_pos (by constructor<;>simp only[Yx]<;>omega)]
  simp only[Sem.run_bind,Wo hj,Result.andThen_ok,Sem.run_pure,RV,XC,Yx,W3]
  rfl
theorem cU(hs:Wh P σ H w)(hρ:Rp P σ tm ρ){o:Oper}{t:TypeId}{x i:Operand}(ho:o.op=.index t x i):Xm P σ H w tm ρ o:=by
 unfold Xm;rw[ho]
 refine Xb λd hu=>?_
 cases d<;>try exact trivial
 case string=>
  refine Sy λk n hn=>PJ λs hx=>Ql λb hb=>Nu ?_
  have h1:=hρ x
  have h2:=hρ i
  rw[hx] at h1;rw[hn] at h2
  have h1:=VU h1
  have h2:=XN h2
  rw[xZ] at hb
  refine Yh hs (x:=.int .u8 b.toNat) ?_ (by simp[Ys])
  simp only[execOp,ho]
  refine WT ?_
  rw[h1,h2]
  have B3:(ByteArray.mk s.toArray)[n]? =some b:=by
   rw[<-hb]
   by_cases h:n<s.length
   ·have h':n<(ByteArray.mk s.toArray).size:=by rw[NE];exact h
    rw[getElem?_pos (ByteArray.mk s.toArray) n h',Zi h];rfl
   ·rw[getElem?_neg (ByteArray.mk s.toArray) n (by rw[NE];exact h),YF (by omega)]
  simp only[Instr.index,Sem.run_bind,asIntOf,Sem.run_pure,Result.andThen_ok,run_underlying hu]
  rw[if_pos (by simp only[Yx];omega)]
  simp only[Yx,W3,B3,Sem.run_pure]
 case array m el=>
  refine XD λj hj=>Xb λd2 hu2=>?_
  have Cx:=Pn (w:=w) hu2
  refine Wq (λh1=>?_) λh1=>Wq (λhz=>?_) λ_=>T0
  ·refine Sy λk n hn=>IU λcs hx=>Yn λY6=>?_
   have g1:=hρ x
   have g2:=hρ i
   rw[hx] at g1;rw[hn] at g2
   have g2:=XN g2
   simp only[Ys] at g1
   obtain⟨vs,xA,UL,e⟩:=g1
   rw[h1] at Cx
   rw[Y5] at Y6
   have Y6:n+1<=m:=Zn Y6
   refine Yh hs (x:=.agg ⟨(vs.drop (n*j.size)).take j.size⟩) ?_ ?_
   ·simp only[execOp,ho]
    refine WT ?_
    rw[e,g2]
    simp only[Instr.index,Sem.run_bind,asIntOf,Sem.run_pure,Result.andThen_ok,run_underlying hu]
    rw[if_pos (by constructor<;>simp only[Yx]<;>omega)]
    simp only[Sem.run_bind,Wo hj,Result.andThen_ok,part,Cx,if_true,Sem.run_pure,Yx,W3]
    congr 2
    apply Array.ext'
    simp[WA]
   ·rw[Mt,N3]
    simp only[Ys]
    exact⟨_,(xA.drop _).take _,λy hy=>UL y (Sk (Tb hy)),rfl⟩
  ·refine Sy λk n hn=>IU λcs hx=>Yn λY6=>Ql λv hv=>?_
   have g1:=hρ x
   have g2:=hρ i
   rw[hx] at g1;rw[hn] at g2
   have g2:=XN g2
   simp only[Ys] at g1
   obtain⟨vs,xA,UL,e⟩:=g1
   rw[h1] at Cx
   rw[Y5] at Y6
   have Y6:n+1<=m:=Zn Y6
   rw[Ym] at hz
   have hz:j.size=1:=Zn hz
   rw[Hj] at hv
   obtain⟨u,hu1,ZoD⟩:=xA.get hv
   refine Yh hs (x:=u) ?_ ZoD
   simp only[execOp,ho]
   refine WT ?_
   rw[e,g2]
   simp only[Instr.index,Sem.run_bind,asIntOf,Sem.run_pure,Result.andThen_ok,run_underlying hu]
   rw[if_pos (by constructor<;>simp only[Yx]<;>omega)]
   simp only[Sem.run_bind,Wo hj,Result.andThen_ok,part,Cx,Yx,W3,hz,Xr]
   simp[hu1]
theorem J1{r:Result Next}{x:Option Operand}{dflt top:Nat}{f:Nat->OR}(hρ:Rp P σ tm ρ)
  (h: ∀n,(∀code,(match x.map ρ with|some v=>Instr.sliceBound v top code|none=>pure dflt:Sem Nat).run P w=.ok n w)->((x=none∧n=dflt)∨(x.isSome=true∧n<=top))->Y2 P σ H w r (f n)):
  Y2 P σ H w r (ou tm (jE P x) dflt top f):=by
 cases x with
 |none=>exact h dflt (λ_=>rfl) (.inl ⟨rfl,rfl⟩)
 |some x=>
  refine Sy (v:=YN P x tm) λk n hn=>Yn λTn=>?_
  rw[Y5] at Tn
  have Tn:n<=top:=Zn Tn
  refine h n (λcode=>?_) (.inr ⟨rfl,Tn⟩)
  have h1:=hρ x
  rw[hn] at h1
  have h1:=XN h1
  simp only[Wj,h1,Instr.sliceBound,Sem.run_bind,asIntOf,Sem.run_pure,Result.andThen_ok]
  rw[if_pos (by constructor<;>simp only[Yx]<;>omega)]
  simp
theorem Nt{r:Result Next}{lo hi mx:Option Operand}{len cap capC:Nat}{f:Nat->Nat->Nat->OR}(isSlice:Bool)(hρ:Rp P σ tm ρ)(hmx:mx.isSome=true->hi.isSome=true)(hc:cap<=capC)
  (h: ∀l h m mC,(Instr.sliceBounds isSlice len capC (lo.map ρ) (hi.map ρ) (mx.map ρ)).run P w=.ok (l,h,mC) w->l<=h->m<=cap->(mx=none->m=cap∧mC=capC)->(mx.isSome=true->m=mC)->(hi=none->h=len)->(hi.isSome=true->h<=m)->Y2 P σ H w r (f l h m)):
  Y2 P σ H w r (Gy tm (jE P lo) (jE P hi) (jE P mx) len cap f):=by
 unfold Gy
 have up: ∀(x:Option Operand) (dflt top topC n:Nat),top<=topC->(∀code,(match x.map ρ with|some v=>Instr.sliceBound v top code|none=>pure dflt:Sem Nat).run P w=.ok n w)->((x=none∧n=dflt)∨(x.isSome=true∧n<=top))->
   (∀d2,(x=none->d2=n)-> ∀code,(match x.map ρ with|some v=>Instr.sliceBound v topC code|none=>pure d2:Sem Nat).run P w=.ok n w):=by
  intro x dflt top topC n ht h1 h2 d2 hd code
  cases x with
  |none=>rw[hd rfl];rfl
  |some x=>
   have h1:=h1 code
   simp only[Wj] at h1 ⊢
   have h2:n<=top:=by rcases h2 with⟨h2,_⟩|⟨_,h2⟩;cases h2;exact h2
   unfold Instr.sliceBound at h1 ⊢
   cases hv:ρ x<;>rw[hv] at h1<;>simp only[asIntOf,Sem.run_bind,Sem.run_pure,Result.andThen_ok,run_stuck,Result.andThen_halt] at h1 ⊢
   case int k i=>
    by_cases hh:0<=i∧i<=(top:Int)
    ·rw[if_pos hh] at h1
     rw[if_pos (by omega)];exact h1
    ·rw[if_neg hh] at h1
     exfalso
     have hr:=h1
     first
      |(obtain⟨s',w',hp⟩:=run_boundsPanic (P:=P) (w:=w) (α:=Nat) _ i top code
        rw[hp] at hr;cases hr)
      |(obtain⟨s',w',hp⟩:=run_boundsPanic (P:=P) (w:=w) (α:=Nat) _ i top code
        simp[hp] at hr)
   all_goals (first|cases h1|(rename_i p;cases p<;>simp at h1))
 refine J1 hρ λm hm hm2=>J1 hρ λhh hh1 lQ=>J1 hρ λl hl Nl=>?_
 have hmc:m<=cap:=by rcases hm2 with⟨_,e⟩|⟨_,e⟩<;>omega
 have hlh:l<=hh:=by rcases Nl with⟨_,e⟩|⟨_,e⟩<;>omega
 have fin: ∀mC,(mx=none->m=cap∧mC=capC)->(mx.isSome=true->m=mC)->(Instr.sliceBounds isSlice len capC (lo.map ρ) (hi.map ρ) (mx.map ρ)).run P w=.ok (l,hh,mC) w->Y2 P σ H w r (f l hh m):=by
  intro mC q1 q2 q3
  refine h l hh m mC q3 hlh hmc q1 q2 (λe=>?_) (λe=>?_)
  ·rcases lQ with⟨_,e2⟩|⟨e2,_⟩;exact e2;rw[e] at e2;cases e2
  ·rcases lQ with⟨e2,_⟩|⟨_,e2⟩;rw[e2] at e;cases e;exact e2
 cases mx with
 |none=>
  have hm':m=cap:=by rcases hm2 with⟨_,e⟩|⟨e,_⟩;exact e;cases e
  refine fin capC (λ_=>⟨hm',rfl⟩) (λe=>by cases e) ?_
  have h2:=up hi len m capC hh (by omega) hh1 lQ
  unfold Instr.sliceBounds
  cases hi with
  |none=>
   have e1:hh=len:=by rcases lQ with⟨_,e⟩|⟨e,_⟩;exact e;cases e
   subst e1
   cases lo with
   |none=>
    have e2:l=0:=by rcases Nl with⟨_,e⟩|⟨e,_⟩;exact e;cases e
    subst e2;simp
   |some lo=>have SS:=λc=>hl c;simp only[Wj] at SS;simp[SS]
  |some hi=>
   have eB:=λc=>h2 0 (λe=>by cases e) c
   simp only[Wj] at eB
   cases lo with
   |none=>
    have e2:l=0:=by rcases Nl with⟨_,e⟩|⟨e,_⟩;exact e;cases e
    subst e2;simp[eB]
   |some lo=>have SS:=λc=>hl c;simp only[Wj] at SS;simp[SS,eB]
 |some mx=>
  refine fin m (λe=>by cases e) (λ_=>rfl) ?_
  have h3:=up (some mx) cap cap capC m hc hm hm2
  have h3':=λc=>h3 0 (λe=>by cases e) c
  simp only[Wj] at h3'
  unfold Instr.sliceBounds
  cases hi with
  |none=>have:=hmx rfl;cases this
  |some hi=>
   have hh':=λc=>hh1 c
   simp only[Wj] at hh'
   cases lo with
   |none=>
    have e2:l=0:=by rcases Nl with⟨_,e⟩|⟨e,_⟩;exact e;cases e
    subst e2;simp[hh',h3']
   |some lo=>
    have SS:=λc=>hl c
    simp only[Wj] at SS
    simp[SS,hh',h3']
end
section
variable {P:Program} {σ:Mp} {H:Zc} {w:World}
theorem Wh.row(hs:Wh P σ H w){b:Nat}{r:Row}{l:Loc}(hb:H.t.get b=some (.row r))(hl:σ b=some l):
  ∃cs fr,w.heap[l.blk]? =some (.cells cs r.elem fr)∧R9 σ r l cs fr:=by
 obtain⟨c,hc,ho⟩:=hs.alive b _ l hb hl
 obtain⟨cs,fr,rfl,hr⟩:=ho
 exact⟨cs,fr,hc,hr⟩
theorem IG{w:World}{g:Nat}{cs:Array Value}{t:TypeId}{fr:Nat×Nat}(h:w.heap[g]? =some (.cells cs t fr))(i:Nat):w.cell? ⟨g,i,none⟩=cs[i]? :=
 cell_of_row w g i cs t fr h
theorem Row.get_eq(r:Row)(i:Nat):r.get i=(r.cells.get i).getD r.dflt:=by
 unfold Row.get
 cases r.cells.get i<;>rfl
theorem So(r:Row): ∀(n o:Nat),(loadN r o n).length=n
 |0,_=>rfl
 |n+1,o=>by simp[loadN,So r n]
theorem Pm{r:Row}{l:Loc}{cs:Array Value}{fr:Nat×Nat}(h:R9 σ r l cs fr): ∀(n o:Nat),o+n<=r.size->
  ∃vs,YM σ (loadN r o n) vs∧vs.length=n∧(∀(j:Nat) (v:Value),vs[j]? =some v->cs[l.base+o+j]? =some v)∧ ∀v∈vs,v.oneCell'=true
 |0,o,_=>⟨[],UM,rfl,by simp,by simp⟩
 |n+1,o,ho=>by
  obtain⟨v,hv,hr⟩:=h.cell o (by omega)
  obtain⟨vs,h1,h2,h3,h4⟩:=Pm h n (o+1) (by omega)
  refine⟨v::vs,WC hr h1,by simp[h2],?_,?_⟩
  ·intro j u hj
   cases j with
   |zero=>simp at hj;subst hj;exact hv
   |succ j=>
    have:=h3 j u (by simpa using hj)
    rw[<-this];congr 1;omega
  ·intro u hu
   rcases Ya.1 hu with rfl|hu
   ·exact h.one _ _ (by omega) hv
   ·exact h4 u hu
theorem Rk{g o:Nat}{cs:Array Value}{t:TypeId}{fr:Nat×Nat}(h:w.heap[g]? =some (.cells cs t fr))(vs:List Value)
  (hv: ∀(j:Nat) (v:Value),vs[j]? =some v->cs[o+j]? =some v):(loadCells ⟨g,o,none⟩ vs.length).run P w=.ok vs.toArray w:=by
 refine run_loadCells_list (w:=w) ⟨g,o,none⟩ vs λj v hj=>?_
 rw[RV,IG h]
 exact hv j v hj
def R6(cs:Array Value)(o:Nat):List Value->Array Value
 |[]=>cs
 |v::vs=>R6 (cs.setIfInBounds o v) (o+1) vs
theorem PE(vs:List Value): ∀(cs:Array Value) (o:Nat),(R6 cs o vs).size=cs.size:=by
 induction vs with
 |nil=>intro cs o;rfl
 |cons v vs ih=>intro cs o;simp[R6,ih]
theorem QW(vs:List Value): ∀(cs:Array Value) (o i:Nat),o+vs.length<=cs.size->
  (R6 cs o vs)[i]? =if o<=i∧i<o+vs.length then vs[i - o]? else cs[i]? :=by
 induction vs with
 |nil=>intro cs o i _;rw[if_neg (by simp)];rfl
 |cons v vs ih=>
  intro cs o i h
  simp only[Zl] at h ⊢
  show(R6 (cs.setIfInBounds o v) (o+1) vs)[i]? =_
  rw[ih _ _ _ (by simp;omega)]
  by_cases h1:o+1<=i∧i<o+1+vs.length
  ·rw[if_pos h1,if_pos (by omega),show i - o=(i - (o+1))+1 by omega];simp
  ·rw[if_neg h1,Xh]
   by_cases h2:o=i
   ·subst h2
    rw[if_pos rfl,if_pos (by omega),if_pos (by omega)];simp
   ·rw[if_neg h2,if_neg (by omega)]
theorem Ss(vs:List AV): ∀(c:T AV) (o i:Nat),(XM c o vs).get i=if o<=i∧i<o+vs.length then vs[i - o]? else c.get i:=by
 induction vs with
 |nil=>intro c o i;rw[if_neg (by simp)];rfl
 |cons v vs ih=>
  intro c o i
  show(XM (c.set o v) (o+1) vs).get i=_
  rw[ih,T.get_set]
  simp only[Zl]
  by_cases h1:o+1<=i∧i<o+1+vs.length
  ·rw[if_pos h1,if_pos (by omega),show i - o=(i - (o+1))+1 by omega];simp
  ·rw[if_neg h1]
   by_cases h2:o=i
   ·subst h2;rw[if_pos rfl,if_pos (by omega)];simp
   ·rw[if_neg h2,if_neg (by omega)]
structure AB(w w':World)(g:Nat)(c:Go.Obj):Prop where
 size:w'.heap.size=w.heap.size
 new:w'.heap[g]? =some c
 old: ∀k,k≠g->w'.heap[k]? =w.heap[k]?
 tape:w'.tape=w.tape
 os:w'.os=w.os
 out:w'.output=w.output
theorem Au{w:World}{g i:Nat}{cs:Array Value}{t:TypeId}{fr:Nat×Nat}(h:w.heap[g]? =some (.cells cs t fr))(v:Value):
  AB w (w.setCell ⟨g,i,none⟩ v) g (.cells (cs.setIfInBounds i v) t fr):=by
 refine⟨by simp[World.setCell],?_,λk hk=>?_,rfl,rfl,rfl⟩
 ·simp only[World.setCell,Wb]
  rw[h];simp
 ·simp only[World.setCell,Wb]
  rw[if_neg (λe=>hk e.symm)]
theorem lu{w:World}{g i:Nat}{cs:Array Value}{t:TypeId}{fr:Nat×Nat}(h:w.heap[g]? =some (.cells cs t fr))(hf: ¬(fr.1<=i∧i<fr.2)):w.frozen? ⟨g,i,none⟩=false:=by
 unfold World.frozen?
 rw[h]
 obtain⟨a,b⟩:=fr
 simp only[Bool.and_eq_false_iff,decide_eq_false_iff_not]
 simp only at hf
 omega
theorem Og{P:Program}{g o:Nat}{t:TypeId}{fr:Nat×Nat}: ∀(vs:List Value) (i:Nat) (w:World) (cs:Array Value),w.heap[g]? =some (.cells cs t fr)->
  o+i+vs.length<=cs.size->(∀v∈vs,v.oneCell'=true)->(∀j,j<vs.length-> ¬(fr.1<=o+i+j∧o+i+j<fr.2))->
  ∃w',(storeCells ⟨g,o,none⟩ vs i).run P w=.ok () w'∧AB w w' g (.cells (R6 cs (o+i) vs) t fr)
 |[],i,w,cs,h,_,_,_=>⟨w,rfl,⟨rfl,h,λ_ _=>rfl,rfl,rfl,rfl⟩⟩
 |v::vs,i,w,cs,h,hsz,UL,GZ=>by
  simp only[Zl] at hsz GZ
  have hw:=Au (i:=o+i) h v
  obtain⟨w',hr,h'⟩:=Og (P:=P) (g:=g) (o:=o) (t:=t) (fr:=fr) vs (i+1) (w.setCell ⟨g,o+i,none⟩ v) (cs.setIfInBounds (o+i) v) hw.new
   (by simp;omega) (λu hu=>UL u (by simp[hu])) (λj hj=>by have:=GZ (j+1) (by omega);rwa [show o+(i+1)+j=o+i+(j+1) by omega])
  refine⟨w',?_,?_⟩
  ·simp only[storeCells,Sem.run_bind,RV]
   rw[run_store P w _ v .plain (UL v (by simp)),IG h,Wz (by omega)]
   simp only
   rw[lu h (by have:=GZ 0 (by omega);simpa using this)]
   simp only[YO,if_false,Result.andThen_ok]
   exact hr
  ·refine⟨by rw[h'.size,hw.size],?_,λk hk=>by rw[h'.old k hk,hw.old k hk],by rw[h'.tape,hw.tape],by rw[h'.os,hw.os],by rw[h'.out,hw.out]⟩
   rw[h'.new];rfl
theorem Wr.of_may{b:Nat}{r:Row}(h:H.may r b=true)(hb:H.t.get b=some (.row r)):Wr H b∧r.own=true:=by
 unfold Zc.may at h
 cases ho:r.own with
 |false=>rw[ho] at h;cases h
 |true=>
  rw[ho] at h
  have:H.ro<=b:=ZN h
  refine⟨⟨this,_,hb,λr' e=>?_,λe=>by cases e⟩,rfl⟩
  cases e;exact ho
theorem Fq(hs:Wh P σ H w){b:Nat}{r:Row}{l:Loc}(hb:H.t.get b=some (.row r))(hl:σ b=some l)(Rb:H.may r b=true){o:Nat}{as:List AV}{vs:List Value}
  (ha:YM σ as vs)(UL: ∀v∈vs,v.oneCell'=true)(hsz:o+vs.length<=r.size)(Ly:r.fz<=o):
  ∃w',(storeCells ⟨l.blk,l.base+o,none⟩ vs 0).run P w=.ok () w'∧Tr P σ H w σ (H.put b (.row (r.setCells (XM r.cells o as)))) w':=by
 obtain⟨cs,fr,hc,hr⟩:=hs.row hb hl
 obtain⟨Dr,Kf⟩:=Wr.of_may Rb hb
 have h1:=hr.fits
 have h2:=hr.room
 have hlen:=ha.length
 obtain⟨w',YX,hw⟩:=Og (P:=P) (o:=l.base+o) vs 0 w cs hc (by omega) UL (λj hj=>by
  have:=hr.frz Kf (o+j) (by omega) (by omega)
  rwa [show l.base+o+0+j=l.base+(o+j) by omega])
 refine⟨w',YX,Tr.write hs hb hl Dr hw.size hw.new hw.old ⟨_,fr,rfl,?_⟩ hw.tape hw.os hw.out⟩
 refine⟨hr.sz,hr.sz1,hr.fits,by rw[PE];exact hr.room,λe=>by rw[PE];exact hr.exact e,?_,?_,hr.frz,hr.frs⟩
 ·intro i hi
  have hi:i<r.size:=hi
  rw[Row.get_eq]
  show ∃v,_∧Ys σ (((XM r.cells o as).get i).getD r.dflt) v
  rw[Ss,QW _ _ _ _ (by omega)]
  by_cases Nk:o<=i∧i<o+as.length
  ·rw[if_pos Nk,if_pos (by omega)]
   obtain⟨a,hga⟩: ∃a,as[i - o]? =some a:=⟨as[i - o]'(by omega),Zi (by omega)⟩
   obtain⟨v,hv,U5⟩:=ha.get hga
   refine⟨v,?_,?_⟩
   ·rw[show l.base+i - (l.base+o+0)=i - o by omega];exact hv
   ·rw[hga];exact U5
  ·rw[if_neg Nk,if_neg (by omega)]
   obtain⟨v,hv,U5⟩:=hr.cell i hi
   rw[Row.get_eq] at U5
   exact⟨v,hv,U5⟩
 ·intro i v hi hv
  have hi:i<r.size:=hi
  rw[QW _ _ _ _ (by omega)] at hv
  split at hv
  ·exact UL v (V2 hv)
  ·exact hr.one i v hi hv
end
theorem vi{n:Nat}(h:n % 2=1):bits n=true::bits (n/2):=by
 unfold bits
 obtain⟨m,rfl⟩: ∃m,n=m+1:=⟨n - 1,by omega⟩
 rw[Qb,if_neg (by omega),if_pos h,Mx ((m+1)/2) _ m (Zj _) (by omega)]
theorem AF{n:Nat}(h0:n≠0)(h:n % 2=0):bits n=false::bits (n/2 - 1):=by
 unfold bits
 obtain⟨m,rfl⟩: ∃m,n=m+1:=⟨n - 1,by omega⟩
 rw[Qb,if_neg (by omega),if_neg (by omega),Mx ((m+1)/2 - 1) _ m (Zj _) (by omega)]
namespace T
variable {α:Type}
theorem fV(l r:T α)(v:Option α)(n:Nat):(T.node l v r).get n=if n=0 then v else if n % 2=1 then l.get (n/2) else r.get (n/2 - 1):=by
 unfold get
 by_cases h0:n=0
 ·subst h0;rfl
 ·rw[if_neg h0]
  by_cases h1:n % 2=1
  ·rw[if_pos h1,vi h1];rfl
  ·rw[if_neg h1,AF h0 (by omega)];rfl
theorem CU: ∀(l:List α) (k:Nat),(ST l)[k]? =l[2*k]?
 |[],k=>by simp[ST]
 |[x],k=>by cases k<;>simp[ST]
 |x::y::l,0=>by simp[ST]
 |x::y::l,k+1=>by
  show(x::ST l)[k+1]? =(x::y::l)[2*(k+1)]?
  rw[show 2*(k+1)=(2*k+1)+1 by omega]
  simp[CU l k]
theorem KB: ∀l:List α,(ST l).length<=l.length
 |[]=>by simp[ST]
 |[x]=>by simp[ST]
 |x::y::l=>by have:=KB l;simp[ST];omega
theorem LX: ∀(f:Nat) (l:List α) (i:Nat),l.length<=f->(Rw f l).get i=l[i]?
 |0,l,i,h=>by
  have:l=[]:=by cases l<;>simp_all
  subst this;simp[Rw,get_leaf]
 |f+1,[],i,_=>by simp[Rw,get_leaf]
 |f+1,x::l,i,h=>by
  simp only[Zl] at h
  show(T.node (Rw f (ST l)) (some x) (Rw f (ST l.tail))).get i=_
  rw[fV]
  by_cases h0:i=0
  ·subst h0;simp
  ·rw[if_neg h0]
   by_cases h1:i % 2=1
   ·rw[if_pos h1,LX f _ _ (by have:=KB l;omega),CU]
    rw[show 2*(i/2)=i - 1 by omega]
    obtain⟨k,rfl⟩: ∃k,i=k+1:=⟨i - 1,by omega⟩
    simp
   ·rw[if_neg h1,LX f _ _ (by have:=KB l.tail;simp at this;omega),CU]
    rw[show 2*(i/2 - 1)=i - 2 by omega]
    obtain⟨k,rfl⟩: ∃k,i=k+2:=⟨i - 2,by omega⟩
    simp
theorem xJ(l:List α):Zkx l=l.length:=YC l
theorem get_ofList(l:List α)(i:Nat):(ofList l).get i=l[i]? :=LX _ _ _ (by rw[xJ];exact Zj _)
end T
section
variable {P:Program} {σ:Mp} {H:Zc} {w:World}
theorem Ij{σ:Mp}{e sz tot:Nat}{as:List AV}{vs rest:List Value}{sm exact:Bool}{blk:Nat}{fr:Nat×Nat}(ha:YM σ as vs)(UL: ∀v∈vs++rest,v.oneCell'=true)(hsz:1<=sz)
  (Lx:as.length<=tot*sz)(Zj6:tot*sz<=(vs++rest).length)(hex:exact=true->as.length=tot*sz∧rest=[])(GZ:if sm then tot*sz<=fr.1 else fr.1=fr.2):
  R9 σ ⟨e,sz,YH as,T.ofList as,.unk,0,sm,true,exact⟩ ⟨blk,0,tot,sz⟩ ⟨vs++rest⟩ fr:=by
 have hlen:=ha.length
 refine⟨rfl,hsz,by rw[YC];exact Lx,by simpa using Zj6,λh=>?_,?_,?_,?_,?_⟩
 ·obtain⟨h1,h2⟩:=hex h
  subst h2
  exact⟨by rw[YC];exact h1,rfl,by rw[YC];simp[hlen]⟩
 ·intro i hi
  have hi:i<as.length:=by rw[<-YC];exact hi
  rw[Row.get_eq]
  show ∃v,_∧Ys σ (((T.ofList as).get i).getD .unk) v
  rw[T.get_ofList,Zi hi]
  obtain⟨v,hv,hr⟩:=ha.get (Zi hi)
  refine⟨v,?_,hr⟩
  simp only[Zt,XP]
  rw[Yr (by omega)]
  exact hv
 ·intro i v _ hv
  simp only[XP] at hv
  exact UL v (V2 hv)
 ·intro _ i _ hi
  cases sm with
  |true=>simp only[if_true] at GZ;simp only at hi ⊢;omega
  |false=>simp only[YO,if_false] at GZ;simp only at hi ⊢;omega
 ·intro _ sE
  have sE:sm=false:=sE
  subst sE
  simp only[YO,if_false] at GZ
  exact .inl GZ
theorem Jb(hs:Wh P σ H w){e sz tot:Nat}{as:List AV}{vs:List Value}(ha:YM σ as vs)(UL: ∀v∈vs,v.oneCell'=true)(hsz:1<=sz)(hlen:as.length=tot*sz):
  Tr P σ H w (σ.put H.nx ⟨w.heap.size,0,tot,sz⟩) (H.newRow e sz as true) (w.alloc (.cells ⟨vs⟩ e)):=by
 refine Tr.alloc hs _ _ _ rfl ⟨⟨vs⟩,(0,0),rfl,?_⟩
 have:=Ij (σ:=σ.put H.nx ⟨w.heap.size,0,tot,sz⟩) (e:=e) (sm:=false) (exact:=true) (blk:=w.heap.size) (fr:=(0,0)) (rest:=[]) (ha.mono (Mp.put_ext _ (hs.fresh (Zj _)))) (by simpa using UL) hsz (by omega) (by simp;have:=ha.length;omega) (λ_=>⟨hlen,rfl⟩) rfl
 simpa using this
theorem nE(hs:Wh P σ H w){e n:Nat}{a:AV}{v:Value}(ha:Ys σ a v)(UL:v.oneCell'=true):
  Tr P σ H w (σ.put H.nx ⟨w.heap.size,0,n,1⟩) (H.new (.row ⟨e,1,n,.leaf,a,0,false,true,true⟩)) (w.alloc (.cells ⟨List.replicate n v⟩ e)):=by
 refine Tr.alloc hs _ _ _ rfl ⟨_,(0,0),rfl,⟨rfl,Zj _,by simp,by simp,λ_=>⟨by simp,rfl,by simp⟩,?_,?_,?_,?_⟩⟩
 ·intro i hi
  have hi:i<n:=hi
  rw[Row.get_eq]
  refine⟨v,?_,?_⟩
  ·simp[hi]
  ·rw[T.get_leaf];exact ha.mono (Mp.put_ext _ (hs.fresh (Zj _)))
 ·intro i u _ hu
  simp only[XP,Sj] at hu
  split at hu
  ·cases hu;exact UL
  ·cases hu
 ·intro _ i _ hi;simp only;omega
 ·intro _ _;exact .inl rfl
end
section
variable {P:Program} {σ:Mp} {H:Zc} {w:World} {tm:TM} {ρ:Operand->Value}
theorem Jf{σ:Mp}{b:Nat}{l:Loc}(hb:l.base=0):Ys (σ.put b l) (.ptr b 0) (.pointer (some ⟨l.blk,0,none⟩)):=by
 simp only[Ys];exact⟨l,Mp.put_same _ _ _,by rw[hb]⟩
theorem Sq{σ:Mp}{b n:Nat}{l:Loc}(hb:l.base=0):Ys (σ.put b l) (.slice b 0 n none) (.slice (some ⟨l.blk,0,none⟩) n l.tot):=by
 simp only[Ys];exact⟨l,Mp.put_same _ _ _,by rw[hb];simp⟩
theorem Vp{r:Result Next}{σ':Mp}{H':Zc}{w':World}{v:AV}{x:Value}(ht:Tr P σ H w σ' H' w')(hr:r=.ok (.value x) w')(hx:Ys σ' v x):Y2 P σ H w r (.val v H'):=
 ⟨σ',w',x,.inl hr,hx,ht⟩
theorem T8{t:Nat}{i:TypeInfo}{z:Value}(h:P.info? t=some i)(hz:i.zero=some z):(zeroValue t).run P w=.ok z w:=by
 simp[zeroValue,typeInfo,h,hz]
theorem S9(z:Value)(h:1<=(Wx z).cells.length):YM σ (Wx z).cells z.cells.toList∧ ∀x∈z.cells.toList,x.oneCell'=true:=(Pb σ z).cells h
theorem oo{kd:IntKind}{m:Int}: ∀{l:List Value},ZaG kd m l=true->l=List.replicate l.length (.int kd m)
 |[],_=>rfl
 |v::l,h=>by
  unfold ZaG at h
  split at h
  ·rename_i j n
   cases h1:Qd kd j with
   |false=>rw[h1] at h;cases h
   |true=>
    have:=R1 h1;subst this
    rw[h1] at h
    cases h2:G5 m n with
    |false=>rw[h2] at h;cases h
    |true=>
     rw[h2] at h
     rw[Oa] at h2
     have h2:m=n:=by simpa using h2
     subst h2
     have ih:=oo h
     rw[Zl,List.replicate_succ,<-ih]
  ·cases h
theorem cO(hs:Wh P σ H w){o:Oper}{t:TypeId}(ho:o.op=.alloc t):Xm P σ H w tm ρ o:=by
 unfold Xm;rw[ho]
 refine XD λi hi=>Ud λz hz=>?_
 have YX:(execOp ρ o).run P w=.ok (.value (.pointer (some ⟨w.heap.size,0,none⟩))) (w.alloc (.cells z.cells t)):=by
  simp only[execOp,ho]
  refine WT ?_
  simp only[Instr.alloc,Sem.run_bind,T8 hi hz,Result.andThen_ok]
  simp[newVar,newRow]
 have key:Y2 P σ H w ((execOp ρ o).run P w) (XV t (Wx z).cells tm H):=by
  refine Yn λh1=>?_
  rw[Y5,YC] at h1
  have h1:1<=(Wx z).cells.length:=Zn h1
  obtain⟨hr,UL⟩:=S9 (σ:=σ) z h1
  exact Vp (Jb hs (tot:=(Wx z).cells.length) hr UL (Zj _) (by simp)) YX (Jf rfl)
 show Y2 P σ H w _ (gh t z.cells.toList (Wx z).cells tm H)
 cases hl:z.cells.toList with
 |nil=>exact key
 |cons v l'=>
  cases v<;>try exact key
  case int kd m=>
   refine Wq (λ_=>Wq (λha=>?_) λ_=>key) λ_=>key
   have Zoq:=oo ha
   rw[YC]
   refine Vp (nE hs (n:=l'.length+1) (v:=.int kd m) (by simp[Ys]) rfl) ?_ (Jf rfl)
   rw[YX]
   have:z.cells=⟨List.replicate (l'.length+1) (.int kd m)⟩:=by
    apply Array.ext'
    rw[hl,List.replicate_succ,<-Zoq]
   rw[this]
theorem ZgE(hs:Wh P σ H w)(hρ:Rp P σ tm ρ){o:Oper}{t:TypeId}{x:Operand}(ho:o.op=.box t x):Xm P σ H w tm ρ o:=by
 unfold Xm;rw[ho]
 refine Yn λh1=>?_
 rw[Y5,YC] at h1
 have h1:1<=(YN P x tm).cells.length:=Zn h1
 obtain⟨hr,UL⟩:=(hρ x).cells h1
 refine Vp (Jb hs (tot:=(YN P x tm).cells.length) hr UL (Zj _) (by simp)) ?_ (Jf rfl)
 simp only[execOp,ho]
 refine WT ?_
 simp[Instr.box,newVar,newRow]
theorem ZcU(hs:Wh P σ H w)(hρ:Rp P σ tm ρ){o:Oper}{t:TypeId}{x:Operand}(ho:o.op=.load t x):Xm P σ H w tm ρ o:=by
 unfold Xm;rw[ho]
 refine XD λi hi=>Xb λd hu=>?_
 have Cx:=Pn (w:=w) hu
 refine Wq (λh1=>?_) λh1=>?_
 ·refine QC λb off hx=>TD λr hr=>Yn λTn=>?_
  rw[Y5] at Tn
  have Tn:off+i.size<=r.size:=Zn Tn
  have g:=hρ x
  rw[hx] at g
  obtain⟨l,hl,e⟩:=Ug g
  obtain⟨cs,fr,hc,RM⟩:=hs.row hr hl
  obtain⟨vs,h2,h3,h4,h5⟩:=Pm RM i.size off Tn
  rw[h1] at Cx
  refine Yh hs (x:=.agg ⟨vs⟩) ?_ (by simp only[Ys];exact⟨vs,h2,h5,rfl⟩)
  simp only[execOp,ho]
  refine WT ?_
  rw[e]
  have:=Rk (P:=P) hc vs (o:=l.base+off) h4
  rw[h3] at this
  simp only[Instr.loadAt,Instr.sureAddr,Sem.run_bind,Sem.run_pure,Result.andThen_ok,loadVar,Cx,if_true,Wo hi,this]
 ·refine QC λb off hx=>TD λr hr=>Yn λTn=>?_
  rw[Y5] at Tn
  have Tn:off+1<=r.size:=Zn Tn
  have g:=hρ x
  rw[hx] at g
  obtain⟨l,hl,e⟩:=Ug g
  obtain⟨cs,fr,hc,RM⟩:=hs.row hr hl
  obtain⟨v,hv,U5⟩:=RM.cell off Tn
  rw[h1] at Cx
  refine Yh hs (x:=v) ?_ U5
  simp only[execOp,ho]
  refine WT ?_
  rw[e]
  simp only[Instr.loadAt,Instr.sureAddr,Sem.run_bind,Sem.run_pure,Result.andThen_ok,loadVar,Cx,YO,if_false,run_load,IG hc,hv]
theorem cY(hs:Wh P σ H w)(hρ:Rp P σ tm ρ){o:Oper}{t:TypeId}{x y:Operand}(ho:o.op=.store t x y):Xm P σ H w tm ρ o:=by
 unfold Xm;rw[ho]
 refine XD λi hi=>?_
 refine QC λb off hx=>TD λr hr=>Yn λhn=>Yn λRb=>Yn λTn=>Yn λLy=>Yn λhlen=>?_
 rw[Y5] at hn Tn Ly
 rw[Ym,YC] at hlen
 have hn:1<=i.size:=Zn hn
 have Tn:off+i.size<=r.size:=Zn Tn
 have Ly:r.fz<=off:=Zn Ly
 have hlen:(YN P y tm).cells.length=i.size:=Zn hlen
 have g:=hρ x
 rw[hx] at g
 obtain⟨l,hl,e⟩:=Ug g
 obtain⟨U5,UL⟩:=(hρ y).cells (by omega)
 have Nl:=U5.length
 obtain⟨w',YX,htr⟩:=Fq hs hr hl Rb U5 UL (o:=off) (by omega) Ly
 refine⟨σ,w',undef,.inr ⟨?_,rfl⟩,by simp[YS,undef,Ys,YM],htr⟩
 simp only[execOp,ho]
 rw[e]
 have hsz:(ρ y).cells.size=i.size:=by rw[<-hlen,Nl];simp
 simp only[Instr.storeAt,Instr.sureAddr,Sem.run_bind,Sem.run_pure,Result.andThen_ok,storeVar,Wo hi,hsz]
 simp[YX]
theorem JC(off:Nat): ∀(l:List Value) (i:Nat) (cs:Array Value),(l.zipIdx i).foldl (λcs (x:Value×Nat)=>cs.setIfInBounds (off+x.2) x.1) cs=R6 cs (off+i) l
 |[],_,_=>rfl
 |v::l,i,cs=>by
  simp only[List.zipIdx_cons,List.foldl_cons]
  rw[JC off l (i+1)]
  rfl
theorem Dm{cs:Array Value}{o:Nat}{vs:List Value}(h:o+vs.length<=cs.size):(R6 cs o vs).toList=cs.toList.take o++(vs++cs.toList.drop (o+vs.length)):=by
 apply Wl
 intro i
 rw[Yd,QW _ _ _ _ h]
 have hlen:(cs.toList.take o).length=o:=by simp;omega
 by_cases h1:i<o
 ·rw[if_neg (by omega),Yr (by omega),List.getElem?_take,if_pos h1,Yd]
 ·rw[YI (by omega),hlen]
  by_cases h2:i - o<vs.length
  ·rw[if_pos (by omega),Yr h2]
  ·rw[if_neg (by omega),YI (by omega),X9,Yd]
   congr 1;omega
theorem GN{r:Result Next}(hρ:Rp P σ tm ρ){place:Nat->Option (Nat×Nat)}{k:List AV->OR}: ∀(ps:List (Nat×Operand)) (cells:List AV) (cs:Array Value),
  YM σ cells cs.toList->(∀v∈cs.toList,v.oneCell'=true)->
  (∀cells' Jm,YM σ cells' Jm.toList->(∀v∈Jm.toList,v.oneCell'=true)->Jm.size=cs.size->Instr.fill place cs (ps.map λp=>(p.1,ρ p.2))=some Jm->Y2 P σ H w r (k cells'))->
  Y2 P σ H w r (AT tm k (ps.map (Q7 P place)) cells)
 |[],cells,cs,h1,h2,h3=>h3 cells cs h1 h2 rfl rfl
 |p::ps,cells,cs,h1,h2,h3=>by
  show Y2 P σ H w r (ZL (Nat.ble 1 (Q7 P place p).sz)<|ZL (Nat.beq (YH ((Q7 P place p).x tm).cells) (Q7 P place p).sz) (ZL (Nat.ble (Nat.add (Q7 P place p).off (Q7 P place p).sz) (YH cells))
   (AT tm k (ps.map (Q7 P place)) (Oo (Q7 P place p).off cells++(((Q7 P place p).x tm).cells++PH (Nat.add (Q7 P place p).off (Q7 P place p).sz) cells)))))
  refine Yn λg1=>Yn λg2=>Yn λg3=>?_
  cases hp:place p.1 with
  |none=>unfold Q7 at g1;rw[hp] at g1;cases g1
  |some q=>
   obtain⟨off,sz⟩:=q
   have hpe:Q7 P place p=⟨off,sz,YN P p.2⟩:=by unfold Q7;rw[hp]
   rw[hpe] at g1 g2 g3 ⊢
   simp only at g1 g2 g3 ⊢
   rw[Y5] at g1 g3
   rw[Ym,YC] at g2
   rw[YC] at g3
   have g1:1<=sz:=Zn g1
   have g2:(YN P p.2 tm).cells.length=sz:=Zn g2
   have g3:off+sz<=cells.length:=Zn g3
   obtain⟨hr,UL⟩:=(hρ p.2).cells (by omega)
   have hl:=hr.length
   have NX:=h1.length
   have hsz:(ρ p.2).cells.size=sz:=by rw[<-g2,hl];simp
   have Gr:cells.length=cs.size:=by rw[NX];simp
   have hw:(R6 cs off (ρ p.2).cells.toList).toList=cs.toList.take off++((ρ p.2).cells.toList++cs.toList.drop (off+sz)):=by
    rw[Dm (by simp;omega)];simp[hsz]
   refine GN hρ ps _ (R6 cs off (ρ p.2).cells.toList) ?_ ?_ λcells' Jm k1 k2 k3 k4=>h3 cells' Jm k1 k2 (by rw[k3,PE]) ?_
   ·rw[hw,Mt,N3]
    exact(h1.take _).append (hr.append (h1.drop _))
   ·intro v hv
    rw[hw] at hv
    rcases Zs.1 hv with hv|hv
    ·exact h2 v (Tb hv)
    ·rcases Zs.1 hv with hv|hv
     ·exact UL v hv
     ·exact h2 v (Sk hv)
   ·simp only[Y8,Instr.fill,hp]
    rw[if_neg (by simp only[Vx,decide_eq_true_eq];omega)]
    rw[<-k4]
    congr 1
    have:=JC off (ρ p.2).cells.toList 0 cs
    rw[Zv] at this
    rw[<-this,<-Array.foldl_toList,Array.toList_zipIdx]
theorem cP(hs:Wh P σ H w)(hρ:Rp P σ tm ρ){o:Oper}{t:TypeId}{ps:Array (Nat×Operand)}(ho:o.op=.build t ps):Xm P σ H w tm ρ o:=by
 unfold Xm;rw[ho]
 refine XD λi hi=>Ud λz hz=>Xb λd hu=>?_
 have eR:(ps.map λ(x:Nat×Operand)=>(x.1,ρ x.2)).toList=ps.toList.map λp=>(p.1,ρ p.2):=by simp
 have fin: ∀(place:Nat->Option (Nat×Nat)),(∀Jm,Instr.fill place z.cells (ps.toList.map λp=>(p.1,ρ p.2))=some Jm->P.built t (ps.toList.map λp=>(p.1,ρ p.2))=some Jm)->
   Y2 P σ H w ((execOp ρ o).run P w) (W9 (Wx z).cells (ps.toList.map (Q7 P place)) tm H):=by
  intro place hb
  refine Yn λh1=>?_
  rw[Y5,YC] at h1
  have h1:1<=(Wx z).cells.length:=Zn h1
  obtain⟨hr,UL⟩:=S9 (σ:=σ) z h1
  refine GN hρ _ _ _ hr UL λcells' Jm k1 k2 k3 k4=>?_
  refine Yh hs (x:=.agg Jm) ?_ (by simp only[Ys];exact⟨Jm.toList,k1,k2,rfl⟩)
  simp only[execOp,ho]
  refine WT ?_
  exact run_build w t _ Jm (by rw[eR];exact hb Jm k4)
 cases d<;>try exact trivial
 case struct fs=>
  refine Ud λplaces hp=>fin _ λJm hf=>?_
  simp only[Program.built,hi,hu,hz,hp]
  exact hf
 case array n e=>
  refine XD λj hj=>fin _ λJm hf=>?_
  simp only[Program.built,hi,hu,hz,hj]
  exact hf
theorem FZ{α:Type}(l:List α)(hl:1<=l.length): ∀(n i:Nat),(List.replicate n l).flatten[i]? =if i<n*l.length then l[i % l.length]? else none
 |0,i=>by simp
 |n+1,i=>by
  rw[List.replicate_succ,Vy,XQ]
  by_cases h:i<l.length
  ·rw[Yr h,if_pos (by omega),ZV h]
  ·rw[YI (by omega),FZ l hl n]
   have e:i % l.length=(i - l.length) % l.length:=by
    conv=>lhs;rw[show i=(i - l.length)+l.length by omega]
    rw[Nat.add_mod_right]
   rw[<-e]
   by_cases h2:i - l.length<n*l.length
   ·rw[if_pos h2,if_pos (by omega)]
   ·rw[if_neg h2,if_neg (by omega)]
theorem FM{as:List AV}{z:Array Value}(h:YM σ as z.toList)(UL: ∀v∈z.toList,v.oneCell'=true)(h1:1<=as.length)(n:Nat):
  YM σ (List.replicate n as).flatten ((Array.range (n*as.length)).map (z[· % z.size]!)).toList∧ ∀v∈((Array.range (n*as.length)).map (z[· % z.size]!)).toList,v.oneCell'=true:=by
 have hl:as.length=z.size:=by rw[h.length];simp
 have hz: ∀i,i % z.size<z.size:=λi=>W1 _ (by omega)
 constructor
 ·refine YM.of_get ?_ λi a v ha hv=>?_
  ·simp[List.length_flatten]
  ·rw[FZ _ h1] at ha
   split at ha
   ·rename_i hi
    simp only[Rq,Array.toList_range,YR] at hv
    rw[Vf hi] at hv
    simp only[Wj,Option.some.injEq] at hv
    obtain⟨u,hu,hr⟩:=h.get ha
    rw[Yd,hl,Wz (hz i)] at hu
    cases hu
    rw[<-hv,getElem!_pos z _ (hz i)]
    exact hr
   ·cases ha
 ·intro v hv
  simp only[Rq,YV] at hv
  obtain⟨i,_,rfl⟩:=hv
  rw[getElem!_pos z _ (hz i)]
  exact UL _ (Array.getElem_mem_toList _)
theorem ju(hs:Wh P σ H w)(hρ:Rp P σ tm ρ){o:Oper}{t:TypeId}{n:Nat}{ps:Array (Nat×Operand)}(ho:o.op=.buildSlice t n ps):Xm P σ H w tm ρ o:=by
 unfold Xm;rw[ho]
 refine Xb λd hu=>Nv λe hd=>XD λj hj=>Ud λz hz=>Wq (λhsz=>?_) λ_=>T0
 subst hd
 have eR:(ps.map λ(x:Nat×Operand)=>(x.1,ρ x.2)).toList=ps.toList.map λp=>(p.1,ρ p.2):=by simp
 refine Yn λg1=>Yn λg2=>?_
 rw[Y5] at g1 hsz
 rw[Ym,YC] at g2
 have g1:1<=j.size:=Zn g1
 have hsz:n*j.size<=16777216:=Zn hsz
 have g2:(List.replicate n (Wx z).cells).flatten.length=n*j.size:=Zn g2
 have hlen:n=0∨(Wx z).cells.length=j.size:=by
  rw[List.length_flatten] at g2
  simp only[List.map_replicate,List.sum_replicate_nat] at g2
  by_cases h0:n=0
  ·exact .inl h0
  ·exact .inr (Nat.eq_of_mul_eq_mul_left (by omega) g2)
 have base: ∃zc:Array Value,YM σ (List.replicate n (Wx z).cells).flatten zc.toList∧(∀v∈zc.toList,v.oneCell'=true)∧zc.size=n*j.size∧
   (do let zero<-if n*j.size=0 then pure #[] else do pure (<-zeroValue e).cells
       pure ((Array.range (n*j.size)).map (zero[· % zero.size]!)):Sem (Array Value)).run P w=.ok zc w:=by
  rcases hlen with h0|h0
  ·subst h0
   exact⟨#[],by simpa using UM,by simp,by simp,by simp⟩
  ·obtain⟨hr,UL⟩:=S9 (σ:=σ) z (by omega)
   obtain⟨k1,k2⟩:=FM hr UL (by omega) n
   rw[h0] at k1 k2
   refine⟨_,k1,k2,by simp,?_⟩
   by_cases hn:n*j.size=0
   ·simp[hn]
   ·simp[hn,T8 hj hz]
 obtain⟨zc,b1,b2,b3,b4⟩:=base
 refine GN hρ _ _ zc b1 b2 λcells' Jm k1 k2 k3 k4=>?_
 have SS:cells'.length=n*j.size:=by rw[k1.length];simp[k3,b3]
 refine Vp (Jb hs (tot:=n) k1 k2 g1 SS) ?_ (Sq rfl)
 simp only[execOp,ho]
 refine WT ?_
 simp only[Instr.buildSlice,Sem.run_bind,run_underlying hu,Result.andThen_ok,Wo hj]
 rw[if_neg (by omega)]
 by_cases hn:n*j.size=0
 ·rw[if_pos hn] at b4 ⊢
  simp only[Sem.run_bind,Sem.run_pure,Result.andThen_ok,Result.ok.injEq,and_true] at b4 ⊢
  rw[b4,eR,k4]
  simp[newRow]
 ·rw[if_neg hn] at b4 ⊢
  simp only[Sem.run_bind,T8 hj hz,Sem.run_pure,Result.andThen_ok,Result.ok.injEq,and_true] at b4 ⊢
  rw[b4,eR,k4]
  simp[newRow]
theorem FJ{n:Int}(h0:0<=n)(h1:n<9223372036854775808):IntKind.i64.wrap n=n:=by
 rw[<-P1]
 obtain⟨m,rfl⟩:=Int.eq_ofNat_of_zero_le h0
 show cond (Nat.ble 9223372036854775808 m) (IntKind.wrap .i64 (Int.ofNat m)) (Int.ofNat m)=_
 rw[Y5,Za (by omega)]
 rfl
theorem Ie(f:Nat->Value):Array.map f (Array.range 0)= #[]:=by apply Array.ext';simp
def uw(e n l c:Nat):Sem Next:=do
 let zero<-if n=0 then pure #[] else do pure (<-zeroValue e).cells
 let a<-newRow e ((Array.range n).map (zero[· % zero.size]!))
 pure (Next.value (.slice (some a) l c))
theorem qV(hs:Wh P σ H w)(hρ:Rp P σ tm ρ){o:Oper}{t:TypeId}{x y:Operand}(ho:o.op=.makeSlice t x y):Xm P σ H w tm ρ o:=by
 unfold Xm;rw[ho]
 refine Xb λd hu=>Nv λe hd=>XD λi hi=>Ud λz hz=>?_
 subst hd
 refine Sy λk1 l hx=>Sy λk2 c hy=>Yn λg1=>Yn λg2=>Yn λg3=>Yn λg4=>?_
 have h1:=hρ x;rw[hx] at h1
 have h2:=hρ y;rw[hy] at h2
 have h1:=XN h1
 have h2:=XN h2
 rw[Y5] at g1 g2 g3 g4
 have g1:1<=i.size:=Zn g1
 have g2:l<=c:=Zn g2
 have g3:c<=140737488355328:=Zn g3
 have g4:c*i.bytes<=140737488355328:=Zn g4
 have YX:(execOp ρ o).run P w=(uw e (c*i.size) l c).run P w:=by
  simp only[execOp,ho,h1,h2]
  simp only[Instr.makeSlice,Sem.run_bind,run_underlying hu,Result.andThen_ok,asInt,asIntOf,Sem.run_pure,typeInfo,run_program,hi,Yx]
  rw[FJ (by omega) (by omega),FJ (by omega) (by omega)]
  have e1:((i.bytes:Int)*(c:Int))<=140737488355328:=by
   have e0:(i.bytes:Int)*(c:Int)=((c*i.bytes:Nat):Int):=by rw[Int.natCast_mul,Int.mul_comm]
   rw[e0]
   generalize c*i.bytes=p at g4
   omega
  have e2: ¬((decide ((c:Int)<0)||decide ((i.bytes:Int)*(c:Int)>2^48)||decide ((l:Int)<0)||decide ((l:Int)>(c:Int)))=true):=by
   simp only[Vx,decide_eq_true_eq]
   omega
  rw[if_neg e2]
  simp only[W3,Sem.run_bind,run_askRoom,Result.andThen_ok,Wo hi]
  by_cases hn:c*i.size=0
  ·simp[uw,hn,newRow]
  ·simp[uw,hn,T8 hi hz,newRow]
 have nc: ∀zc:Array Value,(c*i.size=0∨zc=z.cells)->(c*i.size=0->zc= #[])->(execOp ρ o).run P w=.ok (.value (.slice (some ⟨w.heap.size,0,none⟩) l c)) (w.alloc (.cells ((Array.range (c*i.size)).map (zc[· % zc.size]!)) e)):=by
  intro zc h3 h4
  rw[YX]
  by_cases hn:c*i.size=0
  ·rw[h4 hn];simp[uw,hn,newRow]
  ·rcases h3 with h3|h3
   ·exact absurd h3 hn
   ·rw[h3];simp[uw,hn,T8 hi hz,newRow]
 show Y2 P σ H w _ (dW H e i.size l c (Wx z).cells)
 have gen:1<=(Wx z).cells.length->(Wx z).cells.length=i.size->Y2 P σ H w ((execOp ρ o).run P w) (.val (.slice H.nx 0 l none) (H.newRow e i.size ((List.replicate c (Wx z).cells).flatten) true)):=by
  intro q1 q2
  obtain⟨hr,UL⟩:=S9 (σ:=σ) z q1
  obtain⟨k1,k2⟩:=FM hr UL q1 c
  refine Vp (Jb hs (tot:=c) k1 k2 g1 (by simp[List.length_flatten,q2])) ?_ (Sq rfl)
  by_cases hn:c*i.size=0
  ·rw[nc #[] (.inl hn) (λ_=>rfl),q2,hn,Ie,Ie]
  ·rw[nc z.cells (.inr rfl) (λh=>absurd h hn),q2]
 cases Ej:(Wx z).cells with
 |nil=>
  refine Yn λq=>?_
  rw[Ym] at q
  have q:0=i.size:=Zn q
  omega
 |cons a as=>
  cases as with
  |nil=>
   refine Yn λq=>?_
   rw[Ym] at q
   have q:i.size=1:=Zn q
   obtain⟨hr,UL⟩:=S9 (σ:=σ) z (by rw[Ej];simp)
   rw[Ej] at hr
   obtain⟨v,vs,h3,h4,h5⟩:=hr.cons_inv
   rw[h4.nil_inv] at h5
   refine Vp (nE hs (n:=c) h3 (UL v (by rw[h5];simp))) ?_ (Sq rfl)
   have hzc:z.cells= #[v]:=by apply Array.ext';rw[h5]
   by_cases hn:c=0
   ·subst hn
    rw[nc #[] (.inl (by simp)) (λ_=>rfl),TB,Ie];rfl
   ·rw[nc z.cells (.inr rfl) (λh=>by rw[q] at h;omega),hzc,q]
    congr 2
    congr 1
    apply Array.ext'
    apply Wl
    intro j
    simp only[Xr,List.size_toArray,List.length_singleton,Nat.mod_one,Rq,Array.toList_range,YR,Sj]
    by_cases hj:j<c
    ·rw[Vf hj,if_pos hj];rfl
    ·rw[if_neg hj,YF (by simp;omega)];rfl
  |cons a2 as2=>
   refine Yn λq=>?_
   rw[Ym,YC,<-Ej] at q
   have:=gen (by rw[Ej];simp) (Zn q)
   rw[Ej] at this
   exact this
theorem Mp.put_old{σ:Mp}{b c:Nat}{l:Loc}(h:c≠b):σ.put b l c=σ c:=by unfold Mp.put;rw[if_neg h]
theorem Tr.ghost(hs:Wh P σ H w)(l:Loc):Tr P σ H w (σ.put H.nx l) ⟨Nat.succ H.nx,H.t,H.ro⟩ w:=by
 have he:=Mp.put_ext l (hs.fresh (Zj H.nx))
 have hold: ∀b o,H.t.get b=some o->σ.put H.nx l b=σ b:=λb o hb=>Mp.put_old (by have:=hs.get_lt hb;omega)
 refine⟨he,⟨?_,?_,?_,?_,?_,?_⟩,Zj _,λ_ _ _=>rfl,?_,XZ _,rfl,λ_ _=>rfl,rfl,rfl,rfl,λb hb hn=>⟨rfl,by rw[Mp.put_old (by omega)];exact hn⟩⟩
 ·intro b m hb
  show b<H.nx+1
  by_cases e:b=H.nx
  ·omega
  ·rw[Mp.put_old e] at hb;have:=hs.dom b m hb;omega
 ·intro b o hb
  show b<H.nx+1
  have:=hs.low b o hb;omega
 ·intro b o l' hb SS
  rw[hold b o hb] at SS
  obtain⟨c,hc,ho⟩:=hs.alive b o l' hb SS
  exact⟨c,hc,ho.mono he⟩
 ·intro b b' o o' l1 l2 h1 h2 k1 k2 e
  rw[hold b o h1] at k1;rw[hold b' o' h2] at k2
  exact hs.inj b b' o o' l1 l2 h1 h2 k1 k2 e
 ·intro g hg
  obtain⟨l',h1,h2⟩:=hs.glob g hg
  exact⟨l',he g l' h1,h2⟩
 ·show H.ro<=H.nx+1;have:=hs.ro;omega
 ·intro b l1 hw hl Y6
  obtain⟨YL,o,ho,Kf⟩:=hw
  rw[hold b o ho] at hl
  exact⟨b,l1,⟨YL,o,ho,Kf⟩,hl,rfl⟩
theorem V6{b o n:Nat}{cap:Option Nat}{v:Value}(h:Ys σ (.slice b o n cap) v): ∃l,σ b=some l∧v=.slice (some ⟨l.blk,l.base+o,none⟩) n (cap.getD (l.tot - o/l.sz)):=by simpa only[Ys] using h
theorem Ri{b o n:Nat}{cap:Option Nat}{l:Loc}(h:σ b=some l):Ys σ (.slice b o n cap) (.slice (some ⟨l.blk,l.base+o,none⟩) n (cap.getD (l.tot - o/l.sz))):=by simp only[Ys];exact⟨l,h,rfl⟩
theorem DY{r:Row}{l:Loc}{cs:Array Value}{fr:Nat×Nat}(hr:R9 σ r l cs fr)(o:Nat)(cap:Option Nat):Uo r o cap<=cap.getD (l.tot - o/l.sz):=by
 cases cap with
 |some c=>exact Zj _
 |none=>
  show cond (Nat.beq r.sz 1) (r.size - o) ((r.size - o)/r.sz)<=l.tot - o/l.sz
  have h1:=hr.sz
  have h2:=hr.sz1
  have h3:=hr.fits
  have key:(r.size - o)/l.sz<=l.tot - o/l.sz:=by
   rw[Nat.div_le_iff_le_mul_add_pred (by omega)]
   have:=Nat.div_add_mod o l.sz
   rw[Nat.mul_sub]
   have e1:l.sz*l.tot=l.tot*l.sz:=Ty _ _
   omega
  rw[Ym]
  by_cases e:r.sz=1
  ·rw[Ze e]
   show r.size - o<=_
   have e2:l.sz=1:=by omega
   rw[e2] at key ⊢;simpa using key
  ·rw[Za e]
   show(r.size - o)/r.sz<=_
   rw[<-h1];exact key
theorem jr{hi mx:Option Operand}(h:ZgC hi mx=true):mx.isSome=true->hi.isSome=true:=by
 cases mx<;>cases hi<;>simp_all [ZgC]
theorem cX(hs:Wh P σ H w)(hρ:Rp P σ tm ρ){o:Oper}{t:TypeId}{x:Operand}{lo hi mx:Option Operand}(ho:o.op=.slice t x lo hi mx):Xm P σ H w tm ρ o:=by
 unfold Xm;rw[ho]
 refine Wq (λhmx=>?_) λ_=>T0
 have hmx:=jr hmx
 refine Xb λd hu=>?_
 have h1:=hρ x
 cases d<;>try exact trivial
 case string=>
  cases mx with
  |some m=>exact trivial
  |none=>
   refine PJ λs hx=>?_
   rw[hx] at h1
   have h1:=VU h1
   refine Nt (mx:=none) false hρ hmx (Zj _) λl h m mC hr hlh hm q1 _ q3 q4=>?_
   refine Yh hs (x:=.string ⟨((s.take h).drop l).toArray⟩) ?_ (by rw[PZ,IL];simp[Ys])
   simp only[execOp,ho]
   refine WT ?_
   rw[h1]
   rw[YC] at hr
   simp only[Instr.sliceAt,Sem.run_bind,run_underlying hu,Result.andThen_ok,Instr.slice,Option.map_none,Option.isSome_none,YO,if_false,NE,Sem.run_pure]
   simp only[Option.map_none] at hr
   simp only[hr,Result.andThen_ok]
   congr 2
   rw[ByteArray.ext_iff]
   simp only[ByteArray.data_extract]
   apply Array.ext'
   simp[WA,List.drop_take]
 case slice e=>
  refine XD λi R0=>Sn (λhx=>?_) λb off len cap hx=>TD λr hr=>Yn λhsz=>?_
  ·rw[hx] at h1
   have h1:ρ x=.slice none 0 0:=by simpa only[Ys] using h1
   refine Nt (capC:=0) true hρ hmx (Zj _) λl h m mC hr hlh hm q1 q2 q3 q4=>?_
   have hh:h=0:=by
    cases hi with
    |none=>exact q3 rfl
    |some y=>have:=q4 rfl;omega
   have hl:l=0:=by omega
   have hmC:mC=0:=by
    cases mx with
    |none=>exact(q1 rfl).2
    |some y=>have:=q2 rfl;omega
   refine Yh hs (x:=.slice none 0 0) ?_ (by simp[Ys])
   simp only[execOp,ho]
   refine WT ?_
   rw[h1]
   simp only[Instr.sliceAt,Sem.run_bind,run_underlying hu,Result.andThen_ok,Instr.slice,hr,Wo R0,Sem.run_pure]
   subst hh;subst hl;subst hmC
   simp
  ·rw[hx] at h1
   obtain⟨l,hl,e1⟩:=V6 h1
   obtain⟨cs,fr,hc,RM⟩:=hs.row hr hl
   refine Nt (capC:=cap.getD (l.tot - off/l.sz)) true hρ hmx (DY RM off cap) λNY h m mC YX hlh hm q1 q2 q3 q4=>?_
   have run:(execOp ρ o).run P w=.ok (.value (.slice (some (if mC=NY then⟨l.blk,l.base+off,none⟩ else⟨l.blk,l.base+off+NY*i.size,none⟩)) (h - NY) (mC - NY))) w:=by
    simp only[execOp,ho]
    refine WT ?_
    rw[e1]
    simp only[Instr.sliceAt,Sem.run_bind,run_underlying hu,Result.andThen_ok,Instr.slice,YX,Wo R0,Sem.run_pure]
    by_cases xw:mC=NY
    ·simp[xw]
    ·simp[xw,RV]
   refine Yn λTn=>?_
   rw[Y5] at Tn
   have Tn:NY<=m:=Zn Tn
   refine Ux (λzw=>?_) λzw=>?_
   ·rw[Ym] at zw
    have zw:NY=m:=Zn zw
    cases mx with
    |none=>
     cases cap with
     |some c=>
      obtain⟨z1,z2⟩:=q1 rfl
      have z1:m=c:=z1
      have z2:mC=c:=z2
      have xw:mC=NY:=by omega
      refine Yh hs run ?_
      rw[if_pos xw,xw,Sm]
      exact Ri (cap:=some 0) hl
     |none=>
     refine Vp (Tr.ghost hs ⟨l.blk,(if mC=NY then l.base+off else l.base+off+NY*i.size),mC - NY,1⟩) run ?_
     simp only[Ys]
     refine⟨_,Mp.put_same _ _ _,?_⟩
     by_cases xw:mC=NY
     ·simp[xw]
     ·simp[xw]
    |some y=>
     have xw:mC=NY:=by have:=q2 rfl;omega
     refine Yh hs run ?_
     rw[if_pos xw,xw,Sm]
     exact Ri (cap:=some 0) hl
   ·rw[Ym] at zw
    have zw:NY≠m:=of_decide_eq_false zw
    have Zn0:mC≠NY:=by
     cases mx with
     |none=>
      obtain⟨z1,z2⟩:=q1 rfl
      have:=DY RM off cap
      omega
     |some y=>have:=q2 rfl;omega
    refine Yh hs run ?_
    rw[if_neg Zn0]
    have e2:l.base+off+NY*i.size=l.base+(off+NY*i.size):=by omega
    rw[e2]
    cases mx with
    |some y=>
     have xw:mC=m:=(q2 rfl).symm
     rw[xw]
     exact Ri (cap:=some (m - NY)) hl
    |none=>
     obtain⟨z1,z2⟩:=q1 rfl
     cases cap with
     |some c=>
      rw[z2]
      exact Ri (cap:=some (c - NY)) hl
     |none=>
      rw[z2]
      have hz:l.sz=i.size:=by
       rw[RM.sz]
       have:Nat.beq r.sz i.size=true:=hsz
       rw[Ym] at this
       exact Zn this
      have h2:=RM.sz1
      have e3:l.tot - off/l.sz - NY=l.tot - (off+NY*i.size)/l.sz:=by
       rw[<-hz,Nat.add_mul_div_right _ _ (by omega),Nat.sub_sub]
      show Ys σ (.slice b (off+NY*i.size) (h - NY) none) (.slice _ _ (l.tot - off/l.sz - NY))
      rw[e3]
      exact Ri (cap:=none) hl
 case array n e=>
  refine XD λi R0=>QC λb off hx=>?_
  rw[hx] at h1
  obtain⟨l,hl,e1⟩:=Ug h1
  refine Nt (capC:=n) false hρ hmx (Zj _) λNY h m mC YX hlh hm q1 q2 q3 q4=>?_
  have hmC:mC=m:=by
   cases mx with
   |none=>obtain⟨z1,z2⟩:=q1 rfl;omega
   |some y=>exact(q2 rfl).symm
  subst hmC
  have run:(execOp ρ o).run P w=.ok (.value (.slice (some (if mC=NY then⟨l.blk,l.base+off,none⟩ else⟨l.blk,l.base+off+NY*i.size,none⟩)) (h - NY) (mC - NY))) w:=by
   simp only[execOp,ho]
   refine WT ?_
   rw[e1]
   simp only[Instr.sliceAt,Sem.run_bind,run_underlying hu,Result.andThen_ok,Instr.sureAddr,YX,Wo R0,Sem.run_pure]
   by_cases xw:mC=NY
   ·simp[xw]
   ·simp[xw,RV]
  refine Ux (λzw=>?_) λzw=>?_
  ·rw[Ym] at zw
   have zw:NY=mC:=Zn zw
   refine Yh hs run ?_
   rw[if_pos zw.symm]
   exact Ri (cap:=some (mC - NY)) hl
  ·rw[Ym] at zw
   have zw:NY≠mC:=of_decide_eq_false zw
   refine Yh hs run ?_
   rw[if_neg (λe=>zw e.symm),XC]
   exact Ri (cap:=some (mC - NY)) hl
end
end
end Go.AI
