/- Values, heaps, first operations: proved for every world that is told. -/
import Derived.Test.YtfkkljjgkopkfaaGreatDoorP1
import Derived.Laws.World
import Derived.Laws.Sem
import Derived.Laws.Rows
import Derived.Laws.Entries
import Derived.ChangeKeysEq
import Derived.Laws.Strings
import Derived.Laws.Slices
import Derived.Laws.Strings2
import Derived.Laws.Panics
import Derived.Laws.Cells
import Derived.Laws.Tables
set_option maxRecDepth 1000000
set_option maxHeartbeats 0
set_option linter.all false
namespace Go.AI
open Go
noncomputable section
namespace T
variable {α:Type}
def Ej(bs:List Bool):(T.leaf:T α).getB bs=none:=rfl
def GU(l r:T α)(v:Option α):(T.node l v r).getB []=v:=rfl
def Nx(l r:T α)(v:Option α)(b:Bool)(bs:List Bool):(T.node l v r).getB (b::bs)=if b then l.getB bs else r.getB bs:=by cases b<;>rfl
def sR(x:α): ∀bs cs:List Bool,(T.single x bs).getB cs=if bs=cs then some x else none:=by
 intro bs
 induction bs with
 |nil=>intro cs;cases cs with
  |nil=>rfl
  |cons c cs=>cases c<;>rfl
 |cons b bs ih=>
  intro cs;cases cs with
  |nil=>cases b<;>rfl
  |cons c cs=>
   cases b<;>cases c
   ·show(T.single x bs).getB cs=_;rw[ih];simp
   ·show(T.leaf:T α).getB cs=_;simp[Ej]
   ·show(T.leaf:T α).getB cs=_;simp[Ej]
   ·show(T.single x bs).getB cs=_;rw[ih];simp
def fp(x:α)(t:T α): ∀bs cs:List Bool,(T.setB x t bs).getB cs=if bs=cs then some x else t.getB cs:=by
 induction t with
 |leaf=>intro bs cs;show(T.single x bs).getB cs=_;rw[sR];rfl
 |node l v r ihl ihr=>
  intro bs cs;cases bs with
  |nil=>cases cs with
   |nil=>rfl
   |cons c cs=>cases c<;>simp[show T.setB x (.node l v r) []=.node l (some x) r from rfl,Nx]
  |cons b bs=>
   cases b
   ·show(T.node l v (T.setB x r bs)).getB cs=_
    cases cs with
    |nil=>simp[GU]
    |cons c cs=>cases c<;>simp[Nx,ihr]
   ·show(T.node (T.setB x l bs) v r).getB cs=_
    cases cs with
    |nil=>simp[GU]
    |cons c cs=>cases c<;>simp[Nx,ihl]
def fo(t:T α): ∀bs cs:List Bool,(T.delB t bs).getB cs=if bs=cs then none else t.getB cs:=by
 induction t with
 |leaf=>intro bs cs;show(T.leaf:T α).getB cs=_;simp[Ej]
 |node l v r ihl ihr=>
  intro bs cs;cases bs with
  |nil=>cases cs with
   |nil=>rfl
   |cons c cs=>cases c<;>simp[show T.delB (.node l v r) []=.node l none r from rfl,Nx]
  |cons b bs=>
   cases b
   ·show(T.node l v (T.delB r bs)).getB cs=_
    cases cs with
    |nil=>simp[GU]
    |cons c cs=>cases c<;>simp[Nx,ihr]
   ·show(T.node (T.delB l bs) v r).getB cs=_
    cases cs with
    |nil=>simp[GU]
    |cons c cs=>cases c<;>simp[Nx,ihl]
end T
def QA(f n:Nat):Iu (f+1) n=if n=0 then [] else if n % 2=1 then true::Iu f (n/2) else false::Iu f (n/2 - 1):=by
 show @Bool.rec (λ_=>List Bool) (@Bool.rec (λ_=>List Bool) (false::Iu f (n/2 - 1)) (true::Iu f (n/2)) (Nat.beq (n % 2) 1)) [] (Nat.beq n 0)=_
 by_cases h:n=0
 ·subst h;rfl
 ·rw[if_neg h]
  have h0:Nat.beq n 0=false:=by cases n with|zero=>exact absurd rfl h|succ n=>rfl
  rw[h0]
  by_cases h1:n % 2=1
  ·rw[if_pos h1,h1];rfl
  ·have:n % 2=0:=by omega
   rw[if_neg h1,this];rfl
def gh: ∀f n m,n<=f->m<=f->Iu f n=Iu f m->n=m:=by
 intro f
 induction f with
 |zero=>intro n m hn hm _;omega
 |succ f ih=>
  intro n m hn hm h;rw[QA,QA] at h
  by_cases n0:n=0
  ·by_cases m0:m=0
   ·omega
   ·rw[if_pos n0,if_neg m0] at h
    split at h<;>cases h
  ·by_cases m0:m=0
   ·rw[if_neg n0,if_pos m0] at h
    split at h<;>cases h
   ·rw[if_neg n0,if_neg m0] at h
    by_cases n1:n % 2=1<;>by_cases m1:m % 2=1
    ·rw[if_pos n1,if_pos m1] at h
     have:=ih (n/2) (m/2) (by omega) (by omega) (List.cons.inj h).2;omega
    ·rw[if_pos n1,if_neg m1] at h;simp at h
    ·rw[if_neg n1,if_pos m1] at h;simp at h
    ·rw[if_neg n1,if_neg m1] at h
     have:=ih (n/2 - 1) (m/2 - 1) (by omega) (by omega) (List.cons.inj h).2;omega
def Lo: ∀f n g,n<=f->f<=g->Iu g n=Iu f n:=by
 intro f
 induction f with
 |zero=>
  intro n g hn _;have:n=0:=by omega
  subst this;cases g with
  |zero=>rfl
  |succ g=>rw[QA];rfl
 |succ f ih=>
  intro n g hn hg;obtain⟨g,rfl⟩: ∃g',g=g'+1:=⟨g - 1,by omega⟩;rw[QA,QA]
  by_cases n0:n=0
  ·rw[if_pos n0,if_pos n0]
  ·rw[if_neg n0,if_neg n0]
   by_cases n1:n % 2=1
   ·rw[if_pos n1,if_pos n1,ih (n/2) g (by omega) (by omega)]
   ·rw[if_neg n1,if_neg n1,ih (n/2 - 1) g (by omega) (by omega)]
def tM{n m:Nat}(h:bits n=bits m):n=m:=by
 unfold bits at h;rw[<-Lo n n (n+m) (Zs _) (by omega),<-Lo m m (n+m) (Zs _) (by omega)] at h;exact gh (n+m) n m (by omega) (by omega) h
namespace T
variable {α:Type}
def get_set(t:T α)(n m:Nat)(x:α):(t.set n x).get m=if n=m then some x else t.get m:=by
 unfold get set;rw[fp]
 by_cases h:n=m
 ·subst h;simp
 ·rw[if_neg h,if_neg (λe=>h (tM e))]
def get_del(t:T α)(n m:Nat):(t.del n).get m=if n=m then none else t.get m:=by
 unfold get del;rw[fo]
 by_cases h:n=m
 ·subst h;simp
 ·rw[if_neg h,if_neg (λe=>h (tM e))]
def get_leaf(n:Nat):(T.leaf:T α).get n=none:=rfl
end T
structure Loc where
 blk:Nat
 base:Nat
 tot:Nat
 sz:Nat
abbrev Mp:=Nat->Option Loc
mutual
def Ym(σ:Mp):AV->Value->Prop
 |.unk,_=>True
 |.bool b,v=>v=.bool b
 |.int k n,v=>v=.int k n
 |.str s,v=>v=.string ⟨s.toArray⟩
 |.nilp,v=>v=.pointer none
 |.ptr b o,v=> ∃l,σ b=some l∧v=.pointer (some ⟨l.blk,l.base+o,none⟩)
 |.nils,v=>v=.slice none 0 0
 |.slice b o n cap,v=> ∃l,σ b=some l∧v=.slice (some ⟨l.blk,l.base+o,none⟩) n (cap.getD (l.tot - o/l.sz))
 |.slice0,v=> ∃a,v=.slice (some a) 0 0
 |.nilm,v=>v=.map none
 |.map b,v=> ∃l,σ b=some l∧v=.map (some l.blk)
 |.func f a b,v=> ∃x y,YR σ a x∧YR σ b y∧v=.func (.func f) ⟨x⟩ ⟨y⟩
 |.meth n r,v=> ∃x,Ym σ r x∧v=.func (.method n) #[x] #[]
 |.yield b,v=> ∃l,σ b=some l∧v=.func (.yield l.blk) #[] #[]
 |.nilf,v=>v=.nilFunc
 |.iface t x,v=> ∃y,Ym σ x y∧v=.iface t y
 |.nili,v=>v=.nilIface
 |.agg cs,v=> ∃vs,YR σ cs vs∧(∀x∈vs,x.oneCell'=true)∧v=.agg ⟨vs⟩
 |.tup cs,v=> ∃vs,YR σ cs vs∧v=.tuple ⟨vs⟩
def YR(σ:Mp):List AV->List Value->Prop
 |[],l=>l=[]
 |a::as,l=> ∃v vs,Ym σ a v∧YR σ as vs∧l=v::vs
end
def Ext(σ σ':Mp):Prop:= ∀b l,σ b=some l->σ' b=some l
def Ext.refl(σ:Mp):Ext σ σ:=λ_ _ h=>h
def Ext.trans{σ σ' σ'':Mp}(h:Ext σ σ')(h':Ext σ' σ''):Ext σ σ'':=λb l x=>h' b l (h b l x)
mutual
theorem Ym.mono{σ σ':Mp}(h:Ext σ σ'): ∀{a:AV} {v:Value},Ym σ a v->Ym σ' a v
 |.unk,_,_=>by simp[Ym]
 |.bool b,v,r=>by simpa [Ym] using r
 |.int k n,v,r=>by simpa [Ym] using r
 |.str s,v,r=>by simpa [Ym] using r
 |.nilp,v,r=>by simpa [Ym] using r
 |.ptr b o,v,r=>by
  simp only[Ym] at r ⊢;obtain⟨l,hl,hv⟩:=r;exact⟨l,h _ _ hl,hv⟩
 |.nils,v,r=>by simpa [Ym] using r
 |.slice0,v,r=>by simpa [Ym] using r
 |.slice b o n cap,v,r=>by
  simp only[Ym] at r ⊢;obtain⟨l,hl,hv⟩:=r;exact⟨l,h _ _ hl,hv⟩
 |.nilm,v,r=>by simpa [Ym] using r
 |.map b,v,r=>by
  simp only[Ym] at r ⊢;obtain⟨l,hl,hv⟩:=r;exact⟨l,h _ _ hl,hv⟩
 |.func f a b,v,r=>by
  simp only[Ym] at r ⊢;obtain⟨x,y,hx,hy,hv⟩:=r;exact⟨x,y,YR.mono h hx,YR.mono h hy,hv⟩
 |.meth n a,v,r=>by
  simp only[Ym] at r ⊢;obtain⟨x,hx,hv⟩:=r;exact⟨x,Ym.mono h hx,hv⟩
 |.yield b,v,r=>by
  simp only[Ym] at r ⊢;obtain⟨l,hl,hv⟩:=r;exact⟨l,h _ _ hl,hv⟩
 |.nilf,v,r=>by simpa [Ym] using r
 |.iface t x,v,r=>by
  simp only[Ym] at r ⊢;obtain⟨y,hy,hv⟩:=r;exact⟨y,Ym.mono h hy,hv⟩
 |.nili,v,r=>by simpa [Ym] using r
 |.agg cs,v,r=>by
  simp only[Ym] at r ⊢;obtain⟨vs,hx,h1,hv⟩:=r;exact⟨vs,YR.mono h hx,h1,hv⟩
 |.tup cs,v,r=>by
  simp only[Ym] at r ⊢;obtain⟨vs,hx,hv⟩:=r;exact⟨vs,YR.mono h hx,hv⟩
theorem YR.mono{σ σ':Mp}(h:Ext σ σ'): ∀{a:List AV} {v:List Value},YR σ a v->YR σ' a v
 |[],v,r=>by simpa [YR] using r
 |a::as,v,r=>by
  simp only[YR] at r ⊢;obtain⟨x,xs,hx,hxs,hv⟩:=r;exact⟨x,xs,Ym.mono h hx,YR.mono h hxs,hv⟩
end
def Yw{α:Type}(l:List α):YN l=l.length:=by
 induction l with
 |nil=>rfl
 |cons a l ih=>show Nat.succ (YN l)=_;rw[ih];rfl
theorem Lk: ∀(n:Nat) (l:List AV),OQ n l=l.take n
 |0,_=>by simp[OQ]
 |n+1,[]=>by simp[OQ]
 |n+1,v::l=>by simp[OQ,Lk n l]
theorem MY: ∀(n:Nat) (l:List AV),Py n l=l.drop n
 |0,_=>by simp[Py]
 |n+1,[]=>by simp[Py]
 |n+1,v::l=>by simp[Py,MY n l]
theorem OP: ∀(n:Nat) (l:Zd),Lj n l=l.take n
 |0,_=>by simp[Lj]
 |n+1,[]=>by simp[Lj]
 |n+1,v::l=>by simp[Lj,OP n l]
theorem GM: ∀(n:Nat) (l:Zd),Iw n l=l.drop n
 |0,_=>by simp[Iw]
 |n+1,[]=>by simp[Iw]
 |n+1,v::l=>by simp[Iw,GM n l]
theorem JX: ∀(l:List AV) (n:Nat),HN l n=l[n]?
 |[],_=>by simp[HN]
 |v::_,0=>by simp[HN]
 |_::l,n+1=>by simp[HN,JX l n]
theorem uo: ∀(l:Zd) (n:Nat),qw l n=l[n]?
 |[],_=>by simp[qw]
 |v::_,0=>by simp[qw]
 |_::l,n+1=>by simp[qw,uo l n]
section
variable {σ:Mp}
def Ux:YR σ [] []:=by simp[YR]
def Vr{a:AV}{as:List AV}{v:Value}{vs:List Value}(h:Ym σ a v)(h':YR σ as vs):YR σ (a::as) (v::vs):=by
 simp only[YR];exact⟨v,vs,h,h',rfl⟩
def U4{a:AV}{v:Value}(h:Ym σ a v):YR σ [a] [v]:=Vr h Ux
def YR.nil_inv{l:List Value}(h:YR σ [] l):l=[]:=by simpa [YR] using h
def YR.cons_inv{a:AV}{as:List AV}{l:List Value}(h:YR σ (a::as) l): ∃v vs,Ym σ a v∧YR σ as vs∧l=v::vs:=by simpa [YR] using h
theorem YR.length: ∀{as:List AV} {vs:List Value},YR σ as vs->as.length=vs.length
 |[],vs,h=>by rw[h.nil_inv];rfl
 |a::as,vs,h=>by
  obtain⟨v,vs,_,h',rfl⟩:=h.cons_inv;simp[YR.length h']
theorem YR.append: ∀{as bs:List AV} {vs us:List Value},YR σ as vs->YR σ bs us->YR σ (as++bs) (vs++us)
 |[],bs,vs,us,h,h'=>by rw[h.nil_inv];exact h'
 |a::as,bs,vs,us,h,h'=>by
  obtain⟨v,vs,h1,h2,rfl⟩:=h.cons_inv;exact Vr h1 (YR.append h2 h')
theorem YR.get: ∀{as:List AV} {vs:List Value} {i:Nat} {a:AV},YR σ as vs->as[i]? =some a-> ∃v,vs[i]? =some v∧Ym σ a v
 |[],vs,i,a,h,e=>by simp at e
 |x::as,vs,i,a,h,e=>by
  obtain⟨v,vs,h1,h2,rfl⟩:=h.cons_inv;cases i with
  |zero=>simp at e;subst e;exact⟨v,rfl,h1⟩
  |succ i=>simp at e;obtain⟨u,hu,hr⟩:=YR.get h2 e;exact⟨u,by simpa using hu,hr⟩
theorem YR.take: ∀{as:List AV} {vs:List Value} (n:Nat),YR σ as vs->YR σ (as.take n) (vs.take n)
 |[],vs,n,h=>by rw[h.nil_inv];simpa using Ux
 |a::as,vs,0,h=>by simpa using Ux
 |a::as,vs,n+1,h=>by
  obtain⟨v,vs,h1,h2,rfl⟩:=h.cons_inv
  simpa using Vr h1 (YR.take n h2)
theorem YR.drop: ∀{as:List AV} {vs:List Value} (n:Nat),YR σ as vs->YR σ (as.drop n) (vs.drop n)
 |[],vs,n,h=>by rw[h.nil_inv];simpa using Ux
 |a::as,vs,0,h=>by simpa using h
 |a::as,vs,n+1,h=>by
  obtain⟨v,vs,h1,h2,rfl⟩:=h.cons_inv
  simpa using YR.drop n h2
theorem YR.of_get: ∀{as:List AV} {vs:List Value},as.length=vs.length->(∀(i:Nat) (a:AV) (v:Value),as[i]? =some a->vs[i]? =some v->Ym σ a v)->YR σ as vs
 |[],[],_,_=>Ux
 |[],_::_,h,_=>by simp at h
 |_::_,[],h,_=>by simp at h
 |a::as,v::vs,h,g=>Vr (g 0 a v rfl rfl) (YR.of_get (by simpa using h) λi x y hx hy=>g (i+1) x y (by simpa using hx) (by simpa using hy))
def RW{a:AV}{v:Value}(h:Ym σ a v)(h1:v.oneCell'=true):YR σ [a] [v]∧ ∀x∈[v],x.oneCell'=true:=⟨U4 h,by simpa using h1⟩
def Ym.cells{a:AV}{v:Value}(h:Ym σ a v)(h1:1<=a.cells.length):YR σ a.cells v.cells.toList∧ ∀x∈v.cells.toList,x.oneCell'=true:=by
 cases a<;>simp only[AV.cells,XU] at h1 ⊢ <;>first
  |omega
  |(simp only[Ym] at h;subst h;exact RW (by simp[Ym]) rfl)
  |skip
 case ptr b o=>obtain⟨l,hl,rfl⟩:=(by simpa only[Ym] using h);exact RW (by simp only[Ym];exact⟨l,hl,rfl⟩) rfl
 case slice b o n c=>obtain⟨l,hl,rfl⟩:=(by simpa only[Ym] using h);exact RW (by simp only[Ym];exact⟨l,hl,rfl⟩) rfl
 case slice0=>have h0:=h;obtain⟨l,rfl⟩:=(by simpa only[Ym] using h);exact RW h0 rfl
 case map b=>obtain⟨l,hl,rfl⟩:=(by simpa only[Ym] using h);exact RW (by simp only[Ym];exact⟨l,hl,rfl⟩) rfl
 case func f x y=>have h0:=h;obtain⟨p,q,hp,hq,rfl⟩:=(by simpa only[Ym] using h);exact RW h0 rfl
 case meth n x=>have h0:=h;obtain⟨p,hp,rfl⟩:=(by simpa only[Ym] using h);exact RW h0 rfl
 case yield b=>have h0:=h;obtain⟨p,hp,rfl⟩:=(by simpa only[Ym] using h);exact RW h0 rfl
 case iface t x=>have h0:=h;obtain⟨p,hp,rfl⟩:=(by simpa only[Ym] using h);exact RW h0 rfl
 case agg cs=>obtain⟨vs,hvs,h2,rfl⟩:=(by simpa only[Ym] using h);exact⟨hvs,h2⟩
end
def KD(σ:Mp)(a:Ss)(e:MapEntry):Prop:=Ym σ a.key e.key∧Ym σ a.val e.val∧a.born=e.born
def YE(σ:Mp):List Ss->List MapEntry->Prop
 |[],l=>l=[]
 |a::as,l=> ∃e es,KD σ a e∧YE σ as es∧l=e::es
noncomputable def KF(a b:AV):Bool:=match a,b with
 |.str a,.str b=>!Mf a b
 |.int j a,.int k b=>PV j k&&!Dw a b
 |_,_=>false
def SB(e:Ss):AV×AV:=(e.key,e.val)
def vz(a b:Ss):Prop:=KF a.key b.key=true∧KF b.key a.key=true
def F4(es:List Ss)(clock:Nat):Prop:=es.Pairwise (λa b=>a.born<b.born)∧ ∀e∈es,e.born<clock
structure PG(σ:Mp)(r:Row)(l:Loc)(cs:Array Value)(fr:Nat×Nat):Prop where
 sz:l.sz=r.sz
 sz1:1<=l.sz
 fits:r.size<=l.tot*l.sz
 room:l.base+l.tot*l.sz<=cs.size
 exact:r.exact=true->r.size=l.tot*l.sz∧l.base=0∧cs.size=r.size
 cell: ∀i,i<r.size-> ∃v,cs[l.base+i]? =some v∧Ym σ (r.get i) v
 one: ∀(i:Nat) (v:Value),i<r.size->cs[l.base+i]? =some v->v.oneCell'=true
 frz:r.own=true-> ∀i,r.fz<=i->i<l.tot*l.sz-> ¬(fr.1<=l.base+i∧l.base+i<fr.2)
 frs:r.own=true->r.sm=false->fr.1=fr.2∨(1<=r.fz∧fr.2<=l.base+r.fz)
def Tq(σ:Mp)(o:Obj)(l:Loc)(c:Go.Obj):Prop:=match o with
 |.row r=> ∃cs fr,c=.cells cs r.elem fr∧PG σ r l cs fr
 |.map es clock=> ∃ents,c=.map ents clock∧YE σ es ents.toList∧F4 es clock
 |.siter s pos=>c=.stringIter ⟨s.toArray⟩ pos∧l.base=0
 |.miter m since cur=> ∃seen st,c=.mapIter (m.bind λb=>(σ b).map (·.blk)) since seen st∧(∀b,m=some b->(σ b).isSome=true)∧l.base=0∧
   match cur with
   |none=>seen= #[]∧st=since
   |some (n,t)=>seen.back? =some n∧st=t
 |.loop=> ∃lp,c=.loop lp
 |.cmap es=> ∃ents clock fs,c=.map ents clock∧YE σ fs ents.toList∧(fs.map SB).Perm (es.map SB)∧es.Pairwise vz
def Ig(o:Obj):Prop:= ∃r,o=.row r∧r.own=false
def Ig.not_own{o:Obj}(h:Ig o)(hw: ∀r,o=.row r->r.own=true):False:=by
 obtain⟨r,rfl,e⟩:=h;rw[hw r rfl] at e;cases e
structure WW(P:Program)(σ:Mp)(H:Heap)(w:World):Prop where
 dom: ∀b l,σ b=some l->b<H.nx
 low: ∀b o,H.t.get b=some o->b<H.nx
 alive: ∀b o l,H.t.get b=some o->σ b=some l-> ∃c,w.heap[l.blk]? =some c∧Tq σ o l c
 inj: ∀b b' o o' l l',H.t.get b=some o->H.t.get b'=some o'->σ b=some l->σ b'=some l'->l.blk=l'.blk->b=b'∨(Ig o∧Ig o')
 glob: ∀g,g<P.globals.size-> ∃l,σ g=some l∧l.blk=g∧l.base=0
 ro:H.ro<=H.nx
def Wr(H:Heap)(b:Nat):Prop:=H.ro<=b∧ ∃o,H.t.get b=some o∧(∀r,o=.row r->r.own=true)∧o≠.loop
def Wr.hard{H:Heap}{b:Nat}{o:Obj}(h:Wr H b)(ho:H.t.get b=some o)(hs:Ig o):False:=by
 obtain⟨_,o',ho',hw,_⟩:=h;rw[ho] at ho';cases ho';exact hs.not_own hw
def WW.alone{P:Program}{σ:Mp}{H:Heap}{w:World}(h:WW P σ H w){b b':Nat}{o o':Obj}{l l':Loc}(hb:H.t.get b=some o)(hb':H.t.get b'=some o')(hl:σ b=some l)(hl':σ b'=some l')(e:l.blk=l'.blk)(hs: ¬(Ig o∧Ig o')):b=b':=
 (h.inj b b' o o' l l' hb hb' hl hl' e).resolve_right hs
structure Tr(P:Program)(σ:Mp)(H:Heap)(w:World)(σ':Mp)(H':Heap)(w':World):Prop where
 ext:Ext σ σ'
 sim:WW P σ' H' w'
 size:w.heap.size<=w'.heap.size
 frame: ∀k,k<w.heap.size->(∀b l,Wr H b->σ b=some l->l.blk≠k)->w'.heap[k]? =w.heap[k]?
 wr: ∀b l,Wr H' b->σ' b=some l->l.blk<w.heap.size-> ∃b0 l0,Wr H b0∧σ b0=some l0∧l0.blk=l.blk
 nx:H.nx<=H'.nx
 ro:H'.ro=H.ro
 low: ∀b,b<H.ro->H'.t.get b=H.t.get b
 tape:w'.tape=w.tape
 os:w'.os=w.os
 out:w'.output=w.output
 pend: ∀b,b<H.nx->σ b=none->H'.t.get b=H.t.get b∧σ' b=none
def Tr.refl{P:Program}{σ:Mp}{H:Heap}{w:World}(h:WW P σ H w):Tr P σ H w σ H w:=
 ⟨Ext.refl σ,h,Zs _,λ_ _ _=>rfl,λb l hw hl _=>⟨b,l,hw,hl,rfl⟩,Zs _,rfl,λ_ _=>rfl,rfl,rfl,rfl,λ_ _ h=>⟨rfl,h⟩⟩
def Tr.trans{P:Program}{σ σ' σ'':Mp}{H H' H'':Heap}{w w' w'':World}(h:Tr P σ H w σ' H' w')(h':Tr P σ' H' w' σ'' H'' w''):
  Tr P σ H w σ'' H'' w'':=by
 refine⟨h.ext.trans h'.ext,h'.sim,Yb h.size h'.size,?_,?_,Yb h.nx h'.nx,h'.ro.trans h.ro,?_,h'.tape.trans h.tape,h'.os.trans h.os,h'.out.trans h.out,?_⟩
 ·intro k hk hn
  rw[h'.frame k (ZK hk h.size) ?_,h.frame k hk hn];intro b l hw hl e;obtain⟨b0,l0,hw0,hl0,e0⟩:=h.wr b l hw hl (by rw[e];exact hk);exact hn b0 l0 hw0 hl0 (e0.trans e)
 ·intro b l hw hl hlt
  obtain⟨b1,l1,hw1,hl1,e1⟩:=h'.wr b l hw hl (ZK hlt h.size);obtain⟨b0,l0,hw0,hl0,e0⟩:=h.wr b1 l1 hw1 hl1 (by rw[e1];exact hlt);exact⟨b0,l0,hw0,hl0,e0.trans e1⟩
 ·intro b hb
  rw[h'.low b (by rw[h.ro];exact hb),h.low b hb]
 ·intro b hb hn
  obtain⟨h1,h2⟩:=h.pend b hb hn;obtain⟨h3,h4⟩:=h'.pend b (ZK hb h.nx) h2;exact⟨h3.trans h1,h4⟩
def KD.mono{σ σ':Mp}(h:Ext σ σ'){a:Ss}{e:MapEntry}(r:KD σ a e):KD σ' a e:=⟨r.1.mono h,r.2.1.mono h,r.2.2⟩
theorem YE.mono{σ σ':Mp}(h:Ext σ σ'): ∀{as:List Ss} {es:List MapEntry},YE σ as es->YE σ' as es
 |[],es,r=>by simpa [YE] using r
 |a::as,es,r=>by
  simp only[YE] at r ⊢;obtain⟨e,es',h1,h2,h3⟩:=r;exact⟨e,es',h1.mono h,YE.mono h h2,h3⟩
def PG.mono{σ σ':Mp}(h:Ext σ σ'){r:Row}{l:Loc}{cs:Array Value}{fr:Nat×Nat}(x:PG σ r l cs fr):PG σ' r l cs fr:=
 ⟨x.sz,x.sz1,x.fits,x.room,x.exact,λi hi=>let ⟨v,hv,hr⟩:=x.cell i hi;⟨v,hv,hr.mono h⟩,x.one,x.frz,x.frs⟩
def Tq.mono{σ σ':Mp}(h:Ext σ σ'){o:Obj}{l:Loc}{c:Go.Obj}(x:Tq σ o l c):Tq σ' o l c:=by
 cases o with
 |row r=>obtain⟨cs,fr,e,x⟩:=x;exact⟨cs,fr,e,x.mono h⟩
 |map es clock=>obtain⟨ents,e,x,y⟩:=x;exact⟨ents,e,x.mono h,y⟩
 |cmap es=>obtain⟨ents,cl,fs,e,x,y⟩:=x;exact⟨ents,cl,fs,e,x.mono h,y⟩
 |siter s pos=>exact x
 |miter m since cur=>
  obtain⟨seen,st,e,hm,y⟩:=x;refine⟨seen,st,?_,?_,y⟩
  ·rw[e]
   cases m with
   |none=>rfl
   |some b=>
    have:=hm b rfl;cases hb:σ b with
    |none=>rw[hb] at this;cases this
    |some l=>simp[hb,h b l hb]
  ·intro b hb
   have:=hm b hb;cases hs:σ b with
   |none=>rw[hs] at this;cases this
   |some l=>rw[h b l hs];rfl
 |loop=>exact x
def Mp.put(σ:Mp)(b:Nat)(l:Loc):Mp:=λc=>if c=b then some l else σ c
def Mp.put_same(σ:Mp)(b:Nat)(l:Loc):σ.put b l b=some l:=by simp[Mp.put]
def Mp.put_ext{σ:Mp}{b:Nat}(l:Loc)(h:σ b=none):Ext σ (σ.put b l):=by
 intro c m hc;unfold Mp.put
 by_cases e:c=b
 ·subst e;rw[h] at hc;cases hc
 ·rw[if_neg e];exact hc
def WW.fresh{P:Program}{σ:Mp}{H:Heap}{w:World}(h:WW P σ H w){b:Nat}(hb:H.nx<=b):σ b=none:=by
 cases e:σ b with
 |none=>rfl
 |some l=>have:=h.dom b l e;omega
def WW.get_lt{P:Program}{σ:Mp}{H:Heap}{w:World}(h:WW P σ H w){b:Nat}{o:Obj}(hb:H.t.get b=some o):b<H.nx:=by
 exact h.low b o hb
def WW.blk_lt{P:Program}{σ:Mp}{H:Heap}{w:World}(h:WW P σ H w){b:Nat}{o:Obj}{l:Loc}(hb:H.t.get b=some o)(hl:σ b=some l):l.blk<w.heap.size:=by
 obtain⟨c,hc,_⟩:=h.alive b o l hb hl;exact(ZX.1 hc).1
def Heap.get_new(H:Heap)(o:Obj)(b:Nat):(H.new o).t.get b=if H.nx=b then some o else H.t.get b:=T.get_set _ _ _ _
def Heap.nx_new(H:Heap)(o:Obj):(H.new o).nx=H.nx+1:=rfl
def Heap.ro_new(H:Heap)(o:Obj):(H.new o).ro=H.ro:=rfl
def Heap.get_put(H:Heap)(c:Nat)(o:Obj)(b:Nat):(H.put c o).t.get b=if c=b then some o else H.t.get b:=T.get_set _ _ _ _
def Od{w:World}{o:Go.Obj}{k:Nat}(h:k<w.heap.size):(w.alloc o).heap[k]? =w.heap[k]? :=heap_alloc_old w o k h
def Oc(w:World)(o:Go.Obj):(w.alloc o).heap[w.heap.size]? =some o:=heap_alloc_new w o
def Tr.alloc{P:Program}{σ:Mp}{H:Heap}{w:World}(h:WW P σ H w)(o:Obj)(c:Go.Obj)(l:Loc)(hl:l.blk=w.heap.size)
  (ho:Tq (σ.put H.nx l) o l c):Tr P σ H w (σ.put H.nx l) (H.new o) (w.alloc c):=by
 have hf:σ H.nx=none:=h.fresh (Zs _);have he:=Mp.put_ext l hf;refine⟨he,⟨?_,?_,?_,?_,?_,?_⟩,by simp,?_,?_,by simp[Heap.nx_new],rfl,?_,rfl,rfl,rfl,λb hb hn=>⟨by rw[Heap.get_new,if_neg (by omega)],by unfold Mp.put;rw[if_neg (by omega)];exact hn⟩⟩
 ·intro b m hb
  rw[Heap.nx_new];unfold Mp.put at hb
  by_cases e:b=H.nx
  ·omega
  ·rw[if_neg e] at hb;have:=h.dom b m hb;omega
 ·intro b o' hb
  rw[Heap.get_new] at hb;rw[Heap.nx_new]
  by_cases e:H.nx=b
  ·omega
  ·rw[if_neg e] at hb;have:=h.low b o' hb;omega
 ·intro b o' l' hb hl'
  rw[Heap.get_new] at hb
  by_cases e:H.nx=b
  ·rw[if_pos e] at hb;cases hb;subst e
   rw[Mp.put_same] at hl';cases hl';exact⟨c,by rw[hl];exact Oc w c,ho⟩
  ·rw[if_neg e] at hb
   have hl2:σ b=some l':=by unfold Mp.put at hl';rwa [if_neg (λx=>e x.symm)] at hl'
   obtain⟨c',hc',hr⟩:=h.alive b o' l' hb hl2;exact⟨c',by rw[Od (ZX.1 hc').1];exact hc',hr.mono he⟩
 ·intro b b' o1 o2 l1 l2 hb hb' hl1 hl2 e
  rw[Heap.get_new] at hb hb'
  by_cases e1:H.nx=b<;>by_cases e2:H.nx=b'
  ·omega
  ·rw[if_neg e2] at hb'
   subst e1;rw[Mp.put_same] at hl1;cases hl1;have nN:σ b'=some l2:=by unfold Mp.put at hl2;rwa [if_neg (λx=>e2 x.symm)] at hl2
   have:=h.blk_lt hb' nN;omega
  ·rw[if_neg e1] at hb
   subst e2;rw[Mp.put_same] at hl2;cases hl2;have nL:σ b=some l1:=by unfold Mp.put at hl1;rwa [if_neg (λx=>e1 x.symm)] at hl1
   have:=h.blk_lt hb nL;omega
  ·rw[if_neg e1] at hb;rw[if_neg e2] at hb'
   have nL:σ b=some l1:=by unfold Mp.put at hl1;rwa [if_neg (λx=>e1 x.symm)] at hl1
   have nN:σ b'=some l2:=by unfold Mp.put at hl2;rwa [if_neg (λx=>e2 x.symm)] at hl2
   exact h.inj b b' o1 o2 l1 l2 hb hb' nL nN e
 ·intro g hg
  obtain⟨l',h1,h2⟩:=h.glob g hg;exact⟨l',he g l' h1,h2⟩
 ·rw[Heap.ro_new,Heap.nx_new];have:=h.ro;omega
 ·intro k hk _
  exact Od hk
 ·intro b l' hw hl' hlt
  obtain⟨hro,o',ho',hown⟩:=hw;rw[Heap.get_new] at ho'
  by_cases e:H.nx=b
  ·subst e
   rw[Mp.put_same] at hl';cases hl';omega
  ·rw[if_neg e] at ho'
   have hl2:σ b=some l':=by unfold Mp.put at hl';rwa [if_neg (λx=>e x.symm)] at hl'
   exact⟨b,l',⟨hro,o',ho',hown⟩,hl2,rfl⟩
 ·intro b hb
  rw[Heap.get_new,if_neg];have:=h.ro;omega
def Tr.write{P:Program}{σ:Mp}{H:Heap}{w w':World}(h:WW P σ H w){b:Nat}{o o':Obj}{l:Loc}{c':Go.Obj}
  (hb:H.t.get b=some o)(hl:σ b=some l)(hw:Wr H b)
  (hsize:w'.heap.size=w.heap.size)(hnew:w'.heap[l.blk]? =some c')(hold: ∀k,k≠l.blk->w'.heap[k]? =w.heap[k]?)
  (ho:Tq σ o' l c')(ht:w'.tape=w.tape)(hos:w'.os=w.os)(hout:w'.output=w.output):Tr P σ H w σ (H.put b o') w':=by
 refine⟨Ext.refl σ,⟨h.dom,?_,?_,?_,h.glob,h.ro⟩,by omega,?_,?_,Zs _,rfl,?_,ht,hos,hout,λb1 _ hn=>⟨by rw[Heap.get_put,if_neg (λe=>by subst e;rw[hl] at hn;cases hn)],hn⟩⟩
 ·intro b1 o1 hb1
  rw[Heap.get_put] at hb1
  by_cases e:b=b1
  ·subst e;exact h.low b o hb
  ·rw[if_neg e] at hb1;exact h.low b1 o1 hb1
 ·intro b1 o1 l1 hb1 hl1
  rw[Heap.get_put] at hb1
  by_cases e:b=b1
  ·rw[if_pos e] at hb1;cases hb1;subst e
   rw[hl] at hl1;cases hl1;exact⟨c',hnew,ho⟩
  ·rw[if_neg e] at hb1
   obtain⟨c1,hc1,hr⟩:=h.alive b1 o1 l1 hb1 hl1;refine⟨c1,?_,hr⟩;rw[hold l1.blk ?_];exact hc1;intro e2;exact e (h.alone hb hb1 hl hl1 e2.symm λs=>hw.hard hb s.1)
 ·intro b1 b2 o1 o2 l1 l2 h1 h2 k1 k2 e
  have g: ∀(x:Nat) (ox:Obj),(H.put b o').t.get x=some ox-> ∃oy,H.t.get x=some oy:=by
   intro x ox hx;rw[Heap.get_put] at hx
   by_cases ex:b=x
   ·subst ex;exact⟨o,hb⟩
   ·rw[if_neg ex] at hx;exact⟨ox,hx⟩
  obtain⟨o1',h1'⟩:=g b1 o1 h1;obtain⟨o2',h2'⟩:=g b2 o2 h2;rcases h.inj b1 b2 o1' o2' l1 l2 h1' h2' k1 k2 e with e1|⟨s1,s2⟩
  ·exact .inl e1
  ·rw[Heap.get_put] at h1 h2
   rw[if_neg (λx=>by subst x;exact hw.hard h1' s1)] at h1;rw[if_neg (λx=>by subst x;exact hw.hard h2' s2)] at h2;rw[h1] at h1';cases h1';rw[h2] at h2';cases h2';exact .inr ⟨s1,s2⟩
 ·intro k hk hn
  exact hold k λe=>hn b l hw hl e.symm
 ·intro b1 l1 hw1 hl1 hlt
  by_cases e:b=b1
  ·subst e;exact⟨b,l1,hw,hl1,rfl⟩
  ·obtain⟨hro,o1,ho1,hown⟩:=hw1
   rw[Heap.get_put,if_neg e] at ho1;exact⟨b1,l1,⟨hro,o1,ho1,hown⟩,hl1,rfl⟩
 ·intro b1 hb1
  rw[Heap.get_put,if_neg];intro e;have:=hw.1;omega
namespace N8
variable {α:Type}
def proj_upd(i j:Nat)(hi:i<8)(hj:j<8)(f:α->α)(n:N8 α):proj i (upd j f n)=if i=j then f (proj i n) else proj i n:=by
 obtain⟨a,b,c,d,e,g,h,k⟩:=n
 match i,hi,j,hj with
 |0,_,0,_=>rfl|0,_,1,_=>rfl|0,_,2,_=>rfl|0,_,3,_=>rfl|0,_,4,_=>rfl|0,_,5,_=>rfl|0,_,6,_=>rfl|0,_,7,_=>rfl
 |1,_,0,_=>rfl|1,_,1,_=>rfl|1,_,2,_=>rfl|1,_,3,_=>rfl|1,_,4,_=>rfl|1,_,5,_=>rfl|1,_,6,_=>rfl|1,_,7,_=>rfl
 |2,_,0,_=>rfl|2,_,1,_=>rfl|2,_,2,_=>rfl|2,_,3,_=>rfl|2,_,4,_=>rfl|2,_,5,_=>rfl|2,_,6,_=>rfl|2,_,7,_=>rfl
 |3,_,0,_=>rfl|3,_,1,_=>rfl|3,_,2,_=>rfl|3,_,3,_=>rfl|3,_,4,_=>rfl|3,_,5,_=>rfl|3,_,6,_=>rfl|3,_,7,_=>rfl
 |4,_,0,_=>rfl|4,_,1,_=>rfl|4,_,2,_=>rfl|4,_,3,_=>rfl|4,_,4,_=>rfl|4,_,5,_=>rfl|4,_,6,_=>rfl|4,_,7,_=>rfl
 |5,_,0,_=>rfl|5,_,1,_=>rfl|5,_,2,_=>rfl|5,_,3,_=>rfl|5,_,4,_=>rfl|5,_,5,_=>rfl|5,_,6,_=>rfl|5,_,7,_=>rfl
 |6,_,0,_=>rfl|6,_,1,_=>rfl|6,_,2,_=>rfl|6,_,3,_=>rfl|6,_,4,_=>rfl|6,_,5,_=>rfl|6,_,6,_=>rfl|6,_,7,_=>rfl
 |7,_,0,_=>rfl|7,_,1,_=>rfl|7,_,2,_=>rfl|7,_,3,_=>rfl|7,_,4,_=>rfl|7,_,5,_=>rfl|7,_,6,_=>rfl|7,_,7,_=>rfl
def proj_all(i:Nat)(x:α):proj i (all x)=x:=by
 unfold proj
 split<;>rfl
end N8
def GO(n m:Nat)(hn:n<512)(hm:m<512)(tm:TM)(v:AV):SN n (P8 m tm v)=if n=m then v else SN n tm:=by
 show N8.proj (n % 8) (N8.proj (n/8 % 8) (N8.proj (n/64) (N8.upd (m/64) (N8.upd (m/8 % 8) (N8.upd (m % 8) (λ_=>v))) tm)))=if n=m then v else N8.proj (n % 8) (N8.proj (n/8 % 8) (N8.proj (n/64) tm));rw[N8.proj_upd _ _ (by omega) (by omega)]
 by_cases h1:n/64=m/64
 ·rw[if_pos h1,N8.proj_upd _ _ (by omega) (by omega)]
  by_cases h2:n/8 % 8=m/8 % 8
  ·rw[if_pos h2,N8.proj_upd _ _ (by omega) (by omega)]
   by_cases h3:n % 8=m % 8
   ·rw[if_pos h3,if_pos (by omega)]
   ·rw[if_neg h3,if_neg (by omega)]
  ·rw[if_neg h2,if_neg (by omega)]
 ·rw[if_neg h1,if_neg (by omega)]
def kY(n:Nat):SN n ot=.unk:=by
 show N8.proj (n % 8) (N8.proj (n/8 % 8) (N8.proj (n/64) ot))=_;rw[show ot=N8.all u64 from rfl,N8.proj_all,show u64=N8.all u8 from rfl,N8.proj_all,show u8=N8.all AV.unk from rfl,N8.proj_all]
structure MU(σ:Mp)(N:Nat)(tm:TM)(t:Array Value):Prop where
 size:N<=t.size
 get: ∀n,n<512->Ym σ (SN n tm) (t.getD n undef)
def MU.mono{σ σ':Mp}{N:Nat}{tm:TM}{t:Array Value}(h:Ext σ σ')(x:MU σ N tm t):MU σ' N tm t:=⟨x.size,λn hn=>(x.get n hn).mono h⟩
def MU.set{σ:Mp}{N:Nat}{tm:TM}{t:Array Value}(x:MU σ N tm t){d:Nat}{a:AV}{v:Value}(hd:d<N)(h:Ym σ a v):
  MU σ N (UN (some d) tm a) (t.setIfInBounds d v):=by
 refine⟨by simpa using x.size,λn hn=>?_⟩;have hs:=x.size
 by_cases h5:d<=511
 ·have hb:Nat.ble d 511=true:=Zj h5
  have e:UN (some d)=P8 d:=by show cond (Nat.ble d 511) (P8 d) d0=_;rw[hb];rfl
  rw[e,GO n d hn (by omega)]
  by_cases e1:n=d
  ·subst e1
   rw[if_pos rfl];simp only[ZV,YK];have:n<t.size:=by omega
   simpa [this] using h
  ·rw[if_neg e1]
   simp only[ZV,YK];rw[if_neg (λz=>e1 z.symm)];have:=x.get n hn
   simpa only[ZV] using this
 ·have hb:Nat.ble d 511=false:=by
   cases e:Nat.ble d 511 with
   |false=>rfl
   |true=>exact absurd (ZS e) h5
  have e:UN (some d)=d0:=by show cond (Nat.ble d 511) (P8 d) d0=_;rw[hb];rfl
  rw[e];show Ym σ (SN n tm) _;simp only[ZV,YK];rw[if_neg (by omega)];have:=x.get n hn
  simpa only[ZV] using this
theorem Jl{σ:Mp}{f:Value->AV}: ∀(l:List Value),(∀v∈l,Ym σ (f v) v)->YR σ (uA f l) l
 |[],_=>Ux
 |v::l,h=>Vr (h v (by simp)) (Jl l λu hu=>h u (by simp[hu]))
def mD(σ:Mp): ∀(n:Nat) (v:Value),LS n v=true->Ym σ (HX n v) v:=by
 intro n
 induction n with
 |zero=>intro v _;simp[HX,Ym]
 |succ n ih=>
  intro v hp;unfold HX
  split
  ·simp[Ym]
  ·simp[Ym]
  ·rename_i s;simp only[Ym]
  ·simp[Ym]
  ·simp[Ym]
  ·simp[Ym]
  ·simp[Ym]
  ·simp only[Ym];exact⟨[],[],Ux,Ux,rfl⟩
  ·simp[Ym]
  ·rename_i t u;simp only[Ym];exact⟨u,ih u (by simpa [LS] using hp),rfl⟩
  ·rename_i cs
   simp only[LS,Ya,Z4] at hp;simp only[Ym];exact⟨cs,Jl cs λv hv=>ih v (hp v hv).2,λv hv=>(by have:=(hp v hv).1;cases v<;>first|rfl|exact this),rfl⟩
  ·rename_i cs
   simp only[LS,Ya] at hp;simp only[Ym];exact⟨cs,Jl cs λv hv=>ih v (hp v hv),rfl⟩
  ·simp[Ym]
def Sm{α:Type}(a:Nat)(f:Nat->α):Ts a f=f a:=by cases a<;>rfl
def PP{α:Type}(n:Int)(f:Int->α):OX n f=f n:=by
 cases n with
 |ofNat a=>show Ts a (λa=>f (.ofNat a))=_;rw[Sm]
 |negSucc a=>show Ts a (λa=>f (.negSucc a))=_;rw[Sm]
def ZdQ(a b:Int):rn a b=a+b:=by cases a<;>cases b<;>rfl
def jF(a b:Int):Ff a b=a - b:=by
 cases a<;>cases b<;>try rfl
 rename_i x y;show cond (Nat.ble y x) (Int.ofNat (x - y)) (Int.ofNat x - Int.ofNat y)=_;cases h:Nat.ble y x with
 |false=>rfl
 |true=>have:=ZS h;show Int.ofNat (x - y)=_;simp only[YA];omega
def jC(a b:Int):B4 a b=a*b:=by cases a<;>cases b<;>rfl
def ZdS(a b:Int):Zig a b=a.tdiv b:=by cases a<;>cases b<;>rfl
def ZdV(a b:Int):Zii a b=a.tmod b:=by cases a<;>cases b<;>rfl
def Yl(a b:Nat):Nat.beq a b=decide (a=b):=by
 by_cases h:a=b
 ·subst h;simp
 ·rw[Zc h]
  cases e:Nat.beq a b with
  |false=>rfl
  |true=>exact absurd (Yf e) h
def Xb(a b:Nat):Nat.ble a b=decide (a<=b):=by
 by_cases h:a<=b
 ·rw[Zi h];exact Zj h
 ·rw[Zc h]
  cases e:Nat.ble a b with
  |false=>rfl
  |true=>exact absurd (ZS e) h
def Pc(a b:Int):Dw a b=(a==b):=by
 cases a<;>cases b
 ·rename_i x y;show Nat.beq x y=_;rw[Yl,VX];simp;omega
 ·rfl
 ·rfl
 ·rename_i x y;show Nat.beq x y=_;rw[Yl,VX];simp
def MN(a b:Int):rq a b=decide (a<b):=by
 cases a<;>cases b
 ·rename_i x y;show Nat.ble (x+1) y=_;rw[Xb,VX];simp;omega
 ·rename_i x y;show false=_;rw[VX];simp;omega
 ·rename_i x y;show true=_;rw[VX];simp;omega
 ·rename_i x y;show Nat.ble (y+1) x=_;rw[Xb,VX];simp;omega
def Zin(a b:IntKind):PV a b=decide (a=b):=by cases a<;>cases b<;>rfl
def Rq{a b:IntKind}(h:PV a b=true):a=b:=by rw[Zin] at h;exact Zr h
def F2(k:IntKind)(m:Nat)(n:Int)(hs:k.signed=false)(hm:(2^k.bits:Int)=m):vq k m n=k.wrap n:=by
 cases n with
 |negSucc a=>rfl
 |ofNat a=>
  show cond (Nat.ble m a) (Int.ofNat (a % m)) (Int.ofNat a)=_;unfold IntKind.wrap;simp only[hs,hm,Q2,Xp,if_false];rw[Xb]
  by_cases h:m<=a
  ·rw[Zi h];simp
  ·rw[Zc h]
   show Int.ofNat a=_;rw[YA,Int.emod_eq_of_lt (by omega) (by omega)]
def F1(k:IntKind)(h:Nat)(n:Int)(hs:k.signed=true)(hm:(2^k.bits:Int)=2*h)(hh:(2^(k.bits - 1):Int)=h)(h0:0<h):oD k h n=k.wrap n:=by
 cases n with
 |ofNat a=>
  show cond (Nat.ble h a) (k.wrap (Int.ofNat a)) (Int.ofNat a)=_;rw[Xb]
  by_cases g:h<=a
  ·rw[Zi g];rfl
  ·rw[Zc g]
   show Int.ofNat a=_;unfold IntKind.wrap;simp only[hs,hm,hh,S0];rw[YA,Int.emod_eq_of_lt (by omega) (by omega),if_neg];simp;omega
 |negSucc a=>
  show cond (Nat.ble h a) (k.wrap (Int.negSucc a)) (Int.negSucc a)=_;rw[Xb]
  by_cases g:h<=a
  ·rw[Zi g];rfl
  ·rw[Zc g]
   show Int.negSucc a=_;unfold IntKind.wrap;simp only[hs,hm,hh,S0];have e:(Int.negSucc a) % (2*(h:Int))=Int.negSucc a+2*h:=by
    have:=Int.add_mul_emod_self_left (Int.negSucc a) (2*(h:Int)) 1;rw[<-this,Int.mul_one,Int.emod_eq_of_lt (by omega) (by omega)]
   rw[e,if_pos]
   ·omega
   ·simp;omega
def Mj(k:IntKind)(n:Int):ZgN k n=k.wrap n:=by
 cases k
 ·exact F1 .i8 128 n rfl (by decide) (by decide) (by decide)
 ·exact F1 .i16 32768 n rfl (by decide) (by decide) (by decide)
 ·exact F1 .i32 2147483648 n rfl (by decide) (by decide) (by decide)
 ·exact F1 .i64 9223372036854775808 n rfl (by decide) (by decide) (by decide)
 ·exact F2 .u8 256 n rfl (by decide)
 ·exact F2 .u16 65536 n rfl (by decide)
 ·exact F2 .u32 4294967296 n rfl (by decide)
 ·exact F2 .u64 18446744073709551616 n rfl (by decide)
def Aq(k:IntKind):Uh k=2^k.bits:=by cases k<;>rfl
def cW(k:IntKind):ko k=k.bits:=by cases k<;>rfl
def F6(k:IntKind)(n:Int):U1 (Uh k) n=(BitVec.ofInt k.bits n).toNat:=by
 rw[BitVec.toNat_ofInt,Aq];have hp:0<2^k.bits:=Nat.two_pow_pos _;generalize 2^k.bits=m at*;cases n with
 |ofNat a=>
  show a % m=_;simp only[YA]
  norm_cast
 |negSucc a=>
  show(m - 1) - a % m=_;have h:(Int.negSucc a) % (m:Int)=((m - 1 - a % m:Nat):Int):=by
   rw[Int.negSucc_emod _ (by omega)];have:=Wh a hp;omega
  rw[h];simp
def tC(k:IntKind)(a b:Int):Nat.land (BitVec.ofInt k.bits a).toNat ((2^k.bits - 1) - (BitVec.ofInt k.bits b).toNat)=(BitVec.ofInt k.bits a&&& ~~~ (BitVec.ofInt k.bits b)).toNat:=by
 rw[BitVec.toNat_and,BitVec.toNat_not];rfl
def rx(P:Program)(w:World)(op:BinOp)(f:Nat->Nat->Nat->Nat)(hop:(op=.and∧f=SU)∨(op=.or∧f=zW)∨(op=.xor∧f=Zcv)∨(op=.andNot∧f=Gp))(k:IntKind)(a b:Int):
  (Op.intBits op k a b).run P w=.ok (.int k (k.wrap (Int.ofNat (f (Uh k) (U1 (Uh k) a) (U1 (Uh k) b))))) w:=by
 rw[F6,F6];rcases hop with⟨rfl,rfl⟩|⟨rfl,rfl⟩|⟨rfl,rfl⟩|⟨rfl,rfl⟩
 ·simp[Op.intBits,SU]
 ·simp[Op.intBits,zW]
 ·simp[Op.intBits,Zcv]
 ·unfold Gp;rw[Aq]
  have:=tC k a b;simp only[Op.intBits];rw[show(Nat.land (BitVec.ofInt k.bits a).toNat (Nat.sub (Nat.sub (2^k.bits) 1) (BitVec.ofInt k.bits b).toNat))=_ from this];rfl
def Zcw(P:Program)(w:World)(k:IntKind)(a:Int):
  (Op.intBits .xor k (if k.signed then -1 else k.max) a).run P w=.ok (.int k (k.wrap (Int.ofNat (Nat.sub (Nat.sub (Uh k) 1) (U1 (Uh k) a))))) w:=by
 rw[F6,Aq];have h:BitVec.ofInt k.bits (if k.signed then -1 else k.max)=BitVec.allOnes k.bits:=by
  cases k<;>decide
 simp only[Op.intBits,h];have e:(BitVec.allOnes k.bits^^^BitVec.ofInt k.bits a)= ~~~ (BitVec.ofInt k.bits a):=by rw[BitVec.allOnes_xor]
 rw[e,BitVec.toNat_not];rfl
def Zd2(a:Int)(b:Nat):Zim a b=a.fdiv (2^b):=by
 have hp:(0:Int)<((2^b:Nat):Int):=by have:=Nat.two_pow_pos b;omega
 have he:(2^b:Int)=((2^b:Nat):Int):=by simp
 rw[he,Int.fdiv_eq_ediv_of_nonneg _ (by omega)];cases a with
 |ofNat x=>
  show Int.ofNat (x/2^b)=_;rfl
 |negSucc x=>
  show Int.negSucc (x/2^b)=_;rw[Int.negSucc_ediv _ hp];rfl
def Xa(P:Program)(σ:Mp)(H:Heap)(w:World)(r:Result Next):OR->Prop
 |.val v H'=> ∃σ' w' x,(r=.ok (.value x) w'∨(r=.ok .skip w'∧x=undef))∧Ym σ' v x∧Tr P σ H w σ' H' w'
 |.oth .fail=>True
 |.oth (.call f args H')=>H'=H∧ ∃vs,YR σ args vs∧r=(callFunc f ⟨vs⟩).run P w
 |.oth (.yield b args H')=>H'=H∧ ∃l vs,σ b=some l∧YR σ args vs∧r=(Instr.yield l.blk ⟨vs⟩).run P w
 |.oth (.pan v H')=>H'=H∧ ∃x,Ym σ v x∧r=.halt (.panic x) w
 |.oth .recov=>r=.ok .recover w
 |.oth (.defer f args)=> ∀g a b,f=.func g a b-> ∃x y z,YR σ a x∧YR σ args y∧YR σ b z∧r=.ok (.defer {target:=.fn (.func g) ⟨z⟩,args:=⟨x++y⟩}) w
section
variable {P:Program} {σ:Mp} {H:Heap} {w:World} {r:Result Next}
def Z9(hs:WW P σ H w){v:AV}{x:Value}(h:r=.ok (.value x) w)(hr:Ym σ v x):Xa P σ H w r (.val v H):=
 ⟨σ,w,x,.inl h,hr,Tr.refl hs⟩
def Qk{v:AV}{f:IntKind->Int->OR}(h: ∀k n,v=.int k n->Xa P σ H w r (f k n)):Xa P σ H w r (Qo v f):=by
 unfold Qo;split
 ·exact h _ _ rfl
 ·trivial
def SQ{v:AV}{f:Nat->OR}(h: ∀k n,v=.int k (.ofNat n)->Xa P σ H w r (f n)):Xa P σ H w r (SA v f):=by
 unfold SA;split
 ·exact h _ _ rfl
 ·trivial
def yT{v:AV}{f:Bool->OR}(h: ∀b,v=.bool b->Xa P σ H w r (f b)):Xa P σ H w r (EI v f):=by
 unfold EI;split
 ·exact h _ rfl
 ·trivial
def Oo{v:AV}{f:Zd->OR}(h: ∀s,v=.str s->Xa P σ H w r (f s)):Xa P σ H w r (OD v f):=by
 unfold OD;split
 ·exact h _ rfl
 ·trivial
def On{v:AV}{f:Nat->Nat->OR}(h: ∀b o,v=.ptr b o->Xa P σ H w r (f b o)):Xa P σ H w r (Qp v f):=by
 unfold Qp;split
 ·exact h _ _ rfl
 ·trivial
def GV{v:AV}{f:List AV->OR}(h: ∀cs,v=.agg cs->Xa P σ H w r (f cs)):Xa P σ H w r (Fu v f):=by
 unfold Fu;split
 ·exact h _ rfl
 ·trivial
def aR{v:AV}{f:List AV->OR}(h: ∀cs,v=.tup cs->Xa P σ H w r (f cs)):Xa P σ H w r (ic v f):=by
 unfold ic;split
 ·exact h _ rfl
 ·trivial
def NO{v:AV}{n:OR}{f:Nat->AV->OR}(h0:v=.nili->Xa P σ H w r n)(h: ∀t x,v=.iface t x->Xa P σ H w r (f t x)):Xa P σ H w r (Pf v n f):=by
 unfold Pf;split
 ·exact h _ _ rfl
 ·exact h0 rfl
 ·trivial
def T9{v:AV}{n:OR}{f:Nat->Nat->Nat->Option Nat->OR}(h0:v=.nils->Xa P σ H w r n)(h: ∀b o l c,v=.slice b o l c->Xa P σ H w r (f b o l c)):Xa P σ H w r (Td v n f):=by
 unfold Td;split
 ·exact h _ _ _ _ rfl
 ·exact h0 rfl
 ·trivial
def KW{v:AV}{z n:OR}(h0:v=.slice0->Xa P σ H w r z)(h:Xa P σ H w r n):Xa P σ H w r (onZ v z n):=by
 unfold onZ;split
 ·exact h0 rfl
 ·exact h
def GW{v:AV}{n:OR}{f:Nat->OR}(h0:v=.nilm->Xa P σ H w r n)(h: ∀b,v=.map b->Xa P σ H w r (f b)):Xa P σ H w r (DH v n f):=by
 unfold DH;split
 ·exact h _ rfl
 ·exact h0 rfl
 ·trivial
def KV{b:Nat}{f:Obj->OR}(h: ∀o,H.t.get b=some o->Xa P σ H w r (f o)):Xa P σ H w r (Fw H b f):=by
 unfold Fw;split
 ·rename_i o ho;exact h _ ho
 ·trivial
def TF{b:Nat}{f:Row->OR}(h: ∀o,H.t.get b=some (.row o)->Xa P σ H w r (f o)):Xa P σ H w r (Yx H b f):=by
 unfold Yx;split
 ·rename_i o ho;exact h _ ho
 ·trivial
def QK{α:Type}{x:Option α}{f:α->OR}(h: ∀a,x=some a->Xa P σ H w r (f a)):Xa P σ H w r (Tu x f):=by
 unfold Tu;split
 ·exact h _ rfl
 ·trivial
def Yi{b:Bool}{f:OR}(h:b=true->Xa P σ H w r f):Xa P σ H w r (ZJ b f):=by
 cases b with
 |false=>exact trivial
 |true=>exact h rfl
def UP{b:Bool}{f g:OR}(h1:b=true->Xa P σ H w r f)(h2:b=false->Xa P σ H w r g):Xa P σ H w r (cond b f g):=by
 cases b with
 |false=>exact h2 rfl
 |true=>exact h1 rfl
def Om{a:Nat}{f:Nat->OR}(h:Xa P σ H w r (f a)):Xa P σ H w r (Ts a f):=by rw[Sm];exact h
def KU{a:Int}{f:Int->OR}(h:Xa P σ H w r (f a)):Xa P σ H w r (OX a f):=by rw[PP];exact h
def RN(hs:WW P σ H w){k:IntKind}{n:Int}(h:r=.ok (.value (.int k (k.wrap n))) w):Xa P σ H w r (Tp k n H):=by
 unfold Tp;refine KU ?_;rw[Mj];exact Z9 hs h (by simp[Ym])
def Hq(hs:WW P σ H w){b:Bool}(h:r=.ok (.value (.bool b)) w):Xa P σ H w r (S9 b H):=by
 unfold S9;cases b
 ·exact Z9 hs h (by simp[Ym])
 ·exact Z9 hs h (by simp[Ym])
def ft{x y:AV}{f:IntKind->Int->Int->OR}(h: ∀k a b,x=.int k a->y=.int k b->Xa P σ H w r (f k a b)):Xa P σ H w r (Es x y f):=by
 unfold Es;refine Qk λj a hx=>Qk λl b hy=>Yi λhk=>?_;have:=Rq hk;subst this;exact h j a b hx hy
def RG(P:Program)(σ:Mp)(tm:TM)(ρ:Operand->Value):Prop:= ∀x,Ym σ (YZ P x tm) (ρ x)
def PL(σ:Mp)(v:Value):Ym σ (WO v) v:=by
 unfold WO;cases h:LS 20 v with
 |false=>simp[Ym]
 |true=>exact mD σ 20 v h
def AO(hs:WW P σ H w){N:Nat}{tm:TM}{a:Act}(ht:MU σ N tm a.tmps):RG P σ tm a.eval:=by
 intro x;cases x with
 |tmp t=>
  show Ym σ ((cond (Nat.ble t 511) (SN t) (k .unk)) tm) _;rw[Xb]
  by_cases h:t<=511
  ·rw[Zi h];exact ht.get t (Qs h)
  ·rw[Zc h];simp[k,Ym]
 |const v=>exact PL σ v
 |global g=>
  show Ym σ ((cond (Nat.ble (Nat.succ g) P.globals.size) (k (.ptr g 0)) (k .unk)) tm) _;rw[Xb]
  by_cases h:Nat.succ g<=P.globals.size
  ·rw[Zi h]
   obtain⟨l,hl,hb,h0⟩:=hs.glob g h;show Ym σ (.ptr g 0) (.pointer (some ⟨g,0,none⟩));simp only[Ym];exact⟨l,hl,by rw[hb,h0]⟩
  ·rw[Zc h];simp[k,Ym]
 |func f=>simp only[Act.eval,YZ,k,Ym];exact⟨[],[],Ux,Ux,rfl⟩
def XX{k:IntKind}{n:Int}{v:Value}(h:Ym σ (.int k n) v):v=.int k n:=by simpa [Ym] using h
def T7{b:Bool}{v:Value}(h:Ym σ (.bool b) v):v=.bool b:=by simpa [Ym] using h
def Uy{s:Zd}{v:Value}(h:Ym σ (.str s) v):v=.string ⟨s.toArray⟩:=by simpa [Ym] using h
def Vn{s:Sem Value}{x:Value}{w':World}(h:s.run P w=.ok x w'):((do pure (Next.value (<-s)):Sem Next)).run P w=.ok (.value x) w':=by
 simp[h]
end
section
variable {P:Program} {σ:Mp} {H:Heap} {w:World} {tm:TM} {ρ:Operand->Value}
def XI(P:Program)(σ:Mp)(H:Heap)(w:World)(tm:TM)(ρ:Operand->Value)(o:Oper):Prop:=
 Xa P σ H w ((execOp ρ o).run P w) (Uc P o.op tm H)
def ZeJ(hs:WW P σ H w)(hρ:RG P σ tm ρ){o:Oper}{x:Operand}(ho:o.op=.move x):XI P σ H w tm ρ o:=by
 unfold XI;rw[ho];exact Z9 hs (by simp[execOp,ho]) (hρ x)
def eV(hs:WW P σ H w)(hρ:RG P σ tm ρ){o:Oper}{x:Operand}(ho:o.op=.assign x):XI P σ H w tm ρ o:=by
 unfold XI;rw[ho];exact Z9 hs (by simp[execOp,ho]) (hρ x)
def ZeL(hs:WW P σ H w)(hρ:RG P σ tm ρ){o:Oper}{c a b:Operand}(ho:o.op=.pick c a b):XI P σ H w tm ρ o:=by
 unfold XI;rw[ho];refine yT λt ht=>?_;have hc:=hρ c;rw[ht] at hc;have hc:=T7 hc;cases t
 ·exact Z9 hs (x:=ρ b) (by simp[execOp,ho,asBool,hc]) (hρ b)
 ·exact Z9 hs (x:=ρ a) (by simp[execOp,ho,asBool,hc]) (hρ a)
def Zi3(hs:WW P σ H w)(hρ:RG P σ tm ρ){o:Oper}{x:Operand}(ho:o.op=.nilCheck x):XI P σ H w tm ρ o:=by
 unfold XI;rw[ho];show Xa P σ H w _ (um (YZ P x tm) (.val (YZ P x tm) H));have hx:=hρ x;unfold um
 split
 ·rename_i b o' e
  rw[e] at hx;have h0:=hx;simp only[Ym] at hx;obtain⟨l,hl,hv⟩:=hx;rw[e];exact Z9 hs (x:=ρ x) (by simp[execOp,ho,hv]) h0
 ·rename_i f a b e
  rw[e] at hx;have h0:=hx;simp only[Ym] at hx;obtain⟨p,q,_,_,hv⟩:=hx;rw[e];exact Z9 hs (x:=ρ x) (by simp[execOp,ho,hv]) h0
 ·rename_i t v e
  rw[e] at hx;have h0:=hx;simp only[Ym] at hx;obtain⟨p,_,hv⟩:=hx;rw[e];exact Z9 hs (x:=ρ x) (by simp[execOp,ho,hv]) h0
 ·rename_i b e
  rw[e] at hx;have h0:=hx;simp only[Ym] at hx;obtain⟨p,_,hv⟩:=hx;rw[e];exact Z9 hs (x:=ρ x) (by simp[execOp,ho,hv]) h0
 ·trivial
def LW{o:Oper}{op:BinOp}{t:TypeId}{x y:Operand}{u:TypeId}(ho:o.op=.binOp op t x y u)(hg:(op matches .eql|.neq)=false){v:Value}(h:(binOp op t (ρ x) (ρ y)).run P w=.ok v w):
  (execOp ρ o).run P w=.ok (.value v) w:=by
 simp only[execOp,ho];refine Vn ?_;have:(eqGuard op t x y (ρ x) (ρ y)).run P w=.ok () w:=by
  cases op<;>first|rfl|cases hg
 simp[this,h]
def Ic(s:Zd):(ByteArray.mk s.toArray).toList=s:=by
 exact ByteArray.toList_eq _
def MH(s:Zd):(ByteArray.mk s.toArray).size=s.length:=by simp[ByteArray.size]
def yq(a b:UInt8):KI a b=(a==b):=by
 unfold KI;rw[Yl,VX];simp[Wj]
theorem SZ: ∀a b:Zd,Mf a b=(a==b)
 |[],[]=>rfl
 |[],_::_=>rfl
 |_::_,[]=>rfl
 |a::x,b::y=>by
  show cond (KI a b) (Mf x y) false=_;rw[yq,SZ x y];rw[show((a::x)==(b::y))=(a==b&&x==y) from rfl];cases(a==b)<;>rfl
theorem JB: ∀a b:Zd,Yt a b=Op.bytesLess a b
 |[],[]=>rfl
 |[],_::_=>rfl
 |_::_,[]=>rfl
 |a::x,b::y=>by
  show cond (Nat.ble (Nat.succ a.toNat) b.toNat) true (cond (KI a b) (Yt x y) false)=_;rw[yq,JB x y,Xb];simp only[Op.bytesLess];have:decide (a.toNat.succ<=b.toNat)=decide (a<b):=by
   rw[decide_eq_decide,VK];omega
  rw[this];cases decide (a<b)<;>cases(a==b)<;>simp
def Fs(hs:WW P σ H w)(hρ:RG P σ tm ρ){o:Oper}{op:BinOp}{t:TypeId}{x y:Operand}{u:TypeId}(ho:o.op=.binOp op t x y u)(hg:(op matches .eql|.neq)=false)
  {f:IntKind->Int->Int->OR}(h: ∀k a b,ρ x=.int k a->ρ y=.int k b->(∀v,(binOp op t (.int k a) (.int k b)).run P w=.ok v w->(execOp ρ o).run P w=.ok (.value v) w)->Xa P σ H w ((execOp ρ o).run P w) (f k a b)):
  Xa P σ H w ((execOp ρ o).run P w) (Es (YZ P x tm) (YZ P y tm) f):=by
 refine ft λk a b hx hy=>?_;have h1:=hρ x;rw[hx] at h1;have h2:=hρ y;rw[hy] at h2;have h1:=XX h1;have h2:=XX h2;exact h k a b h1 h2 λv hv=>LW ho hg (by rw[h1,h2];exact hv)
def Zi8(hs:WW P σ H w)(hρ:RG P σ tm ρ){o:Oper}{t:TypeId}{x y:Operand}{u:TypeId}(ho:o.op=.binOp .sub t x y u):XI P σ H w tm ρ o:=by
 unfold XI;rw[ho];refine Fs hs hρ ho rfl λk a b _ _ hr=>?_;rw[jF];exact RN hs (hr _ (by simp[binOp,Op.intArith]))
def Zi1(hs:WW P σ H w)(hρ:RG P σ tm ρ){o:Oper}{t:TypeId}{x y:Operand}{u:TypeId}(ho:o.op=.binOp .mul t x y u):XI P σ H w tm ρ o:=by
 unfold XI;rw[ho];refine Fs hs hρ ho rfl λk a b _ _ hr=>?_;rw[jC];exact RN hs (hr _ (by simp[binOp,Op.intArith]))
def Zi4(hs:WW P σ H w)(hρ:RG P σ tm ρ){o:Oper}{t:TypeId}{x y:Operand}{u:TypeId}(ho:o.op=.binOp .quo t x y u):XI P σ H w tm ρ o:=by
 unfold XI;rw[ho];refine Fs hs hρ ho rfl λk a b _ _ hr=>?_;refine UP (λ_=>trivial) λh0=>?_;rw[Pc] at h0;have h0: ¬b=0:=by simpa using h0
 rw[ZdS];exact RN hs (hr _ (by simp[binOp,Op.intDiv,h0]))
def Zi5(hs:WW P σ H w)(hρ:RG P σ tm ρ){o:Oper}{t:TypeId}{x y:Operand}{u:TypeId}(ho:o.op=.binOp .rem t x y u):XI P σ H w tm ρ o:=by
 unfold XI;rw[ho];refine Fs hs hρ ho rfl λk a b _ _ hr=>?_;refine UP (λ_=>trivial) λh0=>KU ?_;rw[Pc] at h0;have h0: ¬b=0:=by simpa using h0
 rw[ZdV];exact Z9 hs (x:=.int k (a.tmod b)) (hr _ (by simp[binOp,Op.intDiv,h0])) (by simp[Ym])
def CG(hs:WW P σ H w)(hρ:RG P σ tm ρ){o:Oper}{op:BinOp}{f:Nat->Nat->Nat->Nat}{t:TypeId}{x y:Operand}{u:TypeId}(ho:o.op=.binOp op t x y u)
  (hop:(op=.and∧f=SU)∨(op=.or∧f=zW)∨(op=.xor∧f=Zcv)∨(op=.andNot∧f=Gp)):
  Xa P σ H w ((execOp ρ o).run P w) (N5 (YZ P x) (YZ P y) f tm H):=by
 refine Fs hs hρ ho (by rcases hop with⟨rfl,_⟩|⟨rfl,_⟩|⟨rfl,_⟩|⟨rfl,_⟩<;>rfl) λk a b _ _ hr=>?_
 refine RN hs (hr _ ?_);rw[<-rx P w op f hop k a b];rcases hop with⟨rfl,_⟩|⟨rfl,_⟩|⟨rfl,_⟩|⟨rfl,_⟩<;>simp[binOp]
def Zi6(hs:WW P σ H w)(hρ:RG P σ tm ρ){o:Oper}{t:TypeId}{x y:Operand}{u:TypeId}(ho:o.op=.binOp .shl t x y u):XI P σ H w tm ρ o:=by
 unfold XI;rw[ho];refine Qk λk a hx=>SQ λj b hy=>?_;have h1:=hρ x;rw[hx] at h1;have h2:=hρ y;rw[hy] at h2;have h1:=XX h1;have h2:=XX h2;rw[jC];have e:k.wrap (a*Int.ofNat (Nat.pow 2 (cond (Nat.ble b 64) b 64)))=k.wrap (a*2^(min b k.bits)):=by
  have hk:k.bits<=64:=by cases k<;>decide
  have key: ∀c:Nat,k.bits<=c->k.wrap (a*((2^c:Nat):Int))=k.wrap (a*((2^k.bits:Nat):Int)):=by
   intro c hc;unfold IntKind.wrap;have:(a*((2^c:Nat):Int)) % (2^k.bits:Int)=0:=by
    apply Int.emod_eq_zero_of_dvd;refine Int.dvd_trans ?_ (Int.dvd_mul_left _ _);obtain⟨d,rfl⟩: ∃d,c=k.bits+d:=⟨c - k.bits,by omega⟩;exact⟨2^d,by rw[QI];simp⟩
   have h2:(a*((2^k.bits:Nat):Int)) % (2^k.bits:Int)=0:=by
    apply Int.emod_eq_zero_of_dvd;exact⟨a,by rw[Int.mul_comm];simp⟩
   rw[this,h2]
  rw[Xb]
  by_cases hb:b<=64
  ·rw[Zi hb]
   show k.wrap (a*((2^b:Nat):Int))=_
   by_cases hb2:b<=k.bits
   ·rw[Xy hb2];simp
   ·rw[SP (by omega),key b (by omega)];simp
  ·rw[Zc hb]
   show k.wrap (a*((2^64:Nat):Int))=_;rw[SP (by omega),key 64 hk];simp
 refine RN hs (LW ho rfl ?_);rw[h1,h2,e];have hn: ¬(Int.ofNat b<0):=by rw[YA];omega
 simp only[binOp,Op.shift];rw[if_neg hn];simp
def Zi7(hs:WW P σ H w)(hρ:RG P σ tm ρ){o:Oper}{t:TypeId}{x y:Operand}{u:TypeId}(ho:o.op=.binOp .shr t x y u):XI P σ H w tm ρ o:=by
 unfold XI;rw[ho];refine Qk λk a hx=>SQ λj b hy=>KU ?_;have h1:=hρ x;rw[hx] at h1;have h2:=hρ y;rw[hy] at h2;have h1:=XX h1;have h2:=XX h2;have e:O3 b (ko k)=min b k.bits:=by
  unfold O3;rw[Xb,cW]
  by_cases hb:b<=k.bits
  ·rw[Zi hb,Xy hb];rfl
  ·rw[Zc hb,SP (by omega)];rfl
 rw[Zd2,e];refine Z9 hs (x:=.int k (a.fdiv (2^(min b k.bits)))) (LW ho rfl ?_) (by simp[Ym]);rw[h1,h2];have hn: ¬(Int.ofNat b<0):=by rw[YA];omega
 simp only[binOp,Op.shift];rw[if_neg hn];simp
def ZiS(hs:WW P σ H w)(hρ:RG P σ tm ρ){o:Oper}{t:TypeId}{x y:Operand}{u:TypeId}(ho:o.op=.binOp .add t x y u):XI P σ H w tm ρ o:=by
 unfold XI;rw[ho];show Xa P σ H w _ (Yz (YZ P x) (YZ P y) tm H);have h1:=hρ x;have h2:=hρ y;unfold Yz
 split
 ·rename_i j a e
  rw[e] at h1;have h1:=XX h1;refine Qk λl b hy=>Yi λhk=>?_;have:=Rq hk;subst this;rw[hy] at h2;have h2:=XX h2;rw[ZdQ];exact RN hs (LW ho rfl (by rw[h1,h2];simp[binOp,Op.intArith]))
 ·rename_i a e
  rw[e] at h1;have h1:=Uy h1;refine Oo λb hy=>Yi λhk=>?_;rw[hy] at h2;have h2:=Uy h2;rw[Xb,Yw,Yw] at hk;have hk:a.length+b.length<=4611686018427387904:=Zr hk;refine Z9 hs (x:=.string ⟨(a++b).toArray⟩) (LW ho rfl ?_) (by simp[Ym]);rw[h1,h2];have hm: ¬(((a.length+b.length:Nat):Int)>IntKind.i64.max):=by
   have:IntKind.i64.max=9223372036854775807:=by decide
   rw[this];omega
  simp only[binOp,Op.stringOp,MH];rw[if_neg hm];simp only[Sem.run_pure]
  congr 2
 ·trivial
def uB(hs:WW P σ H w)(hρ:RG P σ tm ρ){o:Oper}{op:BinOp}{t:TypeId}{x y:Operand}{u:TypeId}(ho:o.op=.binOp op t x y u)(hg:(op matches .eql|.neq)=false)
  {f:Int->Int->Bool}{g:Zd->Zd->Bool}
  (hf: ∀k a b,(binOp op t (.int k a) (.int k b)).run P w=.ok (.bool (f a b)) w)
  (hh: ∀a b:Zd,(binOp op t (.string ⟨a.toArray⟩) (.string ⟨b.toArray⟩)).run P w=.ok (.bool (g a b)) w):
  Xa P σ H w ((execOp ρ o).run P w) (Yk (YZ P x) (YZ P y) f g tm H):=by
 have h1:=hρ x;have h2:=hρ y;unfold Yk
 split
 ·rename_i j a e
  rw[e] at h1;have h1:=XX h1;refine Qk λl b hy=>Yi λhk=>?_;have:=Rq hk;subst this;rw[hy] at h2;have h2:=XX h2;exact Hq hs (LW ho hg (by rw[h1,h2];exact hf _ _ _))
 ·rename_i a e
  rw[e] at h1;have h1:=Uy h1;refine Oo λb hy=>?_;rw[hy] at h2;have h2:=Uy h2;exact Hq hs (LW ho hg (by rw[h1,h2];exact hh _ _))
 ·trivial
theorem OV: ∀a b:Zd,(Op.bytesLess a b||a==b)=!Op.bytesLess b a
 |[],[]=>rfl
 |[],_::_=>rfl
 |_::_,[]=>rfl
 |a::x,b::y=>by
  have ih:=OV x y;simp only[Op.bytesLess];have e1:((a::x)==(b::y))=(a==b&&x==y):=rfl;rw[e1];rcases Nat.lt_trichotomy a.toNat b.toNat with h|h|h
  ·have h1:decide (a<b)=true:=Zi (VK.2 h)
   have h2:decide (b<a)=false:=Zc (λz=>by have:=VK.1 z;omega);have h3:(b==a)=false:=by rw[beq_eq_false_iff_ne];intro z;subst z;omega
   rw[h1,h2,h3];rfl
  ·have hab:a=b:=Wj.1 h
   subst hab;have h1:decide (a<a)=false:=Zc (λz=>by have:=VK.1 z;omega);rw[h1]
   simpa using ih
  ·have h1:decide (a<b)=false:=Zc (λz=>by have:=VK.1 z;omega)
   have h2:decide (b<a)=true:=Zi (VK.2 h);have h3:(a==b)=false:=by rw[beq_eq_false_iff_ne];intro z;subst z;omega
   rw[h1,h2,h3];rfl
def Zi0(hs:WW P σ H w)(hρ:RG P σ tm ρ){o:Oper}{t:TypeId}{x y:Operand}{u:TypeId}(ho:o.op=.binOp .lss t x y u):XI P σ H w tm ρ o:=by
 unfold XI;rw[ho];refine uB hs hρ ho rfl (λk a b=>?_) λa b=>?_
 ·simp[binOp,Op.intCmp,XF,MN]
 ·simp[binOp,Op.stringOp,JB]
def ZiX(hs:WW P σ H w)(hρ:RG P σ tm ρ){o:Oper}{t:TypeId}{x y:Operand}{u:TypeId}(ho:o.op=.binOp .gtr t x y u):XI P σ H w tm ρ o:=by
 unfold XI;rw[ho];refine uB hs hρ ho rfl (λk a b=>?_) λa b=>?_
 ·simp[binOp,Op.intCmp,U9,MN]
 ·have:=OV a b
  simp[binOp,Op.stringOp,W1,JB,this]
def ZiZ(hs:WW P σ H w)(hρ:RG P σ tm ρ){o:Oper}{t:TypeId}{x y:Operand}{u:TypeId}(ho:o.op=.binOp .leq t x y u):XI P σ H w tm ρ o:=by
 unfold XI;rw[ho];refine uB hs hρ ho rfl (λk a b=>?_) λa b=>?_
 ·have:decide (a<=b)=!decide (b<a):=by rw[VX];simp
  simp[binOp,Op.intCmp,Ro,MN,this]
 ·have:=OV a b
  simp[binOp,Op.stringOp,U5,JB,this]
def ZiW(hs:WW P σ H w)(hρ:RG P σ tm ρ){o:Oper}{t:TypeId}{x y:Operand}{u:TypeId}(ho:o.op=.binOp .geq t x y u):XI P σ H w tm ρ o:=by
 unfold XI;rw[ho];refine uB hs hρ ho rfl (λk a b=>?_) λa b=>?_
 ·have:decide (b<=a)=!decide (a<b):=by rw[VX];simp
  simp[binOp,Op.intCmp,UQ,MN,this]
 ·simp[binOp,Op.stringOp,Wd,JB]
def ZlQ(hs:WW P σ H w)(hρ:RG P σ tm ρ){o:Oper}{op:UnOp}{t:TypeId}{x:Operand}(ho:o.op=.unOp op t x):XI P σ H w tm ρ o:=by
 unfold XI;rw[ho];have h1:=hρ x;cases op with
 |neg=>
  refine Qk λk a hx=>?_;rw[hx] at h1;have h1:=XX h1;rw[jF];exact RN hs (by simp only[execOp,ho,h1];exact Vn (by simp[Op.unary,Op.intArith]))
 |not=>
  refine yT λb hx=>?_;rw[hx] at h1;have h1:=T7 h1;refine Z9 hs (x:=.bool (!b)) (by simp only[execOp,ho,h1];exact Vn (by simp[Op.unary])) (by cases b<;>simp[Ym])
 |xor=>
  refine Qk λk a hx=>?_;rw[hx] at h1;have h1:=XX h1;refine RN hs ?_;simp only[execOp,ho,h1];refine Vn ?_;simp only[Op.unary];exact Zcw P w k a
 |plus=>trivial
def ZeI(hs:WW P σ H w)(hρ:RG P σ tm ρ){o:Oper}{t:TypeId}{x:Operand}(ho:o.op=.makeInterface t x){d:TypeDesc}(ht:P.underlying t=some d)(hd:(d matches .interface _)=false):
  Xa P σ H w ((execOp ρ o).run P w) (VF (YZ P x) t tm H):=by
 refine Z9 hs (x:=.iface t (ρ x)) ?_ (by simp only[Ym];exact⟨_,hρ x,rfl⟩);simp only[execOp,ho];refine Vn ?_;simp only[Instr.makeInterface,Sem.run_bind,run_underlying ht,Result.andThen_ok];cases d<;>first|rfl|cases hd
theorem Jk(hρ:RG P σ tm ρ): ∀l:List Operand,YR σ (evs tm (l.map (YZ P))) (l.map ρ)
 |[]=>Ux
 |x::l=>Vr (hρ x) (Jk hρ l)
def eY(hs:WW P σ H w)(hρ:RG P σ tm ρ){o:Oper}{fn:Fn}{a b:Array Operand}(ho:o.op=.makeFunc fn a b):XI P σ H w tm ρ o:=by
 unfold XI;rw[ho];have hr:(execOp ρ o).run P w=.ok (.value (.func fn (a.map ρ) (b.map ρ))) w:=by
  simp only[execOp,ho];exact Vn (by simp[Instr.makeFunc])
 show Xa P σ H w _ ((match fn with
  |.func f=>AB f (args P a) (args P b)
  |.method n=>Zgh P n a.toList b.toList
  |_=>Ul) tm H)
 split
 ·rename_i f
  refine Z9 hs hr ?_;simp only[Ym];refine⟨a.toList.map ρ,b.toList.map ρ,Jk hρ _,Jk hρ _,?_⟩
  congr 1<;>(apply Array.ext';simp)
 ·rename_i n
  obtain⟨a⟩:=a;obtain⟨b⟩:=b
  match a,b with
  |[x],[]=>
   refine Z9 hs hr ?_;simp only[Ym];exact⟨ρ x,hρ x,by simp⟩
  |[],_=>trivial
  |[_],_::_=>trivial
  |_::_::_,_=>trivial
 ·trivial
def mH(hs:WW P σ H w)(hρ:RG P σ tm ρ){o:Oper}{x:Operand}{i:Nat}(ho:o.op=.extract x i):XI P σ H w tm ρ o:=by
 unfold XI;rw[ho];refine aR λvs hx=>QK λv hv=>?_;have h1:=hρ x;rw[hx] at h1;simp only[Ym] at h1;obtain⟨us,hu,e⟩:=h1;rw[JX] at hv;obtain⟨u,hu1,hu2⟩:=hu.get hv;refine Z9 hs (x:=u) ?_ hu2;simp only[execOp,ho];refine Vn ?_;rw[e];simp[Instr.extract,hu1]
def T3{r:Result Next}:Xa P σ H w r (Ul tm H):=trivial
def WY{b:Bool}{f g:Us}{r:Result Next}(h1:b=true->Xa P σ H w r (f tm H))(h2:b=false->Xa P σ H w r (g tm H)):Xa P σ H w r ((cond b f g) tm H):=by
 cases b with
 |false=>exact h2 rfl
 |true=>exact h1 rfl
def XW{t:Nat}{f:TypeInfo->Us}{r:Result Next}(h: ∀i,P.info? t=some i->Xa P σ H w r (f i tm H)):Xa P σ H w r (Ti P t f tm H):=by
 unfold Ti;cases e:P.info? t with
 |none=>exact trivial
 |some i=>exact h i e
def Xm{t:Nat}{f:TypeDesc->Us}{r:Result Next}(h: ∀d,P.underlying t=some d->Xa P σ H w r (f d tm H)):Xa P σ H w r (Up P t f tm H):=by
 unfold Up;cases e:P.underlying t with
 |none=>exact trivial
 |some i=>exact h i e
def Uu{α:Type}{x:Option α}{f:α->Us}{r:Result Next}(h: ∀a,x=some a->Xa P σ H w r (f a tm H)):Xa P σ H w r (Qv x f tm H):=by
 cases x with
 |none=>exact trivial
 |some i=>exact h i rfl
def GX{f:Array Field->Us}{d:TypeDesc}{r:Result Next}(h: ∀fs,d=.struct fs->Xa P σ H w r (f fs tm H)):Xa P σ H w r (uQ f d tm H):=by
 cases d<;>first|exact trivial|exact h _ rfl
def Oq{f:Nat->Us}{d:TypeDesc}{r:Result Next}(h: ∀e,d=.slice e->Xa P σ H w r (f e tm H)):Xa P σ H w r (EY f d tm H):=by
 cases d<;>first|exact trivial|exact h _ rfl
def fw{f:Nat->Us}{d:TypeDesc}{r:Result Next}(h: ∀e,d=.pointer e->Xa P σ H w r (f e tm H)):Xa P σ H w r (Zmp f d tm H):=by
 cases d<;>first|exact trivial|exact h _ rfl
def BK{f:Us}{d:TypeDesc}{r:Result Next}(h:d=.int .u8->Xa P σ H w r (f tm H)):Xa P σ H w r (tU8 f d tm H):=by
 cases d with
 |int k=>cases k<;>first|exact trivial|exact h rfl
 |_=>exact trivial
def P7{t:Nat}{d:TypeDesc}(h:P.underlying t=some d):(isAgg t).run P w=.ok (MO P t) w:=by
 unfold isAgg MO;rw[h];simp only[Sem.run_bind,run_underlying h,Result.andThen_ok];cases d<;>rfl
def WV{t:Nat}{i:TypeInfo}(h:P.info? t=some i):(sizeOf t).run P w=.ok i.size w:=by
 rw[run_sizeOf w h,Program.cellsOf,h];rfl
def TK{b o:Nat}{v:Value}(h:Ym σ (.ptr b o) v): ∃l,σ b=some l∧v=.pointer (some ⟨l.blk,l.base+o,none⟩):=by simpa only[Ym] using h
def Lh{b o:Nat}{l:Loc}(h:σ b=some l):Ym σ (.ptr b o) (.pointer (some ⟨l.blk,l.base+o,none⟩)):=by simp only[Ym];exact⟨l,h,rfl⟩
def Qf(b o n:Nat):Addr.add ⟨b,o,none⟩ n=⟨b,o+n,none⟩:=by
 unfold Addr.add
 by_cases h:n=0
 ·rw[if_pos h,h];rfl
 ·rw[if_neg h]
def uC(hs:WW P σ H w)(hρ:RG P σ tm ρ){o:Oper}{t:TypeId}{x:Operand}{f:Nat}(ho:o.op=.fieldAddr t x f):XI P σ H w tm ρ o:=by
 unfold XI;rw[ho];refine Xm λd hu=>GX λfs hd=>Uu λg hg=>XW λi hi=>WY (λh1=>?_) λ_=>T3;subst hd;refine On λb off hx=>?_;have h1':=hρ x;rw[hx] at h1';obtain⟨l,hl,e⟩:=TK h1';rw[Xb] at h1;have h1:1<=i.size:=Zr h1;refine Z9 hs ?_ (Lh hl);simp only[execOp,ho];refine Vn ?_;rw[e];simp only[Instr.fieldAt,Sem.run_bind,run_underlying hu,Result.andThen_ok,hg,Instr.sureAddr,Sem.run_pure,fieldPlace,WV hi];rw[if_neg (by omega)];simp only[Sem.run_pure,Result.andThen_ok,Qf,XT];rfl
def Zbk(hs:WW P σ H w)(hρ:RG P σ tm ρ){o:Oper}{t:TypeId}{x:Operand}{f:Nat}(ho:o.op=.field t x f):XI P σ H w tm ρ o:=by
 unfold XI;rw[ho];refine Xm λd hu=>GX λfs hd=>Uu λg hg=>XW λi hi=>Xm λd2 hu2=>?_;subst hd;have hag:=P7 (w:=w) hu2;refine WY (λh1=>?_) λh1=>?_
 ·refine GV λcs hx=>?_
  have h1':=hρ x;rw[hx] at h1';simp only[Ym] at h1';obtain⟨vs,hvs,hone,e⟩:=h1';rw[h1] at hag;refine Z9 hs (x:=.agg ⟨(vs.drop g.offset).take i.size⟩) ?_ ?_
  ·simp only[execOp,ho]
   refine Vn ?_;rw[e];simp only[Instr.field,Sem.run_bind,run_underlying hu,Result.andThen_ok,hg,asAgg,Sem.run_pure,part,hag,if_true,WV hi]
   congr 2
   apply Array.ext';simp[Vp]
  ·rw[Lk,MY]
   simp only[Ym];exact⟨_,(hvs.drop _).take _,λy hy=>hone y (Ua (Vu hy)),rfl⟩
 ·refine GV λcs hx=>QK λv hv=>?_
  have h1':=hρ x;rw[hx] at h1';simp only[Ym] at h1';obtain⟨vs,hvs,hone,e⟩:=h1';rw[h1] at hag;rw[JX] at hv;obtain⟨u,hu1,hu2⟩:=hvs.get hv;refine Z9 hs (x:=u) ?_ hu2;simp only[execOp,ho];refine Vn ?_;rw[e];simp only[Instr.field,Sem.run_bind,run_underlying hu,Result.andThen_ok,hg,asAgg,Sem.run_pure,part,hag];simp[hu1]
def uD(hs:WW P σ H w)(hρ:RG P σ tm ρ){o:Oper}{t:TypeId}{x i:Operand}(ho:o.op=.indexAddr t x i):XI P σ H w tm ρ o:=by
 unfold XI;rw[ho];refine Xm λd hu=>?_;cases d<;>try exact trivial
 case slice el=>
  refine XW λj hj=>SQ λk n hn=>T9 (λ_=>trivial) λb off len cap hx=>Yi λhlt=>?_;have h1:=hρ x;have h2:=hρ i;rw[hx] at h1;rw[hn] at h2;simp only[Ym] at h1;obtain⟨l,hl,e⟩:=h1;have h2:=XX h2;rw[Xb] at hlt;have hlt:n+1<=len:=Zr hlt;refine Z9 hs ?_ (Lh hl);simp only[execOp,ho];refine Vn ?_;rw[e,h2];simp only[Instr.indexAt,Sem.run_bind,asIntOf,Sem.run_pure,Result.andThen_ok,run_underlying hu];rw[if_pos (by constructor<;>simp only[YA]<;>omega)]
  simp only[Sem.run_bind,WV hj,Result.andThen_ok,Sem.run_pure,Qf,XT,YA,VP];rfl
 case array m el=>
  refine XW λj hj=>SQ λk n hn=>On λb off hx=>Yi λhlt=>?_;have h1:=hρ x;have h2:=hρ i;rw[hx] at h1;rw[hn] at h2;obtain⟨l,hl,e⟩:=TK h1;have h2:=XX h2;rw[Xb] at hlt;have hlt:n+1<=m:=Zr hlt;refine Z9 hs ?_ (Lh hl);simp only[execOp,ho];refine Vn ?_;rw[e,h2];simp only[Instr.indexAt,Sem.run_bind,asIntOf,Sem.run_pure,Result.andThen_ok,run_underlying hu,Instr.sureAddr];rw[if_pos (by constructor<;>simp only[YA]<;>omega)]
  simp only[Sem.run_bind,WV hj,Result.andThen_ok,Sem.run_pure,Qf,XT,YA,VP];rfl
def Zbl(hs:WW P σ H w)(hρ:RG P σ tm ρ){o:Oper}{t:TypeId}{x i:Operand}(ho:o.op=.index t x i):XI P σ H w tm ρ o:=by
 unfold XI;rw[ho];refine Xm λd hu=>?_;cases d<;>try exact trivial
 case string=>
  refine SQ λk n hn=>Oo λs hx=>QK λb hb=>Om ?_;have h1:=hρ x;have h2:=hρ i;rw[hx] at h1;rw[hn] at h2;have h1:=Uy h1;have h2:=XX h2;rw[uo] at hb;refine Z9 hs (x:=.int .u8 b.toNat) ?_ (by simp[Ym]);simp only[execOp,ho];refine Vn ?_;rw[h1,h2];have hb':(ByteArray.mk s.toArray)[n]? =some b:=by
   rw[<-hb]
   by_cases h:n<s.length
   ·have h':n<(ByteArray.mk s.toArray).size:=by rw[MH];exact h
    rw[getElem?_pos (ByteArray.mk s.toArray) n h',Zm h];rfl
   ·rw[getElem?_neg (ByteArray.mk s.toArray) n (by rw[MH];exact h),Z8 (by omega)]
  simp only[Instr.index,Sem.run_bind,asIntOf,Sem.run_pure,Result.andThen_ok,run_underlying hu];rw[if_pos (by simp only[YA];omega)];simp only[YA,VP,hb',Sem.run_pure]
 case array m el=>
  refine XW λj hj=>Xm λd2 hu2=>?_;have hag:=P7 (w:=w) hu2;refine WY (λh1=>?_) λh1=>WY (λhz=>?_) λ_=>T3
  ·refine SQ λk n hn=>GV λcs hx=>Yi λhlt=>?_
   have g1:=hρ x;have g2:=hρ i;rw[hx] at g1;rw[hn] at g2;have g2:=XX g2;simp only[Ym] at g1;obtain⟨vs,hvs,hone,e⟩:=g1;rw[h1] at hag;rw[Xb] at hlt;have hlt:n+1<=m:=Zr hlt;refine Z9 hs (x:=.agg ⟨(vs.drop (n*j.size)).take j.size⟩) ?_ ?_
   ·simp only[execOp,ho]
    refine Vn ?_;rw[e,g2];simp only[Instr.index,Sem.run_bind,asIntOf,Sem.run_pure,Result.andThen_ok,run_underlying hu];rw[if_pos (by constructor<;>simp only[YA]<;>omega)]
    simp only[Sem.run_bind,WV hj,Result.andThen_ok,part,hag,if_true,Sem.run_pure,YA,VP]
    congr 2
    apply Array.ext';simp[Vp]
   ·rw[Lk,MY]
    simp only[Ym];exact⟨_,(hvs.drop _).take _,λy hy=>hone y (Ua (Vu hy)),rfl⟩
  ·refine SQ λk n hn=>GV λcs hx=>Yi λhlt=>QK λv hv=>?_
   have g1:=hρ x;have g2:=hρ i;rw[hx] at g1;rw[hn] at g2;have g2:=XX g2;simp only[Ym] at g1;obtain⟨vs,hvs,hone,e⟩:=g1;rw[h1] at hag;rw[Xb] at hlt;have hlt:n+1<=m:=Zr hlt;rw[Yl] at hz;have hz:j.size=1:=Zr hz;rw[JX] at hv;obtain⟨u,hu1,ZpF⟩:=hvs.get hv;refine Z9 hs (x:=u) ?_ ZpF;simp only[execOp,ho];refine Vn ?_;rw[e,g2];simp only[Instr.index,Sem.run_bind,asIntOf,Sem.run_pure,Result.andThen_ok,run_underlying hu];rw[if_pos (by constructor<;>simp only[YA]<;>omega)]
   simp only[Sem.run_bind,WV hj,Result.andThen_ok,part,hag,YA,VP,hz,Y6];simp[hu1]
def Ho{r:Result Next}{x:Option Operand}{dflt top:Nat}{f:Nat->OR}(hρ:RG P σ tm ρ)
  (h: ∀n,(∀code,(match x.map ρ with|some v=>Instr.sliceBound v top code|none=>pure dflt:Sem Nat).run P w=.ok n w)->((x=none∧n=dflt)∨(x.isSome=true∧n<=top))->Xa P σ H w r (f n)):
  Xa P σ H w r (kr tm (opt P x) dflt top f):=by
 cases x with
 |none=>exact h dflt (λ_=>rfl) (.inl ⟨rfl,rfl⟩)
 |some x=>
  refine SQ (v:=YZ P x tm) λk n hn=>Yi λhle=>?_;rw[Xb] at hle;have hle:n<=top:=Zr hle;refine h n (λcode=>?_) (.inr ⟨rfl,hle⟩);have h1:=hρ x;rw[hn] at h1;have h1:=XX h1;simp only[YY,h1,Instr.sliceBound,Sem.run_bind,asIntOf,Sem.run_pure,Result.andThen_ok];rw[if_pos (by constructor<;>simp only[YA]<;>omega)]
  simp
def Ol{r:Result Next}{lo hi mx:Option Operand}{len cap capC:Nat}{f:Nat->Nat->Nat->OR}(isSlice:Bool)(hρ:RG P σ tm ρ)(hmx:mx.isSome=true->hi.isSome=true)(hc:cap<=capC)
  (h: ∀l h m mC,(Instr.sliceBounds isSlice len capC (lo.map ρ) (hi.map ρ) (mx.map ρ)).run P w=.ok (l,h,mC) w->l<=h->m<=cap->(mx=none->m=cap∧mC=capC)->(mx.isSome=true->m=mC)->(hi=none->h=len)->(hi.isSome=true->h<=m)->Xa P σ H w r (f l h m)):
  Xa P σ H w r (Hj tm (opt P lo) (opt P hi) (opt P mx) len cap f):=by
 unfold Hj;have up: ∀(x:Option Operand) (dflt top topC n:Nat),top<=topC->(∀code,(match x.map ρ with|some v=>Instr.sliceBound v top code|none=>pure dflt:Sem Nat).run P w=.ok n w)->((x=none∧n=dflt)∨(x.isSome=true∧n<=top))->
   (∀d2,(x=none->d2=n)-> ∀code,(match x.map ρ with|some v=>Instr.sliceBound v topC code|none=>pure d2:Sem Nat).run P w=.ok n w):=by
  intro x dflt top topC n ht h1 h2 d2 hd code;cases x with
  |none=>rw[hd rfl];rfl
  |some x=>
   have h1:=h1 code;simp only[YY] at h1 ⊢;have h2:n<=top:=by rcases h2 with⟨h2,_⟩|⟨_,h2⟩;cases h2;exact h2
   unfold Instr.sliceBound at h1 ⊢;cases hv:ρ x<;>rw[hv] at h1<;>simp only[asIntOf,Sem.run_bind,Sem.run_pure,Result.andThen_ok,run_stuck,Result.andThen_halt,run_unsupported] at h1 ⊢
   case int k i=>
    by_cases hh:0<=i∧i<=(top:Int)
    ·rw[if_pos hh] at h1
     rw[if_pos (by omega)];exact h1
    ·rw[if_neg hh] at h1
     exfalso;have hr:=h1
     first
      |(obtain⟨s',w',hp⟩:=run_boundsPanic (P:=P) (w:=w) (α:=Nat) _ i top code
        rw[hp] at hr;cases hr)
      |(obtain⟨s',w',hp⟩:=run_boundsPanic (P:=P) (w:=w) (α:=Nat) _ i top code
        simp[hp] at hr)
   all_goals (first|cases h1|(rename_i p;cases p<;>simp at h1))
 refine Ho hρ λm hm hm2=>Ho hρ λhh hh1 hh2=>Ho hρ λl hl hl2=>?_;have hmc:m<=cap:=by rcases hm2 with⟨_,e⟩|⟨_,e⟩<;>omega
 have hlh:l<=hh:=by rcases hl2 with⟨_,e⟩|⟨_,e⟩<;>omega
 have fin: ∀mC,(mx=none->m=cap∧mC=capC)->(mx.isSome=true->m=mC)->(Instr.sliceBounds isSlice len capC (lo.map ρ) (hi.map ρ) (mx.map ρ)).run P w=.ok (l,hh,mC) w->Xa P σ H w r (f l hh m):=by
  intro mC q1 q2 q3;refine h l hh m mC q3 hlh hmc q1 q2 (λe=>?_) (λe=>?_)
  ·rcases hh2 with⟨_,e2⟩|⟨e2,_⟩;exact e2;rw[e] at e2;cases e2
  ·rcases hh2 with⟨e2,_⟩|⟨_,e2⟩;rw[e2] at e;cases e;exact e2
 cases mx with
 |none=>
  have hm':m=cap:=by rcases hm2 with⟨_,e⟩|⟨e,_⟩;exact e;cases e
  refine fin capC (λ_=>⟨hm',rfl⟩) (λe=>by cases e) ?_;have h2:=up hi len m capC hh (by omega) hh1 hh2;unfold Instr.sliceBounds;cases hi with
  |none=>
   have e1:hh=len:=by rcases hh2 with⟨_,e⟩|⟨e,_⟩;exact e;cases e
   subst e1;cases lo with
   |none=>
    have e2:l=0:=by rcases hl2 with⟨_,e⟩|⟨e,_⟩;exact e;cases e
    subst e2;simp
   |some lo=>have hl':=λc=>hl c;simp only[YY] at hl';simp[hl']
  |some hi=>
   have h2':=λc=>h2 0 (λe=>by cases e) c;simp only[YY] at h2';cases lo with
   |none=>
    have e2:l=0:=by rcases hl2 with⟨_,e⟩|⟨e,_⟩;exact e;cases e
    subst e2;simp[h2']
   |some lo=>have hl':=λc=>hl c;simp only[YY] at hl';simp[hl',h2']
 |some mx=>
  refine fin m (λe=>by cases e) (λ_=>rfl) ?_;have h3:=up (some mx) cap cap capC m hc hm hm2;have h3':=λc=>h3 0 (λe=>by cases e) c;simp only[YY] at h3';unfold Instr.sliceBounds;cases hi with
  |none=>have:=hmx rfl;cases this
  |some hi=>
   have hh':=λc=>hh1 c;simp only[YY] at hh';cases lo with
   |none=>
    have e2:l=0:=by rcases hl2 with⟨_,e⟩|⟨e,_⟩;exact e;cases e
    subst e2;simp[hh',h3']
   |some lo=>
    have hl':=λc=>hl c;simp only[YY] at hl';simp[hl',hh',h3']
end
section
variable {P:Program} {σ:Mp} {H:Heap} {w:World}
def WW.row(hs:WW P σ H w){b:Nat}{r:Row}{l:Loc}(hb:H.t.get b=some (.row r))(hl:σ b=some l):
  ∃cs fr,w.heap[l.blk]? =some (.cells cs r.elem fr)∧PG σ r l cs fr:=by
 obtain⟨c,hc,ho⟩:=hs.alive b _ l hb hl;obtain⟨cs,fr,rfl,hr⟩:=ho;exact⟨cs,fr,hc,hr⟩
def Lt{w:World}{g:Nat}{cs:Array Value}{t:TypeId}{fr:Nat×Nat}(h:w.heap[g]? =some (.cells cs t fr))(i:Nat):w.cell? ⟨g,i,none⟩=cs[i]? :=
 cell_of_row w g i cs t fr h
def Row.get_eq(r:Row)(i:Nat):r.get i=(r.cells.get i).getD r.dflt:=by
 unfold Row.get;cases r.cells.get i<;>rfl
theorem UV(r:Row): ∀(n o:Nat),(Vw r o n).length=n
 |0,_=>rfl
 |n+1,o=>by simp[Vw,UV r n]
theorem P1{r:Row}{l:Loc}{cs:Array Value}{fr:Nat×Nat}(h:PG σ r l cs fr): ∀(n o:Nat),o+n<=r.size->
  ∃vs,YR σ (Vw r o n) vs∧vs.length=n∧(∀(j:Nat) (v:Value),vs[j]? =some v->cs[l.base+o+j]? =some v)∧ ∀v∈vs,v.oneCell'=true
 |0,o,_=>⟨[],Ux,rfl,by simp,by simp⟩
 |n+1,o,ho=>by
  obtain⟨v,hv,hr⟩:=h.cell o (by omega);obtain⟨vs,h1,h2,h3,h4⟩:=P1 h n (o+1) (by omega);refine⟨v::vs,Vr hr h1,by simp[h2],?_,?_⟩
  ·intro j u hj
   cases j with
   |zero=>simp at hj;subst hj;exact hv
   |succ j=>
    have:=h3 j u (by simpa using hj);rw[<-this];congr 1;omega
  ·intro u hu
   rcases ZY.1 hu with rfl|hu
   ·exact h.one _ _ (by omega) hv
   ·exact h4 u hu
def Ry{g o:Nat}{cs:Array Value}{t:TypeId}{fr:Nat×Nat}(h:w.heap[g]? =some (.cells cs t fr))(vs:List Value)
  (hv: ∀(j:Nat) (v:Value),vs[j]? =some v->cs[o+j]? =some v):(loadCells ⟨g,o,none⟩ vs.length).run P w=.ok vs.toArray w:=by
 refine run_loadCells_list (w:=w) ⟨g,o,none⟩ vs λj v hj=>?_;rw[Qf,Lt h];exact hv j v hj
def Qr(cs:Array Value)(o:Nat):List Value->Array Value
 |[]=>cs
 |v::vs=>Qr (cs.setIfInBounds o v) (o+1) vs
def Oe(vs:List Value): ∀(cs:Array Value) (o:Nat),(Qr cs o vs).size=cs.size:=by
 induction vs with
 |nil=>intro cs o;rfl
 |cons v vs ih=>intro cs o;simp[Qr,ih]
def Po(vs:List Value): ∀(cs:Array Value) (o i:Nat),o+vs.length<=cs.size->
  (Qr cs o vs)[i]? =if o<=i∧i<o+vs.length then vs[i - o]? else cs[i]? :=by
 induction vs with
 |nil=>intro cs o i _;rw[if_neg (by simp)];rfl
 |cons v vs ih=>
  intro cs o i h;simp only[ZL] at h ⊢;show(Qr (cs.setIfInBounds o v) (o+1) vs)[i]? =_;rw[ih _ _ _ (by simp;omega)]
  by_cases h1:o+1<=i∧i<o+1+vs.length
  ·rw[if_pos h1,if_pos (by omega),show i - o=(i - (o+1))+1 by omega];simp
  ·rw[if_neg h1,YK]
   by_cases h2:o=i
   ·subst h2
    rw[if_pos rfl,if_pos (by omega),if_pos (by omega)];simp
   ·rw[if_neg h2,if_neg (by omega)]
def SM(vs:List AV): ∀(c:T AV) (o i:Nat),(XV c o vs).get i=if o<=i∧i<o+vs.length then vs[i - o]? else c.get i:=by
 induction vs with
 |nil=>intro c o i;rw[if_neg (by simp)];rfl
 |cons v vs ih=>
  intro c o i;show(XV (c.set o v) (o+1) vs).get i=_;rw[ih,T.get_set];simp only[ZL]
  by_cases h1:o+1<=i∧i<o+1+vs.length
  ·rw[if_pos h1,if_pos (by omega),show i - o=(i - (o+1))+1 by omega];simp
  ·rw[if_neg h1]
   by_cases h2:o=i
   ·subst h2;rw[if_pos rfl,if_pos (by omega)];simp
   ·rw[if_neg h2,if_neg (by omega)]
structure yk(w w':World)(g:Nat)(c:Go.Obj):Prop where
 size:w'.heap.size=w.heap.size
 new:w'.heap[g]? =some c
 old: ∀k,k≠g->w'.heap[k]? =w.heap[k]?
 tape:w'.tape=w.tape
 os:w'.os=w.os
 out:w'.output=w.output
def yc{w:World}{g i:Nat}{cs:Array Value}{t:TypeId}{fr:Nat×Nat}(h:w.heap[g]? =some (.cells cs t fr))(v:Value):
  yk w (w.setCell ⟨g,i,none⟩ v) g (.cells (cs.setIfInBounds i v) t fr):=by
 have hlt:=(ZX.1 h).1;refine⟨by simp[World.setCell],?_,λk hk=>?_,rfl,rfl,rfl⟩
 ·simp only[World.setCell,Wl]
  rw[h];simp
 ·simp only[World.setCell,Wl]
  rw[if_neg (λe=>hk e.symm)]
def fe{w:World}{g i:Nat}{cs:Array Value}{t:TypeId}{fr:Nat×Nat}(h:w.heap[g]? =some (.cells cs t fr))(hf: ¬(fr.1<=i∧i<fr.2)):w.frozen? ⟨g,i,none⟩=false:=by
 unfold World.frozen?;rw[h];obtain⟨a,b⟩:=fr;simp only[Bool.and_eq_false_iff,decide_eq_false_iff_not];simp only at hf;omega
theorem O4{P:Program}{g o:Nat}{t:TypeId}{fr:Nat×Nat}: ∀(vs:List Value) (i:Nat) (w:World) (cs:Array Value),w.heap[g]? =some (.cells cs t fr)->
  o+i+vs.length<=cs.size->(∀v∈vs,v.oneCell'=true)->(∀j,j<vs.length-> ¬(fr.1<=o+i+j∧o+i+j<fr.2))->
  ∃w',(storeCells ⟨g,o,none⟩ vs i).run P w=.ok () w'∧yk w w' g (.cells (Qr cs (o+i) vs) t fr)
 |[],i,w,cs,h,_,_,_=>⟨w,rfl,⟨rfl,h,λ_ _=>rfl,rfl,rfl,rfl⟩⟩
 |v::vs,i,w,cs,h,hsz,hone,hfr=>by
  simp only[ZL] at hsz hfr;have hw:=yc (i:=o+i) h v;obtain⟨w',hr,h'⟩:=O4 (P:=P) (g:=g) (o:=o) (t:=t) (fr:=fr) vs (i+1) (w.setCell ⟨g,o+i,none⟩ v) (cs.setIfInBounds (o+i) v) hw.new
   (by simp;omega) (λu hu=>hone u (by simp[hu])) (λj hj=>by have:=hfr (j+1) (by omega);rwa [show o+(i+1)+j=o+i+(j+1) by omega])
  refine⟨w',?_,?_⟩
  ·simp only[storeCells,Sem.run_bind,Qf]
   rw[run_store P w _ v .plain (hone v (by simp)),Lt h,WU (by omega)];simp only;rw[fe h (by have:=hfr 0 (by omega);simpa using this)];simp only[Xp,if_false,Result.andThen_ok];exact hr
  ·refine⟨by rw[h'.size,hw.size],?_,λk hk=>by rw[h'.old k hk,hw.old k hk],by rw[h'.tape,hw.tape],by rw[h'.os,hw.os],by rw[h'.out,hw.out]⟩
   rw[h'.new];rfl
def Wr.of_may{b:Nat}{r:Row}(h:H.may r b=true)(hb:H.t.get b=some (.row r)):Wr H b∧r.own=true:=by
 unfold Heap.may at h;cases ho:r.own with
 |false=>rw[ho] at h;cases h
 |true=>
  rw[ho] at h;have:H.ro<=b:=ZS h;refine⟨⟨this,_,hb,λr' e=>?_,λe=>by cases e⟩,rfl⟩;cases e;exact ho
def J7(hs:WW P σ H w){b:Nat}{r:Row}{l:Loc}(hb:H.t.get b=some (.row r))(hl:σ b=some l)(S5:H.may r b=true){o:Nat}{as:List AV}{vs:List Value}
  (ha:YR σ as vs)(hone: ∀v∈vs,v.oneCell'=true)(hsz:o+vs.length<=r.size)(hfz:r.fz<=o):
  ∃w',(storeCells ⟨l.blk,l.base+o,none⟩ vs 0).run P w=.ok () w'∧Tr P σ H w σ (H.put b (.row (r.setCells (XV r.cells o as)))) w':=by
 obtain⟨cs,fr,hc,hr⟩:=hs.row hb hl;obtain⟨hwr,hown⟩:=Wr.of_may S5 hb;have h1:=hr.fits;have h2:=hr.room;have hlen:=ha.length;obtain⟨w',hrun,hw⟩:=O4 (P:=P) (o:=l.base+o) vs 0 w cs hc (by omega) hone (λj hj=>by
  have:=hr.frz hown (o+j) (by omega) (by omega)
  rwa [show l.base+o+0+j=l.base+(o+j) by omega])
 refine⟨w',hrun,Tr.write hs hb hl hwr hw.size hw.new hw.old ⟨_,fr,rfl,?_⟩ hw.tape hw.os hw.out⟩;refine⟨hr.sz,hr.sz1,hr.fits,by rw[Oe];exact hr.room,λe=>by rw[Oe];exact hr.exact e,?_,?_,hr.frz,hr.frs⟩
 ·intro i hi
  have hi:i<r.size:=hi;rw[Row.get_eq];show ∃v,_∧Ym σ (((XV r.cells o as).get i).getD r.dflt) v;rw[SM,Po _ _ _ _ (by omega)]
  by_cases hin:o<=i∧i<o+as.length
  ·rw[if_pos hin,if_pos (by omega)]
   obtain⟨a,hga⟩: ∃a,as[i - o]? =some a:=⟨as[i - o]'(by omega),Zm (by omega)⟩;obtain⟨v,hv,hrel⟩:=ha.get hga;refine⟨v,?_,?_⟩
   ·rw[show l.base+i - (l.base+o+0)=i - o by omega];exact hv
   ·rw[hga];exact hrel
  ·rw[if_neg hin,if_neg (by omega)]
   obtain⟨v,hv,hrel⟩:=hr.cell i hi;rw[Row.get_eq] at hrel;exact⟨v,hv,hrel⟩
 ·intro i v hi hv
  have hi:i<r.size:=hi;rw[Po _ _ _ _ (by omega)] at hv
  split at hv
  ·exact hone v (Vt hv)
  ·exact hr.one i v hi hv
end
def C8{n:Nat}(h:n % 2=1):bits n=true::bits (n/2):=by
 unfold bits;obtain⟨m,rfl⟩: ∃m,n=m+1:=⟨n - 1,by omega⟩;rw[QA,if_neg (by omega),if_pos h,Lo ((m+1)/2) _ m (Zs _) (by omega)]
def F7{n:Nat}(h0:n≠0)(h:n % 2=0):bits n=false::bits (n/2 - 1):=by
 unfold bits;obtain⟨m,rfl⟩: ∃m,n=m+1:=⟨n - 1,by omega⟩;rw[QA,if_neg (by omega),if_neg (by omega),Lo ((m+1)/2 - 1) _ m (Zs _) (by omega)]
namespace T
variable {α:Type}
def aO(l r:T α)(v:Option α)(n:Nat):(T.node l v r).get n=if n=0 then v else if n % 2=1 then l.get (n/2) else r.get (n/2 - 1):=by
 unfold get
 by_cases h0:n=0
 ·subst h0;rfl
 ·rw[if_neg h0]
  by_cases h1:n % 2=1
  ·rw[if_pos h1,C8 h1];rfl
  ·rw[if_neg h1,F7 h0 (by omega)];rfl
theorem AL: ∀(l:List α) (k:Nat),(Ty l)[k]? =l[2*k]?
 |[],k=>by simp[Ty]
 |[x],k=>by cases k<;>simp[Ty]
 |x::y::l,0=>by simp[Ty]
 |x::y::l,k+1=>by
  show(x::Ty l)[k+1]? =(x::y::l)[2*(k+1)]?;rw[show 2*(k+1)=(2*k+1)+1 by omega];simp[AL l k]
theorem Jf: ∀l:List α,(Ty l).length<=l.length
 |[]=>by simp[Ty]
 |[x]=>by simp[Ty]
 |x::y::l=>by have:=Jf l;simp[Ty];omega
theorem KS: ∀(f:Nat) (l:List α) (i:Nat),l.length<=f->(T6 f l).get i=l[i]?
 |0,l,i,h=>by
  have:l=[]:=by cases l<;>simp_all
  subst this;simp[T6,get_leaf]
 |f+1,[],i,_=>by simp[T6,get_leaf]
 |f+1,x::l,i,h=>by
  simp only[ZL] at h;show(T.node (T6 f (Ty l)) (some x) (T6 f (Ty l.tail))).get i=_;rw[aO]
  by_cases h0:i=0
  ·subst h0;simp
  ·rw[if_neg h0]
   by_cases h1:i % 2=1
   ·rw[if_pos h1,KS f _ _ (by have:=Jf l;omega),AL]
    rw[show 2*(i/2)=i - 1 by omega];obtain⟨k,rfl⟩: ∃k,i=k+1:=⟨i - 1,by omega⟩;simp
   ·rw[if_neg h1,KS f _ _ (by have:=Jf l.tail;simp at this;omega),AL]
    rw[show 2*(i/2 - 1)=i - 2 by omega];obtain⟨k,rfl⟩: ∃k,i=k+2:=⟨i - 2,by omega⟩;simp
def Fh(l:List α):ZlA l=l.length:=Yw l
def get_ofList(l:List α)(i:Nat):(ofList l).get i=l[i]? :=KS _ _ _ (by rw[Fh];exact Zs _)
end T
section
variable {P:Program} {σ:Mp} {H:Heap} {w:World}
def Gb{σ:Mp}{e sz tot:Nat}{as:List AV}{vs rest:List Value}{sm exact:Bool}{blk:Nat}{fr:Nat×Nat}(ha:YR σ as vs)(hone: ∀v∈vs++rest,v.oneCell'=true)(hsz:1<=sz)
  (hfit:as.length<=tot*sz)(hroom:tot*sz<=(vs++rest).length)(hex:exact=true->as.length=tot*sz∧rest=[])(hfr:if sm then tot*sz<=fr.1 else fr.1=fr.2):
  PG σ ⟨e,sz,YN as,T.ofList as,.unk,0,sm,true,exact⟩ ⟨blk,0,tot,sz⟩ ⟨vs++rest⟩ fr:=by
 have hlen:=ha.length;refine⟨rfl,hsz,by rw[Yw];exact hfit,by simpa using hroom,λh=>?_,?_,?_,?_,?_⟩
 ·obtain⟨h1,h2⟩:=hex h
  subst h2;exact⟨by rw[Yw];exact h1,rfl,by rw[Yw];simp[hlen]⟩
 ·intro i hi
  have hi:i<as.length:=by rw[<-Yw];exact hi
  rw[Row.get_eq];show ∃v,_∧Ym σ (((T.ofList as).get i).getD .unk) v;rw[T.get_ofList,Zm hi];obtain⟨v,hv,hr⟩:=ha.get (Zm hi);refine⟨v,?_,hr⟩;simp only[Zl,X3];rw[ZW (by omega)];exact hv
 ·intro i v _ hv
  simp only[X3] at hv;exact hone v (Vt hv)
 ·intro _ i _ hi
  cases sm with
  |true=>simp only[if_true] at hfr;simp only at hi ⊢;omega
  |false=>simp only[Xp,if_false] at hfr;simp only at hi ⊢;omega
 ·intro _ hsm
  have hsm:sm=false:=hsm;subst hsm;simp only[Xp,if_false] at hfr;exact .inl hfr
def JW(hs:WW P σ H w){e sz tot:Nat}{as:List AV}{vs:List Value}(ha:YR σ as vs)(hone: ∀v∈vs,v.oneCell'=true)(hsz:1<=sz)(hlen:as.length=tot*sz):
  Tr P σ H w (σ.put H.nx ⟨w.heap.size,0,tot,sz⟩) (H.newRow e sz as true) (w.alloc (.cells ⟨vs⟩ e)):=by
 refine Tr.alloc hs _ _ _ rfl ⟨⟨vs⟩,(0,0),rfl,?_⟩;have:=Gb (σ:=σ.put H.nx ⟨w.heap.size,0,tot,sz⟩) (e:=e) (sm:=false) (exact:=true) (blk:=w.heap.size) (fr:=(0,0)) (rest:=[]) (ha.mono (Mp.put_ext _ (hs.fresh (Zs _)))) (by simpa using hone) hsz (by omega) (by simp;have:=ha.length;omega) (λ_=>⟨hlen,rfl⟩) rfl
 simpa using this
def jT(hs:WW P σ H w){e n:Nat}{a:AV}{v:Value}(ha:Ym σ a v)(hone:v.oneCell'=true):
  Tr P σ H w (σ.put H.nx ⟨w.heap.size,0,n,1⟩) (H.new (.row ⟨e,1,n,.leaf,a,0,false,true,true⟩)) (w.alloc (.cells ⟨List.replicate n v⟩ e)):=by
 refine Tr.alloc hs _ _ _ rfl ⟨_,(0,0),rfl,⟨rfl,Zs _,by simp,by simp,λ_=>⟨by simp,rfl,by simp⟩,?_,?_,?_,?_⟩⟩
 ·intro i hi
  have hi:i<n:=hi;rw[Row.get_eq];refine⟨v,?_,?_⟩
  ·simp[XJ,hi]
  ·rw[T.get_leaf];exact ha.mono (Mp.put_ext _ (hs.fresh (Zs _)))
 ·intro i u _ hu
  simp only[X3,XJ] at hu
  split at hu
  ·cases hu;exact hone
  ·cases hu
 ·intro _ i _ hi;simp only;omega
 ·intro _ _;exact .inl rfl
end
section
variable {P:Program} {σ:Mp} {H:Heap} {w:World} {tm:TM} {ρ:Operand->Value}
def J6{σ:Mp}{b:Nat}{l:Loc}(hb:l.base=0):Ym (σ.put b l) (.ptr b 0) (.pointer (some ⟨l.blk,0,none⟩)):=by
 simp only[Ym];exact⟨l,Mp.put_same _ _ _,by rw[hb]⟩
def SL{σ:Mp}{b n:Nat}{l:Loc}(hb:l.base=0):Ym (σ.put b l) (.slice b 0 n none) (.slice (some ⟨l.blk,0,none⟩) n l.tot):=by
 simp only[Ym];exact⟨l,Mp.put_same _ _ _,by rw[hb];simp⟩
def VZ{r:Result Next}{σ':Mp}{H':Heap}{w':World}{v:AV}{x:Value}(ht:Tr P σ H w σ' H' w')(hr:r=.ok (.value x) w')(hx:Ym σ' v x):Xa P σ H w r (.val v H'):=
 ⟨σ',w',x,.inl hr,hx,ht⟩
def TX{t:Nat}{i:TypeInfo}{z:Value}(h:P.info? t=some i)(hz:i.zero=some z):(zeroValue t).run P w=.ok z w:=by
 simp[zeroValue,typeInfo,h,hz]
def Sv(z:Value)(h:1<=(WO z).cells.length):YR σ (WO z).cells z.cells.toList∧ ∀x∈z.cells.toList,x.oneCell'=true:=(PL σ z).cells h
theorem ke{kd:IntKind}{m:Int}: ∀{l:List Value},ZcM kd m l=true->l=List.replicate l.length (.int kd m)
 |[],_=>rfl
 |v::l,h=>by
  unfold ZcM at h
  split at h
  ·rename_i j n
   cases h1:PV kd j with
   |false=>rw[h1] at h;cases h
   |true=>
    have:=Rq h1;subst this;rw[h1] at h;cases h2:Dw m n with
    |false=>rw[h2] at h;cases h
    |true=>
     rw[h2] at h;rw[Pc] at h2;have h2:m=n:=by simpa using h2
     subst h2;have ih:=ke h;rw[ZL,XY,<-ih]
  ·cases h
def Zbf(hs:WW P σ H w){o:Oper}{t:TypeId}(ho:o.op=.alloc t):XI P σ H w tm ρ o:=by
 unfold XI;rw[ho];refine XW λi hi=>Uu λz hz=>?_;have hrun:(execOp ρ o).run P w=.ok (.value (.pointer (some ⟨w.heap.size,0,none⟩))) (w.alloc (.cells z.cells t)):=by
  simp only[execOp,ho];refine Vn ?_;simp only[Instr.alloc,Sem.run_bind,TX hi hz,Result.andThen_ok];simp[newVar,newRow]
 have key:Xa P σ H w ((execOp ρ o).run P w) (VN t (WO z).cells tm H):=by
  refine Yi λh1=>?_;rw[Xb,Yw] at h1;have h1:1<=(WO z).cells.length:=Zr h1;obtain⟨hr,hone⟩:=Sv (σ:=σ) z h1;exact VZ (JW hs (tot:=(WO z).cells.length) hr hone (Zs _) (by simp)) hrun (J6 rfl)
 show Xa P σ H w _ (cO t z.cells.toList (WO z).cells tm H);cases hl:z.cells.toList with
 |nil=>exact key
 |cons v l'=>
  cases v<;>try exact key
  case int kd m=>
   refine WY (λ_=>WY (λha=>?_) λ_=>key) λ_=>key;have hrep:=ke ha;rw[Yw];refine VZ (jT hs (n:=l'.length+1) (v:=.int kd m) (by simp[Ym]) rfl) ?_ (J6 rfl);rw[hrun];have:z.cells=⟨List.replicate (l'.length+1) (.int kd m)⟩:=by
    apply Array.ext';rw[hl,XY,<-hrep]
   rw[this]
def ZiT(hs:WW P σ H w)(hρ:RG P σ tm ρ){o:Oper}{t:TypeId}{x:Operand}(ho:o.op=.box t x):XI P σ H w tm ρ o:=by
 unfold XI;rw[ho];refine Yi λh1=>?_;rw[Xb,Yw] at h1;have h1:1<=(YZ P x tm).cells.length:=Zr h1;obtain⟨hr,hone⟩:=(hρ x).cells h1;refine VZ (JW hs (tot:=(YZ P x tm).cells.length) hr hone (Zs _) (by simp)) ?_ (J6 rfl);simp only[execOp,ho];refine Vn ?_;simp[Instr.box,newVar,newRow]
def ZeH(hs:WW P σ H w)(hρ:RG P σ tm ρ){o:Oper}{t:TypeId}{x:Operand}(ho:o.op=.load t x):XI P σ H w tm ρ o:=by
 unfold XI;rw[ho];refine XW λi hi=>Xm λd hu=>?_;have hag:=P7 (w:=w) hu;refine WY (λh1=>?_) λh1=>?_
 ·refine On λb off hx=>TF λr hr=>Yi λhle=>?_
  rw[Xb] at hle;have hle:off+i.size<=r.size:=Zr hle;have g:=hρ x;rw[hx] at g;obtain⟨l,hl,e⟩:=TK g;obtain⟨cs,fr,hc,hrr⟩:=hs.row hr hl;obtain⟨vs,h2,h3,h4,h5⟩:=P1 hrr i.size off hle;rw[h1] at hag;refine Z9 hs (x:=.agg ⟨vs⟩) ?_ (by simp only[Ym];exact⟨vs,h2,h5,rfl⟩);simp only[execOp,ho];refine Vn ?_;rw[e];have:=Ry (P:=P) hc vs (o:=l.base+off) h4;rw[h3] at this;simp only[Instr.loadAt,Instr.sureAddr,Sem.run_bind,Sem.run_pure,Result.andThen_ok,loadVar,hag,if_true,WV hi,this]
 ·refine On λb off hx=>TF λr hr=>Yi λhle=>?_
  rw[Xb] at hle;have hle:off+1<=r.size:=Zr hle;have g:=hρ x;rw[hx] at g;obtain⟨l,hl,e⟩:=TK g;obtain⟨cs,fr,hc,hrr⟩:=hs.row hr hl;obtain⟨v,hv,hrel⟩:=hrr.cell off hle;rw[h1] at hag;refine Z9 hs (x:=v) ?_ hrel;simp only[execOp,ho];refine Vn ?_;rw[e];simp only[Instr.loadAt,Instr.sureAddr,Sem.run_bind,Sem.run_pure,Result.andThen_ok,loadVar,hag,Xp,if_false,run_load,Lt hc,hv]
def Zbp(hs:WW P σ H w)(hρ:RG P σ tm ρ){o:Oper}{t:TypeId}{x y:Operand}(ho:o.op=.store t x y):XI P σ H w tm ρ o:=by
 unfold XI;rw[ho];refine XW λi hi=>?_;refine On λb off hx=>TF λr hr=>Yi λhn=>Yi λS5=>Yi λhle=>Yi λhfz=>Yi λhlen=>?_;rw[Xb] at hn hle hfz;rw[Yl,Yw] at hlen;have hn:1<=i.size:=Zr hn;have hle:off+i.size<=r.size:=Zr hle;have hfz:r.fz<=off:=Zr hfz;have hlen:(YZ P y tm).cells.length=i.size:=Zr hlen;have g:=hρ x;rw[hx] at g;obtain⟨l,hl,e⟩:=TK g;obtain⟨hrel,hone⟩:=(hρ y).cells (by omega);have hl2:=hrel.length;obtain⟨w',hrun,htr⟩:=J7 hs hr hl S5 hrel hone (o:=off) (by omega) hfz;refine⟨σ,w',undef,.inr ⟨?_,rfl⟩,by simp[Y9,undef,Ym,YR],htr⟩;simp only[execOp,ho];rw[e];have hsz:(ρ y).cells.size=i.size:=by rw[<-hlen,hl2];simp
 simp only[Instr.storeAt,Instr.sureAddr,Sem.run_bind,Sem.run_pure,Result.andThen_ok,storeVar,WV hi,hsz];simp[hrun]
theorem Ix(off:Nat): ∀(l:List Value) (i:Nat) (cs:Array Value),(l.zipIdx i).foldl (λcs (x:Value×Nat)=>cs.setIfInBounds (off+x.2) x.1) cs=Qr cs (off+i) l
 |[],_,_=>rfl
 |v::l,i,cs=>by
  simp only[List.zipIdx_cons,Vz];rw[Ix off l (i+1)];rfl
def Co{cs:Array Value}{o:Nat}{vs:List Value}(h:o+vs.length<=cs.size):(Qr cs o vs).toList=cs.toList.take o++(vs++cs.toList.drop (o+vs.length)):=by
 apply Y7;intro i;rw[Z7,Po _ _ _ _ h];have hlen:(cs.toList.take o).length=o:=by simp;omega
 by_cases h1:i<o
 ·rw[if_neg (by omega),ZW (by omega),List.getElem?_take,if_pos h1,Z7]
 ·rw[Z0 (by omega),hlen]
  by_cases h2:i - o<vs.length
  ·rw[if_pos (by omega),ZW h2]
  ·rw[if_neg (by omega),Z0 (by omega),Y8,Z7]
   congr 1;omega
theorem Ek{r:Result Next}(hρ:RG P σ tm ρ){place:Nat->Option (Nat×Nat)}{k:List AV->OR}: ∀(ps:List (Nat×Operand)) (cells:List AV) (cs:Array Value),
  YR σ cells cs.toList->(∀v∈cs.toList,v.oneCell'=true)->
  (∀cells' cs',YR σ cells' cs'.toList->(∀v∈cs'.toList,v.oneCell'=true)->cs'.size=cs.size->Instr.fill place cs (ps.map λp=>(p.1,ρ p.2))=some cs'->Xa P σ H w r (k cells'))->
  Xa P σ H w r (yM tm k (ps.map (PA P place)) cells)
 |[],cells,cs,h1,h2,h3=>h3 cells cs h1 h2 rfl rfl
 |p::ps,cells,cs,h1,h2,h3=>by
  show Xa P σ H w r (ZJ (Nat.ble 1 (PA P place p).sz)<|ZJ (Nat.beq (YN ((PA P place p).x tm).cells) (PA P place p).sz) (ZJ (Nat.ble (Nat.add (PA P place p).off (PA P place p).sz) (YN cells))
   (yM tm k (ps.map (PA P place)) (OQ (PA P place p).off cells++(((PA P place p).x tm).cells++Py (Nat.add (PA P place p).off (PA P place p).sz) cells)))))
  refine Yi λg1=>Yi λg2=>Yi λg3=>?_;cases hp:place p.1 with
  |none=>unfold PA at g1;rw[hp] at g1;cases g1
  |some q=>
   obtain⟨off,sz⟩:=q;have hpe:PA P place p=⟨off,sz,YZ P p.2⟩:=by unfold PA;rw[hp]
   rw[hpe] at g1 g2 g3 ⊢;simp only at g1 g2 g3 ⊢;rw[Xb] at g1 g3;rw[Yl,Yw] at g2;rw[Yw] at g3;have g1:1<=sz:=Zr g1;have g2:(YZ P p.2 tm).cells.length=sz:=Zr g2;have g3:off+sz<=cells.length:=Zr g3;obtain⟨hr,hone⟩:=(hρ p.2).cells (by omega);have hl:=hr.length;have hl1:=h1.length;have hsz:(ρ p.2).cells.size=sz:=by rw[<-g2,hl];simp
   have hcs:cells.length=cs.size:=by rw[hl1];simp
   have hw:(Qr cs off (ρ p.2).cells.toList).toList=cs.toList.take off++((ρ p.2).cells.toList++cs.toList.drop (off+sz)):=by
    rw[Co (by simp;omega)];simp[hsz]
   refine Ek hρ ps _ (Qr cs off (ρ p.2).cells.toList) ?_ ?_ λcells' cs' k1 k2 k3 k4=>h3 cells' cs' k1 k2 (by rw[k3,Oe]) ?_
   ·rw[hw,Lk,MY]
    exact(h1.take _).append (hr.append (h1.drop _))
   ·intro v hv
    rw[hw] at hv;rcases Zt.1 hv with hv|hv
    ·exact h2 v (Vu hv)
    ·rcases Zt.1 hv with hv|hv
     ·exact hone v hv
     ·exact h2 v (Ua hv)
   ·simp only[ZD,Instr.fill,hp]
    rw[if_neg (by simp only[UX,decide_eq_true_eq];omega)];rw[<-k4]
    congr 1
    have:=Ix off (ρ p.2).cells.toList 0 cs;rw[Zo] at this;rw[<-this,<-Array.foldl_toList,Array.toList_zipIdx]
def Zbg(hs:WW P σ H w)(hρ:RG P σ tm ρ){o:Oper}{t:TypeId}{ps:Array (Nat×Operand)}(ho:o.op=.build t ps):XI P σ H w tm ρ o:=by
 unfold XI;rw[ho];refine XW λi hi=>Uu λz hz=>Xm λd hu=>?_;have hps:(ps.map λ(x:Nat×Operand)=>(x.1,ρ x.2)).toList=ps.toList.map λp=>(p.1,ρ p.2):=by simp
 have fin: ∀(place:Nat->Option (Nat×Nat)),(∀cs',Instr.fill place z.cells (ps.toList.map λp=>(p.1,ρ p.2))=some cs'->P.built t (ps.toList.map λp=>(p.1,ρ p.2))=some cs')->
   Xa P σ H w ((execOp ρ o).run P w) (Vx (WO z).cells (ps.toList.map (PA P place)) tm H):=by
  intro place hb;refine Yi λh1=>?_;rw[Xb,Yw] at h1;have h1:1<=(WO z).cells.length:=Zr h1;obtain⟨hr,hone⟩:=Sv (σ:=σ) z h1;refine Ek hρ _ _ _ hr hone λcells' cs' k1 k2 k3 k4=>?_;refine Z9 hs (x:=.agg cs') ?_ (by simp only[Ym];exact⟨cs'.toList,k1,k2,rfl⟩);simp only[execOp,ho];refine Vn ?_;exact run_build w t _ cs' (by rw[hps];exact hb cs' k4)
 cases d<;>try exact trivial
 case struct fs=>
  refine Uu λplaces hp=>fin _ λcs' hf=>?_;simp only[Program.built,hi,hu,hz,hp];exact hf
 case array n e=>
  refine XW λj hj=>fin _ λcs' hf=>?_;simp only[Program.built,hi,hu,hz,hj];exact hf
theorem Dj{α:Type}(l:List α)(hl:1<=l.length): ∀(n i:Nat),(List.replicate n l).flatten[i]? =if i<n*l.length then l[i % l.length]? else none
 |0,i=>by simp
 |n+1,i=>by
  rw[XY,XC,WR]
  by_cases h:i<l.length
  ·rw[ZW h,if_pos (by omega),Yd h]
  ·rw[Z0 (by omega),Dj l hl n]
   have e:i % l.length=(i - l.length) % l.length:=by
    conv=>lhs;rw[show i=(i - l.length)+l.length by omega]
    rw[Nat.add_mod_right]
   rw[<-e]
   by_cases h2:i - l.length<n*l.length
   ·rw[if_pos h2,if_pos (by omega)]
   ·rw[if_neg h2,if_neg (by omega)]
def Ie{as:List AV}{z:Array Value}(h:YR σ as z.toList)(hone: ∀v∈z.toList,v.oneCell'=true)(h1:1<=as.length)(n:Nat):
  YR σ (List.replicate n as).flatten ((Array.range (n*as.length)).map (z[· % z.size]!)).toList∧ ∀v∈((Array.range (n*as.length)).map (z[· % z.size]!)).toList,v.oneCell'=true:=by
 have hl:as.length=z.size:=by rw[h.length];simp
 have hz: ∀i,i % z.size<z.size:=λi=>Wh _ (by omega);constructor
 ·refine YR.of_get ?_ λi a v ha hv=>?_
  ·simp[List.length_flatten]
  ·rw[Dj _ h1] at ha
   split at ha
   ·rename_i hi
    simp only[RH,Array.toList_range,Z3] at hv;rw[WQ hi] at hv;simp only[YY,Option.some.injEq] at hv;obtain⟨u,hu,hr⟩:=h.get ha;rw[Z7,hl,WU (hz i)] at hu;cases hu;rw[<-hv,getElem!_pos z _ (hz i)];exact hr
   ·cases ha
 ·intro v hv
  simp only[RH,YC] at hv;obtain⟨i,_,rfl⟩:=hv;rw[getElem!_pos z _ (hz i)];exact hone _ (Array.getElem_mem_toList _)
def eW(hs:WW P σ H w)(hρ:RG P σ tm ρ){o:Oper}{t:TypeId}{n:Nat}{ps:Array (Nat×Operand)}(ho:o.op=.buildSlice t n ps):XI P σ H w tm ρ o:=by
 unfold XI;rw[ho];refine Xm λd hu=>Oq λe hd=>XW λj hj=>Uu λz hz=>WY (λhsz=>?_) λ_=>T3;subst hd;have hps:(ps.map λ(x:Nat×Operand)=>(x.1,ρ x.2)).toList=ps.toList.map λp=>(p.1,ρ p.2):=by simp
 refine Yi λg1=>Yi λg2=>?_;rw[Xb] at g1 hsz;rw[Yl,Yw] at g2;have g1:1<=j.size:=Zr g1;have hsz:n*j.size<=16777216:=Zr hsz;have g2:(List.replicate n (WO z).cells).flatten.length=n*j.size:=Zr g2;have hlen:n=0∨(WO z).cells.length=j.size:=by
  rw[List.length_flatten] at g2;simp only[SC,List.sum_replicate_nat] at g2
  by_cases h0:n=0
  ·exact .inl h0
  ·exact .inr (Nat.eq_of_mul_eq_mul_left (by omega) g2)
 have base: ∃zc:Array Value,YR σ (List.replicate n (WO z).cells).flatten zc.toList∧(∀v∈zc.toList,v.oneCell'=true)∧zc.size=n*j.size∧
   (do let zero<-if n*j.size=0 then pure #[] else do pure (<-zeroValue e).cells
       pure ((Array.range (n*j.size)).map (zero[· % zero.size]!)):Sem (Array Value)).run P w=.ok zc w:=by
  rcases hlen with h0|h0
  ·subst h0
   exact⟨#[],by simpa using Ux,by simp,by simp,by simp⟩
  ·obtain⟨hr,hone⟩:=Sv (σ:=σ) z (by omega)
   obtain⟨k1,k2⟩:=Ie hr hone (by omega) n;rw[h0] at k1 k2;refine⟨_,k1,k2,by simp,?_⟩
   by_cases hn:n*j.size=0
   ·simp[hn]
   ·simp[hn,TX hj hz]
 obtain⟨zc,b1,b2,b3,b4⟩:=base;refine Ek hρ _ _ zc b1 b2 λcells' cs' k1 k2 k3 k4=>?_;have hl':cells'.length=n*j.size:=by rw[k1.length];simp[k3,b3]
 refine VZ (JW hs (tot:=n) k1 k2 g1 hl') ?_ (SL rfl);simp only[execOp,ho];refine Vn ?_;simp only[Instr.buildSlice,Sem.run_bind,run_underlying hu,Result.andThen_ok,WV hj];rw[if_neg (by omega)]
 by_cases hn:n*j.size=0
 ·rw[if_pos hn] at b4 ⊢
  simp only[Sem.run_bind,Sem.run_pure,Result.andThen_ok,Result.ok.injEq,and_true] at b4 ⊢;rw[b4,hps,k4];simp[newRow]
 ·rw[if_neg hn] at b4 ⊢
  simp only[Sem.run_bind,TX hj hz,Sem.run_pure,Result.andThen_ok,Result.ok.injEq,and_true] at b4 ⊢;rw[b4,hps,k4];simp[newRow]
def E2{n:Int}(h0:0<=n)(h1:n<9223372036854775808):IntKind.i64.wrap n=n:=by
 rw[<-Mj];obtain⟨m,rfl⟩:=Int.eq_ofNat_of_zero_le h0;show cond (Nat.ble 9223372036854775808 m) (IntKind.wrap .i64 (Int.ofNat m)) (Int.ofNat m)=_;rw[Xb,Zc (by omega)];rfl
def HH(f:Nat->Value):Array.map f (Array.range 0)= #[]:=by apply Array.ext';simp
def qp(e n l c:Nat):Sem Next:=do
 let zero<-if n=0 then pure #[] else do pure (<-zeroValue e).cells
 let a<-newRow e ((Array.range n).map (zero[· % zero.size]!))
 pure (Next.value (.slice (some a) l c))
def mK(hs:WW P σ H w)(hρ:RG P σ tm ρ){o:Oper}{t:TypeId}{x y:Operand}(ho:o.op=.makeSlice t x y):XI P σ H w tm ρ o:=by
 unfold XI;rw[ho];refine Xm λd hu=>Oq λe hd=>XW λi hi=>Uu λz hz=>?_;subst hd;refine SQ λk1 l hx=>SQ λk2 c hy=>Yi λg1=>Yi λg2=>Yi λg3=>Yi λg4=>?_;have h1:=hρ x;rw[hx] at h1;have h2:=hρ y;rw[hy] at h2;have h1:=XX h1;have h2:=XX h2;rw[Xb] at g1 g2 g3 g4;have g1:1<=i.size:=Zr g1;have g2:l<=c:=Zr g2;have g3:c<=140737488355328:=Zr g3;have g4:c*i.bytes<=140737488355328:=Zr g4;have hrun:(execOp ρ o).run P w=(qp e (c*i.size) l c).run P w:=by
  simp only[execOp,ho,h1,h2];simp only[Instr.makeSlice,Sem.run_bind,run_underlying hu,Result.andThen_ok,asInt,asIntOf,Sem.run_pure,typeInfo,run_program,hi,YA];rw[E2 (by omega) (by omega),E2 (by omega) (by omega)];have e1:((i.bytes:Int)*(c:Int))<=140737488355328:=by
   have e0:(i.bytes:Int)*(c:Int)=((c*i.bytes:Nat):Int):=by rw[Int.natCast_mul,Int.mul_comm]
   rw[e0];generalize c*i.bytes=p at g4;omega
  have e2: ¬((decide ((c:Int)<0)||decide ((i.bytes:Int)*(c:Int)>2^48)||decide ((l:Int)<0)||decide ((l:Int)>(c:Int)))=true):=by
   simp only[UX,decide_eq_true_eq];omega
  rw[if_neg e2];simp only[VP,Sem.run_bind,run_askRoom,Result.andThen_ok,WV hi]
  by_cases hn:c*i.size=0
  ·simp[qp,hn,newRow]
  ·simp[qp,hn,TX hi hz,newRow]
 have jy: ∀zc:Array Value,(c*i.size=0∨zc=z.cells)->(c*i.size=0->zc= #[])->(execOp ρ o).run P w=.ok (.value (.slice (some ⟨w.heap.size,0,none⟩) l c)) (w.alloc (.cells ((Array.range (c*i.size)).map (zc[· % zc.size]!)) e)):=by
  intro zc h3 h4;rw[hrun]
  by_cases hn:c*i.size=0
  ·rw[h4 hn];simp[qp,hn,newRow]
  ·rcases h3 with h3|h3
   ·exact absurd h3 hn
   ·rw[h3];simp[qp,hn,TX hi hz,newRow]
 show Xa P σ H w _ (jR H e i.size l c (WO z).cells);have gen:1<=(WO z).cells.length->(WO z).cells.length=i.size->Xa P σ H w ((execOp ρ o).run P w) (.val (.slice H.nx 0 l none) (H.newRow e i.size ((List.replicate c (WO z).cells).flatten) true)):=by
  intro q1 q2;obtain⟨hr,hone⟩:=Sv (σ:=σ) z q1;obtain⟨k1,k2⟩:=Ie hr hone q1 c;refine VZ (JW hs (tot:=c) k1 k2 g1 (by simp[List.length_flatten,q2])) ?_ (SL rfl)
  by_cases hn:c*i.size=0
  ·rw[jy #[] (.inl hn) (λ_=>rfl),q2,hn,HH,HH]
  ·rw[jy z.cells (.inr rfl) (λh=>absurd h hn),q2]
 cases hz2:(WO z).cells with
 |nil=>
  refine Yi λq=>?_;rw[Yl] at q;have q:0=i.size:=Zr q;omega
 |cons a as=>
  cases as with
  |nil=>
   refine Yi λq=>?_;rw[Yl] at q;have q:i.size=1:=Zr q;obtain⟨hr,hone⟩:=Sv (σ:=σ) z (by rw[hz2];simp);rw[hz2] at hr;obtain⟨v,vs,h3,h4,h5⟩:=hr.cons_inv;rw[h4.nil_inv] at h5;refine VZ (jT hs (n:=c) h3 (hone v (by rw[h5];simp))) ?_ (SL rfl);have hzc:z.cells= #[v]:=by apply Array.ext';rw[h5]
   by_cases hn:c=0
   ·subst hn
    rw[jy #[] (.inl (by simp)) (λ_=>rfl),Vl,HH];rfl
   ·rw[jy z.cells (.inr rfl) (λh=>by rw[q] at h;omega),hzc,q]
    congr 2
    congr 1
    apply Array.ext';apply Y7;intro j;simp only[Y6,List.size_toArray,List.length_singleton,Nat.mod_one,RH,Array.toList_range,Z3,XJ]
    by_cases hj:j<c
    ·rw[WQ hj,if_pos hj];rfl
    ·rw[if_neg hj,Z8 (by simp;omega)];rfl
  |cons a2 as2=>
   refine Yi λq=>?_;rw[Yl,Yw,<-hz2] at q;have:=gen (by rw[hz2];simp) (Zr q);rw[hz2] at this;exact this
def Mp.put_old{σ:Mp}{b c:Nat}{l:Loc}(h:c≠b):σ.put b l c=σ c:=by unfold Mp.put;rw[if_neg h]
def Tr.ghost(hs:WW P σ H w)(l:Loc):Tr P σ H w (σ.put H.nx l) ⟨Nat.succ H.nx,H.t,H.ro⟩ w:=by
 have he:=Mp.put_ext l (hs.fresh (Zs H.nx));have hold: ∀b o,H.t.get b=some o->σ.put H.nx l b=σ b:=λb o hb=>Mp.put_old (by have:=hs.get_lt hb;omega);refine⟨he,⟨?_,?_,?_,?_,?_,?_⟩,Zs _,λ_ _ _=>rfl,?_,Ve _,rfl,λ_ _=>rfl,rfl,rfl,rfl,λb hb hn=>⟨rfl,by rw[Mp.put_old (by omega)];exact hn⟩⟩
 ·intro b m hb
  show b<H.nx+1
  by_cases e:b=H.nx
  ·omega
  ·rw[Mp.put_old e] at hb;have:=hs.dom b m hb;omega
 ·intro b o hb
  show b<H.nx+1;have:=hs.low b o hb;omega
 ·intro b o l' hb hl'
  rw[hold b o hb] at hl';obtain⟨c,hc,ho⟩:=hs.alive b o l' hb hl';exact⟨c,hc,ho.mono he⟩
 ·intro b b' o o' l1 l2 h1 h2 k1 k2 e
  rw[hold b o h1] at k1;rw[hold b' o' h2] at k2;exact hs.inj b b' o o' l1 l2 h1 h2 k1 k2 e
 ·intro g hg
  obtain⟨l',h1,h2⟩:=hs.glob g hg;exact⟨l',he g l' h1,h2⟩
 ·show H.ro<=H.nx+1;have:=hs.ro;omega
 ·intro b l1 hw hl hlt
  obtain⟨hro,o,ho,hown⟩:=hw;rw[hold b o ho] at hl;exact⟨b,l1,⟨hro,o,ho,hown⟩,hl,rfl⟩
def Ui{b o n:Nat}{cap:Option Nat}{v:Value}(h:Ym σ (.slice b o n cap) v): ∃l,σ b=some l∧v=.slice (some ⟨l.blk,l.base+o,none⟩) n (cap.getD (l.tot - o/l.sz)):=by simpa only[Ym] using h
def Rw{b o n:Nat}{cap:Option Nat}{l:Loc}(h:σ b=some l):Ym σ (.slice b o n cap) (.slice (some ⟨l.blk,l.base+o,none⟩) n (cap.getD (l.tot - o/l.sz))):=by simp only[Ym];exact⟨l,h,rfl⟩
def Bp{r:Row}{l:Loc}{cs:Array Value}{fr:Nat×Nat}(hr:PG σ r l cs fr)(o:Nat)(cap:Option Nat):Wa r o cap<=cap.getD (l.tot - o/l.sz):=by
 cases cap with
 |some c=>exact Zs _
 |none=>
  show cond (Nat.beq r.sz 1) (r.size - o) ((r.size - o)/r.sz)<=l.tot - o/l.sz;have h1:=hr.sz;have h2:=hr.sz1;have h3:=hr.fits;have key:(r.size - o)/l.sz<=l.tot - o/l.sz:=by
   rw[Nat.div_le_iff_le_mul_add_pred (by omega)];have:=Rh o l.sz;have hm:=Wh o (show 0<l.sz by omega);rw[Nat.mul_sub];have e1:l.sz*l.tot=l.tot*l.sz:=VE _ _;omega
  rw[Yl]
  by_cases e:r.sz=1
  ·rw[Zi e]
   show r.size - o<=_;have e2:l.sz=1:=by omega
   rw[e2] at key ⊢;simpa using key
  ·rw[Zc e]
   show(r.size - o)/r.sz<=_;rw[<-h1];exact key
def eS{hi mx:Option Operand}(h:ZiR hi mx=true):mx.isSome=true->hi.isSome=true:=by
 cases mx<;>cases hi<;>simp_all [ZiR]
def Zbo(hs:WW P σ H w)(hρ:RG P σ tm ρ){o:Oper}{t:TypeId}{x:Operand}{lo hi mx:Option Operand}(ho:o.op=.slice t x lo hi mx):XI P σ H w tm ρ o:=by
 unfold XI;rw[ho];refine WY (λhmx=>?_) λ_=>T3;have hmx:=eS hmx;refine Xm λd hu=>?_;have h1:=hρ x;cases d<;>try exact trivial
 case string=>
  cases mx with
  |some m=>exact trivial
  |none=>
   refine Oo λs hx=>?_;rw[hx] at h1;have h1:=Uy h1;refine Ol (mx:=none) false hρ hmx (Zs _) λl h m mC hr hlh hm q1 _ q3 q4=>?_;refine Z9 hs (x:=.string ⟨((s.take h).drop l).toArray⟩) ?_ (by rw[OP,GM];simp[Ym]);simp only[execOp,ho];refine Vn ?_;rw[h1];rw[Yw] at hr;simp only[Instr.sliceAt,Sem.run_bind,run_underlying hu,Result.andThen_ok,Instr.slice,XH,Option.isSome_none,Xp,if_false,MH,hr,Sem.run_pure];simp only[XH] at hr;simp only[hr,Result.andThen_ok]
   congr 2
   rw[ByteArray.ext_iff];simp only[ByteArray.data_extract];apply Array.ext';simp[Vp,List.drop_take]
 case slice e=>
  refine XW λi hi'=>KW (λhx=>?_) (T9 (λhx=>?_) λb off len cap hx=>TF λr hr=>Yi λhsz=>?_)
  ·rw[hx] at h1
   obtain⟨a,h1⟩: ∃a,ρ x=.slice (some a) 0 0:=by simpa only[Ym] using h1
   refine Ol (capC:=0) true hρ hmx (Zs _) λl h m mC hr hlh hm q1 q2 q3 q4=>?_;have hh:h=0:=by
    cases hi with
    |none=>exact q3 rfl
    |some y=>have:=q4 rfl;omega
   have hl:l=0:=by omega
   have hmC:mC=0:=by
    cases mx with
    |none=>exact(q1 rfl).2
    |some y=>have:=q2 rfl;omega
   refine Z9 hs (x:=.slice (some a) 0 0) ?_ (by simp[Ym]);simp only[execOp,ho];refine Vn ?_;rw[h1];simp only[Instr.sliceAt,Sem.run_bind,run_underlying hu,Result.andThen_ok,Instr.slice,hr,WV hi',Sem.run_pure];subst hh;subst hl;subst hmC;simp
  ·rw[hx] at h1
   have h1:ρ x=.slice none 0 0:=by simpa only[Ym] using h1
   refine Ol (capC:=0) true hρ hmx (Zs _) λl h m mC hr hlh hm q1 q2 q3 q4=>?_;have hh:h=0:=by
    cases hi with
    |none=>exact q3 rfl
    |some y=>have:=q4 rfl;omega
   have hl:l=0:=by omega
   have hmC:mC=0:=by
    cases mx with
    |none=>exact(q1 rfl).2
    |some y=>have:=q2 rfl;omega
   refine Z9 hs (x:=.slice none 0 0) ?_ (by simp[Ym]);simp only[execOp,ho];refine Vn ?_;rw[h1];simp only[Instr.sliceAt,Sem.run_bind,run_underlying hu,Result.andThen_ok,Instr.slice,hr,WV hi',Sem.run_pure];subst hh;subst hl;subst hmC;simp
  ·rw[hx] at h1
   obtain⟨l,hl,e1⟩:=Ui h1;obtain⟨cs,fr,hc,hrr⟩:=hs.row hr hl;refine Ol (capC:=cap.getD (l.tot - off/l.sz)) true hρ hmx (Bp hrr off cap) λlo' h m mC hrun hlh hm q1 q2 q3 q4=>?_;have run:(execOp ρ o).run P w=.ok (.value (.slice (some (if mC=lo' then⟨l.blk,l.base+off,none⟩ else⟨l.blk,l.base+off+lo'*i.size,none⟩)) (h - lo') (mC - lo'))) w:=by
    simp only[execOp,ho];refine Vn ?_;rw[e1];simp only[Instr.sliceAt,Sem.run_bind,run_underlying hu,Result.andThen_ok,Instr.slice,hrun,WV hi',Sem.run_pure]
    by_cases hmm:mC=lo'
    ·simp[hmm]
    ·simp[hmm,Qf]
   refine Yi λhle=>?_;rw[Xb] at hle;have hle:lo'<=m:=Zr hle;refine UP (λhlm=>?_) λhlm=>?_
   ·rw[Yl] at hlm
    have hlm:lo'=m:=Zr hlm;cases mx with
    |none=>
     cases cap with
     |some c=>
      obtain⟨z1,z2⟩:=q1 rfl;have z1:m=c:=z1;have z2:mC=c:=z2;have hmm:mC=lo':=by omega
      refine Z9 hs run ?_;rw[if_pos hmm,hmm,Ut];exact Rw (cap:=some 0) hl
     |none=>
     refine VZ (Tr.ghost hs ⟨l.blk,(if mC=lo' then l.base+off else l.base+off+lo'*i.size),mC - lo',1⟩) run ?_;simp only[Ym];refine⟨_,Mp.put_same _ _ _,?_⟩
     by_cases hmm:mC=lo'
     ·simp[hmm]
     ·simp[hmm]
    |some y=>
     have hmm:mC=lo':=by have:=q2 rfl;omega
     refine Z9 hs run ?_;rw[if_pos hmm,hmm,Ut];exact Rw (cap:=some 0) hl
   ·rw[Yl] at hlm
    have hlm:lo'≠m:=of_decide_eq_false hlm;have Zpv:mC≠lo':=by
     cases mx with
     |none=>
      obtain⟨z1,z2⟩:=q1 rfl;have:=Bp hrr off cap;omega
     |some y=>have:=q2 rfl;omega
    refine Z9 hs run ?_;rw[if_neg Zpv];have e2:l.base+off+lo'*i.size=l.base+(off+lo'*i.size):=by omega
    rw[e2];cases mx with
    |some y=>
     have hmm:mC=m:=(q2 rfl).symm;rw[hmm];exact Rw (cap:=some (m - lo')) hl
    |none=>
     obtain⟨z1,z2⟩:=q1 rfl;cases cap with
     |some c=>
      rw[z2];exact Rw (cap:=some (c - lo')) hl
     |none=>
      rw[z2];have hz:l.sz=i.size:=by
       rw[hrr.sz];have:Nat.beq r.sz i.size=true:=hsz;rw[Yl] at this;exact Zr this
      have h2:=hrr.sz1;have e3:l.tot - off/l.sz - lo'=l.tot - (off+lo'*i.size)/l.sz:=by
       rw[<-hz,Nat.add_mul_div_right _ _ (by omega),Nat.sub_sub]
      show Ym σ (.slice b (off+lo'*i.size) (h - lo') none) (.slice _ _ (l.tot - off/l.sz - lo'));rw[e3];exact Rw (cap:=none) hl
 case array n e=>
  refine XW λi hi'=>On λb off hx=>?_;rw[hx] at h1;obtain⟨l,hl,e1⟩:=TK h1;refine Ol (capC:=n) false hρ hmx (Zs _) λlo' h m mC hrun hlh hm q1 q2 q3 q4=>?_;have hmC:mC=m:=by
   cases mx with
   |none=>obtain⟨z1,z2⟩:=q1 rfl;omega
   |some y=>exact(q2 rfl).symm
  subst hmC;have run:(execOp ρ o).run P w=.ok (.value (.slice (some (if mC=lo' then⟨l.blk,l.base+off,none⟩ else⟨l.blk,l.base+off+lo'*i.size,none⟩)) (h - lo') (mC - lo'))) w:=by
   simp only[execOp,ho];refine Vn ?_;rw[e1];simp only[Instr.sliceAt,Sem.run_bind,run_underlying hu,Result.andThen_ok,Instr.sureAddr,hrun,WV hi',Sem.run_pure]
   by_cases hmm:mC=lo'
   ·simp[hmm]
   ·simp[hmm,Qf]
  refine UP (λhlm=>?_) λhlm=>?_
  ·rw[Yl] at hlm
   have hlm:lo'=mC:=Zr hlm;refine Z9 hs run ?_;rw[if_pos hlm.symm];exact Rw (cap:=some (mC - lo')) hl
  ·rw[Yl] at hlm
   have hlm:lo'≠mC:=of_decide_eq_false hlm;refine Z9 hs run ?_;rw[if_neg (λe=>hlm e.symm),XT];exact Rw (cap:=some (mC - lo')) hl
end
end
end Go.AI
