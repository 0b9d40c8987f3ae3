/- What the interpreter's values and heaps tell of the model's, and the first operations: proved for every world that is told. -/
import Derived.Test.YtlaambpobnkkbaaGreatDoorP1
import Derived.Laws.World
import Derived.Laws.Sem
import Derived.Laws.Rows
import Derived.Laws.Entries
import Derived.ChangeKeysEq
import Derived.Laws.Strings
import Derived.Laws.Slices
import Derived.Laws.Strings2
import Derived.Laws.Panics
import Derived.Laws.Cells
import Derived.Laws.Tables
set_option maxRecDepth 1000000
set_option maxHeartbeats 0
set_option linter.unusedVariables false
set_option linter.unusedSimpArgs false
namespace Go.AI
open Go
noncomputable section
namespace T
variable {α:Type}
theorem Fz(bs:List Bool):(T.leaf:T α).getB bs=none:=rfl
theorem HF(l r:T α)(v:Option α):(T.node l v r).getB []=v:=rfl
theorem NI(l r:T α)(v:Option α)(b:Bool)(bs:List Bool):(T.node l v r).getB (b::bs)=if b then l.getB bs else r.getB bs:=by cases b<;>rfl
theorem wT(x:α): ∀bs cs:List Bool,(T.single x bs).getB cs=if bs=cs then some x else none:=by
 intro bs
 induction bs with
 |nil=>intro cs;cases cs with
  |nil=>rfl
  |cons c cs=>cases c<;>rfl
 |cons b bs ih=>
  intro cs
  cases cs with
  |nil=>cases b<;>rfl
  |cons c cs=>
   cases b<;>cases c
   ·show(T.single x bs).getB cs=_;rw[ih];simp
   ·show(T.leaf:T α).getB cs=_;simp[Fz]
   ·show(T.leaf:T α).getB cs=_;simp[Fz]
   ·show(T.single x bs).getB cs=_;rw[ih];simp
theorem nP(x:α)(t:T α): ∀bs cs:List Bool,(T.setB x t bs).getB cs=if bs=cs then some x else t.getB cs:=by
 induction t with
 |leaf=>intro bs cs;show(T.single x bs).getB cs=_;rw[wT];rfl
 |node l v r ihl ihr=>
  intro bs cs
  cases bs with
  |nil=>cases cs with
   |nil=>rfl
   |cons c cs=>cases c<;>simp[show T.setB x (.node l v r) []=.node l (some x) r from rfl,NI]
  |cons b bs=>
   cases b
   ·show(T.node l v (T.setB x r bs)).getB cs=_
    cases cs with
    |nil=>simp[HF]
    |cons c cs=>cases c<;>simp[NI,ihr]
   ·show(T.node (T.setB x l bs) v r).getB cs=_
    cases cs with
    |nil=>simp[HF]
    |cons c cs=>cases c<;>simp[NI,ihl]
theorem nO(t:T α): ∀bs cs:List Bool,(T.delB t bs).getB cs=if bs=cs then none else t.getB cs:=by
 induction t with
 |leaf=>intro bs cs;show(T.leaf:T α).getB cs=_;simp[Fz]
 |node l v r ihl ihr=>
  intro bs cs
  cases bs with
  |nil=>cases cs with
   |nil=>rfl
   |cons c cs=>cases c<;>simp[show T.delB (.node l v r) []=.node l none r from rfl,NI]
  |cons b bs=>
   cases b
   ·show(T.node l v (T.delB r bs)).getB cs=_
    cases cs with
    |nil=>simp[HF]
    |cons c cs=>cases c<;>simp[NI,ihr]
   ·show(T.node (T.delB l bs) v r).getB cs=_
    cases cs with
    |nil=>simp[HF]
    |cons c cs=>cases c<;>simp[NI,ihl]
end T
theorem Pf(f n:Nat):J1 (f+1) n=if n=0 then [] else if n % 2=1 then true::J1 f (n/2) else false::J1 f (n/2 - 1):=by
 show @Bool.rec (λ_=>List Bool) (@Bool.rec (λ_=>List Bool) (false::J1 f (n/2 - 1)) (true::J1 f (n/2)) (Nat.beq (n % 2) 1)) [] (Nat.beq n 0)=_
 by_cases h:n=0
 ·subst h;rfl
 ·rw[if_neg h]
  have h0:Nat.beq n 0=false:=by cases n with|zero=>exact absurd rfl h|succ n=>rfl
  rw[h0]
  by_cases h1:n % 2=1
  ·rw[if_pos h1,h1];rfl
  ·have:n % 2=0:=by omega
   rw[if_neg h1,this];rfl
theorem oX: ∀f n m,n<=f->m<=f->J1 f n=J1 f m->n=m:=by
 intro f
 induction f with
 |zero=>intro n m hn hm _;omega
 |succ f ih=>
  intro n m hn hm h
  rw[Pf,Pf] at h
  by_cases n0:n=0
  ·by_cases m0:m=0
   ·omega
   ·rw[if_pos n0,if_neg m0] at h
    split at h<;>cases h
  ·by_cases m0:m=0
   ·rw[if_neg n0,if_pos m0] at h
    split at h<;>cases h
   ·rw[if_neg n0,if_neg m0] at h
    by_cases n1:n % 2=1<;>by_cases m1:m % 2=1
    ·rw[if_pos n1,if_pos m1] at h
     have:=ih (n/2) (m/2) (by omega) (by omega) (List.cons.inj h).2
     omega
    ·rw[if_pos n1,if_neg m1] at h;simp at h
    ·rw[if_neg n1,if_pos m1] at h;simp at h
    ·rw[if_neg n1,if_neg m1] at h
     have:=ih (n/2 - 1) (m/2 - 1) (by omega) (by omega) (List.cons.inj h).2
     omega
theorem LA: ∀f n g,n<=f->f<=g->J1 g n=J1 f n:=by
 intro f
 induction f with
 |zero=>
  intro n g hn _
  have:n=0:=by omega
  subst this
  cases g with
  |zero=>rfl
  |succ g=>rw[Pf];rfl
 |succ f ih=>
  intro n g hn hg
  obtain⟨g,rfl⟩: ∃g',g=g'+1:=⟨g - 1,by omega⟩
  rw[Pf,Pf]
  by_cases n0:n=0
  ·rw[if_pos n0,if_pos n0]
  ·rw[if_neg n0,if_neg n0]
   by_cases n1:n % 2=1
   ·rw[if_pos n1,if_pos n1,ih (n/2) g (by omega) (by omega)]
   ·rw[if_neg n1,if_neg n1,ih (n/2 - 1) g (by omega) (by omega)]
theorem ww{n m:Nat}(h:bits n=bits m):n=m:=by
 unfold bits at h
 rw[<-LA n n (n+m) (Zo _) (by omega),<-LA m m (n+m) (Zo _) (by omega)] at h
 exact oX (n+m) n m (by omega) (by omega) h
namespace T
variable {α:Type}
theorem get_set(t:T α)(n m:Nat)(x:α):(t.set n x).get m=if n=m then some x else t.get m:=by
 unfold get set
 rw[nP]
 by_cases h:n=m
 ·subst h;simp
 ·rw[if_neg h,if_neg (λe=>h (ww e))]
theorem get_del(t:T α)(n m:Nat):(t.del n).get m=if n=m then none else t.get m:=by
 unfold get del
 rw[nO]
 by_cases h:n=m
 ·subst h;simp
 ·rw[if_neg h,if_neg (λe=>h (ww e))]
theorem get_leaf(n:Nat):(T.leaf:T α).get n=none:=rfl
end T
structure Loc where
 blk:Nat
 base:Nat
 tot:Nat
 sz:Nat
abbrev Mp:=Nat->Option Loc
mutual
def Yk(σ:Mp):AV->Value->Prop
 |.unk,_=>True
 |.bool b,v=>v=.bool b
 |.int k n,v=>v=.int k n
 |.str s,v=>v=.string ⟨s.toArray⟩
 |.nilp,v=>v=.pointer none
 |.ptr b o,v=> ∃l,σ b=some l∧v=.pointer (some ⟨l.blk,l.base+o,none⟩)
 |.nils,v=>v=.slice none 0 0
 |.slice b o n cap,v=> ∃l,σ b=some l∧v=.slice (some ⟨l.blk,l.base+o,none⟩) n (cap.getD (l.tot - o/l.sz))
 |.slice0,v=> ∃a,v=.slice (some a) 0 0
 |.nilm,v=>v=.map none
 |.map b,v=> ∃l,σ b=some l∧v=.map (some l.blk)
 |.func f a b,v=> ∃x y,YE σ a x∧YE σ b y∧v=.func (.func f) ⟨x⟩ ⟨y⟩
 |.meth n r,v=> ∃x,Yk σ r x∧v=.func (.method n) #[x] #[]
 |.yield b,v=> ∃l,σ b=some l∧v=.func (.yield l.blk) #[] #[]
 |.nilf,v=>v=.nilFunc
 |.iface t x,v=> ∃y,Yk σ x y∧v=.iface t y
 |.nili,v=>v=.nilIface
 |.agg cs,v=> ∃vs,YE σ cs vs∧(∀x∈vs,x.oneCell'=true)∧v=.agg ⟨vs⟩
 |.tup cs,v=> ∃vs,YE σ cs vs∧v=.tuple ⟨vs⟩
def YE(σ:Mp):List AV->List Value->Prop
 |[],l=>l=[]
 |a::as,l=> ∃v vs,Yk σ a v∧YE σ as vs∧l=v::vs
end
def Ext(σ σ':Mp):Prop:= ∀b l,σ b=some l->σ' b=some l
theorem Ext.refl(σ:Mp):Ext σ σ:=λ_ _ h=>h
theorem Ext.trans{σ σ' σ'':Mp}(h:Ext σ σ')(h':Ext σ' σ''):Ext σ σ'':=λb l x=>h' b l (h b l x)
mutual
theorem Yk.mono{σ σ':Mp}(h:Ext σ σ'): ∀{a:AV} {v:Value},Yk σ a v->Yk σ' a v
 |.unk,_,_=>by simp[Yk]
 |.bool b,v,r=>by simpa [Yk] using r
 |.int k n,v,r=>by simpa [Yk] using r
 |.str s,v,r=>by simpa [Yk] using r
 |.nilp,v,r=>by simpa [Yk] using r
 |.ptr b o,v,r=>by
  simp only[Yk] at r ⊢
  obtain⟨l,hl,hv⟩:=r
  exact⟨l,h _ _ hl,hv⟩
 |.nils,v,r=>by simpa [Yk] using r
 |.slice0,v,r=>by simpa [Yk] using r
 |.slice b o n cap,v,r=>by
  simp only[Yk] at r ⊢
  obtain⟨l,hl,hv⟩:=r
  exact⟨l,h _ _ hl,hv⟩
 |.nilm,v,r=>by simpa [Yk] using r
 |.map b,v,r=>by
  simp only[Yk] at r ⊢
  obtain⟨l,hl,hv⟩:=r
  exact⟨l,h _ _ hl,hv⟩
 |.func f a b,v,r=>by
  simp only[Yk] at r ⊢
  obtain⟨x,y,hx,hy,hv⟩:=r
  exact⟨x,y,YE.mono h hx,YE.mono h hy,hv⟩
 |.meth n a,v,r=>by
  simp only[Yk] at r ⊢
  obtain⟨x,hx,hv⟩:=r
  exact⟨x,Yk.mono h hx,hv⟩
 |.yield b,v,r=>by
  simp only[Yk] at r ⊢
  obtain⟨l,hl,hv⟩:=r
  exact⟨l,h _ _ hl,hv⟩
 |.nilf,v,r=>by simpa [Yk] using r
 |.iface t x,v,r=>by
  simp only[Yk] at r ⊢
  obtain⟨y,hy,hv⟩:=r
  exact⟨y,Yk.mono h hy,hv⟩
 |.nili,v,r=>by simpa [Yk] using r
 |.agg cs,v,r=>by
  simp only[Yk] at r ⊢
  obtain⟨vs,hx,h1,hv⟩:=r
  exact⟨vs,YE.mono h hx,h1,hv⟩
 |.tup cs,v,r=>by
  simp only[Yk] at r ⊢
  obtain⟨vs,hx,hv⟩:=r
  exact⟨vs,YE.mono h hx,hv⟩
theorem YE.mono{σ σ':Mp}(h:Ext σ σ'): ∀{a:List AV} {v:List Value},YE σ a v->YE σ' a v
 |[],v,r=>by simpa [YE] using r
 |a::as,v,r=>by
  simp only[YE] at r ⊢
  obtain⟨x,xs,hx,hxs,hv⟩:=r
  exact⟨x,xs,Yk.mono h hx,YE.mono h hxs,hv⟩
end
theorem Yz{α:Type}(l:List α):YL l=l.length:=by
 induction l with
 |nil=>rfl
 |cons a l ih=>show Nat.succ (YL l)=_;rw[ih];rfl
theorem Lt: ∀(n:Nat) (l:List AV),Nx n l=l.take n
 |0,_=>by simp[Nx]
 |n+1,[]=>by simp[Nx]
 |n+1,v::l=>by simp[Nx,Lt n l]
theorem MZ: ∀(n:Nat) (l:List AV),ON n l=l.drop n
 |0,_=>by simp[ON]
 |n+1,[]=>by simp[ON]
 |n+1,v::l=>by simp[ON,MZ n l]
theorem Lr: ∀(n:Nat) (l:List UInt8),Jt n l=l.take n
 |0,_=>by simp[Jt]
 |n+1,[]=>by simp[Jt]
 |n+1,v::l=>by simp[Jt,Lr n l]
theorem Hu: ∀(n:Nat) (l:List UInt8),J3 n l=l.drop n
 |0,_=>by simp[J3]
 |n+1,[]=>by simp[J3]
 |n+1,v::l=>by simp[J3,Hu n l]
theorem LU: ∀(l:List AV) (n:Nat),De l n=l[n]?
 |[],_=>by simp[De]
 |v::_,0=>by simp[De]
 |_::l,n+1=>by simp[De,LU l n]
theorem xF: ∀(l:List UInt8) (n:Nat),vN l n=l[n]?
 |[],_=>by simp[vN]
 |v::_,0=>by simp[vN]
 |_::l,n+1=>by simp[vN,xF l n]
section
variable {σ:Mp}
theorem Ud:YE σ [] []:=by simp[YE]
theorem Ww{a:AV}{as:List AV}{v:Value}{vs:List Value}(h:Yk σ a v)(h':YE σ as vs):YE σ (a::as) (v::vs):=by
 simp only[YE];exact⟨v,vs,h,h',rfl⟩
theorem TR{a:AV}{v:Value}(h:Yk σ a v):YE σ [a] [v]:=Ww h Ud
theorem YE.nil_inv{l:List Value}(h:YE σ [] l):l=[]:=by simpa [YE] using h
theorem YE.cons_inv{a:AV}{as:List AV}{l:List Value}(h:YE σ (a::as) l): ∃v vs,Yk σ a v∧YE σ as vs∧l=v::vs:=by simpa [YE] using h
theorem YE.length: ∀{as:List AV} {vs:List Value},YE σ as vs->as.length=vs.length
 |[],vs,h=>by rw[h.nil_inv];rfl
 |a::as,vs,h=>by
  obtain⟨v,vs,_,h',rfl⟩:=h.cons_inv
  simp[YE.length h']
theorem YE.append: ∀{as bs:List AV} {vs us:List Value},YE σ as vs->YE σ bs us->YE σ (as++bs) (vs++us)
 |[],bs,vs,us,h,h'=>by rw[h.nil_inv];exact h'
 |a::as,bs,vs,us,h,h'=>by
  obtain⟨v,vs,h1,h2,rfl⟩:=h.cons_inv
  exact Ww h1 (YE.append h2 h')
theorem YE.get: ∀{as:List AV} {vs:List Value} {i:Nat} {a:AV},YE σ as vs->as[i]? =some a-> ∃v,vs[i]? =some v∧Yk σ a v
 |[],vs,i,a,h,e=>by simp at e
 |x::as,vs,i,a,h,e=>by
  obtain⟨v,vs,h1,h2,rfl⟩:=h.cons_inv
  cases i with
  |zero=>simp at e;subst e;exact⟨v,rfl,h1⟩
  |succ i=>simp at e;obtain⟨u,hu,hr⟩:=YE.get h2 e;exact⟨u,by simpa using hu,hr⟩
theorem YE.take: ∀{as:List AV} {vs:List Value} (n:Nat),YE σ as vs->YE σ (as.take n) (vs.take n)
 |[],vs,n,h=>by rw[h.nil_inv];simpa using Ud
 |a::as,vs,0,h=>by simpa using Ud
 |a::as,vs,n+1,h=>by
  obtain⟨v,vs,h1,h2,rfl⟩:=h.cons_inv
  simpa using Ww h1 (YE.take n h2)
theorem YE.drop: ∀{as:List AV} {vs:List Value} (n:Nat),YE σ as vs->YE σ (as.drop n) (vs.drop n)
 |[],vs,n,h=>by rw[h.nil_inv];simpa using Ud
 |a::as,vs,0,h=>by simpa using h
 |a::as,vs,n+1,h=>by
  obtain⟨v,vs,h1,h2,rfl⟩:=h.cons_inv
  simpa using YE.drop n h2
theorem YE.of_get: ∀{as:List AV} {vs:List Value},as.length=vs.length->(∀(i:Nat) (a:AV) (v:Value),as[i]? =some a->vs[i]? =some v->Yk σ a v)->YE σ as vs
 |[],[],_,_=>Ud
 |[],_::_,h,_=>by simp at h
 |_::_,[],h,_=>by simp at h
 |a::as,v::vs,h,g=>Ww (g 0 a v rfl rfl) (YE.of_get (by simpa using h) λi x y hx hy=>g (i+1) x y (by simpa using hx) (by simpa using hy))
theorem Qt{a:AV}{v:Value}(h:Yk σ a v)(h1:v.oneCell'=true):YE σ [a] [v]∧ ∀x∈[v],x.oneCell'=true:=⟨TR h,by simpa using h1⟩
theorem Yk.cells{a:AV}{v:Value}(h:Yk σ a v)(h1:1<=a.cells.length):YE σ a.cells v.cells.toList∧ ∀x∈v.cells.toList,x.oneCell'=true:=by
 cases a<;>simp only[AV.cells,Nd] at h1 ⊢ <;>first
  |omega
  |(simp only[Yk] at h;subst h;exact Qt (by simp[Yk]) rfl)
  |skip
 case ptr b o=>obtain⟨l,hl,rfl⟩:=(by simpa only[Yk] using h);exact Qt (by simp only[Yk];exact⟨l,hl,rfl⟩) rfl
 case slice b o n c=>obtain⟨l,hl,rfl⟩:=(by simpa only[Yk] using h);exact Qt (by simp only[Yk];exact⟨l,hl,rfl⟩) rfl
 case slice0=>have h0:=h;obtain⟨l,rfl⟩:=(by simpa only[Yk] using h);exact Qt h0 rfl
 case map b=>obtain⟨l,hl,rfl⟩:=(by simpa only[Yk] using h);exact Qt (by simp only[Yk];exact⟨l,hl,rfl⟩) rfl
 case func f x y=>have h0:=h;obtain⟨p,q,hp,hq,rfl⟩:=(by simpa only[Yk] using h);exact Qt h0 rfl
 case meth n x=>have h0:=h;obtain⟨p,hp,rfl⟩:=(by simpa only[Yk] using h);exact Qt h0 rfl
 case yield b=>have h0:=h;obtain⟨p,hp,rfl⟩:=(by simpa only[Yk] using h);exact Qt h0 rfl
 case iface t x=>have h0:=h;obtain⟨p,hp,rfl⟩:=(by simpa only[Yk] using h);exact Qt h0 rfl
 case agg cs=>obtain⟨vs,hvs,h2,rfl⟩:=(by simpa only[Yk] using h);exact⟨hvs,h2⟩
end
def MA(σ:Mp)(a:RF)(e:MapEntry):Prop:=Yk σ a.key e.key∧Yk σ a.val e.val∧a.born=e.born
def Yr(σ:Mp):List RF->List MapEntry->Prop
 |[],l=>l=[]
 |a::as,l=> ∃e es,MA σ a e∧Yr σ as es∧l=e::es
noncomputable def KJ(a b:AV):Bool:=match a,b with
 |.str a,.str b=>!Jq a b
 |.int j a,.int k b=>Nl j k&&!Fc a b
 |_,_=>false
def S4(e:RF):AV×AV:=(e.key,e.val)
def yI(a b:RF):Prop:=KJ a.key b.key=true∧KJ b.key a.key=true
def Fd(es:List RF)(clock:Nat):Prop:=es.Pairwise (λa b=>a.born<b.born)∧ ∀e∈es,e.born<clock
structure Pc(σ:Mp)(r:Row)(l:Loc)(cs:Array Value)(fr:Nat×Nat):Prop where
 sz:l.sz=r.sz
 sz1:1<=l.sz
 fits:r.size<=l.tot*l.sz
 room:l.base+l.tot*l.sz<=cs.size
 exact:r.exact=true->r.size=l.tot*l.sz∧l.base=0∧cs.size=r.size
 cell: ∀i,i<r.size-> ∃v,cs[l.base+i]? =some v∧Yk σ (r.get i) v
 one: ∀(i:Nat) (v:Value),i<r.size->cs[l.base+i]? =some v->v.oneCell'=true
 frz:r.own=true-> ∀i,r.fz<=i->i<l.tot*l.sz-> ¬(fr.1<=l.base+i∧l.base+i<fr.2)
 frs:r.own=true->r.sm=false->fr.1=fr.2∨(1<=r.fz∧fr.2<=l.base+r.fz)
def U5(σ:Mp)(o:Obj)(l:Loc)(c:Go.Obj):Prop:=match o with
 |.row r=> ∃cs fr,c=.cells cs r.elem fr∧Pc σ r l cs fr
 |.map es clock=> ∃ents,c=.map ents clock∧Yr σ es ents.toList∧Fd es clock
 |.siter s pos=>c=.stringIter ⟨s.toArray⟩ pos∧l.base=0
 |.miter m since cur=> ∃seen st,c=.mapIter (m.bind λb=>(σ b).map (·.blk)) since seen st∧(∀b,m=some b->(σ b).isSome=true)∧l.base=0∧
   match cur with
   |none=>seen= #[]∧st=since
   |some (n,t)=>seen.back? =some n∧st=t
 |.loop=> ∃lp,c=.loop lp
 |.cmap es=> ∃ents clock fs,c=.map ents clock∧Yr σ fs ents.toList∧(fs.map S4).Perm (es.map S4)∧es.Pairwise yI
def Kv(o:Obj):Prop:= ∃r,o=.row r∧r.own=false
theorem Kv.not_own{o:Obj}(h:Kv o)(hw: ∀r,o=.row r->r.own=true):False:=by
 obtain⟨r,rfl,e⟩:=h
 rw[hw r rfl] at e;cases e
structure WM(P:Program)(σ:Mp)(H:Heap)(w:World):Prop where
 dom: ∀b l,σ b=some l->b<H.nx
 low: ∀b o,H.t.get b=some o->b<H.nx
 alive: ∀b o l,H.t.get b=some o->σ b=some l-> ∃c,w.heap[l.blk]? =some c∧U5 σ o l c
 inj: ∀b b' o o' l l',H.t.get b=some o->H.t.get b'=some o'->σ b=some l->σ b'=some l'->l.blk=l'.blk->b=b'∨(Kv o∧Kv o')
 glob: ∀g,g<P.globals.size-> ∃l,σ g=some l∧l.blk=g∧l.base=0
 ro:H.ro<=H.nx
def Wr(H:Heap)(b:Nat):Prop:=H.ro<=b∧ ∃o,H.t.get b=some o∧(∀r,o=.row r->r.own=true)∧o≠.loop
theorem Wr.hard{H:Heap}{b:Nat}{o:Obj}(h:Wr H b)(ho:H.t.get b=some o)(hs:Kv o):False:=by
 obtain⟨_,o',ho',hw,_⟩:=h
 rw[ho] at ho';cases ho'
 exact hs.not_own hw
theorem WM.alone{P:Program}{σ:Mp}{H:Heap}{w:World}(h:WM P σ H w){b b':Nat}{o o':Obj}{l l':Loc}(hb:H.t.get b=some o)(hb':H.t.get b'=some o')(hl:σ b=some l)(hl':σ b'=some l')(e:l.blk=l'.blk)(hs: ¬(Kv o∧Kv o')):b=b':=
 (h.inj b b' o o' l l' hb hb' hl hl' e).resolve_right hs
structure Tr(P:Program)(σ:Mp)(H:Heap)(w:World)(σ':Mp)(H':Heap)(w':World):Prop where
 ext:Ext σ σ'
 sim:WM P σ' H' w'
 size:w.heap.size<=w'.heap.size
 frame: ∀k,k<w.heap.size->(∀b l,Wr H b->σ b=some l->l.blk≠k)->w'.heap[k]? =w.heap[k]?
 wr: ∀b l,Wr H' b->σ' b=some l->l.blk<w.heap.size-> ∃b0 l0,Wr H b0∧σ b0=some l0∧l0.blk=l.blk
 nx:H.nx<=H'.nx
 ro:H'.ro=H.ro
 low: ∀b,b<H.ro->H'.t.get b=H.t.get b
 tape:w'.tape=w.tape
 os:w'.os=w.os
 out:w'.output=w.output
 pend: ∀b,b<H.nx->σ b=none->H'.t.get b=H.t.get b∧σ' b=none
theorem Tr.refl{P:Program}{σ:Mp}{H:Heap}{w:World}(h:WM P σ H w):Tr P σ H w σ H w:=
 ⟨Ext.refl σ,h,Zo _,λ_ _ _=>rfl,λb l hw hl _=>⟨b,l,hw,hl,rfl⟩,Zo _,rfl,λ_ _=>rfl,rfl,rfl,rfl,λ_ _ h=>⟨rfl,h⟩⟩
theorem Tr.trans{P:Program}{σ σ' σ'':Mp}{H H' H'':Heap}{w w' w'':World}(h:Tr P σ H w σ' H' w')(h':Tr P σ' H' w' σ'' H'' w''):
  Tr P σ H w σ'' H'' w'':=by
 refine⟨h.ext.trans h'.ext,h'.sim,ZX h.size h'.size,?_,?_,ZX h.nx h'.nx,h'.ro.trans h.ro,?_,h'.tape.trans h.tape,h'.os.trans h.os,h'.out.trans h.out,?_⟩
 ·intro k hk hn
  rw[h'.frame k (ZF hk h.size) ?_,h.frame k hk hn]
  intro b l hw hl e
  obtain⟨b0,l0,hw0,hl0,e0⟩:=h.wr b l hw hl (by rw[e];exact hk)
  exact hn b0 l0 hw0 hl0 (e0.trans e)
 ·intro b l hw hl hlt
  obtain⟨b1,l1,hw1,hl1,e1⟩:=h'.wr b l hw hl (ZF hlt h.size)
  obtain⟨b0,l0,hw0,hl0,e0⟩:=h.wr b1 l1 hw1 hl1 (by rw[e1];exact hlt)
  exact⟨b0,l0,hw0,hl0,e0.trans e1⟩
 ·intro b hb
  rw[h'.low b (by rw[h.ro];exact hb),h.low b hb]
 ·intro b hb hn
  obtain⟨h1,h2⟩:=h.pend b hb hn
  obtain⟨h3,h4⟩:=h'.pend b (ZF hb h.nx) h2
  exact⟨h3.trans h1,h4⟩
theorem MA.mono{σ σ':Mp}(h:Ext σ σ'){a:RF}{e:MapEntry}(r:MA σ a e):MA σ' a e:=⟨r.1.mono h,r.2.1.mono h,r.2.2⟩
theorem Yr.mono{σ σ':Mp}(h:Ext σ σ'): ∀{as:List RF} {es:List MapEntry},Yr σ as es->Yr σ' as es
 |[],es,r=>by simpa [Yr] using r
 |a::as,es,r=>by
  simp only[Yr] at r ⊢
  obtain⟨e,es',h1,h2,h3⟩:=r
  exact⟨e,es',h1.mono h,Yr.mono h h2,h3⟩
theorem Pc.mono{σ σ':Mp}(h:Ext σ σ'){r:Row}{l:Loc}{cs:Array Value}{fr:Nat×Nat}(x:Pc σ r l cs fr):Pc σ' r l cs fr:=
 ⟨x.sz,x.sz1,x.fits,x.room,x.exact,λi hi=>let ⟨v,hv,hr⟩:=x.cell i hi;⟨v,hv,hr.mono h⟩,x.one,x.frz,x.frs⟩
theorem U5.mono{σ σ':Mp}(h:Ext σ σ'){o:Obj}{l:Loc}{c:Go.Obj}(x:U5 σ o l c):U5 σ' o l c:=by
 cases o with
 |row r=>obtain⟨cs,fr,e,x⟩:=x;exact⟨cs,fr,e,x.mono h⟩
 |map es clock=>obtain⟨ents,e,x,y⟩:=x;exact⟨ents,e,x.mono h,y⟩
 |cmap es=>obtain⟨ents,cl,fs,e,x,y⟩:=x;exact⟨ents,cl,fs,e,x.mono h,y⟩
 |siter s pos=>exact x
 |miter m since cur=>
  obtain⟨seen,st,e,hm,y⟩:=x
  refine⟨seen,st,?_,?_,y⟩
  ·rw[e]
   cases m with
   |none=>rfl
   |some b=>
    have:=hm b rfl
    cases hb:σ b with
    |none=>rw[hb] at this;cases this
    |some l=>simp[hb,h b l hb]
  ·intro b hb
   have:=hm b hb
   cases hs:σ b with
   |none=>rw[hs] at this;cases this
   |some l=>rw[h b l hs];rfl
 |loop=>exact x
def Mp.put(σ:Mp)(b:Nat)(l:Loc):Mp:=λc=>if c=b then some l else σ c
theorem Mp.put_same(σ:Mp)(b:Nat)(l:Loc):σ.put b l b=some l:=by simp[Mp.put]
theorem Mp.put_ext{σ:Mp}{b:Nat}(l:Loc)(h:σ b=none):Ext σ (σ.put b l):=by
 intro c m hc
 unfold Mp.put
 by_cases e:c=b
 ·subst e;rw[h] at hc;cases hc
 ·rw[if_neg e];exact hc
theorem WM.fresh{P:Program}{σ:Mp}{H:Heap}{w:World}(h:WM P σ H w){b:Nat}(hb:H.nx<=b):σ b=none:=by
 cases e:σ b with
 |none=>rfl
 |some l=>have:=h.dom b l e;omega
theorem WM.get_lt{P:Program}{σ:Mp}{H:Heap}{w:World}(h:WM P σ H w){b:Nat}{o:Obj}(hb:H.t.get b=some o):b<H.nx:=by
 exact h.low b o hb
theorem WM.blk_lt{P:Program}{σ:Mp}{H:Heap}{w:World}(h:WM P σ H w){b:Nat}{o:Obj}{l:Loc}(hb:H.t.get b=some o)(hl:σ b=some l):l.blk<w.heap.size:=by
 obtain⟨c,hc,_⟩:=h.alive b o l hb hl
 exact(ZO.1 hc).1
theorem Heap.get_new(H:Heap)(o:Obj)(b:Nat):(H.new o).t.get b=if H.nx=b then some o else H.t.get b:=T.get_set _ _ _ _
theorem Heap.nx_new(H:Heap)(o:Obj):(H.new o).nx=H.nx+1:=rfl
theorem Heap.ro_new(H:Heap)(o:Obj):(H.new o).ro=H.ro:=rfl
theorem Heap.get_put(H:Heap)(c:Nat)(o:Obj)(b:Nat):(H.put c o).t.get b=if c=b then some o else H.t.get b:=T.get_set _ _ _ _
theorem Rs{w:World}{o:Go.Obj}{k:Nat}(h:k<w.heap.size):(w.alloc o).heap[k]? =w.heap[k]? :=heap_alloc_old w o k h
theorem Rr(w:World)(o:Go.Obj):(w.alloc o).heap[w.heap.size]? =some o:=heap_alloc_new w o
theorem Tr.alloc{P:Program}{σ:Mp}{H:Heap}{w:World}(h:WM P σ H w)(o:Obj)(c:Go.Obj)(l:Loc)(hl:l.blk=w.heap.size)
  (ho:U5 (σ.put H.nx l) o l c):Tr P σ H w (σ.put H.nx l) (H.new o) (w.alloc c):=by
 have hf:σ H.nx=none:=h.fresh (Zo _)
 have he:=Mp.put_ext l hf
 refine⟨he,⟨?_,?_,?_,?_,?_,?_⟩,by simp,?_,?_,by simp[Heap.nx_new],rfl,?_,rfl,rfl,rfl,λb hb hn=>⟨by rw[Heap.get_new,if_neg (by omega)],by unfold Mp.put;rw[if_neg (by omega)];exact hn⟩⟩
 ·intro b m hb
  rw[Heap.nx_new]
  unfold Mp.put at hb
  by_cases e:b=H.nx
  ·omega
  ·rw[if_neg e] at hb;have:=h.dom b m hb;omega
 ·intro b o' hb
  rw[Heap.get_new] at hb
  rw[Heap.nx_new]
  by_cases e:H.nx=b
  ·omega
  ·rw[if_neg e] at hb;have:=h.low b o' hb;omega
 ·intro b o' l' hb hl'
  rw[Heap.get_new] at hb
  by_cases e:H.nx=b
  ·rw[if_pos e] at hb;cases hb;subst e
   rw[Mp.put_same] at hl';cases hl'
   exact⟨c,by rw[hl];exact Rr w c,ho⟩
  ·rw[if_neg e] at hb
   have hl2:σ b=some l':=by unfold Mp.put at hl';rwa [if_neg (λx=>e x.symm)] at hl'
   obtain⟨c',hc',hr⟩:=h.alive b o' l' hb hl2
   exact⟨c',by rw[Rs (ZO.1 hc').1];exact hc',hr.mono he⟩
 ·intro b b' o1 o2 l1 l2 hb hb' hl1 hl2 e
  rw[Heap.get_new] at hb hb'
  by_cases e1:H.nx=b<;>by_cases e2:H.nx=b'
  ·omega
  ·rw[if_neg e2] at hb'
   subst e1
   rw[Mp.put_same] at hl1;cases hl1
   have gQ:σ b'=some l2:=by unfold Mp.put at hl2;rwa [if_neg (λx=>e2 x.symm)] at hl2
   have:=h.blk_lt hb' gQ
   omega
  ·rw[if_neg e1] at hb
   subst e2
   rw[Mp.put_same] at hl2;cases hl2
   have Ze3:σ b=some l1:=by unfold Mp.put at hl1;rwa [if_neg (λx=>e1 x.symm)] at hl1
   have:=h.blk_lt hb Ze3
   omega
  ·rw[if_neg e1] at hb;rw[if_neg e2] at hb'
   have Ze3:σ b=some l1:=by unfold Mp.put at hl1;rwa [if_neg (λx=>e1 x.symm)] at hl1
   have gQ:σ b'=some l2:=by unfold Mp.put at hl2;rwa [if_neg (λx=>e2 x.symm)] at hl2
   exact h.inj b b' o1 o2 l1 l2 hb hb' Ze3 gQ e
 ·intro g hg
  obtain⟨l',h1,h2⟩:=h.glob g hg
  exact⟨l',he g l' h1,h2⟩
 ·rw[Heap.ro_new,Heap.nx_new];have:=h.ro;omega
 ·intro k hk _
  exact Rs hk
 ·intro b l' hw hl' hlt
  obtain⟨hro,o',ho',hown⟩:=hw
  rw[Heap.get_new] at ho'
  by_cases e:H.nx=b
  ·subst e
   rw[Mp.put_same] at hl';cases hl'
   omega
  ·rw[if_neg e] at ho'
   have hl2:σ b=some l':=by unfold Mp.put at hl';rwa [if_neg (λx=>e x.symm)] at hl'
   exact⟨b,l',⟨hro,o',ho',hown⟩,hl2,rfl⟩
 ·intro b hb
  rw[Heap.get_new,if_neg]
  have:=h.ro;omega
theorem Tr.write{P:Program}{σ:Mp}{H:Heap}{w w':World}(h:WM P σ H w){b:Nat}{o o':Obj}{l:Loc}{c':Go.Obj}
  (hb:H.t.get b=some o)(hl:σ b=some l)(hw:Wr H b)
  (hsize:w'.heap.size=w.heap.size)(hnew:w'.heap[l.blk]? =some c')(hold: ∀k,k≠l.blk->w'.heap[k]? =w.heap[k]?)
  (ho:U5 σ o' l c')(ht:w'.tape=w.tape)(hos:w'.os=w.os)(hout:w'.output=w.output):Tr P σ H w σ (H.put b o') w':=by
 refine⟨Ext.refl σ,⟨h.dom,?_,?_,?_,h.glob,h.ro⟩,by omega,?_,?_,Zo _,rfl,?_,ht,hos,hout,λb1 _ hn=>⟨by rw[Heap.get_put,if_neg (λe=>by subst e;rw[hl] at hn;cases hn)],hn⟩⟩
 ·intro b1 o1 hb1
  rw[Heap.get_put] at hb1
  by_cases e:b=b1
  ·subst e;exact h.low b o hb
  ·rw[if_neg e] at hb1;exact h.low b1 o1 hb1
 ·intro b1 o1 l1 hb1 hl1
  rw[Heap.get_put] at hb1
  by_cases e:b=b1
  ·rw[if_pos e] at hb1;cases hb1;subst e
   rw[hl] at hl1;cases hl1
   exact⟨c',hnew,ho⟩
  ·rw[if_neg e] at hb1
   obtain⟨c1,hc1,hr⟩:=h.alive b1 o1 l1 hb1 hl1
   refine⟨c1,?_,hr⟩
   rw[hold l1.blk ?_];exact hc1
   intro e2
   exact e (h.alone hb hb1 hl hl1 e2.symm λs=>hw.hard hb s.1)
 ·intro b1 b2 o1 o2 l1 l2 h1 h2 k1 k2 e
  have g: ∀(x:Nat) (ox:Obj),(H.put b o').t.get x=some ox-> ∃oy,H.t.get x=some oy:=by
   intro x ox hx
   rw[Heap.get_put] at hx
   by_cases ex:b=x
   ·subst ex;exact⟨o,hb⟩
   ·rw[if_neg ex] at hx;exact⟨ox,hx⟩
  obtain⟨o1',h1'⟩:=g b1 o1 h1
  obtain⟨o2',h2'⟩:=g b2 o2 h2
  rcases h.inj b1 b2 o1' o2' l1 l2 h1' h2' k1 k2 e with e1|⟨s1,s2⟩
  ·exact .inl e1
  ·rw[Heap.get_put] at h1 h2
   rw[if_neg (λx=>by subst x;exact hw.hard h1' s1)] at h1
   rw[if_neg (λx=>by subst x;exact hw.hard h2' s2)] at h2
   rw[h1] at h1';cases h1'
   rw[h2] at h2';cases h2'
   exact .inr ⟨s1,s2⟩
 ·intro k hk hn
  exact hold k λe=>hn b l hw hl e.symm
 ·intro b1 l1 hw1 hl1 hlt
  by_cases e:b=b1
  ·subst e;exact⟨b,l1,hw,hl1,rfl⟩
  ·obtain⟨hro,o1,ho1,hown⟩:=hw1
   rw[Heap.get_put,if_neg e] at ho1
   exact⟨b1,l1,⟨hro,o1,ho1,hown⟩,hl1,rfl⟩
 ·intro b1 hb1
  rw[Heap.get_put,if_neg]
  intro e;have:=hw.1;omega
namespace N8
variable {α:Type}
theorem proj_upd(i j:Nat)(hi:i<8)(hj:j<8)(f:α->α)(n:N8 α):proj i (upd j f n)=if i=j then f (proj i n) else proj i n:=by
 obtain⟨a,b,c,d,e,g,h,k⟩:=n
 match i,hi,j,hj with
 |0,_,0,_=>rfl|0,_,1,_=>rfl|0,_,2,_=>rfl|0,_,3,_=>rfl|0,_,4,_=>rfl|0,_,5,_=>rfl|0,_,6,_=>rfl|0,_,7,_=>rfl
 |1,_,0,_=>rfl|1,_,1,_=>rfl|1,_,2,_=>rfl|1,_,3,_=>rfl|1,_,4,_=>rfl|1,_,5,_=>rfl|1,_,6,_=>rfl|1,_,7,_=>rfl
 |2,_,0,_=>rfl|2,_,1,_=>rfl|2,_,2,_=>rfl|2,_,3,_=>rfl|2,_,4,_=>rfl|2,_,5,_=>rfl|2,_,6,_=>rfl|2,_,7,_=>rfl
 |3,_,0,_=>rfl|3,_,1,_=>rfl|3,_,2,_=>rfl|3,_,3,_=>rfl|3,_,4,_=>rfl|3,_,5,_=>rfl|3,_,6,_=>rfl|3,_,7,_=>rfl
 |4,_,0,_=>rfl|4,_,1,_=>rfl|4,_,2,_=>rfl|4,_,3,_=>rfl|4,_,4,_=>rfl|4,_,5,_=>rfl|4,_,6,_=>rfl|4,_,7,_=>rfl
 |5,_,0,_=>rfl|5,_,1,_=>rfl|5,_,2,_=>rfl|5,_,3,_=>rfl|5,_,4,_=>rfl|5,_,5,_=>rfl|5,_,6,_=>rfl|5,_,7,_=>rfl
 |6,_,0,_=>rfl|6,_,1,_=>rfl|6,_,2,_=>rfl|6,_,3,_=>rfl|6,_,4,_=>rfl|6,_,5,_=>rfl|6,_,6,_=>rfl|6,_,7,_=>rfl
 |7,_,0,_=>rfl|7,_,1,_=>rfl|7,_,2,_=>rfl|7,_,3,_=>rfl|7,_,4,_=>rfl|7,_,5,_=>rfl|7,_,6,_=>rfl|7,_,7,_=>rfl
theorem proj_all(i:Nat)(x:α):proj i (all x)=x:=by
 unfold proj
 split<;>rfl
end N8
theorem HC(n m:Nat)(hn:n<512)(hm:m<512)(tm:TM)(v:AV):Rj n (OE m tm v)=if n=m then v else Rj n tm:=by
 show N8.proj (n % 8) (N8.proj (n/8 % 8) (N8.proj (n/64) (N8.upd (m/64) (N8.upd (m/8 % 8) (N8.upd (m % 8) (λ_=>v))) tm)))=if n=m then v else N8.proj (n % 8) (N8.proj (n/8 % 8) (N8.proj (n/64) tm))
 rw[N8.proj_upd _ _ (by omega) (by omega)]
 by_cases h1:n/64=m/64
 ·rw[if_pos h1,N8.proj_upd _ _ (by omega) (by omega)]
  by_cases h2:n/8 % 8=m/8 % 8
  ·rw[if_pos h2,N8.proj_upd _ _ (by omega) (by omega)]
   by_cases h3:n % 8=m % 8
   ·rw[if_pos h3,if_pos (by omega)]
   ·rw[if_neg h3,if_neg (by omega)]
  ·rw[if_neg h2,if_neg (by omega)]
 ·rw[if_neg h1,if_neg (by omega)]
theorem q9(n:Nat):Rj n Nr=.unk:=by
 show N8.proj (n % 8) (N8.proj (n/8 % 8) (N8.proj (n/64) Nr))=_
 rw[show Nr=N8.all u64 from rfl,N8.proj_all,show u64=N8.all u8 from rfl,N8.proj_all,show u8=N8.all AV.unk from rfl,N8.proj_all]
structure PN(σ:Mp)(N:Nat)(tm:TM)(t:Array Value):Prop where
 size:N<=t.size
 get: ∀n,n<512->Yk σ (Rj n tm) (t.getD n undef)
theorem PN.mono{σ σ':Mp}{N:Nat}{tm:TM}{t:Array Value}(h:Ext σ σ')(x:PN σ N tm t):PN σ' N tm t:=⟨x.size,λn hn=>(x.get n hn).mono h⟩
theorem PN.set{σ:Mp}{N:Nat}{tm:TM}{t:Array Value}(x:PN σ N tm t){d:Nat}{a:AV}{v:Value}(hd:d<N)(h:Yk σ a v):
  PN σ N (Wc (some d) tm a) (t.setIfInBounds d v):=by
 refine⟨by simpa using x.size,λn hn=>?_⟩
 have hs:=x.size
 by_cases h5:d<=511
 ·have hb:Nat.ble d 511=true:=Zl h5
  have e:Wc (some d)=OE d:=by show cond (Nat.ble d 511) (OE d) d0=_;rw[hb];rfl
  rw[e,HC n d hn (by omega)]
  by_cases e1:n=d
  ·subst e1
   rw[if_pos rfl]
   simp only[ZV,YO]
   have:n<t.size:=by omega
   simpa [this] using h
  ·rw[if_neg e1]
   simp only[ZV,YO]
   rw[if_neg (λz=>e1 z.symm)]
   have:=x.get n hn
   simpa only[ZV] using this
 ·have hb:Nat.ble d 511=false:=by
   cases e:Nat.ble d 511 with
   |false=>rfl
   |true=>exact absurd (ZT e) h5
  have e:Wc (some d)=d0:=by show cond (Nat.ble d 511) (OE d) d0=_;rw[hb];rfl
  rw[e]
  show Yk σ (Rj n tm) _
  simp only[ZV,YO]
  rw[if_neg (by omega)]
  have:=x.get n hn
  simpa only[ZV] using this
theorem Ji{σ:Mp}{f:Value->AV}: ∀(l:List Value),(∀v∈l,Yk σ (f v) v)->YE σ (xI f l) l
 |[],_=>Ud
 |v::l,h=>Ww (h v (by simp)) (Ji l λu hu=>h u (by simp[hu]))
theorem rz(σ:Mp): ∀(n:Nat) (v:Value),LX n v=true->Yk σ (IR n v) v:=by
 intro n
 induction n with
 |zero=>intro v _;simp[IR,Yk]
 |succ n ih=>
  intro v hp
  unfold IR
  split
  ·simp[Yk]
  ·simp[Yk]
  ·rename_i s;simp only[Yk]
  ·simp[Yk]
  ·simp[Yk]
  ·simp[Yk]
  ·simp[Yk]
  ·simp only[Yk];exact⟨[],[],Ud,Ud,rfl⟩
  ·simp[Yk]
  ·rename_i t u;simp only[Yk];exact⟨u,ih u (by simpa [LX] using hp),rfl⟩
  ·rename_i cs
   simp only[LX,YH,Yv] at hp
   simp only[Yk]
   exact⟨cs,Ji cs λv hv=>ih v (hp v hv).2,λv hv=>(by have:=(hp v hv).1;cases v<;>first|rfl|exact this),rfl⟩
  ·rename_i cs
   simp only[LX,YH] at hp
   simp only[Yk]
   exact⟨cs,Ji cs λv hv=>ih v (hp v hv),rfl⟩
  ·simp[Yk]
theorem Oq{α:Type}(a:Nat)(f:Nat->α):Rv a f=f a:=by cases a<;>rfl
theorem Oo{α:Type}(n:Int)(f:Int->α):Nj n f=f n:=by
 cases n with
 |ofNat a=>show Rv a (λa=>f (.ofNat a))=_;rw[Oq]
 |negSucc a=>show Rv a (λa=>f (.negSucc a))=_;rw[Oq]
theorem ZaB(a b:Int):sK a b=a+b:=by cases a<;>cases b<;>rfl
theorem pL(a b:Int):IK a b=a - b:=by
 cases a<;>cases b<;>try rfl
 rename_i x y
 show cond (Nat.ble y x) (Int.ofNat (x - y)) (Int.ofNat x - Int.ofNat y)=_
 cases h:Nat.ble y x with
 |false=>rfl
 |true=>have:=ZT h;show Int.ofNat (x - y)=_;simp only[YD];omega
theorem pI(a b:Int):Ai a b=a*b:=by cases a<;>cases b<;>rfl
theorem ZaD(a b:Int):Zff a b=a.tdiv b:=by cases a<;>cases b<;>rfl
theorem ZaF(a b:Int):Zfg a b=a.tmod b:=by cases a<;>cases b<;>rfl
theorem Yp(a b:Nat):Nat.beq a b=decide (a=b):=by
 by_cases h:a=b
 ·subst h;simp
 ·rw[Zb h]
  cases e:Nat.beq a b with
  |false=>rfl
  |true=>exact absurd (ZM e) h
theorem Xa(a b:Nat):Nat.ble a b=decide (a<=b):=by
 by_cases h:a<=b
 ·rw[Zd h];exact Zl h
 ·rw[Zb h]
  cases e:Nat.ble a b with
  |false=>rfl
  |true=>exact absurd (ZT e) h
theorem Pj(a b:Int):Fc a b=(a==b):=by
 cases a<;>cases b
 ·rename_i x y;show Nat.beq x y=_;rw[Yp,Vi];simp;omega
 ·rfl
 ·rfl
 ·rename_i x y;show Nat.beq x y=_;rw[Yp,Vi];simp
theorem NY(a b:Int):vx a b=decide (a<b):=by
 cases a<;>cases b
 ·rename_i x y;show Nat.ble (x+1) y=_;rw[Xa,Vi];simp;omega
 ·rename_i x y;show false=_;rw[Vi];simp;omega
 ·rename_i x y;show true=_;rw[Vi];simp;omega
 ·rename_i x y;show Nat.ble (y+1) x=_;rw[Xa,Vi];simp;omega
theorem Zfk(a b:IntKind):Nl a b=decide (a=b):=by cases a<;>cases b<;>rfl
theorem R0{a b:IntKind}(h:Nl a b=true):a=b:=by rw[Zfk] at h;exact Zm h
theorem G9(k:IntKind)(m:Nat)(n:Int)(hs:k.signed=false)(hm:(2^k.bits:Int)=m):yz k m n=k.wrap n:=by
 cases n with
 |negSucc a=>rfl
 |ofNat a=>
  show cond (Nat.ble m a) (Int.ofNat (a % m)) (Int.ofNat a)=_
  unfold IntKind.wrap
  simp only[hs,hm,Y0,XH,if_false]
  rw[Xa]
  by_cases h:m<=a
  ·rw[Zd h];simp
  ·rw[Zb h]
   show Int.ofNat a=_
   rw[YD,Int.emod_eq_of_lt (by omega) (by omega)]
theorem G8(k:IntKind)(h:Nat)(n:Int)(hs:k.signed=true)(hm:(2^k.bits:Int)=2*h)(hh:(2^(k.bits - 1):Int)=h)(h0:0<h):tG k h n=k.wrap n:=by
 cases n with
 |ofNat a=>
  show cond (Nat.ble h a) (k.wrap (Int.ofNat a)) (Int.ofNat a)=_
  rw[Xa]
  by_cases g:h<=a
  ·rw[Zd g];rfl
  ·rw[Zb g]
   show Int.ofNat a=_
   unfold IntKind.wrap
   simp only[hs,hm,hh,Xf]
   rw[YD,Int.emod_eq_of_lt (by omega) (by omega),if_neg]
   simp;omega
 |negSucc a=>
  show cond (Nat.ble h a) (k.wrap (Int.negSucc a)) (Int.negSucc a)=_
  rw[Xa]
  by_cases g:h<=a
  ·rw[Zd g];rfl
  ·rw[Zb g]
   show Int.negSucc a=_
   unfold IntKind.wrap
   simp only[hs,hm,hh,Xf]
   have e:(Int.negSucc a) % (2*(h:Int))=Int.negSucc a+2*h:=by
    have:=Int.add_mul_emod_self_left (Int.negSucc a) (2*(h:Int)) 1
    rw[<-this,Int.mul_one,Int.emod_eq_of_lt (by omega) (by omega)]
   rw[e,if_pos]
   ·omega
   ·simp;omega
theorem N9(k:IntKind)(n:Int):Zd8 k n=k.wrap n:=by
 cases k
 ·exact G8 .i8 128 n rfl (by decide) (by decide) (by decide)
 ·exact G8 .i16 32768 n rfl (by decide) (by decide) (by decide)
 ·exact G8 .i32 2147483648 n rfl (by decide) (by decide) (by decide)
 ·exact G8 .i64 9223372036854775808 n rfl (by decide) (by decide) (by decide)
 ·exact G9 .u8 256 n rfl (by decide)
 ·exact G9 .u16 65536 n rfl (by decide)
 ·exact G9 .u32 4294967296 n rfl (by decide)
 ·exact G9 .u64 18446744073709551616 n rfl (by decide)
theorem C6(k:IntKind):R4 k=2^k.bits:=by cases k<;>rfl
theorem jl(k:IntKind):qN k=k.bits:=by cases k<;>rfl
theorem Ff(k:IntKind)(n:Int):T1 (R4 k) n=(BitVec.ofInt k.bits n).toNat:=by
 rw[BitVec.toNat_ofInt,C6]
 have hp:0<2^k.bits:=Nat.two_pow_pos _
 generalize 2^k.bits=m at*
 cases n with
 |ofNat a=>
  show a % m=_
  simp only[YD]
  norm_cast
 |negSucc a=>
  show(m - 1) - a % m=_
  have h:(Int.negSucc a) % (m:Int)=((m - 1 - a % m:Nat):Int):=by
   rw[Int.negSucc_emod _ (by omega)]
   have:=Vy a hp
   omega
  rw[h];simp
theorem wp(k:IntKind)(a b:Int):Nat.land (BitVec.ofInt k.bits a).toNat ((2^k.bits - 1) - (BitVec.ofInt k.bits b).toNat)=(BitVec.ofInt k.bits a&&& ~~~ (BitVec.ofInt k.bits b)).toNat:=by
 rw[BitVec.toNat_and,BitVec.toNat_not];rfl
theorem vy(P:Program)(w:World)(op:BinOp)(f:Nat->Nat->Nat->Nat)(hop:(op=.and∧f=TZ)∨(op=.or∧f=Dc)∨(op=.xor∧f=Nt)∨(op=.andNot∧f=I8))(k:IntKind)(a b:Int):
  (Op.intBits op k a b).run P w=.ok (.int k (k.wrap (Int.ofNat (f (R4 k) (T1 (R4 k) a) (T1 (R4 k) b))))) w:=by
 rw[Ff,Ff]
 rcases hop with⟨rfl,rfl⟩|⟨rfl,rfl⟩|⟨rfl,rfl⟩|⟨rfl,rfl⟩
 ·simp[Op.intBits,TZ]
 ·simp[Op.intBits,Dc]
 ·simp[Op.intBits,Nt]
 ·unfold I8;rw[C6]
  have:=wp k a b
  simp only[Op.intBits]
  rw[show(Nat.land (BitVec.ofInt k.bits a).toNat (Nat.sub (Nat.sub (2^k.bits) 1) (BitVec.ofInt k.bits b).toNat))=_ from this]
  rfl
theorem bU(P:Program)(w:World)(k:IntKind)(a:Int):
  (Op.intBits .xor k (if k.signed then -1 else k.max) a).run P w=.ok (.int k (k.wrap (Int.ofNat (Nat.sub (Nat.sub (R4 k) 1) (T1 (R4 k) a))))) w:=by
 rw[Ff,C6]
 have h:BitVec.ofInt k.bits (if k.signed then -1 else k.max)=BitVec.allOnes k.bits:=by
  cases k<;>decide
 simp only[Op.intBits,h]
 have e:(BitVec.allOnes k.bits^^^BitVec.ofInt k.bits a)= ~~~ (BitVec.ofInt k.bits a):=by rw[BitVec.allOnes_xor]
 rw[e,BitVec.toNat_not]
 rfl
theorem ZaK(a:Int)(b:Nat):Zfj a b=a.fdiv (2^b):=by
 have hp:(0:Int)<((2^b:Nat):Int):=by have:=Nat.two_pow_pos b;omega
 have he:(2^b:Int)=((2^b:Nat):Int):=by simp
 rw[he,Int.fdiv_eq_ediv_of_nonneg _ (by omega)]
 cases a with
 |ofNat x=>
  show Int.ofNat (x/2^b)=_
  rfl
 |negSucc x=>
  show Int.negSucc (x/2^b)=_
  rw[Int.negSucc_ediv _ hp]
  rfl
def YZ(P:Program)(σ:Mp)(H:Heap)(w:World)(r:Result Next):OR->Prop
 |.val v H'=> ∃σ' w' x,(r=.ok (.value x) w'∨(r=.ok .skip w'∧x=undef))∧Yk σ' v x∧Tr P σ H w σ' H' w'
 |.oth .fail=>True
 |.oth (.call f args H')=>H'=H∧ ∃vs,YE σ args vs∧r=(callFunc f ⟨vs⟩).run P w
 |.oth (.yield b args H')=>H'=H∧ ∃l vs,σ b=some l∧YE σ args vs∧r=(Instr.yield l.blk ⟨vs⟩).run P w
 |.oth (.pan v H')=>H'=H∧ ∃x,Yk σ v x∧r=.halt (.panic x) w
 |.oth .recov=>r=.ok .recover w
 |.oth (.defer f args)=> ∀g a b,f=.func g a b-> ∃x y z,YE σ a x∧YE σ args y∧YE σ b z∧r=.ok (.defer {target:=.fn (.func g) ⟨z⟩,args:=⟨x++y⟩}) w
section
variable {P:Program} {σ:Mp} {H:Heap} {w:World} {r:Result Next}
theorem Yb(hs:WM P σ H w){v:AV}{x:Value}(h:r=.ok (.value x) w)(hr:Yk σ v x):YZ P σ H w r (.val v H):=
 ⟨σ,w,x,.inl h,hr,Tr.refl hs⟩
theorem QU{v:AV}{f:IntKind->Int->OR}(h: ∀k n,v=.int k n->YZ P σ H w r (f k n)):YZ P σ H w r (Pz v f):=by
 unfold Pz;split
 ·exact h _ _ rfl
 ·trivial
theorem Rl{v:AV}{f:Nat->OR}(h: ∀k n,v=.int k (.ofNat n)->YZ P σ H w r (f n)):YZ P σ H w r (R6 v f):=by
 unfold R6;split
 ·exact h _ _ rfl
 ·trivial
theorem A0{v:AV}{f:Bool->OR}(h: ∀b,v=.bool b->YZ P σ H w r (f b)):YZ P σ H w r (FS v f):=by
 unfold FS;split
 ·exact h _ rfl
 ·trivial
theorem OQ{v:AV}{f:List UInt8->OR}(h: ∀s,v=.str s->YZ P σ H w r (f s)):YZ P σ H w r (O3 v f):=by
 unfold O3;split
 ·exact h _ rfl
 ·trivial
theorem PW{v:AV}{f:Nat->Nat->OR}(h: ∀b o,v=.ptr b o->YZ P σ H w r (f b o)):YZ P σ H w r (QC v f):=by
 unfold QC;split
 ·exact h _ _ rfl
 ·trivial
theorem HG{v:AV}{f:List AV->OR}(h: ∀cs,v=.agg cs->YZ P σ H w r (f cs)):YZ P σ H w r (zJ v f):=by
 unfold zJ;split
 ·exact h _ rfl
 ·trivial
theorem ip{v:AV}{f:List AV->OR}(h: ∀cs,v=.tup cs->YZ P σ H w r (f cs)):YZ P σ H w r (oe v f):=by
 unfold oe;split
 ·exact h _ rfl
 ·trivial
theorem NV{v:AV}{n:OR}{f:Nat->AV->OR}(h0:v=.nili->YZ P σ H w r n)(h: ∀t x,v=.iface t x->YZ P σ H w r (f t x)):YZ P σ H w r (Pb v n f):=by
 unfold Pb;split
 ·exact h _ _ rfl
 ·exact h0 rfl
 ·trivial
theorem Ra{v:AV}{n:OR}{f:Nat->Nat->Nat->Option Nat->OR}(h0:v=.nils->YZ P σ H w r n)(h: ∀b o l c,v=.slice b o l c->YZ P σ H w r (f b o l c)):YZ P σ H w r (Sm v n f):=by
 unfold Sm;split
 ·exact h _ _ _ _ rfl
 ·exact h0 rfl
 ·trivial
theorem HI{v:AV}{z n:OR}(h0:v=.slice0->YZ P σ H w r z)(h:YZ P σ H w r n):YZ P σ H w r (onZ v z n):=by
 unfold onZ;split
 ·exact h0 rfl
 ·exact h
theorem HH{v:AV}{n:OR}{f:Nat->OR}(h0:v=.nilm->YZ P σ H w r n)(h: ∀b,v=.map b->YZ P σ H w r (f b)):YZ P σ H w r (Bl v n f):=by
 unfold Bl;split
 ·exact h _ rfl
 ·exact h0 rfl
 ·trivial
theorem NW{b:Nat}{f:Obj->OR}(h: ∀o,H.t.get b=some o->YZ P σ H w r (f o)):YZ P σ H w r (Ic H b f):=by
 unfold Ic;split
 ·rename_i o ho;exact h _ ho
 ·trivial
theorem Si{b:Nat}{f:Row->OR}(h: ∀o,H.t.get b=some (.row o)->YZ P σ H w r (f o)):YZ P σ H w r (XB H b f):=by
 unfold XB;split
 ·rename_i o ho;exact h _ ho
 ·trivial
theorem Pw{α:Type}{x:Option α}{f:α->OR}(h: ∀a,x=some a->YZ P σ H w r (f a)):YZ P σ H w r (UU x f):=by
 unfold UU;split
 ·exact h _ rfl
 ·trivial
theorem Yh{b:Bool}{f:OR}(h:b=true->YZ P σ H w r f):YZ P σ H w r (ZP b f):=by
 cases b with
 |false=>exact trivial
 |true=>exact h rfl
theorem UD{b:Bool}{f g:OR}(h1:b=true->YZ P σ H w r f)(h2:b=false->YZ P σ H w r g):YZ P σ H w r (cond b f g):=by
 cases b with
 |false=>exact h2 rfl
 |true=>exact h1 rfl
theorem Mk{a:Nat}{f:Nat->OR}(h:YZ P σ H w r (f a)):YZ P σ H w r (Rv a f):=by rw[Oq];exact h
theorem KT{a:Int}{f:Int->OR}(h:YZ P σ H w r (f a)):YZ P σ H w r (Nj a f):=by rw[Oo];exact h
theorem Qn(hs:WM P σ H w){k:IntKind}{n:Int}(h:r=.ok (.value (.int k (k.wrap n))) w):YZ P σ H w r (TU k n H):=by
 unfold TU
 refine KT ?_
 rw[N9]
 exact Yb hs h (by simp[Yk])
theorem ID(hs:WM P σ H w){b:Bool}(h:r=.ok (.value (.bool b)) w):YZ P σ H w r (So b H):=by
 unfold So
 cases b
 ·exact Yb hs h (by simp[Yk])
 ·exact Yb hs h (by simp[Yk])
theorem nR{x y:AV}{f:IntKind->Int->Int->OR}(h: ∀k a b,x=.int k a->y=.int k b->YZ P σ H w r (f k a b)):YZ P σ H w r (FH x y f):=by
 unfold FH
 refine QU λj a hx=>QU λl b hy=>Yh λhk=>?_
 have:=R0 hk;subst this
 exact h j a b hx hy
def Qi(P:Program)(σ:Mp)(tm:TM)(ρ:Operand->Value):Prop:= ∀x,Yk σ (YM P x tm) (ρ x)
theorem Ol(σ:Mp)(v:Value):Yk σ (W9 v) v:=by
 unfold W9
 cases h:LX 20 v with
 |false=>simp[Yk]
 |true=>exact rz σ 20 v h
theorem Jd(hs:WM P σ H w){N:Nat}{tm:TM}{a:Act}(ht:PN σ N tm a.tmps):Qi P σ tm a.eval:=by
 intro x
 cases x with
 |tmp t=>
  show Yk σ ((cond (Nat.ble t 511) (Rj t) (k .unk)) tm) _
  rw[Xa]
  by_cases h:t<=511
  ·rw[Zd h];exact ht.get t (Pa h)
  ·rw[Zb h];simp[k,Yk]
 |const v=>exact Ol σ v
 |global g=>
  show Yk σ ((cond (Nat.ble (Nat.succ g) P.globals.size) (k (.ptr g 0)) (k .unk)) tm) _
  rw[Xa]
  by_cases h:Nat.succ g<=P.globals.size
  ·rw[Zd h]
   obtain⟨l,hl,hb,h0⟩:=hs.glob g h
   show Yk σ (.ptr g 0) (.pointer (some ⟨g,0,none⟩))
   simp only[Yk]
   exact⟨l,hl,by rw[hb,h0]⟩
  ·rw[Zb h];simp[k,Yk]
 |func f=>simp only[Act.eval,YM,k,Yk];exact⟨[],[],Ud,Ud,rfl⟩
theorem XZ{k:IntKind}{n:Int}{v:Value}(h:Yk σ (.int k n) v):v=.int k n:=by simpa [Yk] using h
theorem Sn{b:Bool}{v:Value}(h:Yk σ (.bool b) v):v=.bool b:=by simpa [Yk] using h
theorem Ue{s:List UInt8}{v:Value}(h:Yk σ (.str s) v):v=.string ⟨s.toArray⟩:=by simpa [Yk] using h
theorem Vn{s:Sem Value}{x:Value}{w':World}(h:s.run P w=.ok x w'):((do pure (Next.value (<-s)):Sem Next)).run P w=.ok (.value x) w':=by
 simp[h]
end
section
variable {P:Program} {σ:Mp} {H:Heap} {w:World} {tm:TM} {ρ:Operand->Value}
def Xv(P:Program)(σ:Mp)(H:Heap)(w:World)(tm:TM)(ρ:Operand->Value)(o:Oper):Prop:=
 YZ P σ H w ((execOp ρ o).run P w) (VP P o.op tm H)
theorem ZbE(hs:WM P σ H w)(hρ:Qi P σ tm ρ){o:Oper}{x:Operand}(ho:o.op=.move x):Xv P σ H w tm ρ o:=by
 unfold Xv;rw[ho]
 exact Yb hs (by simp[execOp,ho]) (hρ x)
theorem la(hs:WM P σ H w)(hρ:Qi P σ tm ρ){o:Oper}{x:Operand}(ho:o.op=.assign x):Xv P σ H w tm ρ o:=by
 unfold Xv;rw[ho]
 exact Yb hs (by simp[execOp,ho]) (hρ x)
theorem ZbG(hs:WM P σ H w)(hρ:Qi P σ tm ρ){o:Oper}{c a b:Operand}(ho:o.op=.pick c a b):Xv P σ H w tm ρ o:=by
 unfold Xv;rw[ho]
 refine A0 λt ht=>?_
 have hc:=hρ c;rw[ht] at hc
 have hc:=Sn hc
 cases t
 ·exact Yb hs (x:=ρ b) (by simp[execOp,ho,asBool,hc]) (hρ b)
 ·exact Yb hs (x:=ρ a) (by simp[execOp,ho,asBool,hc]) (hρ a)
theorem ZfU(hs:WM P σ H w)(hρ:Qi P σ tm ρ){o:Oper}{x:Operand}(ho:o.op=.nilCheck x):Xv P σ H w tm ρ o:=by
 unfold Xv;rw[ho]
 show YZ P σ H w _ (xC (YM P x tm) (.val (YM P x tm) H))
 have hx:=hρ x
 unfold xC
 split
 ·rename_i b o' e
  rw[e] at hx
  have h0:=hx
  simp only[Yk] at hx
  obtain⟨l,hl,hv⟩:=hx
  rw[e]
  exact Yb hs (x:=ρ x) (by simp[execOp,ho,hv]) h0
 ·rename_i f a b e
  rw[e] at hx
  have h0:=hx
  simp only[Yk] at hx
  obtain⟨p,q,_,_,hv⟩:=hx
  rw[e]
  exact Yb hs (x:=ρ x) (by simp[execOp,ho,hv]) h0
 ·rename_i t v e
  rw[e] at hx
  have h0:=hx
  simp only[Yk] at hx
  obtain⟨p,_,hv⟩:=hx
  rw[e]
  exact Yb hs (x:=ρ x) (by simp[execOp,ho,hv]) h0
 ·rename_i b e
  rw[e] at hx
  have h0:=hx
  simp only[Yk] at hx
  obtain⟨p,_,hv⟩:=hx
  rw[e]
  exact Yb hs (x:=ρ x) (by simp[execOp,ho,hv]) h0
 ·trivial
theorem L9{o:Oper}{op:BinOp}{t:TypeId}{x y:Operand}{u:TypeId}(ho:o.op=.binOp op t x y u)(hg:(op matches .eql|.neq)=false){v:Value}(h:(binOp op t (ρ x) (ρ y)).run P w=.ok v w):
  (execOp ρ o).run P w=.ok (.value v) w:=by
 simp only[execOp,ho]
 refine Vn ?_
 have:(eqGuard op t x y (ρ x) (ρ y)).run P w=.ok () w:=by
  cases op<;>first|rfl|cases hg
 simp[this,h]
theorem JP(s:List UInt8):(ByteArray.mk s.toArray).toList=s:=by
 exact ByteArray.toList_eq _
theorem Mw(s:List UInt8):(ByteArray.mk s.toArray).size=s.length:=by simp[ByteArray.size]
theorem Ay(a b:UInt8):Fg a b=(a==b):=by
 unfold Fg
 rw[Yp,Vi]
 simp[U9]
theorem Qh: ∀a b:List UInt8,Jq a b=(a==b)
 |[],[]=>rfl
 |[],_::_=>rfl
 |_::_,[]=>rfl
 |a::x,b::y=>by
  show cond (Fg a b) (Jq x y) false=_
  rw[Ay,Qh x y]
  rw[show((a::x)==(b::y))=(a==b&&x==y) from rfl]
  cases(a==b)<;>rfl
theorem Jr: ∀a b:List UInt8,YK a b=Op.bytesLess a b
 |[],[]=>rfl
 |[],_::_=>rfl
 |_::_,[]=>rfl
 |a::x,b::y=>by
  show cond (Nat.ble (Nat.succ a.toNat) b.toNat) true (cond (Fg a b) (YK x y) false)=_
  rw[Ay,Jr x y,Xa]
  simp only[Op.bytesLess]
  have:decide (a.toNat.succ<=b.toNat)=decide (a<b):=by
   rw[decide_eq_decide,Uj];omega
  rw[this]
  cases decide (a<b)<;>cases(a==b)<;>simp
theorem Gq(hs:WM P σ H w)(hρ:Qi P σ tm ρ){o:Oper}{op:BinOp}{t:TypeId}{x y:Operand}{u:TypeId}(ho:o.op=.binOp op t x y u)(hg:(op matches .eql|.neq)=false)
  {f:IntKind->Int->Int->OR}(h: ∀k a b,ρ x=.int k a->ρ y=.int k b->(∀v,(binOp op t (.int k a) (.int k b)).run P w=.ok v w->(execOp ρ o).run P w=.ok (.value v) w)->YZ P σ H w ((execOp ρ o).run P w) (f k a b)):
  YZ P σ H w ((execOp ρ o).run P w) (FH (YM P x tm) (YM P y tm) f):=by
 refine nR λk a b hx hy=>?_
 have h1:=hρ x;rw[hx] at h1
 have h2:=hρ y;rw[hy] at h2
 have h1:=XZ h1
 have h2:=XZ h2
 exact h k a b h1 h2 λv hv=>L9 ho hg (by rw[h1,h2];exact hv)
theorem ZfZ(hs:WM P σ H w)(hρ:Qi P σ tm ρ){o:Oper}{t:TypeId}{x y:Operand}{u:TypeId}(ho:o.op=.binOp .sub t x y u):Xv P σ H w tm ρ o:=by
 unfold Xv;rw[ho]
 refine Gq hs hρ ho rfl λk a b _ _ hr=>?_
 rw[pL]
 exact Qn hs (hr _ (by simp[binOp,Op.intArith]))
theorem ZfS(hs:WM P σ H w)(hρ:Qi P σ tm ρ){o:Oper}{t:TypeId}{x y:Operand}{u:TypeId}(ho:o.op=.binOp .mul t x y u):Xv P σ H w tm ρ o:=by
 unfold Xv;rw[ho]
 refine Gq hs hρ ho rfl λk a b _ _ hr=>?_
 rw[pI]
 exact Qn hs (hr _ (by simp[binOp,Op.intArith]))
theorem ZfV(hs:WM P σ H w)(hρ:Qi P σ tm ρ){o:Oper}{t:TypeId}{x y:Operand}{u:TypeId}(ho:o.op=.binOp .quo t x y u):Xv P σ H w tm ρ o:=by
 unfold Xv;rw[ho]
 refine Gq hs hρ ho rfl λk a b _ _ hr=>?_
 refine UD (λ_=>trivial) λh0=>?_
 rw[Pj] at h0
 have h0: ¬b=0:=by simpa using h0
 rw[ZaD]
 exact Qn hs (hr _ (by simp[binOp,Op.intDiv,h0]))
theorem ZfW(hs:WM P σ H w)(hρ:Qi P σ tm ρ){o:Oper}{t:TypeId}{x y:Operand}{u:TypeId}(ho:o.op=.binOp .rem t x y u):Xv P σ H w tm ρ o:=by
 unfold Xv;rw[ho]
 refine Gq hs hρ ho rfl λk a b _ _ hr=>?_
 refine UD (λ_=>trivial) λh0=>KT ?_
 rw[Pj] at h0
 have h0: ¬b=0:=by simpa using h0
 rw[ZaF]
 exact Yb hs (x:=.int k (a.tmod b)) (hr _ (by simp[binOp,Op.intDiv,h0])) (by simp[Yk])
theorem DC(hs:WM P σ H w)(hρ:Qi P σ tm ρ){o:Oper}{op:BinOp}{f:Nat->Nat->Nat->Nat}{t:TypeId}{x y:Operand}{u:TypeId}(ho:o.op=.binOp op t x y u)
  (hop:(op=.and∧f=TZ)∨(op=.or∧f=Dc)∨(op=.xor∧f=Nt)∨(op=.andNot∧f=I8)):
  YZ P σ H w ((execOp ρ o).run P w) (WP (YM P x) (YM P y) f tm H):=by
 refine Gq hs hρ ho (by rcases hop with⟨rfl,_⟩|⟨rfl,_⟩|⟨rfl,_⟩|⟨rfl,_⟩<;>rfl) λk a b _ _ hr=>?_
 refine Qn hs (hr _ ?_)
 rw[<-vy P w op f hop k a b]
 rcases hop with⟨rfl,_⟩|⟨rfl,_⟩|⟨rfl,_⟩|⟨rfl,_⟩<;>simp[binOp]
theorem ZfX(hs:WM P σ H w)(hρ:Qi P σ tm ρ){o:Oper}{t:TypeId}{x y:Operand}{u:TypeId}(ho:o.op=.binOp .shl t x y u):Xv P σ H w tm ρ o:=by
 unfold Xv;rw[ho]
 refine QU λk a hx=>Rl λj b hy=>?_
 have h1:=hρ x;rw[hx] at h1
 have h2:=hρ y;rw[hy] at h2
 have h1:=XZ h1
 have h2:=XZ h2
 rw[pI]
 have e:k.wrap (a*Int.ofNat (Nat.pow 2 (cond (Nat.ble b 64) b 64)))=k.wrap (a*2^(min b k.bits)):=by
  have hk:k.bits<=64:=by cases k<;>decide
  have key: ∀c:Nat,k.bits<=c->k.wrap (a*((2^c:Nat):Int))=k.wrap (a*((2^k.bits:Nat):Int)):=by
   intro c hc
   unfold IntKind.wrap
   have:(a*((2^c:Nat):Int)) % (2^k.bits:Int)=0:=by
    apply Int.emod_eq_zero_of_dvd
    refine Int.dvd_trans ?_ (Int.dvd_mul_left _ _)
    obtain⟨d,rfl⟩: ∃d,c=k.bits+d:=⟨c - k.bits,by omega⟩
    exact⟨2^d,by rw[Nat.pow_add];simp⟩
   have h2:(a*((2^k.bits:Nat):Int)) % (2^k.bits:Int)=0:=by
    apply Int.emod_eq_zero_of_dvd
    exact⟨a,by rw[Int.mul_comm];simp⟩
   rw[this,h2]
  rw[Xa]
  by_cases hb:b<=64
  ·rw[Zd hb]
   show k.wrap (a*((2^b:Nat):Int))=_
   by_cases hb2:b<=k.bits
   ·rw[Wb hb2];simp
   ·rw[U8 (by omega),key b (by omega)];simp
  ·rw[Zb hb]
   show k.wrap (a*((2^64:Nat):Int))=_
   rw[U8 (by omega),key 64 hk];simp
 refine Qn hs (L9 ho rfl ?_)
 rw[h1,h2,e]
 have hn: ¬(Int.ofNat b<0):=by rw[YD];omega
 simp only[binOp,Op.shift]
 rw[if_neg hn]
 simp
theorem ZfY(hs:WM P σ H w)(hρ:Qi P σ tm ρ){o:Oper}{t:TypeId}{x y:Operand}{u:TypeId}(ho:o.op=.binOp .shr t x y u):Xv P σ H w tm ρ o:=by
 unfold Xv;rw[ho]
 refine QU λk a hx=>Rl λj b hy=>KT ?_
 have h1:=hρ x;rw[hx] at h1
 have h2:=hρ y;rw[hy] at h2
 have h1:=XZ h1
 have h2:=XZ h2
 have e:K5 b (qN k)=min b k.bits:=by
  unfold K5
  rw[Xa,jl]
  by_cases hb:b<=k.bits
  ·rw[Zd hb,Wb hb];rfl
  ·rw[Zb hb,U8 (by omega)];rfl
 rw[ZaK,e]
 refine Yb hs (x:=.int k (a.fdiv (2^(min b k.bits)))) (L9 ho rfl ?_) (by simp[Yk])
 rw[h1,h2]
 have hn: ¬(Int.ofNat b<0):=by rw[YD];omega
 simp only[binOp,Op.shift]
 rw[if_neg hn]
 simp
theorem ZfJ(hs:WM P σ H w)(hρ:Qi P σ tm ρ){o:Oper}{t:TypeId}{x y:Operand}{u:TypeId}(ho:o.op=.binOp .add t x y u):Xv P σ H w tm ρ o:=by
 unfold Xv;rw[ho]
 show YZ P σ H w _ (Yc (YM P x) (YM P y) tm H)
 have h1:=hρ x
 have h2:=hρ y
 unfold Yc
 split
 ·rename_i j a e
  rw[e] at h1
  have h1:=XZ h1
  refine QU λl b hy=>Yh λhk=>?_
  have:=R0 hk;subst this
  rw[hy] at h2
  have h2:=XZ h2
  rw[ZaB]
  exact Qn hs (L9 ho rfl (by rw[h1,h2];simp[binOp,Op.intArith]))
 ·rename_i a e
  rw[e] at h1
  have h1:=Ue h1
  refine OQ λb hy=>Yh λhk=>?_
  rw[hy] at h2
  have h2:=Ue h2
  rw[Xa,Yz,Yz] at hk
  have hk:a.length+b.length<=4611686018427387904:=Zm hk
  refine Yb hs (x:=.string ⟨(a++b).toArray⟩) (L9 ho rfl ?_) (by simp[Yk])
  rw[h1,h2]
  have hm: ¬(((a.length+b.length:Nat):Int)>IntKind.i64.max):=by
   have:IntKind.i64.max=9223372036854775807:=by decide
   rw[this];omega
  simp only[binOp,Op.stringOp,Mw]
  rw[if_neg hm]
  simp only[Sem.run_pure]
  congr 2
 ·trivial
theorem xJ(hs:WM P σ H w)(hρ:Qi P σ tm ρ){o:Oper}{op:BinOp}{t:TypeId}{x y:Operand}{u:TypeId}(ho:o.op=.binOp op t x y u)(hg:(op matches .eql|.neq)=false)
  {f:Int->Int->Bool}{g:List UInt8->List UInt8->Bool}
  (hf: ∀k a b,(binOp op t (.int k a) (.int k b)).run P w=.ok (.bool (f a b)) w)
  (hh: ∀a b:List UInt8,(binOp op t (.string ⟨a.toArray⟩) (.string ⟨b.toArray⟩)).run P w=.ok (.bool (g a b)) w):
  YZ P σ H w ((execOp ρ o).run P w) (Yj (YM P x) (YM P y) f g tm H):=by
 have h1:=hρ x
 have h2:=hρ y
 unfold Yj
 split
 ·rename_i j a e
  rw[e] at h1
  have h1:=XZ h1
  refine QU λl b hy=>Yh λhk=>?_
  have:=R0 hk;subst this
  rw[hy] at h2
  have h2:=XZ h2
  exact ID hs (L9 ho hg (by rw[h1,h2];exact hf _ _ _))
 ·rename_i a e
  rw[e] at h1
  have h1:=Ue h1
  refine OQ λb hy=>?_
  rw[hy] at h2
  have h2:=Ue h2
  exact ID hs (L9 ho hg (by rw[h1,h2];exact hh _ _))
 ·trivial
theorem Ng: ∀a b:List UInt8,(Op.bytesLess a b||a==b)=!Op.bytesLess b a
 |[],[]=>rfl
 |[],_::_=>rfl
 |_::_,[]=>rfl
 |a::x,b::y=>by
  have ih:=Ng x y
  simp only[Op.bytesLess]
  have e1:((a::x)==(b::y))=(a==b&&x==y):=rfl
  rw[e1]
  rcases Nat.lt_trichotomy a.toNat b.toNat with h|h|h
  ·have h1:decide (a<b)=true:=Zd (Uj.2 h)
   have h2:decide (b<a)=false:=Zb (λz=>by have:=Uj.1 z;omega)
   have h3:(b==a)=false:=by rw[beq_eq_false_iff_ne];intro z;subst z;omega
   rw[h1,h2,h3];rfl
  ·have hab:a=b:=U9.1 h
   subst hab
   have h1:decide (a<a)=false:=Zb (λz=>by have:=Uj.1 z;omega)
   rw[h1]
   simpa using ih
  ·have h1:decide (a<b)=false:=Zb (λz=>by have:=Uj.1 z;omega)
   have h2:decide (b<a)=true:=Zd (Uj.2 h)
   have h3:(a==b)=false:=by rw[beq_eq_false_iff_ne];intro z;subst z;omega
   rw[h1,h2,h3];rfl
theorem ZfR(hs:WM P σ H w)(hρ:Qi P σ tm ρ){o:Oper}{t:TypeId}{x y:Operand}{u:TypeId}(ho:o.op=.binOp .lss t x y u):Xv P σ H w tm ρ o:=by
 unfold Xv;rw[ho]
 refine xJ hs hρ ho rfl (λk a b=>?_) λa b=>?_
 ·simp[binOp,Op.intCmp,X1,NY]
 ·simp[binOp,Op.stringOp,Jr]
theorem ZfO(hs:WM P σ H w)(hρ:Qi P σ tm ρ){o:Oper}{t:TypeId}{x y:Operand}{u:TypeId}(ho:o.op=.binOp .gtr t x y u):Xv P σ H w tm ρ o:=by
 unfold Xv;rw[ho]
 refine xJ hs hρ ho rfl (λk a b=>?_) λa b=>?_
 ·simp[binOp,Op.intCmp,Tf,NY]
 ·have:=Ng a b
  simp[binOp,Op.stringOp,W0,Jr,this]
theorem ZfQ(hs:WM P σ H w)(hρ:Qi P σ tm ρ){o:Oper}{t:TypeId}{x y:Operand}{u:TypeId}(ho:o.op=.binOp .leq t x y u):Xv P σ H w tm ρ o:=by
 unfold Xv;rw[ho]
 refine xJ hs hρ ho rfl (λk a b=>?_) λa b=>?_
 ·have:decide (a<=b)=!decide (b<a):=by rw[Vi];simp
  simp[binOp,Op.intCmp,Rm,NY,this]
 ·have:=Ng a b
  simp[binOp,Op.stringOp,Uo,Jr,this]
theorem ZfN(hs:WM P σ H w)(hρ:Qi P σ tm ρ){o:Oper}{t:TypeId}{x y:Operand}{u:TypeId}(ho:o.op=.binOp .geq t x y u):Xv P σ H w tm ρ o:=by
 unfold Xv;rw[ho]
 refine xJ hs hρ ho rfl (λk a b=>?_) λa b=>?_
 ·have:decide (b<=a)=!decide (a<b):=by rw[Vi];simp
  simp[binOp,Op.intCmp,SA,NY,this]
 ·simp[binOp,Op.stringOp,Wx,Jr]
theorem Zji(hs:WM P σ H w)(hρ:Qi P σ tm ρ){o:Oper}{op:UnOp}{t:TypeId}{x:Operand}(ho:o.op=.unOp op t x):Xv P σ H w tm ρ o:=by
 unfold Xv;rw[ho]
 have h1:=hρ x
 cases op with
 |neg=>
  refine QU λk a hx=>?_
  rw[hx] at h1
  have h1:=XZ h1
  rw[pL]
  exact Qn hs (by simp only[execOp,ho,h1];exact Vn (by simp[Op.unary,Op.intArith]))
 |not=>
  refine A0 λb hx=>?_
  rw[hx] at h1
  have h1:=Sn h1
  refine Yb hs (x:=.bool (!b)) (by simp only[execOp,ho,h1];exact Vn (by simp[Op.unary])) (by cases b<;>simp[Yk])
 |xor=>
  refine QU λk a hx=>?_
  rw[hx] at h1
  have h1:=XZ h1
  refine Qn hs ?_
  simp only[execOp,ho,h1]
  refine Vn ?_
  simp only[Op.unary]
  exact bU P w k a
 |plus=>trivial
theorem ZbD(hs:WM P σ H w)(hρ:Qi P σ tm ρ){o:Oper}{t:TypeId}{x:Operand}(ho:o.op=.makeInterface t x){d:TypeDesc}(ht:P.underlying t=some d)(hd:(d matches .interface _)=false):
  YZ P σ H w ((execOp ρ o).run P w) (MN (YM P x) t tm H):=by
 refine Yb hs (x:=.iface t (ρ x)) ?_ (by simp only[Yk];exact⟨_,hρ x,rfl⟩)
 simp only[execOp,ho]
 refine Vn ?_
 simp only[Instr.makeInterface,Sem.run_bind,run_underlying ht,Result.andThen_ok]
 cases d<;>first|rfl|cases hd
theorem Jh(hρ:Qi P σ tm ρ): ∀l:List Operand,YE σ (evs tm (l.map (YM P))) (l.map ρ)
 |[]=>Ud
 |x::l=>Ww (hρ x) (Jh hρ l)
theorem lj(hs:WM P σ H w)(hρ:Qi P σ tm ρ){o:Oper}{fn:Fn}{a b:Array Operand}(ho:o.op=.makeFunc fn a b):Xv P σ H w tm ρ o:=by
 unfold Xv;rw[ho]
 have hr:(execOp ρ o).run P w=.ok (.value (.func fn (a.map ρ) (b.map ρ))) w:=by
  simp only[execOp,ho]
  exact Vn (by simp[Instr.makeFunc])
 show YZ P σ H w _ ((match fn with
  |.func f=>Ib f (args P a) (args P b)
  |.method n=>Zdm P n a.toList b.toList
  |_=>Ub) tm H)
 split
 ·rename_i f
  refine Yb hs hr ?_
  simp only[Yk]
  refine⟨a.toList.map ρ,b.toList.map ρ,Jh hρ _,Jh hρ _,?_⟩
  congr 1<;>(apply Array.ext';simp)
 ·rename_i n
  obtain⟨a⟩:=a
  obtain⟨b⟩:=b
  match a,b with
  |[x],[]=>
   refine Yb hs hr ?_
   simp only[Yk]
   exact⟨ρ x,hρ x,by simp⟩
  |[],_=>trivial
  |[_],_::_=>trivial
  |_::_::_,_=>trivial
 ·trivial
theorem rF(hs:WM P σ H w)(hρ:Qi P σ tm ρ){o:Oper}{x:Operand}{i:Nat}(ho:o.op=.extract x i):Xv P σ H w tm ρ o:=by
 unfold Xv;rw[ho]
 refine ip λvs hx=>Pw λv hv=>?_
 have h1:=hρ x
 rw[hx] at h1
 simp only[Yk] at h1
 obtain⟨us,hu,e⟩:=h1
 rw[LU] at hv
 obtain⟨u,hu1,hu2⟩:=hu.get hv
 refine Yb hs (x:=u) ?_ hu2
 simp only[execOp,ho]
 refine Vn ?_
 rw[e]
 simp[Instr.extract,hu1]
theorem SL{r:Result Next}:YZ P σ H w r (Ub tm H):=trivial
theorem W2{b:Bool}{f g:VG}{r:Result Next}(h1:b=true->YZ P σ H w r (f tm H))(h2:b=false->YZ P σ H w r (g tm H)):YZ P σ H w r ((cond b f g) tm H):=by
 cases b with
 |false=>exact h2 rfl
 |true=>exact h1 rfl
theorem XV{t:Nat}{f:TypeInfo->VG}{r:Result Next}(h: ∀i,P.info? t=some i->YZ P σ H w r (f i tm H)):YZ P σ H w r (Ts P t f tm H):=by
 unfold Ts
 cases e:P.info? t with
 |none=>exact trivial
 |some i=>exact h i e
theorem Xn{t:Nat}{f:TypeDesc->VG}{r:Result Next}(h: ∀d,P.underlying t=some d->YZ P σ H w r (f d tm H)):YZ P σ H w r (Uc P t f tm H):=by
 unfold Uc
 cases e:P.underlying t with
 |none=>exact trivial
 |some i=>exact h i e
theorem UL{α:Type}{x:Option α}{f:α->VG}{r:Result Next}(h: ∀a,x=some a->YZ P σ H w r (f a tm H)):YZ P σ H w r (P1 x f tm H):=by
 cases x with
 |none=>exact trivial
 |some i=>exact h i rfl
theorem HJ{f:Array Field->VG}{d:TypeDesc}{r:Result Next}(h: ∀fs,d=.struct fs->YZ P σ H w r (f fs tm H)):YZ P σ H w r (x4 f d tm H):=by
 cases d<;>first|exact trivial|exact h _ rfl
theorem Ml{f:Nat->VG}{d:TypeDesc}{r:Result Next}(h: ∀e,d=.slice e->YZ P σ H w r (f e tm H)):YZ P σ H w r (BZ f d tm H):=by
 cases d<;>first|exact trivial|exact h _ rfl
theorem nS{f:Nat->VG}{d:TypeDesc}{r:Result Next}(h: ∀e,d=.pointer e->YZ P σ H w r (f e tm H)):YZ P σ H w r (Zj2 f d tm H):=by
 cases d<;>first|exact trivial|exact h _ rfl
theorem Cw{f:VG}{d:TypeDesc}{r:Result Next}(h:d=.int .u8->YZ P σ H w r (f tm H)):YZ P σ H w r (tU8 f d tm H):=by
 cases d with
 |int k=>cases k<;>first|exact trivial|exact h rfl
 |_=>exact trivial
theorem OC{t:Nat}{d:TypeDesc}(h:P.underlying t=some d):(isAgg t).run P w=.ok (ML P t) w:=by
 unfold isAgg ML
 rw[h]
 simp only[Sem.run_bind,run_underlying h,Result.andThen_ok]
 cases d<;>rfl
theorem WL{t:Nat}{i:TypeInfo}(h:P.info? t=some i):(sizeOf t).run P w=.ok i.size w:=by
 rw[run_sizeOf w h,Program.cellsOf,h];rfl
theorem UO{b o:Nat}{v:Value}(h:Yk σ (.ptr b o) v): ∃l,σ b=some l∧v=.pointer (some ⟨l.blk,l.base+o,none⟩):=by simpa only[Yk] using h
theorem Li{b o:Nat}{l:Loc}(h:σ b=some l):Yk σ (.ptr b o) (.pointer (some ⟨l.blk,l.base+o,none⟩)):=by simp only[Yk];exact⟨l,h,rfl⟩
theorem QQ(b o n:Nat):Addr.add ⟨b,o,none⟩ n=⟨b,o+n,none⟩:=by
 unfold Addr.add
 by_cases h:n=0
 ·rw[if_pos h,h];rfl
 ·rw[if_neg h]
theorem xK(hs:WM P σ H w)(hρ:Qi P σ tm ρ){o:Oper}{t:TypeId}{x:Operand}{f:Nat}(ho:o.op=.fieldAddr t x f):Xv P σ H w tm ρ o:=by
 unfold Xv;rw[ho]
 refine Xn λd hu=>HJ λfs hd=>UL λg hg=>XV λi hi=>W2 (λh1=>?_) λ_=>SL
 subst hd
 refine PW λb off hx=>?_
 have h1':=hρ x
 rw[hx] at h1'
 obtain⟨l,hl,e⟩:=UO h1'
 rw[Xa] at h1
 have h1:1<=i.size:=Zm h1
 refine Yb hs ?_ (Li hl)
 simp only[execOp,ho]
 refine Vn ?_
 rw[e]
 simp only[Instr.fieldAt,Sem.run_bind,run_underlying hu,Result.andThen_ok,hg,Instr.sureAddr,Sem.run_pure,fieldPlace,WL hi]
 rw[if_neg (by omega)]
 simp only[Sem.run_pure,Result.andThen_ok,QQ,UJ]
 rfl
theorem ei(hs:WM P σ H w)(hρ:Qi P σ tm ρ){o:Oper}{t:TypeId}{x:Operand}{f:Nat}(ho:o.op=.field t x f):Xv P σ H w tm ρ o:=by
 unfold Xv;rw[ho]
 refine Xn λd hu=>HJ λfs hd=>UL λg hg=>XV λi hi=>Xn λd2 hu2=>?_
 subst hd
 have hag:=OC (w:=w) hu2
 refine W2 (λh1=>?_) λh1=>?_
 ·refine HG λcs hx=>?_
  have h1':=hρ x
  rw[hx] at h1'
  simp only[Yk] at h1'
  obtain⟨vs,hvs,hone,e⟩:=h1'
  rw[h1] at hag
  refine Yb hs (x:=.agg ⟨(vs.drop g.offset).take i.size⟩) ?_ ?_
  ·simp only[execOp,ho]
   refine Vn ?_
   rw[e]
   simp only[Instr.field,Sem.run_bind,run_underlying hu,Result.andThen_ok,hg,asAgg,Sem.run_pure,part,hag,if_true,WL hi]
   congr 2
   apply Array.ext'
   simp[Ve]
  ·rw[Lt,MZ]
   simp only[Yk]
   exact⟨_,(hvs.drop _).take _,λy hy=>hone y (UA (VO hy)),rfl⟩
 ·refine HG λcs hx=>Pw λv hv=>?_
  have h1':=hρ x
  rw[hx] at h1'
  simp only[Yk] at h1'
  obtain⟨vs,hvs,hone,e⟩:=h1'
  rw[h1] at hag
  rw[LU] at hv
  obtain⟨u,hu1,hu2⟩:=hvs.get hv
  refine Yb hs (x:=u) ?_ hu2
  simp only[execOp,ho]
  refine Vn ?_
  rw[e]
  simp only[Instr.field,Sem.run_bind,run_underlying hu,Result.andThen_ok,hg,asAgg,Sem.run_pure,part,hag]
  simp[hu1]
theorem xL(hs:WM P σ H w)(hρ:Qi P σ tm ρ){o:Oper}{t:TypeId}{x i:Operand}(ho:o.op=.indexAddr t x i):Xv P σ H w tm ρ o:=by
 unfold Xv;rw[ho]
 refine Xn λd hu=>?_
 cases d<;>try exact trivial
 case slice el=>
  refine XV λj hj=>Rl λk n hn=>Ra (λ_=>trivial) λb off len cap hx=>Yh λhlt=>?_
  have h1:=hρ x
  have h2:=hρ i
  rw[hx] at h1;rw[hn] at h2
  simp only[Yk] at h1
  obtain⟨l,hl,e⟩:=h1
  have h2:=XZ h2
  rw[Xa] at hlt
  have hlt:n+1<=len:=Zm hlt
  refine Yb hs ?_ (Li hl)
  simp only[execOp,ho]
  refine Vn ?_
  rw[e,h2]
  simp only[Instr.indexAt,Sem.run_bind,asIntOf,Sem.run_pure,Result.andThen_ok,run_underlying hu]
  rw[if_pos (by constructor<;>simp only[YD]<;>omega)]
  simp only[Sem.run_bind,WL hj,Result.andThen_ok,Sem.run_pure,QQ,UJ,YD,WD]
  rfl
 case array m el=>
  refine XV λj hj=>Rl λk n hn=>PW λb off hx=>Yh λhlt=>?_
  have h1:=hρ x
  have h2:=hρ i
  rw[hx] at h1;rw[hn] at h2
  obtain⟨l,hl,e⟩:=UO h1
  have h2:=XZ h2
  rw[Xa] at hlt
  have hlt:n+1<=m:=Zm hlt
  refine Yb hs ?_ (Li hl)
  simp only[execOp,ho]
  refine Vn ?_
  rw[e,h2]
  simp only[Instr.indexAt,Sem.run_bind,asIntOf,Sem.run_pure,Result.andThen_ok,run_underlying hu,Instr.sureAddr]
  rw[if_pos (by constructor<;>simp only[YD]<;>omega)]
  simp only[Sem.run_bind,WL hj,Result.andThen_ok,Sem.run_pure,QQ,UJ,YD,WD]
  rfl
theorem ek(hs:WM P σ H w)(hρ:Qi P σ tm ρ){o:Oper}{t:TypeId}{x i:Operand}(ho:o.op=.index t x i):Xv P σ H w tm ρ o:=by
 unfold Xv;rw[ho]
 refine Xn λd hu=>?_
 cases d<;>try exact trivial
 case string=>
  refine Rl λk n hn=>OQ λs hx=>Pw λb hb=>Mk ?_
  have h1:=hρ x
  have h2:=hρ i
  rw[hx] at h1;rw[hn] at h2
  have h1:=Ue h1
  have h2:=XZ h2
  rw[xF] at hb
  refine Yb hs (x:=.int .u8 b.toNat) ?_ (by simp[Yk])
  simp only[execOp,ho]
  refine Vn ?_
  rw[h1,h2]
  have hb':(ByteArray.mk s.toArray)[n]? =some b:=by
   rw[<-hb]
   by_cases h:n<s.length
   ·have h':n<(ByteArray.mk s.toArray).size:=by rw[Mw];exact h
    rw[getElem?_pos (ByteArray.mk s.toArray) n h',Zk h];rfl
   ·rw[getElem?_neg (ByteArray.mk s.toArray) n (by rw[Mw];exact h),YP (by omega)]
  simp only[Instr.index,Sem.run_bind,asIntOf,Sem.run_pure,Result.andThen_ok,run_underlying hu]
  rw[if_pos (by simp only[YD];omega)]
  simp only[YD,WD,hb',Sem.run_pure]
 case array m el=>
  refine XV λj hj=>Xn λd2 hu2=>?_
  have hag:=OC (w:=w) hu2
  refine W2 (λh1=>?_) λh1=>W2 (λhz=>?_) λ_=>SL
  ·refine Rl λk n hn=>HG λcs hx=>Yh λhlt=>?_
   have g1:=hρ x
   have g2:=hρ i
   rw[hx] at g1;rw[hn] at g2
   have g2:=XZ g2
   simp only[Yk] at g1
   obtain⟨vs,hvs,hone,e⟩:=g1
   rw[h1] at hag
   rw[Xa] at hlt
   have hlt:n+1<=m:=Zm hlt
   refine Yb hs (x:=.agg ⟨(vs.drop (n*j.size)).take j.size⟩) ?_ ?_
   ·simp only[execOp,ho]
    refine Vn ?_
    rw[e,g2]
    simp only[Instr.index,Sem.run_bind,asIntOf,Sem.run_pure,Result.andThen_ok,run_underlying hu]
    rw[if_pos (by constructor<;>simp only[YD]<;>omega)]
    simp only[Sem.run_bind,WL hj,Result.andThen_ok,part,hag,if_true,Sem.run_pure,YD,WD]
    congr 2
    apply Array.ext'
    simp[Ve]
   ·rw[Lt,MZ]
    simp only[Yk]
    exact⟨_,(hvs.drop _).take _,λy hy=>hone y (UA (VO hy)),rfl⟩
  ·refine Rl λk n hn=>HG λcs hx=>Yh λhlt=>Pw λv hv=>?_
   have g1:=hρ x
   have g2:=hρ i
   rw[hx] at g1;rw[hn] at g2
   have g2:=XZ g2
   simp only[Yk] at g1
   obtain⟨vs,hvs,hone,e⟩:=g1
   rw[h1] at hag
   rw[Xa] at hlt
   have hlt:n+1<=m:=Zm hlt
   rw[Yp] at hz
   have hz:j.size=1:=Zm hz
   rw[LU] at hv
   obtain⟨u,hu1,ZmP⟩:=hvs.get hv
   refine Yb hs (x:=u) ?_ ZmP
   simp only[execOp,ho]
   refine Vn ?_
   rw[e,g2]
   simp only[Instr.index,Sem.run_bind,asIntOf,Sem.run_pure,Result.andThen_ok,run_underlying hu]
   rw[if_pos (by constructor<;>simp only[YD]<;>omega)]
   simp only[Sem.run_bind,WL hj,Result.andThen_ok,part,hag,YD,WD,hz,Xr]
   simp[hu1]
theorem IB{r:Result Next}{x:Option Operand}{dflt top:Nat}{f:Nat->OR}(hρ:Qi P σ tm ρ)
  (h: ∀n,(∀code,(match x.map ρ with|some v=>Instr.sliceBound v top code|none=>pure dflt:Sem Nat).run P w=.ok n w)->((x=none∧n=dflt)∨(x.isSome=true∧n<=top))->YZ P σ H w r (f n)):
  YZ P σ H w r (qO tm (opt P x) dflt top f):=by
 cases x with
 |none=>exact h dflt (λ_=>rfl) (.inl ⟨rfl,rfl⟩)
 |some x=>
  refine Rl (v:=YM P x tm) λk n hn=>Yh λhle=>?_
  rw[Xa] at hle
  have hle:n<=top:=Zm hle
  refine h n (λcode=>?_) (.inr ⟨rfl,hle⟩)
  have h1:=hρ x
  rw[hn] at h1
  have h1:=XZ h1
  simp only[XA,h1,Instr.sliceBound,Sem.run_bind,asIntOf,Sem.run_pure,Result.andThen_ok]
  rw[if_pos (by constructor<;>simp only[YD]<;>omega)]
  simp
theorem OP{r:Result Next}{lo hi mx:Option Operand}{len cap capC:Nat}{f:Nat->Nat->Nat->OR}(isSlice:Bool)(hρ:Qi P σ tm ρ)(hmx:mx.isSome=true->hi.isSome=true)(hc:cap<=capC)
  (h: ∀l h m mC,(Instr.sliceBounds isSlice len capC (lo.map ρ) (hi.map ρ) (mx.map ρ)).run P w=.ok (l,h,mC) w->l<=h->m<=cap->(mx=none->m=cap∧mC=capC)->(mx.isSome=true->m=mC)->(hi=none->h=len)->(hi.isSome=true->h<=m)->YZ P σ H w r (f l h m)):
  YZ P σ H w r (Io tm (opt P lo) (opt P hi) (opt P mx) len cap f):=by
 unfold Io
 have up: ∀(x:Option Operand) (dflt top topC n:Nat),top<=topC->(∀code,(match x.map ρ with|some v=>Instr.sliceBound v top code|none=>pure dflt:Sem Nat).run P w=.ok n w)->((x=none∧n=dflt)∨(x.isSome=true∧n<=top))->
   (∀d2,(x=none->d2=n)-> ∀code,(match x.map ρ with|some v=>Instr.sliceBound v topC code|none=>pure d2:Sem Nat).run P w=.ok n w):=by
  intro x dflt top topC n ht h1 h2 d2 hd code
  cases x with
  |none=>rw[hd rfl];rfl
  |some x=>
   have h1:=h1 code
   simp only[XA] at h1 ⊢
   have h2:n<=top:=by rcases h2 with⟨h2,_⟩|⟨_,h2⟩;cases h2;exact h2
   unfold Instr.sliceBound at h1 ⊢
   cases hv:ρ x<;>rw[hv] at h1<;>simp only[asIntOf,Sem.run_bind,Sem.run_pure,Result.andThen_ok,run_stuck,Result.andThen_halt,run_unsupported] at h1 ⊢
   case int k i=>
    by_cases hh:0<=i∧i<=(top:Int)
    ·rw[if_pos hh] at h1
     rw[if_pos (by omega)];exact h1
    ·rw[if_neg hh] at h1
     exfalso
     have hr:=h1
     first
      |(obtain⟨s',w',hp⟩:=run_boundsPanic (P:=P) (w:=w) (α:=Nat) _ i top code
        rw[hp] at hr;cases hr)
      |(obtain⟨s',w',hp⟩:=run_boundsPanic (P:=P) (w:=w) (α:=Nat) _ i top code
        simp[hp] at hr)
   all_goals (first|cases h1|(rename_i p;cases p<;>simp at h1))
 refine IB hρ λm hm hm2=>IB hρ λhh hh1 hh2=>IB hρ λl hl hl2=>?_
 have hmc:m<=cap:=by rcases hm2 with⟨_,e⟩|⟨_,e⟩<;>omega
 have hlh:l<=hh:=by rcases hl2 with⟨_,e⟩|⟨_,e⟩<;>omega
 have fin: ∀mC,(mx=none->m=cap∧mC=capC)->(mx.isSome=true->m=mC)->(Instr.sliceBounds isSlice len capC (lo.map ρ) (hi.map ρ) (mx.map ρ)).run P w=.ok (l,hh,mC) w->YZ P σ H w r (f l hh m):=by
  intro mC q1 q2 q3
  refine h l hh m mC q3 hlh hmc q1 q2 (λe=>?_) (λe=>?_)
  ·rcases hh2 with⟨_,e2⟩|⟨e2,_⟩;exact e2;rw[e] at e2;cases e2
  ·rcases hh2 with⟨e2,_⟩|⟨_,e2⟩;rw[e2] at e;cases e;exact e2
 cases mx with
 |none=>
  have hm':m=cap:=by rcases hm2 with⟨_,e⟩|⟨e,_⟩;exact e;cases e
  refine fin capC (λ_=>⟨hm',rfl⟩) (λe=>by cases e) ?_
  have h2:=up hi len m capC hh (by omega) hh1 hh2
  unfold Instr.sliceBounds
  cases hi with
  |none=>
   have e1:hh=len:=by rcases hh2 with⟨_,e⟩|⟨e,_⟩;exact e;cases e
   subst e1
   cases lo with
   |none=>
    have e2:l=0:=by rcases hl2 with⟨_,e⟩|⟨e,_⟩;exact e;cases e
    subst e2;simp
   |some lo=>have hl':=λc=>hl c;simp only[XA] at hl';simp[hl']
  |some hi=>
   have h2':=λc=>h2 0 (λe=>by cases e) c
   simp only[XA] at h2'
   cases lo with
   |none=>
    have e2:l=0:=by rcases hl2 with⟨_,e⟩|⟨e,_⟩;exact e;cases e
    subst e2;simp[h2']
   |some lo=>have hl':=λc=>hl c;simp only[XA] at hl';simp[hl',h2']
 |some mx=>
  refine fin m (λe=>by cases e) (λ_=>rfl) ?_
  have h3:=up (some mx) cap cap capC m hc hm hm2
  have h3':=λc=>h3 0 (λe=>by cases e) c
  simp only[XA] at h3'
  unfold Instr.sliceBounds
  cases hi with
  |none=>have:=hmx rfl;cases this
  |some hi=>
   have hh':=λc=>hh1 c
   simp only[XA] at hh'
   cases lo with
   |none=>
    have e2:l=0:=by rcases hl2 with⟨_,e⟩|⟨e,_⟩;exact e;cases e
    subst e2;simp[hh',h3']
   |some lo=>
    have hl':=λc=>hl c
    simp only[XA] at hl'
    simp[hl',hh',h3']
end
section
variable {P:Program} {σ:Mp} {H:Heap} {w:World}
theorem WM.row(hs:WM P σ H w){b:Nat}{r:Row}{l:Loc}(hb:H.t.get b=some (.row r))(hl:σ b=some l):
  ∃cs fr,w.heap[l.blk]? =some (.cells cs r.elem fr)∧Pc σ r l cs fr:=by
 obtain⟨c,hc,ho⟩:=hs.alive b _ l hb hl
 obtain⟨cs,fr,rfl,hr⟩:=ho
 exact⟨cs,fr,hc,hr⟩
theorem Ho{w:World}{g:Nat}{cs:Array Value}{t:TypeId}{fr:Nat×Nat}(h:w.heap[g]? =some (.cells cs t fr))(i:Nat):w.cell? ⟨g,i,none⟩=cs[i]? :=
 cell_of_row w g i cs t fr h
theorem Row.get_eq(r:Row)(i:Nat):r.get i=(r.cells.get i).getD r.dflt:=by
 unfold Row.get
 cases r.cells.get i<;>rfl
theorem Qq(r:Row): ∀(n o:Nat),(VB r o n).length=n
 |0,_=>rfl
 |n+1,o=>by simp[VB,Qq r n]
theorem Oz{r:Row}{l:Loc}{cs:Array Value}{fr:Nat×Nat}(h:Pc σ r l cs fr): ∀(n o:Nat),o+n<=r.size->
  ∃vs,YE σ (VB r o n) vs∧vs.length=n∧(∀(j:Nat) (v:Value),vs[j]? =some v->cs[l.base+o+j]? =some v)∧ ∀v∈vs,v.oneCell'=true
 |0,o,_=>⟨[],Ud,rfl,by simp,by simp⟩
 |n+1,o,ho=>by
  obtain⟨v,hv,hr⟩:=h.cell o (by omega)
  obtain⟨vs,h1,h2,h3,h4⟩:=Oz h n (o+1) (by omega)
  refine⟨v::vs,Ww hr h1,by simp[h2],?_,?_⟩
  ·intro j u hj
   cases j with
   |zero=>simp at hj;subst hj;exact hv
   |succ j=>
    have:=h3 j u (by simpa using hj)
    rw[<-this];congr 1;omega
  ·intro u hu
   rcases ZR.1 hu with rfl|hu
   ·exact h.one _ _ (by omega) hv
   ·exact h4 u hu
theorem Qc{g o:Nat}{cs:Array Value}{t:TypeId}{fr:Nat×Nat}(h:w.heap[g]? =some (.cells cs t fr))(vs:List Value)
  (hv: ∀(j:Nat) (v:Value),vs[j]? =some v->cs[o+j]? =some v):(loadCells ⟨g,o,none⟩ vs.length).run P w=.ok vs.toArray w:=by
 refine run_loadCells_list (w:=w) ⟨g,o,none⟩ vs λj v hj=>?_
 rw[QQ,Ho h]
 exact hv j v hj
def Q8(cs:Array Value)(o:Nat):List Value->Array Value
 |[]=>cs
 |v::vs=>Q8 (cs.setIfInBounds o v) (o+1) vs
theorem OJ(vs:List Value): ∀(cs:Array Value) (o:Nat),(Q8 cs o vs).size=cs.size:=by
 induction vs with
 |nil=>intro cs o;rfl
 |cons v vs ih=>intro cs o;simp[Q8,ih]
theorem P6(vs:List Value): ∀(cs:Array Value) (o i:Nat),o+vs.length<=cs.size->
  (Q8 cs o vs)[i]? =if o<=i∧i<o+vs.length then vs[i - o]? else cs[i]? :=by
 induction vs with
 |nil=>intro cs o i _;rw[if_neg (by simp)];rfl
 |cons v vs ih=>
  intro cs o i h
  simp only[Ye] at h ⊢
  show(Q8 (cs.setIfInBounds o v) (o+1) vs)[i]? =_
  rw[ih _ _ _ (by simp;omega)]
  by_cases h1:o+1<=i∧i<o+1+vs.length
  ·rw[if_pos h1,if_pos (by omega),show i - o=(i - (o+1))+1 by omega];simp
  ·rw[if_neg h1,YO]
   by_cases h2:o=i
   ·subst h2
    rw[if_pos rfl,if_pos (by omega),if_pos (by omega)];simp
   ·rw[if_neg h2,if_neg (by omega)]
theorem OG(vs:List AV): ∀(c:T AV) (o i:Nat),(YQ c o vs).get i=if o<=i∧i<o+vs.length then vs[i - o]? else c.get i:=by
 induction vs with
 |nil=>intro c o i;rw[if_neg (by simp)];rfl
 |cons v vs ih=>
  intro c o i
  show(YQ (c.set o v) (o+1) vs).get i=_
  rw[ih,T.get_set]
  simp only[Ye]
  by_cases h1:o+1<=i∧i<o+1+vs.length
  ·rw[if_pos h1,if_pos (by omega),show i - o=(i - (o+1))+1 by omega];simp
  ·rw[if_neg h1]
   by_cases h2:o=i
   ·subst h2;rw[if_pos rfl,if_pos (by omega)];simp
   ·rw[if_neg h2,if_neg (by omega)]
structure As(w w':World)(g:Nat)(c:Go.Obj):Prop where
 size:w'.heap.size=w.heap.size
 new:w'.heap[g]? =some c
 old: ∀k,k≠g->w'.heap[k]? =w.heap[k]?
 tape:w'.tape=w.tape
 os:w'.os=w.os
 out:w'.output=w.output
theorem An{w:World}{g i:Nat}{cs:Array Value}{t:TypeId}{fr:Nat×Nat}(h:w.heap[g]? =some (.cells cs t fr))(v:Value):
  As w (w.setCell ⟨g,i,none⟩ v) g (.cells (cs.setIfInBounds i v) t fr):=by
 have hlt:=(ZO.1 h).1
 refine⟨by simp[World.setCell],?_,λk hk=>?_,rfl,rfl,rfl⟩
 ·simp only[World.setCell,WH]
  rw[h];simp
 ·simp only[World.setCell,WH]
  rw[if_neg (λe=>hk e.symm)]
theorem nL{w:World}{g i:Nat}{cs:Array Value}{t:TypeId}{fr:Nat×Nat}(h:w.heap[g]? =some (.cells cs t fr))(hf: ¬(fr.1<=i∧i<fr.2)):w.frozen? ⟨g,i,none⟩=false:=by
 unfold World.frozen?
 rw[h]
 obtain⟨a,b⟩:=fr
 simp only[Bool.and_eq_false_iff,decide_eq_false_iff_not]
 simp only at hf
 omega
theorem No{P:Program}{g o:Nat}{t:TypeId}{fr:Nat×Nat}: ∀(vs:List Value) (i:Nat) (w:World) (cs:Array Value),w.heap[g]? =some (.cells cs t fr)->
  o+i+vs.length<=cs.size->(∀v∈vs,v.oneCell'=true)->(∀j,j<vs.length-> ¬(fr.1<=o+i+j∧o+i+j<fr.2))->
  ∃w',(storeCells ⟨g,o,none⟩ vs i).run P w=.ok () w'∧As w w' g (.cells (Q8 cs (o+i) vs) t fr)
 |[],i,w,cs,h,_,_,_=>⟨w,rfl,⟨rfl,h,λ_ _=>rfl,rfl,rfl,rfl⟩⟩
 |v::vs,i,w,cs,h,hsz,hone,hfr=>by
  simp only[Ye] at hsz hfr
  have hw:=An (i:=o+i) h v
  obtain⟨w',hr,h'⟩:=No (P:=P) (g:=g) (o:=o) (t:=t) (fr:=fr) vs (i+1) (w.setCell ⟨g,o+i,none⟩ v) (cs.setIfInBounds (o+i) v) hw.new
   (by simp;omega) (λu hu=>hone u (by simp[hu])) (λj hj=>by have:=hfr (j+1) (by omega);rwa [show o+(i+1)+j=o+i+(j+1) by omega])
  refine⟨w',?_,?_⟩
  ·simp only[storeCells,Sem.run_bind,QQ]
   rw[run_store P w _ v .plain (hone v (by simp)),Ho h,Vd (by omega)]
   simp only
   rw[nL h (by have:=hfr 0 (by omega);simpa using this)]
   simp only[XH,if_false,Result.andThen_ok]
   exact hr
  ·refine⟨by rw[h'.size,hw.size],?_,λk hk=>by rw[h'.old k hk,hw.old k hk],by rw[h'.tape,hw.tape],by rw[h'.os,hw.os],by rw[h'.out,hw.out]⟩
   rw[h'.new];rfl
theorem Wr.of_may{b:Nat}{r:Row}(h:H.may r b=true)(hb:H.t.get b=some (.row r)):Wr H b∧r.own=true:=by
 unfold Heap.may at h
 cases ho:r.own with
 |false=>rw[ho] at h;cases h
 |true=>
  rw[ho] at h
  have:H.ro<=b:=ZT h
  refine⟨⟨this,_,hb,λr' e=>?_,λe=>by cases e⟩,rfl⟩
  cases e;exact ho
theorem FZ(hs:WM P σ H w){b:Nat}{r:Row}{l:Loc}(hb:H.t.get b=some (.row r))(hl:σ b=some l)(NX:H.may r b=true){o:Nat}{as:List AV}{vs:List Value}
  (ha:YE σ as vs)(hone: ∀v∈vs,v.oneCell'=true)(hsz:o+vs.length<=r.size)(hfz:r.fz<=o):
  ∃w',(storeCells ⟨l.blk,l.base+o,none⟩ vs 0).run P w=.ok () w'∧Tr P σ H w σ (H.put b (.row (r.setCells (YQ r.cells o as)))) w':=by
 obtain⟨cs,fr,hc,hr⟩:=hs.row hb hl
 obtain⟨hwr,hown⟩:=Wr.of_may NX hb
 have h1:=hr.fits
 have h2:=hr.room
 have hlen:=ha.length
 obtain⟨w',hrun,hw⟩:=No (P:=P) (o:=l.base+o) vs 0 w cs hc (by omega) hone (λj hj=>by
  have:=hr.frz hown (o+j) (by omega) (by omega)
  rwa [show l.base+o+0+j=l.base+(o+j) by omega])
 refine⟨w',hrun,Tr.write hs hb hl hwr hw.size hw.new hw.old ⟨_,fr,rfl,?_⟩ hw.tape hw.os hw.out⟩
 refine⟨hr.sz,hr.sz1,hr.fits,by rw[OJ];exact hr.room,λe=>by rw[OJ];exact hr.exact e,?_,?_,hr.frz,hr.frs⟩
 ·intro i hi
  have hi:i<r.size:=hi
  rw[Row.get_eq]
  show ∃v,_∧Yk σ (((YQ r.cells o as).get i).getD r.dflt) v
  rw[OG,P6 _ _ _ _ (by omega)]
  by_cases hin:o<=i∧i<o+as.length
  ·rw[if_pos hin,if_pos (by omega)]
   obtain⟨a,hga⟩: ∃a,as[i - o]? =some a:=⟨as[i - o]'(by omega),Zk (by omega)⟩
   obtain⟨v,hv,hrel⟩:=ha.get hga
   refine⟨v,?_,?_⟩
   ·rw[show l.base+i - (l.base+o+0)=i - o by omega];exact hv
   ·rw[hga];exact hrel
  ·rw[if_neg hin,if_neg (by omega)]
   obtain⟨v,hv,hrel⟩:=hr.cell i hi
   rw[Row.get_eq] at hrel
   exact⟨v,hv,hrel⟩
 ·intro i v hi hv
  have hi:i<r.size:=hi
  rw[P6 _ _ _ _ (by omega)] at hv
  split at hv
  ·exact hone v (VN hv)
  ·exact hr.one i v hi hv
end
theorem wx{n:Nat}(h:n % 2=1):bits n=true::bits (n/2):=by
 unfold bits
 obtain⟨m,rfl⟩: ∃m,n=m+1:=⟨n - 1,by omega⟩
 rw[Pf,if_neg (by omega),if_pos h,LA ((m+1)/2) _ m (Zo _) (by omega)]
theorem Ax{n:Nat}(h0:n≠0)(h:n % 2=0):bits n=false::bits (n/2 - 1):=by
 unfold bits
 obtain⟨m,rfl⟩: ∃m,n=m+1:=⟨n - 1,by omega⟩
 rw[Pf,if_neg (by omega),if_neg (by omega),LA ((m+1)/2 - 1) _ m (Zo _) (by omega)]
namespace T
variable {α:Type}
theorem ii(l r:T α)(v:Option α)(n:Nat):(T.node l v r).get n=if n=0 then v else if n % 2=1 then l.get (n/2) else r.get (n/2 - 1):=by
 unfold get
 by_cases h0:n=0
 ·subst h0;rfl
 ·rw[if_neg h0]
  by_cases h1:n % 2=1
  ·rw[if_pos h1,wx h1];rfl
  ·rw[if_neg h1,Ax h0 (by omega)];rfl
theorem Bf: ∀(l:List α) (k:Nat),(Rz l)[k]? =l[2*k]?
 |[],k=>by simp[Rz]
 |[x],k=>by cases k<;>simp[Rz]
 |x::y::l,0=>by simp[Rz]
 |x::y::l,k+1=>by
  show(x::Rz l)[k+1]? =(x::y::l)[2*(k+1)]?
  rw[show 2*(k+1)=(2*k+1)+1 by omega]
  simp[Bf l k]
theorem Jc: ∀l:List α,(Rz l).length<=l.length
 |[]=>by simp[Rz]
 |[x]=>by simp[Rz]
 |x::y::l=>by have:=Jc l;simp[Rz];omega
theorem KR: ∀(f:Nat) (l:List α) (i:Nat),l.length<=f->(Qs f l).get i=l[i]?
 |0,l,i,h=>by
  have:l=[]:=by cases l<;>simp_all
  subst this;simp[Qs,get_leaf]
 |f+1,[],i,_=>by simp[Qs,get_leaf]
 |f+1,x::l,i,h=>by
  simp only[Ye] at h
  show(T.node (Qs f (Rz l)) (some x) (Qs f (Rz l.tail))).get i=_
  rw[ii]
  by_cases h0:i=0
  ·subst h0;simp
  ·rw[if_neg h0]
   by_cases h1:i % 2=1
   ·rw[if_pos h1,KR f _ _ (by have:=Jc l;omega),Bf]
    rw[show 2*(i/2)=i - 1 by omega]
    obtain⟨k,rfl⟩: ∃k,i=k+1:=⟨i - 1,by omega⟩
    simp
   ·rw[if_neg h1,KR f _ _ (by have:=Jc l.tail;simp at this;omega),Bf]
    rw[show 2*(i/2 - 1)=i - 2 by omega]
    obtain⟨k,rfl⟩: ∃k,i=k+2:=⟨i - 2,by omega⟩
    simp
theorem xn(l:List α):Zi5 l=l.length:=Yz l
theorem get_ofList(l:List α)(i:Nat):(ofList l).get i=l[i]? :=KR _ _ _ (by rw[xn];exact Zo _)
end T
section
variable {P:Program} {σ:Mp} {H:Heap} {w:World}
theorem IX{σ:Mp}{e sz tot:Nat}{as:List AV}{vs rest:List Value}{sm exact:Bool}{blk:Nat}{fr:Nat×Nat}(ha:YE σ as vs)(hone: ∀v∈vs++rest,v.oneCell'=true)(hsz:1<=sz)
  (hfit:as.length<=tot*sz)(hroom:tot*sz<=(vs++rest).length)(hex:exact=true->as.length=tot*sz∧rest=[])(hfr:if sm then tot*sz<=fr.1 else fr.1=fr.2):
  Pc σ ⟨e,sz,YL as,T.ofList as,.unk,0,sm,true,exact⟩ ⟨blk,0,tot,sz⟩ ⟨vs++rest⟩ fr:=by
 have hlen:=ha.length
 refine⟨rfl,hsz,by rw[Yz];exact hfit,by simpa using hroom,λh=>?_,?_,?_,?_,?_⟩
 ·obtain⟨h1,h2⟩:=hex h
  subst h2
  exact⟨by rw[Yz];exact h1,rfl,by rw[Yz];simp[hlen]⟩
 ·intro i hi
  have hi:i<as.length:=by rw[<-Yz];exact hi
  rw[Row.get_eq]
  show ∃v,_∧Yk σ (((T.ofList as).get i).getD .unk) v
  rw[T.get_ofList,Zk hi]
  obtain⟨v,hv,hr⟩:=ha.get (Zk hi)
  refine⟨v,?_,hr⟩
  simp only[Zf,Wa]
  rw[Z1 (by omega)]
  exact hv
 ·intro i v _ hv
  simp only[Wa] at hv
  exact hone v (VN hv)
 ·intro _ i _ hi
  cases sm with
  |true=>simp only[if_true] at hfr;simp only at hi ⊢;omega
  |false=>simp only[XH,if_false] at hfr;simp only at hi ⊢;omega
 ·intro _ hsm
  have hsm:sm=false:=hsm
  subst hsm
  simp only[XH,if_false] at hfr
  exact .inl hfr
theorem JF(hs:WM P σ H w){e sz tot:Nat}{as:List AV}{vs:List Value}(ha:YE σ as vs)(hone: ∀v∈vs,v.oneCell'=true)(hsz:1<=sz)(hlen:as.length=tot*sz):
  Tr P σ H w (σ.put H.nx ⟨w.heap.size,0,tot,sz⟩) (H.newRow e sz as true) (w.alloc (.cells ⟨vs⟩ e)):=by
 refine Tr.alloc hs _ _ _ rfl ⟨⟨vs⟩,(0,0),rfl,?_⟩
 have:=IX (σ:=σ.put H.nx ⟨w.heap.size,0,tot,sz⟩) (e:=e) (sm:=false) (exact:=true) (blk:=w.heap.size) (fr:=(0,0)) (rest:=[]) (ha.mono (Mp.put_ext _ (hs.fresh (Zo _)))) (by simpa using hone) hsz (by omega) (by simp;have:=ha.length;omega) (λ_=>⟨hlen,rfl⟩) rfl
 simpa using this
theorem pW(hs:WM P σ H w){e n:Nat}{a:AV}{v:Value}(ha:Yk σ a v)(hone:v.oneCell'=true):
  Tr P σ H w (σ.put H.nx ⟨w.heap.size,0,n,1⟩) (H.new (.row ⟨e,1,n,.leaf,a,0,false,true,true⟩)) (w.alloc (.cells ⟨List.replicate n v⟩ e)):=by
 refine Tr.alloc hs _ _ _ rfl ⟨_,(0,0),rfl,⟨rfl,Zo _,by simp,by simp,λ_=>⟨by simp,rfl,by simp⟩,?_,?_,?_,?_⟩⟩
 ·intro i hi
  have hi:i<n:=hi
  rw[Row.get_eq]
  refine⟨v,?_,?_⟩
  ·simp[Vr,hi]
  ·rw[T.get_leaf];exact ha.mono (Mp.put_ext _ (hs.fresh (Zo _)))
 ·intro i u _ hu
  simp only[Wa,Vr] at hu
  split at hu
  ·cases hu;exact hone
  ·cases hu
 ·intro _ i _ hi;simp only;omega
 ·intro _ _;exact .inl rfl
end
section
variable {P:Program} {σ:Mp} {H:Heap} {w:World} {tm:TM} {ρ:Operand->Value}
theorem JL{σ:Mp}{b:Nat}{l:Loc}(hb:l.base=0):Yk (σ.put b l) (.ptr b 0) (.pointer (some ⟨l.blk,0,none⟩)):=by
 simp only[Yk];exact⟨l,Mp.put_same _ _ _,by rw[hb]⟩
theorem Rf{σ:Mp}{b n:Nat}{l:Loc}(hb:l.base=0):Yk (σ.put b l) (.slice b 0 n none) (.slice (some ⟨l.blk,0,none⟩) n l.tot):=by
 simp only[Yk];exact⟨l,Mp.put_same _ _ _,by rw[hb];simp⟩
theorem VW{r:Result Next}{σ':Mp}{H':Heap}{w':World}{v:AV}{x:Value}(ht:Tr P σ H w σ' H' w')(hr:r=.ok (.value x) w')(hx:Yk σ' v x):YZ P σ H w r (.val v H'):=
 ⟨σ',w',x,.inl hr,hx,ht⟩
theorem SR{t:Nat}{i:TypeInfo}{z:Value}(h:P.info? t=some i)(hz:i.zero=some z):(zeroValue t).run P w=.ok z w:=by
 simp[zeroValue,typeInfo,h,hz]
theorem RR(z:Value)(h:1<=(W9 z).cells.length):YE σ (W9 z).cells z.cells.toList∧ ∀x∈z.cells.toList,x.oneCell'=true:=(Ol σ z).cells h
theorem qH{kd:IntKind}{m:Int}: ∀{l:List Value},ak kd m l=true->l=List.replicate l.length (.int kd m)
 |[],_=>rfl
 |v::l,h=>by
  unfold ak at h
  split at h
  ·rename_i j n
   cases h1:Nl kd j with
   |false=>rw[h1] at h;cases h
   |true=>
    have:=R0 h1;subst this
    rw[h1] at h
    cases h2:Fc m n with
    |false=>rw[h2] at h;cases h
    |true=>
     rw[h2] at h
     rw[Pj] at h2
     have h2:m=n:=by simpa using h2
     subst h2
     have ih:=qH h
     rw[Ye,Wo,<-ih]
  ·cases h
theorem fY(hs:WM P σ H w){o:Oper}{t:TypeId}(ho:o.op=.alloc t):Xv P σ H w tm ρ o:=by
 unfold Xv;rw[ho]
 refine XV λi hi=>UL λz hz=>?_
 have hrun:(execOp ρ o).run P w=.ok (.value (.pointer (some ⟨w.heap.size,0,none⟩))) (w.alloc (.cells z.cells t)):=by
  simp only[execOp,ho]
  refine Vn ?_
  simp only[Instr.alloc,Sem.run_bind,SR hi hz,Result.andThen_ok]
  simp[newVar,newRow]
 have key:YZ P σ H w ((execOp ρ o).run P w) (WF t (W9 z).cells tm H):=by
  refine Yh λh1=>?_
  rw[Xa,Yz] at h1
  have h1:1<=(W9 z).cells.length:=Zm h1
  obtain⟨hr,hone⟩:=RR (σ:=σ) z h1
  exact VW (JF hs (tot:=(W9 z).cells.length) hr hone (Zo _) (by simp)) hrun (JL rfl)
 show YZ P σ H w _ (jf t z.cells.toList (W9 z).cells tm H)
 cases hl:z.cells.toList with
 |nil=>exact key
 |cons v l'=>
  cases v<;>try exact key
  case int kd m=>
   refine W2 (λ_=>W2 (λha=>?_) λ_=>key) λ_=>key
   have hrep:=qH ha
   rw[Yz]
   refine VW (pW hs (n:=l'.length+1) (v:=.int kd m) (by simp[Yk]) rfl) ?_ (JL rfl)
   rw[hrun]
   have:z.cells=⟨List.replicate (l'.length+1) (.int kd m)⟩:=by
    apply Array.ext'
    rw[hl,Wo,<-hrep]
   rw[this]
theorem ZfK(hs:WM P σ H w)(hρ:Qi P σ tm ρ){o:Oper}{t:TypeId}{x:Operand}(ho:o.op=.box t x):Xv P σ H w tm ρ o:=by
 unfold Xv;rw[ho]
 refine Yh λh1=>?_
 rw[Xa,Yz] at h1
 have h1:1<=(YM P x tm).cells.length:=Zm h1
 obtain⟨hr,hone⟩:=(hρ x).cells h1
 refine VW (JF hs (tot:=(YM P x tm).cells.length) hr hone (Zo _) (by simp)) ?_ (JL rfl)
 simp only[execOp,ho]
 refine Vn ?_
 simp[Instr.box,newVar,newRow]
theorem ZbC(hs:WM P σ H w)(hρ:Qi P σ tm ρ){o:Oper}{t:TypeId}{x:Operand}(ho:o.op=.load t x):Xv P σ H w tm ρ o:=by
 unfold Xv;rw[ho]
 refine XV λi hi=>Xn λd hu=>?_
 have hag:=OC (w:=w) hu
 refine W2 (λh1=>?_) λh1=>?_
 ·refine PW λb off hx=>Si λr hr=>Yh λhle=>?_
  rw[Xa] at hle
  have hle:off+i.size<=r.size:=Zm hle
  have g:=hρ x
  rw[hx] at g
  obtain⟨l,hl,e⟩:=UO g
  obtain⟨cs,fr,hc,hrr⟩:=hs.row hr hl
  obtain⟨vs,h2,h3,h4,h5⟩:=Oz hrr i.size off hle
  rw[h1] at hag
  refine Yb hs (x:=.agg ⟨vs⟩) ?_ (by simp only[Yk];exact⟨vs,h2,h5,rfl⟩)
  simp only[execOp,ho]
  refine Vn ?_
  rw[e]
  have:=Qc (P:=P) hc vs (o:=l.base+off) h4
  rw[h3] at this
  simp only[Instr.loadAt,Instr.sureAddr,Sem.run_bind,Sem.run_pure,Result.andThen_ok,loadVar,hag,if_true,WL hi,this]
 ·refine PW λb off hx=>Si λr hr=>Yh λhle=>?_
  rw[Xa] at hle
  have hle:off+1<=r.size:=Zm hle
  have g:=hρ x
  rw[hx] at g
  obtain⟨l,hl,e⟩:=UO g
  obtain⟨cs,fr,hc,hrr⟩:=hs.row hr hl
  obtain⟨v,hv,hrel⟩:=hrr.cell off hle
  rw[h1] at hag
  refine Yb hs (x:=v) ?_ hrel
  simp only[execOp,ho]
  refine Vn ?_
  rw[e]
  simp only[Instr.loadAt,Instr.sureAddr,Sem.run_bind,Sem.run_pure,Result.andThen_ok,loadVar,hag,XH,if_false,run_load,Ho hc,hv]
theorem eA(hs:WM P σ H w)(hρ:Qi P σ tm ρ){o:Oper}{t:TypeId}{x y:Operand}(ho:o.op=.store t x y):Xv P σ H w tm ρ o:=by
 unfold Xv;rw[ho]
 refine XV λi hi=>?_
 refine PW λb off hx=>Si λr hr=>Yh λhn=>Yh λNX=>Yh λhle=>Yh λhfz=>Yh λhlen=>?_
 rw[Xa] at hn hle hfz
 rw[Yp,Yz] at hlen
 have hn:1<=i.size:=Zm hn
 have hle:off+i.size<=r.size:=Zm hle
 have hfz:r.fz<=off:=Zm hfz
 have hlen:(YM P y tm).cells.length=i.size:=Zm hlen
 have g:=hρ x
 rw[hx] at g
 obtain⟨l,hl,e⟩:=UO g
 obtain⟨hrel,hone⟩:=(hρ y).cells (by omega)
 have hl2:=hrel.length
 obtain⟨w',hrun,htr⟩:=FZ hs hr hl NX hrel hone (o:=off) (by omega) hfz
 refine⟨σ,w',undef,.inr ⟨?_,rfl⟩,by simp[YS,undef,Yk,YE],htr⟩
 simp only[execOp,ho]
 rw[e]
 have hsz:(ρ y).cells.size=i.size:=by rw[<-hlen,hl2];simp
 simp only[Instr.storeAt,Instr.sureAddr,Sem.run_bind,Sem.run_pure,Result.andThen_ok,storeVar,WL hi,hsz]
 simp[hrun]
theorem J4(off:Nat): ∀(l:List Value) (i:Nat) (cs:Array Value),(l.zipIdx i).foldl (λcs (x:Value×Nat)=>cs.setIfInBounds (off+x.2) x.1) cs=Q8 cs (off+i) l
 |[],_,_=>rfl
 |v::l,i,cs=>by
  simp only[List.zipIdx_cons,U6]
  rw[J4 off l (i+1)]
  rfl
theorem Dl{cs:Array Value}{o:Nat}{vs:List Value}(h:o+vs.length<=cs.size):(Q8 cs o vs).toList=cs.toList.take o++(vs++cs.toList.drop (o+vs.length)):=by
 apply WS
 intro i
 rw[Yd,P6 _ _ _ _ h]
 have hlen:(cs.toList.take o).length=o:=by simp;omega
 by_cases h1:i<o
 ·rw[if_neg (by omega),Z1 (by omega),List.getElem?_take,if_pos h1,Yd]
 ·rw[Z5 (by omega),hlen]
  by_cases h2:i - o<vs.length
  ·rw[if_pos (by omega),Z1 h2]
  ·rw[if_neg (by omega),Z5 (by omega),Xl,Yd]
   congr 1;omega
theorem FA{r:Result Next}(hρ:Qi P σ tm ρ){place:Nat->Option (Nat×Nat)}{k:List AV->OR}: ∀(ps:List (Nat×Operand)) (cells:List AV) (cs:Array Value),
  YE σ cells cs.toList->(∀v∈cs.toList,v.oneCell'=true)->
  (∀cells' cs',YE σ cells' cs'.toList->(∀v∈cs'.toList,v.oneCell'=true)->cs'.size=cs.size->Instr.fill place cs (ps.map λp=>(p.1,ρ p.2))=some cs'->YZ P σ H w r (k cells'))->
  YZ P σ H w r (AN tm k (ps.map (Og P place)) cells)
 |[],cells,cs,h1,h2,h3=>h3 cells cs h1 h2 rfl rfl
 |p::ps,cells,cs,h1,h2,h3=>by
  show YZ P σ H w r (ZP (Nat.ble 1 (Og P place p).sz)<|ZP (Nat.beq (YL ((Og P place p).x tm).cells) (Og P place p).sz) (ZP (Nat.ble (Nat.add (Og P place p).off (Og P place p).sz) (YL cells))
   (AN tm k (ps.map (Og P place)) (Nx (Og P place p).off cells++(((Og P place p).x tm).cells++ON (Nat.add (Og P place p).off (Og P place p).sz) cells)))))
  refine Yh λg1=>Yh λg2=>Yh λg3=>?_
  cases hp:place p.1 with
  |none=>unfold Og at g1;rw[hp] at g1;cases g1
  |some q=>
   obtain⟨off,sz⟩:=q
   have hpe:Og P place p=⟨off,sz,YM P p.2⟩:=by unfold Og;rw[hp]
   rw[hpe] at g1 g2 g3 ⊢
   simp only at g1 g2 g3 ⊢
   rw[Xa] at g1 g3
   rw[Yp,Yz] at g2
   rw[Yz] at g3
   have g1:1<=sz:=Zm g1
   have g2:(YM P p.2 tm).cells.length=sz:=Zm g2
   have g3:off+sz<=cells.length:=Zm g3
   obtain⟨hr,hone⟩:=(hρ p.2).cells (by omega)
   have hl:=hr.length
   have hl1:=h1.length
   have hsz:(ρ p.2).cells.size=sz:=by rw[<-g2,hl];simp
   have hcs:cells.length=cs.size:=by rw[hl1];simp
   have hw:(Q8 cs off (ρ p.2).cells.toList).toList=cs.toList.take off++((ρ p.2).cells.toList++cs.toList.drop (off+sz)):=by
    rw[Dl (by simp;omega)];simp[hsz]
   refine FA hρ ps _ (Q8 cs off (ρ p.2).cells.toList) ?_ ?_ λcells' cs' k1 k2 k3 k4=>h3 cells' cs' k1 k2 (by rw[k3,OJ]) ?_
   ·rw[hw,Lt,MZ]
    exact(h1.take _).append (hr.append (h1.drop _))
   ·intro v hv
    rw[hw] at hv
    rcases Zt.1 hv with hv|hv
    ·exact h2 v (VO hv)
    ·rcases Zt.1 hv with hv|hv
     ·exact hone v hv
     ·exact h2 v (UA hv)
   ·simp only[Zy,Instr.fill,hp]
    rw[if_neg (by simp only[V7,decide_eq_true_eq];omega)]
    rw[<-k4]
    congr 1
    have:=J4 off (ρ p.2).cells.toList 0 cs
    rw[Zj] at this
    rw[<-this,<-Array.foldl_toList,Array.toList_zipIdx]
theorem fZ(hs:WM P σ H w)(hρ:Qi P σ tm ρ){o:Oper}{t:TypeId}{ps:Array (Nat×Operand)}(ho:o.op=.build t ps):Xv P σ H w tm ρ o:=by
 unfold Xv;rw[ho]
 refine XV λi hi=>UL λz hz=>Xn λd hu=>?_
 have hps:(ps.map λ(x:Nat×Operand)=>(x.1,ρ x.2)).toList=ps.toList.map λp=>(p.1,ρ p.2):=by simp
 have fin: ∀(place:Nat->Option (Nat×Nat)),(∀cs',Instr.fill place z.cells (ps.toList.map λp=>(p.1,ρ p.2))=some cs'->P.built t (ps.toList.map λp=>(p.1,ρ p.2))=some cs')->
   YZ P σ H w ((execOp ρ o).run P w) (UF (W9 z).cells (ps.toList.map (Og P place)) tm H):=by
  intro place hb
  refine Yh λh1=>?_
  rw[Xa,Yz] at h1
  have h1:1<=(W9 z).cells.length:=Zm h1
  obtain⟨hr,hone⟩:=RR (σ:=σ) z h1
  refine FA hρ _ _ _ hr hone λcells' cs' k1 k2 k3 k4=>?_
  refine Yb hs (x:=.agg cs') ?_ (by simp only[Yk];exact⟨cs'.toList,k1,k2,rfl⟩)
  simp only[execOp,ho]
  refine Vn ?_
  exact run_build w t _ cs' (by rw[hps];exact hb cs' k4)
 cases d<;>try exact trivial
 case struct fs=>
  refine UL λplaces hp=>fin _ λcs' hf=>?_
  simp only[Program.built,hi,hu,hz,hp]
  exact hf
 case array n e=>
  refine XV λj hj=>fin _ λcs' hf=>?_
  simp only[Program.built,hi,hu,hz,hj]
  exact hf
theorem EB{α:Type}(l:List α)(hl:1<=l.length): ∀(n i:Nat),(List.replicate n l).flatten[i]? =if i<n*l.length then l[i % l.length]? else none
 |0,i=>by simp
 |n+1,i=>by
  rw[Wo,V8,WI]
  by_cases h:i<l.length
  ·rw[Z1 h,if_pos (by omega),Yx h]
  ·rw[Z5 (by omega),EB l hl n]
   have e:i % l.length=(i - l.length) % l.length:=by
    conv=>lhs;rw[show i=(i - l.length)+l.length by omega]
    rw[Nat.add_mod_right]
   rw[<-e]
   by_cases h2:i - l.length<n*l.length
   ·rw[if_pos h2,if_pos (by omega)]
   ·rw[if_neg h2,if_neg (by omega)]
theorem Em{as:List AV}{z:Array Value}(h:YE σ as z.toList)(hone: ∀v∈z.toList,v.oneCell'=true)(h1:1<=as.length)(n:Nat):
  YE σ (List.replicate n as).flatten ((Array.range (n*as.length)).map (z[· % z.size]!)).toList∧ ∀v∈((Array.range (n*as.length)).map (z[· % z.size]!)).toList,v.oneCell'=true:=by
 have hl:as.length=z.size:=by rw[h.length];simp
 have hz: ∀i,i % z.size<z.size:=λi=>Vy _ (by omega)
 constructor
 ·refine YE.of_get ?_ λi a v ha hv=>?_
  ·simp[List.length_flatten]
  ·rw[EB _ h1] at ha
   split at ha
   ·rename_i hi
    simp only[Qk,Array.toList_range,ZZ] at hv
    rw[XL hi] at hv
    simp only[XA,Option.some.injEq] at hv
    obtain⟨u,hu,hr⟩:=h.get ha
    rw[Yd,hl,Vd (hz i)] at hu
    cases hu
    rw[<-hv,getElem!_pos z _ (hz i)]
    exact hr
   ·cases ha
 ·intro v hv
  simp only[Qk,YV] at hv
  obtain⟨i,_,rfl⟩:=hv
  rw[getElem!_pos z _ (hz i)]
  exact hone _ (Array.getElem_mem_toList _)
theorem lf(hs:WM P σ H w)(hρ:Qi P σ tm ρ){o:Oper}{t:TypeId}{n:Nat}{ps:Array (Nat×Operand)}(ho:o.op=.buildSlice t n ps):Xv P σ H w tm ρ o:=by
 unfold Xv;rw[ho]
 refine Xn λd hu=>Ml λe hd=>XV λj hj=>UL λz hz=>W2 (λhsz=>?_) λ_=>SL
 subst hd
 have hps:(ps.map λ(x:Nat×Operand)=>(x.1,ρ x.2)).toList=ps.toList.map λp=>(p.1,ρ p.2):=by simp
 refine Yh λg1=>Yh λg2=>?_
 rw[Xa] at g1 hsz
 rw[Yp,Yz] at g2
 have g1:1<=j.size:=Zm g1
 have hsz:n*j.size<=16777216:=Zm hsz
 have g2:(List.replicate n (W9 z).cells).flatten.length=n*j.size:=Zm g2
 have hlen:n=0∨(W9 z).cells.length=j.size:=by
  rw[List.length_flatten] at g2
  simp only[List.map_replicate,List.sum_replicate_nat] at g2
  by_cases h0:n=0
  ·exact .inl h0
  ·exact .inr (Nat.eq_of_mul_eq_mul_left (by omega) g2)
 have base: ∃zc:Array Value,YE σ (List.replicate n (W9 z).cells).flatten zc.toList∧(∀v∈zc.toList,v.oneCell'=true)∧zc.size=n*j.size∧
   (do let zero<-if n*j.size=0 then pure #[] else do pure (<-zeroValue e).cells
       pure ((Array.range (n*j.size)).map (zero[· % zero.size]!)):Sem (Array Value)).run P w=.ok zc w:=by
  rcases hlen with h0|h0
  ·subst h0
   exact⟨#[],by simpa using Ud,by simp,by simp,by simp⟩
  ·obtain⟨hr,hone⟩:=RR (σ:=σ) z (by omega)
   obtain⟨k1,k2⟩:=Em hr hone (by omega) n
   rw[h0] at k1 k2
   refine⟨_,k1,k2,by simp,?_⟩
   by_cases hn:n*j.size=0
   ·simp[hn]
   ·simp[hn,SR hj hz]
 obtain⟨zc,b1,b2,b3,b4⟩:=base
 refine FA hρ _ _ zc b1 b2 λcells' cs' k1 k2 k3 k4=>?_
 have hl':cells'.length=n*j.size:=by rw[k1.length];simp[k3,b3]
 refine VW (JF hs (tot:=n) k1 k2 g1 hl') ?_ (Rf rfl)
 simp only[execOp,ho]
 refine Vn ?_
 simp only[Instr.buildSlice,Sem.run_bind,run_underlying hu,Result.andThen_ok,WL hj]
 rw[if_neg (by omega)]
 by_cases hn:n*j.size=0
 ·rw[if_pos hn] at b4 ⊢
  simp only[Sem.run_bind,Sem.run_pure,Result.andThen_ok,Result.ok.injEq,and_true] at b4 ⊢
  rw[b4,hps,k4]
  simp[newRow]
 ·rw[if_neg hn] at b4 ⊢
  simp only[Sem.run_bind,SR hj hz,Sem.run_pure,Result.andThen_ok,Result.ok.injEq,and_true] at b4 ⊢
  rw[b4,hps,k4]
  simp[newRow]
theorem Ek{n:Int}(h0:0<=n)(h1:n<9223372036854775808):IntKind.i64.wrap n=n:=by
 rw[<-N9]
 obtain⟨m,rfl⟩:=Int.eq_ofNat_of_zero_le h0
 show cond (Nat.ble 9223372036854775808 m) (IntKind.wrap .i64 (Int.ofNat m)) (Int.ofNat m)=_
 rw[Xa,Zb (by omega)]
 rfl
theorem IN(f:Nat->Value):Array.map f (Array.range 0)= #[]:=by apply Array.ext';simp
def vL(e n l c:Nat):Sem Next:=do
 let zero<-if n=0 then pure #[] else do pure (<-zeroValue e).cells
 let a<-newRow e ((Array.range n).map (zero[· % zero.size]!))
 pure (Next.value (.slice (some a) l c))
theorem rI(hs:WM P σ H w)(hρ:Qi P σ tm ρ){o:Oper}{t:TypeId}{x y:Operand}(ho:o.op=.makeSlice t x y):Xv P σ H w tm ρ o:=by
 unfold Xv;rw[ho]
 refine Xn λd hu=>Ml λe hd=>XV λi hi=>UL λz hz=>?_
 subst hd
 refine Rl λk1 l hx=>Rl λk2 c hy=>Yh λg1=>Yh λg2=>Yh λg3=>Yh λg4=>?_
 have h1:=hρ x;rw[hx] at h1
 have h2:=hρ y;rw[hy] at h2
 have h1:=XZ h1
 have h2:=XZ h2
 rw[Xa] at g1 g2 g3 g4
 have g1:1<=i.size:=Zm g1
 have g2:l<=c:=Zm g2
 have g3:c<=140737488355328:=Zm g3
 have g4:c*i.bytes<=140737488355328:=Zm g4
 have hrun:(execOp ρ o).run P w=(vL e (c*i.size) l c).run P w:=by
  simp only[execOp,ho,h1,h2]
  simp only[Instr.makeSlice,Sem.run_bind,run_underlying hu,Result.andThen_ok,asInt,asIntOf,Sem.run_pure,typeInfo,run_program,hi,YD]
  rw[Ek (by omega) (by omega),Ek (by omega) (by omega)]
  have e1:((i.bytes:Int)*(c:Int))<=140737488355328:=by
   have e0:(i.bytes:Int)*(c:Int)=((c*i.bytes:Nat):Int):=by rw[Int.natCast_mul,Int.mul_comm]
   rw[e0]
   generalize c*i.bytes=p at g4
   omega
  have e2: ¬((decide ((c:Int)<0)||decide ((i.bytes:Int)*(c:Int)>2^48)||decide ((l:Int)<0)||decide ((l:Int)>(c:Int)))=true):=by
   simp only[V7,decide_eq_true_eq]
   omega
  rw[if_neg e2]
  simp only[WD,Sem.run_bind,run_askRoom,Result.andThen_ok,WL hi]
  by_cases hn:c*i.size=0
  ·simp[vL,hn,newRow]
  ·simp[vL,hn,SR hi hz,newRow]
 have pF: ∀zc:Array Value,(c*i.size=0∨zc=z.cells)->(c*i.size=0->zc= #[])->(execOp ρ o).run P w=.ok (.value (.slice (some ⟨w.heap.size,0,none⟩) l c)) (w.alloc (.cells ((Array.range (c*i.size)).map (zc[· % zc.size]!)) e)):=by
  intro zc h3 h4
  rw[hrun]
  by_cases hn:c*i.size=0
  ·rw[h4 hn];simp[vL,hn,newRow]
  ·rcases h3 with h3|h3
   ·exact absurd h3 hn
   ·rw[h3];simp[vL,hn,SR hi hz,newRow]
 show YZ P σ H w _ (pU H e i.size l c (W9 z).cells)
 have gen:1<=(W9 z).cells.length->(W9 z).cells.length=i.size->YZ P σ H w ((execOp ρ o).run P w) (.val (.slice H.nx 0 l none) (H.newRow e i.size ((List.replicate c (W9 z).cells).flatten) true)):=by
  intro q1 q2
  obtain⟨hr,hone⟩:=RR (σ:=σ) z q1
  obtain⟨k1,k2⟩:=Em hr hone q1 c
  refine VW (JF hs (tot:=c) k1 k2 g1 (by simp[List.length_flatten,q2])) ?_ (Rf rfl)
  by_cases hn:c*i.size=0
  ·rw[pF #[] (.inl hn) (λ_=>rfl),q2,hn,IN,IN]
  ·rw[pF z.cells (.inr rfl) (λh=>absurd h hn),q2]
 cases hz2:(W9 z).cells with
 |nil=>
  refine Yh λq=>?_
  rw[Yp] at q
  have q:0=i.size:=Zm q
  omega
 |cons a as=>
  cases as with
  |nil=>
   refine Yh λq=>?_
   rw[Yp] at q
   have q:i.size=1:=Zm q
   obtain⟨hr,hone⟩:=RR (σ:=σ) z (by rw[hz2];simp)
   rw[hz2] at hr
   obtain⟨v,vs,h3,h4,h5⟩:=hr.cons_inv
   rw[h4.nil_inv] at h5
   refine VW (pW hs (n:=c) h3 (hone v (by rw[h5];simp))) ?_ (Rf rfl)
   have hzc:z.cells= #[v]:=by apply Array.ext';rw[h5]
   by_cases hn:c=0
   ·subst hn
    rw[pF #[] (.inl (by simp)) (λ_=>rfl),W4,IN];rfl
   ·rw[pF z.cells (.inr rfl) (λh=>by rw[q] at h;omega),hzc,q]
    congr 2
    congr 1
    apply Array.ext'
    apply WS
    intro j
    simp only[Xr,List.size_toArray,List.length_singleton,Nat.mod_one,Qk,Array.toList_range,ZZ,Vr]
    by_cases hj:j<c
    ·rw[XL hj,if_pos hj];rfl
    ·rw[if_neg hj,YP (by simp;omega)];rfl
  |cons a2 as2=>
   refine Yh λq=>?_
   rw[Yp,Yz,<-hz2] at q
   have:=gen (by rw[hz2];simp) (Zm q)
   rw[hz2] at this
   exact this
theorem Mp.put_old{σ:Mp}{b c:Nat}{l:Loc}(h:c≠b):σ.put b l c=σ c:=by unfold Mp.put;rw[if_neg h]
theorem Tr.ghost(hs:WM P σ H w)(l:Loc):Tr P σ H w (σ.put H.nx l) ⟨Nat.succ H.nx,H.t,H.ro⟩ w:=by
 have he:=Mp.put_ext l (hs.fresh (Zo H.nx))
 have hold: ∀b o,H.t.get b=some o->σ.put H.nx l b=σ b:=λb o hb=>Mp.put_old (by have:=hs.get_lt hb;omega)
 refine⟨he,⟨?_,?_,?_,?_,?_,?_⟩,Zo _,λ_ _ _=>rfl,?_,Vj _,rfl,λ_ _=>rfl,rfl,rfl,rfl,λb hb hn=>⟨rfl,by rw[Mp.put_old (by omega)];exact hn⟩⟩
 ·intro b m hb
  show b<H.nx+1
  by_cases e:b=H.nx
  ·omega
  ·rw[Mp.put_old e] at hb;have:=hs.dom b m hb;omega
 ·intro b o hb
  show b<H.nx+1
  have:=hs.low b o hb;omega
 ·intro b o l' hb hl'
  rw[hold b o hb] at hl'
  obtain⟨c,hc,ho⟩:=hs.alive b o l' hb hl'
  exact⟨c,hc,ho.mono he⟩
 ·intro b b' o o' l1 l2 h1 h2 k1 k2 e
  rw[hold b o h1] at k1;rw[hold b' o' h2] at k2
  exact hs.inj b b' o o' l1 l2 h1 h2 k1 k2 e
 ·intro g hg
  obtain⟨l',h1,h2⟩:=hs.glob g hg
  exact⟨l',he g l' h1,h2⟩
 ·show H.ro<=H.nx+1;have:=hs.ro;omega
 ·intro b l1 hw hl hlt
  obtain⟨hro,o,ho,hown⟩:=hw
  rw[hold b o ho] at hl
  exact⟨b,l1,⟨hro,o,ho,hown⟩,hl,rfl⟩
theorem UG{b o n:Nat}{cap:Option Nat}{v:Value}(h:Yk σ (.slice b o n cap) v): ∃l,σ b=some l∧v=.slice (some ⟨l.blk,l.base+o,none⟩) n (cap.getD (l.tot - o/l.sz)):=by simpa only[Yk] using h
theorem R9{b o n:Nat}{cap:Option Nat}{l:Loc}(h:σ b=some l):Yk σ (.slice b o n cap) (.slice (some ⟨l.blk,l.base+o,none⟩) n (cap.getD (l.tot - o/l.sz))):=by simp only[Yk];exact⟨l,h,rfl⟩
theorem Cc{r:Row}{l:Loc}{cs:Array Value}{fr:Nat×Nat}(hr:Pc σ r l cs fr)(o:Nat)(cap:Option Nat):VI r o cap<=cap.getD (l.tot - o/l.sz):=by
 cases cap with
 |some c=>exact Zo _
 |none=>
  show cond (Nat.beq r.sz 1) (r.size - o) ((r.size - o)/r.sz)<=l.tot - o/l.sz
  have h1:=hr.sz
  have h2:=hr.sz1
  have h3:=hr.fits
  have key:(r.size - o)/l.sz<=l.tot - o/l.sz:=by
   rw[Nat.div_le_iff_le_mul_add_pred (by omega)]
   have:=RM o l.sz
   have hm:=Vy o (show 0<l.sz by omega)
   rw[Nat.mul_sub]
   have e1:l.sz*l.tot=l.tot*l.sz:=UK _ _
   omega
  rw[Yp]
  by_cases e:r.sz=1
  ·rw[Zd e]
   show r.size - o<=_
   have e2:l.sz=1:=by omega
   rw[e2] at key ⊢;simpa using key
  ·rw[Zb e]
   show(r.size - o)/r.sz<=_
   rw[<-h1];exact key
theorem m7{hi mx:Option Operand}(h:ZfI hi mx=true):mx.isSome=true->hi.isSome=true:=by
 cases mx<;>cases hi<;>simp_all [ZfI]
theorem ez(hs:WM P σ H w)(hρ:Qi P σ tm ρ){o:Oper}{t:TypeId}{x:Operand}{lo hi mx:Option Operand}(ho:o.op=.slice t x lo hi mx):Xv P σ H w tm ρ o:=by
 unfold Xv;rw[ho]
 refine W2 (λhmx=>?_) λ_=>SL
 have hmx:=m7 hmx
 refine Xn λd hu=>?_
 have h1:=hρ x
 cases d<;>try exact trivial
 case string=>
  cases mx with
  |some m=>exact trivial
  |none=>
   refine OQ λs hx=>?_
   rw[hx] at h1
   have h1:=Ue h1
   refine OP (mx:=none) false hρ hmx (Zo _) λl h m mC hr hlh hm q1 _ q3 q4=>?_
   refine Yb hs (x:=.string ⟨((s.take h).drop l).toArray⟩) ?_ (by rw[Lr,Hu];simp[Yk])
   simp only[execOp,ho]
   refine Vn ?_
   rw[h1]
   rw[Yz] at hr
   simp only[Instr.sliceAt,Sem.run_bind,run_underlying hu,Result.andThen_ok,Instr.slice,Rk,Option.isSome_none,XH,if_false,Mw,hr,Sem.run_pure]
   simp only[Rk] at hr
   simp only[hr,Result.andThen_ok]
   congr 2
   rw[ByteArray.ext_iff]
   simp only[ByteArray.data_extract]
   apply Array.ext'
   simp[Ve,List.drop_take]
 case slice e=>
  refine XV λi hi'=>HI (λhx=>?_) (Ra (λhx=>?_) λb off len cap hx=>Si λr hr=>Yh λhsz=>?_)
  ·rw[hx] at h1
   obtain⟨a,h1⟩: ∃a,ρ x=.slice (some a) 0 0:=by simpa only[Yk] using h1
   refine OP (capC:=0) true hρ hmx (Zo _) λl h m mC hr hlh hm q1 q2 q3 q4=>?_
   have hh:h=0:=by
    cases hi with
    |none=>exact q3 rfl
    |some y=>have:=q4 rfl;omega
   have hl:l=0:=by omega
   have hmC:mC=0:=by
    cases mx with
    |none=>exact(q1 rfl).2
    |some y=>have:=q2 rfl;omega
   refine Yb hs (x:=.slice (some a) 0 0) ?_ (by simp[Yk])
   simp only[execOp,ho]
   refine Vn ?_
   rw[h1]
   simp only[Instr.sliceAt,Sem.run_bind,run_underlying hu,Result.andThen_ok,Instr.slice,hr,WL hi',Sem.run_pure]
   subst hh;subst hl;subst hmC
   simp
  ·rw[hx] at h1
   have h1:ρ x=.slice none 0 0:=by simpa only[Yk] using h1
   refine OP (capC:=0) true hρ hmx (Zo _) λl h m mC hr hlh hm q1 q2 q3 q4=>?_
   have hh:h=0:=by
    cases hi with
    |none=>exact q3 rfl
    |some y=>have:=q4 rfl;omega
   have hl:l=0:=by omega
   have hmC:mC=0:=by
    cases mx with
    |none=>exact(q1 rfl).2
    |some y=>have:=q2 rfl;omega
   refine Yb hs (x:=.slice none 0 0) ?_ (by simp[Yk])
   simp only[execOp,ho]
   refine Vn ?_
   rw[h1]
   simp only[Instr.sliceAt,Sem.run_bind,run_underlying hu,Result.andThen_ok,Instr.slice,hr,WL hi',Sem.run_pure]
   subst hh;subst hl;subst hmC
   simp
  ·rw[hx] at h1
   obtain⟨l,hl,e1⟩:=UG h1
   obtain⟨cs,fr,hc,hrr⟩:=hs.row hr hl
   refine OP (capC:=cap.getD (l.tot - off/l.sz)) true hρ hmx (Cc hrr off cap) λlo' h m mC hrun hlh hm q1 q2 q3 q4=>?_
   have run:(execOp ρ o).run P w=.ok (.value (.slice (some (if mC=lo' then⟨l.blk,l.base+off,none⟩ else⟨l.blk,l.base+off+lo'*i.size,none⟩)) (h - lo') (mC - lo'))) w:=by
    simp only[execOp,ho]
    refine Vn ?_
    rw[e1]
    simp only[Instr.sliceAt,Sem.run_bind,run_underlying hu,Result.andThen_ok,Instr.slice,hrun,WL hi',Sem.run_pure]
    by_cases hmm:mC=lo'
    ·simp[hmm]
    ·simp[hmm,QQ]
   refine Yh λhle=>?_
   rw[Xa] at hle
   have hle:lo'<=m:=Zm hle
   refine UD (λhlm=>?_) λhlm=>?_
   ·rw[Yp] at hlm
    have hlm:lo'=m:=Zm hlm
    cases mx with
    |none=>
     cases cap with
     |some c=>
      obtain⟨z1,z2⟩:=q1 rfl
      have z1:m=c:=z1
      have z2:mC=c:=z2
      have hmm:mC=lo':=by omega
      refine Yb hs run ?_
      rw[if_pos hmm,hmm,Ti]
      exact R9 (cap:=some 0) hl
     |none=>
     refine VW (Tr.ghost hs ⟨l.blk,(if mC=lo' then l.base+off else l.base+off+lo'*i.size),mC - lo',1⟩) run ?_
     simp only[Yk]
     refine⟨_,Mp.put_same _ _ _,?_⟩
     by_cases hmm:mC=lo'
     ·simp[hmm]
     ·simp[hmm]
    |some y=>
     have hmm:mC=lo':=by have:=q2 rfl;omega
     refine Yb hs run ?_
     rw[if_pos hmm,hmm,Ti]
     exact R9 (cap:=some 0) hl
   ·rw[Yp] at hlm
    have hlm:lo'≠m:=of_decide_eq_false hlm
    have ZmB:mC≠lo':=by
     cases mx with
     |none=>
      obtain⟨z1,z2⟩:=q1 rfl
      have:=Cc hrr off cap
      omega
     |some y=>have:=q2 rfl;omega
    refine Yb hs run ?_
    rw[if_neg ZmB]
    have e2:l.base+off+lo'*i.size=l.base+(off+lo'*i.size):=by omega
    rw[e2]
    cases mx with
    |some y=>
     have hmm:mC=m:=(q2 rfl).symm
     rw[hmm]
     exact R9 (cap:=some (m - lo')) hl
    |none=>
     obtain⟨z1,z2⟩:=q1 rfl
     cases cap with
     |some c=>
      rw[z2]
      exact R9 (cap:=some (c - lo')) hl
     |none=>
      rw[z2]
      have hz:l.sz=i.size:=by
       rw[hrr.sz]
       have:Nat.beq r.sz i.size=true:=hsz
       rw[Yp] at this
       exact Zm this
      have h2:=hrr.sz1
      have e3:l.tot - off/l.sz - lo'=l.tot - (off+lo'*i.size)/l.sz:=by
       rw[<-hz,Nat.add_mul_div_right _ _ (by omega),Nat.sub_sub]
      show Yk σ (.slice b (off+lo'*i.size) (h - lo') none) (.slice _ _ (l.tot - off/l.sz - lo'))
      rw[e3]
      exact R9 (cap:=none) hl
 case array n e=>
  refine XV λi hi'=>PW λb off hx=>?_
  rw[hx] at h1
  obtain⟨l,hl,e1⟩:=UO h1
  refine OP (capC:=n) false hρ hmx (Zo _) λlo' h m mC hrun hlh hm q1 q2 q3 q4=>?_
  have hmC:mC=m:=by
   cases mx with
   |none=>obtain⟨z1,z2⟩:=q1 rfl;omega
   |some y=>exact(q2 rfl).symm
  subst hmC
  have run:(execOp ρ o).run P w=.ok (.value (.slice (some (if mC=lo' then⟨l.blk,l.base+off,none⟩ else⟨l.blk,l.base+off+lo'*i.size,none⟩)) (h - lo') (mC - lo'))) w:=by
   simp only[execOp,ho]
   refine Vn ?_
   rw[e1]
   simp only[Instr.sliceAt,Sem.run_bind,run_underlying hu,Result.andThen_ok,Instr.sureAddr,hrun,WL hi',Sem.run_pure]
   by_cases hmm:mC=lo'
   ·simp[hmm]
   ·simp[hmm,QQ]
  refine UD (λhlm=>?_) λhlm=>?_
  ·rw[Yp] at hlm
   have hlm:lo'=mC:=Zm hlm
   refine Yb hs run ?_
   rw[if_pos hlm.symm]
   exact R9 (cap:=some (mC - lo')) hl
  ·rw[Yp] at hlm
   have hlm:lo'≠mC:=of_decide_eq_false hlm
   refine Yb hs run ?_
   rw[if_neg (λe=>hlm e.symm),UJ]
   exact R9 (cap:=some (mC - lo')) hl
end
end
end Go.AI
