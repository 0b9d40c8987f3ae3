/- What the interpreter's values and heaps tell of the model's, and the first operations: proved for every world that is told. -/
import Derived.Test.YtbmjgbajoemnaaaGreatDoorP1
import Derived.Laws.World
import Derived.Laws.Sem
import Derived.Laws.Rows
import Derived.Laws.Entries
import Derived.ChangeKeysEq
import Derived.Laws.Strings
import Derived.Laws.Slices
import Derived.Laws.Strings2
import Derived.Laws.Panics
import Derived.Laws.Cells
import Derived.Laws.Tables
set_option maxRecDepth 1000000
set_option maxHeartbeats 0
set_option linter.unusedVariables false
set_option linter.unusedSimpArgs false
namespace Go.AI
open Go
noncomputable section
namespace T
variable {α:Type}
theorem Fz(bs:List Bool):(T.leaf:T α).getB bs=none:=rfl
theorem HF(l r:T α)(v:Option α):(T.node l v r).getB []=v:=rfl
theorem Ov(l r:T α)(v:Option α)(b:Bool)(bs:List Bool):(T.node l v r).getB (b::bs)=if b then l.getB bs else r.getB bs:=by cases b<;>rfl
theorem wI(x:α): ∀bs cs:List Bool,(T.single x bs).getB cs=if bs=cs then some x else none:=by
 intro bs
 induction bs with
 |nil=>intro cs;cases cs with
  |nil=>rfl
  |cons c cs=>cases c<;>rfl
 |cons b bs ih=>
  intro cs
  cases cs with
  |nil=>cases b<;>rfl
  |cons c cs=>
   cases b<;>cases c
   ·show(T.single x bs).getB cs=_;rw[ih];simp
   ·show(T.leaf:T α).getB cs=_;simp[Fz]
   ·show(T.leaf:T α).getB cs=_;simp[Fz]
   ·show(T.single x bs).getB cs=_;rw[ih];simp
theorem oR(x:α)(t:T α): ∀bs cs:List Bool,(T.setB x t bs).getB cs=if bs=cs then some x else t.getB cs:=by
 induction t with
 |leaf=>intro bs cs;show(T.single x bs).getB cs=_;rw[wI];rfl
 |node l v r ihl ihr=>
  intro bs cs
  cases bs with
  |nil=>cases cs with
   |nil=>rfl
   |cons c cs=>cases c<;>simp[show T.setB x (.node l v r) []=.node l (some x) r from rfl,Ov]
  |cons b bs=>
   cases b
   ·show(T.node l v (T.setB x r bs)).getB cs=_
    cases cs with
    |nil=>simp[HF]
    |cons c cs=>cases c<;>simp[Ov,ihr]
   ·show(T.node (T.setB x l bs) v r).getB cs=_
    cases cs with
    |nil=>simp[HF]
    |cons c cs=>cases c<;>simp[Ov,ihl]
theorem oQ(t:T α): ∀bs cs:List Bool,(T.delB t bs).getB cs=if bs=cs then none else t.getB cs:=by
 induction t with
 |leaf=>intro bs cs;show(T.leaf:T α).getB cs=_;simp[Fz]
 |node l v r ihl ihr=>
  intro bs cs
  cases bs with
  |nil=>cases cs with
   |nil=>rfl
   |cons c cs=>cases c<;>simp[show T.delB (.node l v r) []=.node l none r from rfl,Ov]
  |cons b bs=>
   cases b
   ·show(T.node l v (T.delB r bs)).getB cs=_
    cases cs with
    |nil=>simp[HF]
    |cons c cs=>cases c<;>simp[Ov,ihr]
   ·show(T.node (T.delB l bs) v r).getB cs=_
    cases cs with
    |nil=>simp[HF]
    |cons c cs=>cases c<;>simp[Ov,ihl]
end T
theorem Qc(f n:Nat):JJ (f+1) n=if n=0 then [] else if n % 2=1 then true::JJ f (n/2) else false::JJ f (n/2 - 1):=by
 show @Bool.rec (λ_=>List Bool) (@Bool.rec (λ_=>List Bool) (false::JJ f (n/2 - 1)) (true::JJ f (n/2)) (Nat.beq (n % 2) 1)) [] (Nat.beq n 0)=_
 by_cases h:n=0
 ·subst h;rfl
 ·rw[if_neg h]
  have h0:Nat.beq n 0=false:=by cases n with|zero=>exact absurd rfl h|succ n=>rfl
  rw[h0]
  by_cases h1:n % 2=1
  ·rw[if_pos h1,h1];rfl
  ·have:n % 2=0:=by omega
   rw[if_neg h1,this];rfl
theorem oe: ∀f n m,n<=f->m<=f->JJ f n=JJ f m->n=m:=by
 intro f
 induction f with
 |zero=>intro n m hn hm _;omega
 |succ f ih=>
  intro n m hn hm h
  rw[Qc,Qc] at h
  by_cases n0:n=0
  ·by_cases m0:m=0
   ·omega
   ·rw[if_pos n0,if_neg m0] at h
    split at h<;>cases h
  ·by_cases m0:m=0
   ·rw[if_neg n0,if_pos m0] at h
    split at h<;>cases h
   ·rw[if_neg n0,if_neg m0] at h
    by_cases n1:n % 2=1<;>by_cases m1:m % 2=1
    ·rw[if_pos n1,if_pos m1] at h
     have:=ih (n/2) (m/2) (by omega) (by omega) (List.cons.inj h).2
     omega
    ·rw[if_pos n1,if_neg m1] at h;simp at h
    ·rw[if_neg n1,if_pos m1] at h;simp at h
    ·rw[if_neg n1,if_neg m1] at h
     have:=ih (n/2 - 1) (m/2 - 1) (by omega) (by omega) (List.cons.inj h).2
     omega
theorem MP: ∀f n g,n<=f->f<=g->JJ g n=JJ f n:=by
 intro f
 induction f with
 |zero=>
  intro n g hn _
  have:n=0:=by omega
  subst this
  cases g with
  |zero=>rfl
  |succ g=>rw[Qc];rfl
 |succ f ih=>
  intro n g hn hg
  obtain⟨g,rfl⟩: ∃g',g=g'+1:=⟨g - 1,by omega⟩
  rw[Qc,Qc]
  by_cases n0:n=0
  ·rw[if_pos n0,if_pos n0]
  ·rw[if_neg n0,if_neg n0]
   by_cases n1:n % 2=1
   ·rw[if_pos n1,if_pos n1,ih (n/2) g (by omega) (by omega)]
   ·rw[if_neg n1,if_neg n1,ih (n/2 - 1) g (by omega) (by omega)]
theorem wc{n m:Nat}(h:bits n=bits m):n=m:=by
 unfold bits at h
 rw[<-MP n n (n+m) (Zl _) (by omega),<-MP m m (n+m) (Zl _) (by omega)] at h
 exact oe (n+m) n m (by omega) (by omega) h
namespace T
variable {α:Type}
theorem get_set(t:T α)(n m:Nat)(x:α):(t.set n x).get m=if n=m then some x else t.get m:=by
 unfold get set
 rw[oR]
 by_cases h:n=m
 ·subst h;simp
 ·rw[if_neg h,if_neg (λe=>h (wc e))]
theorem get_del(t:T α)(n m:Nat):(t.del n).get m=if n=m then none else t.get m:=by
 unfold get del
 rw[oQ]
 by_cases h:n=m
 ·subst h;simp
 ·rw[if_neg h,if_neg (λe=>h (wc e))]
theorem get_leaf(n:Nat):(T.leaf:T α).get n=none:=rfl
end T
structure Loc where
 blk:Nat
 base:Nat
 tot:Nat
 sz:Nat
abbrev Mp:=Nat->Option Loc
mutual
def Yt(σ:Mp):AV->Value->Prop
 |.unk,_=>True
 |.bool b,v=>v=.bool b
 |.int k n,v=>v=.int k n
 |.str s,v=>v=.string ⟨s.toArray⟩
 |.nilp,v=>v=.pointer none
 |.ptr b o,v=> ∃l,σ b=some l∧v=.pointer (some ⟨l.blk,l.base+o,none⟩)
 |.nils,v=>v=.slice none 0 0
 |.slice b o n cap,v=> ∃l,σ b=some l∧v=.slice (some ⟨l.blk,l.base+o,none⟩) n (cap.getD (l.tot - o/l.sz))
 |.slice0,v=> ∃a,v=.slice (some a) 0 0
 |.nilm,v=>v=.map none
 |.map b,v=> ∃l,σ b=some l∧v=.map (some l.blk)
 |.func f a b,v=> ∃x y,YO σ a x∧YO σ b y∧v=.func (.func f) ⟨x⟩ ⟨y⟩
 |.meth n r,v=> ∃x,Yt σ r x∧v=.func (.method n) #[x] #[]
 |.yield b,v=> ∃l,σ b=some l∧v=.func (.yield l.blk) #[] #[]
 |.nilf,v=>v=.nilFunc
 |.iface t x,v=> ∃y,Yt σ x y∧v=.iface t y
 |.nili,v=>v=.nilIface
 |.agg cs,v=> ∃vs,YO σ cs vs∧(∀x∈vs,x.oneCell'=true)∧v=.agg ⟨vs⟩
 |.tup cs,v=> ∃vs,YO σ cs vs∧v=.tuple ⟨vs⟩
def YO(σ:Mp):List AV->List Value->Prop
 |[],l=>l=[]
 |a::as,l=> ∃v vs,Yt σ a v∧YO σ as vs∧l=v::vs
end
def Ext(σ σ':Mp):Prop:= ∀b l,σ b=some l->σ' b=some l
theorem Ext.refl(σ:Mp):Ext σ σ:=λ_ _ h=>h
theorem Ext.trans{σ σ' σ'':Mp}(h:Ext σ σ')(h':Ext σ' σ''):Ext σ σ'':=λb l x=>h' b l (h b l x)
mutual
theorem Yt.mono{σ σ':Mp}(h:Ext σ σ'): ∀{a:AV} {v:Value},Yt σ a v->Yt σ' a v
 |.unk,_,_=>by simp[Yt]
 |.bool b,v,r=>by simpa [Yt] using r
 |.int k n,v,r=>by simpa [Yt] using r
 |.str s,v,r=>by simpa [Yt] using r
 |.nilp,v,r=>by simpa [Yt] using r
 |.ptr b o,v,r=>by
  simp only[Yt] at r ⊢
  obtain⟨l,hl,hv⟩:=r
  exact⟨l,h _ _ hl,hv⟩
 |.nils,v,r=>by simpa [Yt] using r
 |.slice0,v,r=>by simpa [Yt] using r
 |.slice b o n cap,v,r=>by
  simp only[Yt] at r ⊢
  obtain⟨l,hl,hv⟩:=r
  exact⟨l,h _ _ hl,hv⟩
 |.nilm,v,r=>by simpa [Yt] using r
 |.map b,v,r=>by
  simp only[Yt] at r ⊢
  obtain⟨l,hl,hv⟩:=r
  exact⟨l,h _ _ hl,hv⟩
 |.func f a b,v,r=>by
  simp only[Yt] at r ⊢
  obtain⟨x,y,hx,hy,hv⟩:=r
  exact⟨x,y,YO.mono h hx,YO.mono h hy,hv⟩
 |.meth n a,v,r=>by
  simp only[Yt] at r ⊢
  obtain⟨x,hx,hv⟩:=r
  exact⟨x,Yt.mono h hx,hv⟩
 |.yield b,v,r=>by
  simp only[Yt] at r ⊢
  obtain⟨l,hl,hv⟩:=r
  exact⟨l,h _ _ hl,hv⟩
 |.nilf,v,r=>by simpa [Yt] using r
 |.iface t x,v,r=>by
  simp only[Yt] at r ⊢
  obtain⟨y,hy,hv⟩:=r
  exact⟨y,Yt.mono h hy,hv⟩
 |.nili,v,r=>by simpa [Yt] using r
 |.agg cs,v,r=>by
  simp only[Yt] at r ⊢
  obtain⟨vs,hx,h1,hv⟩:=r
  exact⟨vs,YO.mono h hx,h1,hv⟩
 |.tup cs,v,r=>by
  simp only[Yt] at r ⊢
  obtain⟨vs,hx,hv⟩:=r
  exact⟨vs,YO.mono h hx,hv⟩
theorem YO.mono{σ σ':Mp}(h:Ext σ σ'): ∀{a:List AV} {v:List Value},YO σ a v->YO σ' a v
 |[],v,r=>by simpa [YO] using r
 |a::as,v,r=>by
  simp only[YO] at r ⊢
  obtain⟨x,xs,hx,hxs,hv⟩:=r
  exact⟨x,xs,Yt.mono h hx,YO.mono h hxs,hv⟩
end
theorem Yw{α:Type}(l:List α):YF l=l.length:=by
 induction l with
 |nil=>rfl
 |cons a l ih=>show Nat.succ (YF l)=_;rw[ih];rfl
theorem O0: ∀(n:Nat) (l:List AV),PX n l=l.take n
 |0,_=>by simp[PX]
 |n+1,[]=>by simp[PX]
 |n+1,v::l=>by simp[PX,O0 n l]
theorem OE: ∀(n:Nat) (l:List AV),Q0 n l=l.drop n
 |0,_=>by simp[Q0]
 |n+1,[]=>by simp[Q0]
 |n+1,v::l=>by simp[Q0,OE n l]
theorem OZ: ∀(n:Nat) (l:List UInt8),LL n l=l.take n
 |0,_=>by simp[LL]
 |n+1,[]=>by simp[LL]
 |n+1,v::l=>by simp[LL,OZ n l]
theorem Hu: ∀(n:Nat) (l:List UInt8),JK n l=l.drop n
 |0,_=>by simp[JK]
 |n+1,[]=>by simp[JK]
 |n+1,v::l=>by simp[JK,Hu n l]
theorem Gq: ∀(l:List AV) (n:Nat),Gp l n=l[n]?
 |[],_=>by simp[Gp]
 |v::_,0=>by simp[Gp]
 |_::l,n+1=>by simp[Gp,Gq l n]
theorem xf: ∀(l:List UInt8) (n:Nat),vA l n=l[n]?
 |[],_=>by simp[vA]
 |v::_,0=>by simp[vA]
 |_::l,n+1=>by simp[vA,xf l n]
section
variable {σ:Mp}
theorem Ul:YO σ [] []:=by simp[YO]
theorem WD{a:AV}{as:List AV}{v:Value}{vs:List Value}(h:Yt σ a v)(h':YO σ as vs):YO σ (a::as) (v::vs):=by
 simp only[YO];exact⟨v,vs,h,h',rfl⟩
theorem TQ{a:AV}{v:Value}(h:Yt σ a v):YO σ [a] [v]:=WD h Ul
theorem YO.nil_inv{l:List Value}(h:YO σ [] l):l=[]:=by simpa [YO] using h
theorem YO.cons_inv{a:AV}{as:List AV}{l:List Value}(h:YO σ (a::as) l): ∃v vs,Yt σ a v∧YO σ as vs∧l=v::vs:=by simpa [YO] using h
theorem YO.length: ∀{as:List AV} {vs:List Value},YO σ as vs->as.length=vs.length
 |[],vs,h=>by rw[h.nil_inv];rfl
 |a::as,vs,h=>by
  obtain⟨v,vs,_,h',rfl⟩:=h.cons_inv
  simp[YO.length h']
theorem YO.append: ∀{as bs:List AV} {vs us:List Value},YO σ as vs->YO σ bs us->YO σ (as++bs) (vs++us)
 |[],bs,vs,us,h,h'=>by rw[h.nil_inv];exact h'
 |a::as,bs,vs,us,h,h'=>by
  obtain⟨v,vs,h1,h2,rfl⟩:=h.cons_inv
  exact WD h1 (YO.append h2 h')
theorem YO.get: ∀{as:List AV} {vs:List Value} {i:Nat} {a:AV},YO σ as vs->as[i]? =some a-> ∃v,vs[i]? =some v∧Yt σ a v
 |[],vs,i,a,h,e=>by simp at e
 |x::as,vs,i,a,h,e=>by
  obtain⟨v,vs,h1,h2,rfl⟩:=h.cons_inv
  cases i with
  |zero=>simp at e;subst e;exact⟨v,rfl,h1⟩
  |succ i=>simp at e;obtain⟨u,hu,hr⟩:=YO.get h2 e;exact⟨u,by simpa using hu,hr⟩
theorem YO.take: ∀{as:List AV} {vs:List Value} (n:Nat),YO σ as vs->YO σ (as.take n) (vs.take n)
 |[],vs,n,h=>by rw[h.nil_inv];simpa using Ul
 |a::as,vs,0,h=>by simpa using Ul
 |a::as,vs,n+1,h=>by
  obtain⟨v,vs,h1,h2,rfl⟩:=h.cons_inv
  simpa using WD h1 (YO.take n h2)
theorem YO.drop: ∀{as:List AV} {vs:List Value} (n:Nat),YO σ as vs->YO σ (as.drop n) (vs.drop n)
 |[],vs,n,h=>by rw[h.nil_inv];simpa using Ul
 |a::as,vs,0,h=>by simpa using h
 |a::as,vs,n+1,h=>by
  obtain⟨v,vs,h1,h2,rfl⟩:=h.cons_inv
  simpa using YO.drop n h2
theorem YO.of_get: ∀{as:List AV} {vs:List Value},as.length=vs.length->(∀(i:Nat) (a:AV) (v:Value),as[i]? =some a->vs[i]? =some v->Yt σ a v)->YO σ as vs
 |[],[],_,_=>Ul
 |[],_::_,h,_=>by simp at h
 |_::_,[],h,_=>by simp at h
 |a::as,v::vs,h,g=>WD (g 0 a v rfl rfl) (YO.of_get (by simpa using h) λi x y hx hy=>g (i+1) x y (by simpa using hx) (by simpa using hy))
theorem Ru{a:AV}{v:Value}(h:Yt σ a v)(h1:v.oneCell'=true):YO σ [a] [v]∧ ∀x∈[v],x.oneCell'=true:=⟨TQ h,by simpa using h1⟩
theorem Yt.cells{a:AV}{v:Value}(h:Yt σ a v)(h1:1<=a.cells.length):YO σ a.cells v.cells.toList∧ ∀x∈v.cells.toList,x.oneCell'=true:=by
 cases a<;>simp only[AV.cells,Zv] at h1 ⊢ <;>first
  |omega
  |(simp only[Yt] at h;subst h;exact Ru (by simp[Yt]) rfl)
  |skip
 case ptr b o=>obtain⟨l,hl,rfl⟩:=(by simpa only[Yt] using h);exact Ru (by simp only[Yt];exact⟨l,hl,rfl⟩) rfl
 case slice b o n c=>obtain⟨l,hl,rfl⟩:=(by simpa only[Yt] using h);exact Ru (by simp only[Yt];exact⟨l,hl,rfl⟩) rfl
 case slice0=>have h0:=h;obtain⟨l,rfl⟩:=(by simpa only[Yt] using h);exact Ru h0 rfl
 case map b=>obtain⟨l,hl,rfl⟩:=(by simpa only[Yt] using h);exact Ru (by simp only[Yt];exact⟨l,hl,rfl⟩) rfl
 case func f x y=>have h0:=h;obtain⟨p,q,hp,hq,rfl⟩:=(by simpa only[Yt] using h);exact Ru h0 rfl
 case meth n x=>have h0:=h;obtain⟨p,hp,rfl⟩:=(by simpa only[Yt] using h);exact Ru h0 rfl
 case yield b=>have h0:=h;obtain⟨p,hp,rfl⟩:=(by simpa only[Yt] using h);exact Ru h0 rfl
 case iface t x=>have h0:=h;obtain⟨p,hp,rfl⟩:=(by simpa only[Yt] using h);exact Ru h0 rfl
 case agg cs=>obtain⟨vs,hvs,h2,rfl⟩:=(by simpa only[Yt] using h);exact⟨hvs,h2⟩
end
def Nw(σ:Mp)(a:RE)(e:MapEntry):Prop:=Yt σ a.key e.key∧Yt σ a.val e.val∧a.born=e.born
def YG(σ:Mp):List RE->List MapEntry->Prop
 |[],l=>l=[]
 |a::as,l=> ∃e es,Nw σ a e∧YG σ as es∧l=e::es
noncomputable def Fi(a b:AV):Bool:=match a,b with
 |.str a,.str b=>!LJ a b
 |.int j a,.int k b=>P0 j k&&!E8 a b
 |_,_=>false
def OY(e:RE):AV×AV:=(e.key,e.val)
def uM(a b:RE):Prop:=Fi a.key b.key=true∧Fi b.key a.key=true
def Fg(es:List RE)(clock:Nat):Prop:=es.Pairwise (λa b=>a.born<b.born)∧ ∀e∈es,e.born<clock
structure R8(σ:Mp)(r:Row)(l:Loc)(cs:Array Value)(fr:Nat×Nat):Prop where
 sz:l.sz=r.sz
 sz1:1<=l.sz
 fits:r.size<=l.tot*l.sz
 room:l.base+l.tot*l.sz<=cs.size
 exact:r.exact=true->r.size=l.tot*l.sz∧l.base=0∧cs.size=r.size
 cell: ∀i,i<r.size-> ∃v,cs[l.base+i]? =some v∧Yt σ (r.get i) v
 one: ∀(i:Nat) (v:Value),i<r.size->cs[l.base+i]? =some v->v.oneCell'=true
 frz:r.own=true-> ∀i,r.fz<=i->i<l.tot*l.sz-> ¬(fr.1<=l.base+i∧l.base+i<fr.2)
 frs:r.own=true->r.sm=false->fr.1=fr.2∨(1<=r.fz∧fr.2<=l.base+r.fz)
def Uo(σ:Mp)(o:Obj)(l:Loc)(c:Go.Obj):Prop:=match o with
 |.row r=> ∃cs fr,c=.cells cs r.elem fr∧R8 σ r l cs fr
 |.map es clock=> ∃ents,c=.map ents clock∧YG σ es ents.toList∧Fg es clock
 |.siter s pos=>c=.stringIter ⟨s.toArray⟩ pos∧l.base=0
 |.miter m since cur=> ∃seen st,c=.mapIter (m.bind λb=>(σ b).map (·.blk)) since seen st∧(∀b,m=some b->(σ b).isSome=true)∧l.base=0∧
   match cur with
   |none=>seen= #[]∧st=since
   |some (n,t)=>seen.back? =some n∧st=t
 |.loop=> ∃lp,c=.loop lp
 |.cmap es=> ∃ents clock fs,c=.map ents clock∧YG σ fs ents.toList∧(fs.map OY).Perm (es.map OY)∧es.Pairwise uM
def LN(o:Obj):Prop:= ∃r,o=.row r∧r.own=false
theorem LN.not_own{o:Obj}(h:LN o)(hw: ∀r,o=.row r->r.own=true):False:=by
 obtain⟨r,rfl,e⟩:=h
 rw[hw r rfl] at e;cases e
structure Ww(P:Program)(σ:Mp)(H:Heap)(w:World):Prop where
 dom: ∀b l,σ b=some l->b<H.nx
 low: ∀b o,H.t.get b=some o->b<H.nx
 alive: ∀b o l,H.t.get b=some o->σ b=some l-> ∃c,w.heap[l.blk]? =some c∧Uo σ o l c
 inj: ∀b b' o o' l l',H.t.get b=some o->H.t.get b'=some o'->σ b=some l->σ b'=some l'->l.blk=l'.blk->b=b'∨(LN o∧LN o')
 glob: ∀g,g<P.globals.size-> ∃l,σ g=some l∧l.blk=g∧l.base=0
 ro:H.ro<=H.nx
def Wr(H:Heap)(b:Nat):Prop:=H.ro<=b∧ ∃o,H.t.get b=some o∧(∀r,o=.row r->r.own=true)∧o≠.loop
theorem Wr.hard{H:Heap}{b:Nat}{o:Obj}(h:Wr H b)(ho:H.t.get b=some o)(hs:LN o):False:=by
 obtain⟨_,o',ho',hw,_⟩:=h
 rw[ho] at ho';cases ho'
 exact hs.not_own hw
theorem Ww.alone{P:Program}{σ:Mp}{H:Heap}{w:World}(h:Ww P σ H w){b b':Nat}{o o':Obj}{l l':Loc}(hb:H.t.get b=some o)(hb':H.t.get b'=some o')(hl:σ b=some l)(hl':σ b'=some l')(e:l.blk=l'.blk)(hs: ¬(LN o∧LN o')):b=b':=
 (h.inj b b' o o' l l' hb hb' hl hl' e).resolve_right hs
structure Tr(P:Program)(σ:Mp)(H:Heap)(w:World)(σ':Mp)(H':Heap)(w':World):Prop where
 ext:Ext σ σ'
 sim:Ww P σ' H' w'
 size:w.heap.size<=w'.heap.size
 frame: ∀k,k<w.heap.size->(∀b l,Wr H b->σ b=some l->l.blk≠k)->w'.heap[k]? =w.heap[k]?
 wr: ∀b l,Wr H' b->σ' b=some l->l.blk<w.heap.size-> ∃b0 l0,Wr H b0∧σ b0=some l0∧l0.blk=l.blk
 nx:H.nx<=H'.nx
 ro:H'.ro=H.ro
 low: ∀b,b<H.ro->H'.t.get b=H.t.get b
 tape:w'.tape=w.tape
 os:w'.os=w.os
 out:w'.output=w.output
 pend: ∀b,b<H.nx->σ b=none->H'.t.get b=H.t.get b∧σ' b=none
theorem Tr.refl{P:Program}{σ:Mp}{H:Heap}{w:World}(h:Ww P σ H w):Tr P σ H w σ H w:=
 ⟨Ext.refl σ,h,Zl _,λ_ _ _=>rfl,λb l hw hl _=>⟨b,l,hw,hl,rfl⟩,Zl _,rfl,λ_ _=>rfl,rfl,rfl,rfl,λ_ _ h=>⟨rfl,h⟩⟩
theorem Tr.trans{P:Program}{σ σ' σ'':Mp}{H H' H'':Heap}{w w' w'':World}(h:Tr P σ H w σ' H' w')(h':Tr P σ' H' w' σ'' H'' w''):
  Tr P σ H w σ'' H'' w'':=by
 refine⟨h.ext.trans h'.ext,h'.sim,Zn h.size h'.size,?_,?_,Zn h.nx h'.nx,h'.ro.trans h.ro,?_,h'.tape.trans h.tape,h'.os.trans h.os,h'.out.trans h.out,?_⟩
 ·intro k hk hn
  rw[h'.frame k (ZO hk h.size) ?_,h.frame k hk hn]
  intro b l hw hl e
  obtain⟨b0,l0,hw0,hl0,e0⟩:=h.wr b l hw hl (by rw[e];exact hk)
  exact hn b0 l0 hw0 hl0 (e0.trans e)
 ·intro b l hw hl hlt
  obtain⟨b1,l1,hw1,hl1,e1⟩:=h'.wr b l hw hl (ZO hlt h.size)
  obtain⟨b0,l0,hw0,hl0,e0⟩:=h.wr b1 l1 hw1 hl1 (by rw[e1];exact hlt)
  exact⟨b0,l0,hw0,hl0,e0.trans e1⟩
 ·intro b hb
  rw[h'.low b (by rw[h.ro];exact hb),h.low b hb]
 ·intro b hb hn
  obtain⟨h1,h2⟩:=h.pend b hb hn
  obtain⟨h3,h4⟩:=h'.pend b (ZO hb h.nx) h2
  exact⟨h3.trans h1,h4⟩
theorem Nw.mono{σ σ':Mp}(h:Ext σ σ'){a:RE}{e:MapEntry}(r:Nw σ a e):Nw σ' a e:=⟨r.1.mono h,r.2.1.mono h,r.2.2⟩
theorem YG.mono{σ σ':Mp}(h:Ext σ σ'): ∀{as:List RE} {es:List MapEntry},YG σ as es->YG σ' as es
 |[],es,r=>by simpa [YG] using r
 |a::as,es,r=>by
  simp only[YG] at r ⊢
  obtain⟨e,es',h1,h2,h3⟩:=r
  exact⟨e,es',h1.mono h,YG.mono h h2,h3⟩
theorem R8.mono{σ σ':Mp}(h:Ext σ σ'){r:Row}{l:Loc}{cs:Array Value}{fr:Nat×Nat}(x:R8 σ r l cs fr):R8 σ' r l cs fr:=
 ⟨x.sz,x.sz1,x.fits,x.room,x.exact,λi hi=>let ⟨v,hv,hr⟩:=x.cell i hi;⟨v,hv,hr.mono h⟩,x.one,x.frz,x.frs⟩
theorem Uo.mono{σ σ':Mp}(h:Ext σ σ'){o:Obj}{l:Loc}{c:Go.Obj}(x:Uo σ o l c):Uo σ' o l c:=by
 cases o with
 |row r=>obtain⟨cs,fr,e,x⟩:=x;exact⟨cs,fr,e,x.mono h⟩
 |map es clock=>obtain⟨ents,e,x,y⟩:=x;exact⟨ents,e,x.mono h,y⟩
 |cmap es=>obtain⟨ents,cl,fs,e,x,y⟩:=x;exact⟨ents,cl,fs,e,x.mono h,y⟩
 |siter s pos=>exact x
 |miter m since cur=>
  obtain⟨seen,st,e,hm,y⟩:=x
  refine⟨seen,st,?_,?_,y⟩
  ·rw[e]
   cases m with
   |none=>rfl
   |some b=>
    have:=hm b rfl
    cases hb:σ b with
    |none=>rw[hb] at this;cases this
    |some l=>simp[hb,h b l hb]
  ·intro b hb
   have:=hm b hb
   cases hs:σ b with
   |none=>rw[hs] at this;cases this
   |some l=>rw[h b l hs];rfl
 |loop=>exact x
def Mp.put(σ:Mp)(b:Nat)(l:Loc):Mp:=λc=>if c=b then some l else σ c
theorem Mp.put_same(σ:Mp)(b:Nat)(l:Loc):σ.put b l b=some l:=by simp[Mp.put]
theorem Mp.put_ext{σ:Mp}{b:Nat}(l:Loc)(h:σ b=none):Ext σ (σ.put b l):=by
 intro c m hc
 unfold Mp.put
 by_cases e:c=b
 ·subst e;rw[h] at hc;cases hc
 ·rw[if_neg e];exact hc
theorem Ww.fresh{P:Program}{σ:Mp}{H:Heap}{w:World}(h:Ww P σ H w){b:Nat}(hb:H.nx<=b):σ b=none:=by
 cases e:σ b with
 |none=>rfl
 |some l=>have:=h.dom b l e;omega
theorem Ww.get_lt{P:Program}{σ:Mp}{H:Heap}{w:World}(h:Ww P σ H w){b:Nat}{o:Obj}(hb:H.t.get b=some o):b<H.nx:=by
 exact h.low b o hb
theorem Ww.blk_lt{P:Program}{σ:Mp}{H:Heap}{w:World}(h:Ww P σ H w){b:Nat}{o:Obj}{l:Loc}(hb:H.t.get b=some o)(hl:σ b=some l):l.blk<w.heap.size:=by
 obtain⟨c,hc,_⟩:=h.alive b o l hb hl
 exact(ZT.1 hc).1
theorem Heap.get_new(H:Heap)(o:Obj)(b:Nat):(H.new o).t.get b=if H.nx=b then some o else H.t.get b:=T.get_set _ _ _ _
theorem Heap.nx_new(H:Heap)(o:Obj):(H.new o).nx=H.nx+1:=rfl
theorem Heap.ro_new(H:Heap)(o:Obj):(H.new o).ro=H.ro:=rfl
theorem Heap.get_put(H:Heap)(c:Nat)(o:Obj)(b:Nat):(H.put c o).t.get b=if c=b then some o else H.t.get b:=T.get_set _ _ _ _
theorem SA{w:World}{o:Go.Obj}{k:Nat}(h:k<w.heap.size):(w.alloc o).heap[k]? =w.heap[k]? :=heap_alloc_old w o k h
theorem Sy(w:World)(o:Go.Obj):(w.alloc o).heap[w.heap.size]? =some o:=heap_alloc_new w o
theorem Tr.alloc{P:Program}{σ:Mp}{H:Heap}{w:World}(h:Ww P σ H w)(o:Obj)(c:Go.Obj)(l:Loc)(hl:l.blk=w.heap.size)
  (ho:Uo (σ.put H.nx l) o l c):Tr P σ H w (σ.put H.nx l) (H.new o) (w.alloc c):=by
 have hf:σ H.nx=none:=h.fresh (Zl _)
 have he:=Mp.put_ext l hf
 refine⟨he,⟨?_,?_,?_,?_,?_,?_⟩,by simp,?_,?_,by simp[Heap.nx_new],rfl,?_,rfl,rfl,rfl,λb hb hn=>⟨by rw[Heap.get_new,if_neg (by omega)],by unfold Mp.put;rw[if_neg (by omega)];exact hn⟩⟩
 ·intro b m hb
  rw[Heap.nx_new]
  unfold Mp.put at hb
  by_cases e:b=H.nx
  ·omega
  ·rw[if_neg e] at hb;have:=h.dom b m hb;omega
 ·intro b o' hb
  rw[Heap.get_new] at hb
  rw[Heap.nx_new]
  by_cases e:H.nx=b
  ·omega
  ·rw[if_neg e] at hb;have:=h.low b o' hb;omega
 ·intro b o' l' hb hl'
  rw[Heap.get_new] at hb
  by_cases e:H.nx=b
  ·rw[if_pos e] at hb;cases hb;subst e
   rw[Mp.put_same] at hl';cases hl'
   exact⟨c,by rw[hl];exact Sy w c,ho⟩
  ·rw[if_neg e] at hb
   have hl2:σ b=some l':=by unfold Mp.put at hl';rwa [if_neg (λx=>e x.symm)] at hl'
   obtain⟨c',hc',hr⟩:=h.alive b o' l' hb hl2
   exact⟨c',by rw[SA (ZT.1 hc').1];exact hc',hr.mono he⟩
 ·intro b b' o1 o2 l1 l2 hb hb' hl1 hl2 e
  rw[Heap.get_new] at hb hb'
  by_cases e1:H.nx=b<;>by_cases e2:H.nx=b'
  ·omega
  ·rw[if_neg e2] at hb'
   subst e1
   rw[Mp.put_same] at hl1;cases hl1
   have ZbN:σ b'=some l2:=by unfold Mp.put at hl2;rwa [if_neg (λx=>e2 x.symm)] at hl2
   have:=h.blk_lt hb' ZbN
   omega
  ·rw[if_neg e1] at hb
   subst e2
   rw[Mp.put_same] at hl2;cases hl2
   have ZbL:σ b=some l1:=by unfold Mp.put at hl1;rwa [if_neg (λx=>e1 x.symm)] at hl1
   have:=h.blk_lt hb ZbL
   omega
  ·rw[if_neg e1] at hb;rw[if_neg e2] at hb'
   have ZbL:σ b=some l1:=by unfold Mp.put at hl1;rwa [if_neg (λx=>e1 x.symm)] at hl1
   have ZbN:σ b'=some l2:=by unfold Mp.put at hl2;rwa [if_neg (λx=>e2 x.symm)] at hl2
   exact h.inj b b' o1 o2 l1 l2 hb hb' ZbL ZbN e
 ·intro g hg
  obtain⟨l',h1,h2⟩:=h.glob g hg
  exact⟨l',he g l' h1,h2⟩
 ·rw[Heap.ro_new,Heap.nx_new];have:=h.ro;omega
 ·intro k hk _
  exact SA hk
 ·intro b l' hw hl' hlt
  obtain⟨hro,o',ho',hown⟩:=hw
  rw[Heap.get_new] at ho'
  by_cases e:H.nx=b
  ·subst e
   rw[Mp.put_same] at hl';cases hl'
   omega
  ·rw[if_neg e] at ho'
   have hl2:σ b=some l':=by unfold Mp.put at hl';rwa [if_neg (λx=>e x.symm)] at hl'
   exact⟨b,l',⟨hro,o',ho',hown⟩,hl2,rfl⟩
 ·intro b hb
  rw[Heap.get_new,if_neg]
  have:=h.ro;omega
theorem Tr.write{P:Program}{σ:Mp}{H:Heap}{w w':World}(h:Ww P σ H w){b:Nat}{o o':Obj}{l:Loc}{c':Go.Obj}
  (hb:H.t.get b=some o)(hl:σ b=some l)(hw:Wr H b)
  (hsize:w'.heap.size=w.heap.size)(hnew:w'.heap[l.blk]? =some c')(hold: ∀k,k≠l.blk->w'.heap[k]? =w.heap[k]?)
  (ho:Uo σ o' l c')(ht:w'.tape=w.tape)(hos:w'.os=w.os)(hout:w'.output=w.output):Tr P σ H w σ (H.put b o') w':=by
 refine⟨Ext.refl σ,⟨h.dom,?_,?_,?_,h.glob,h.ro⟩,by omega,?_,?_,Zl _,rfl,?_,ht,hos,hout,λb1 _ hn=>⟨by rw[Heap.get_put,if_neg (λe=>by subst e;rw[hl] at hn;cases hn)],hn⟩⟩
 ·intro b1 o1 hb1
  rw[Heap.get_put] at hb1
  by_cases e:b=b1
  ·subst e;exact h.low b o hb
  ·rw[if_neg e] at hb1;exact h.low b1 o1 hb1
 ·intro b1 o1 l1 hb1 hl1
  rw[Heap.get_put] at hb1
  by_cases e:b=b1
  ·rw[if_pos e] at hb1;cases hb1;subst e
   rw[hl] at hl1;cases hl1
   exact⟨c',hnew,ho⟩
  ·rw[if_neg e] at hb1
   obtain⟨c1,hc1,hr⟩:=h.alive b1 o1 l1 hb1 hl1
   refine⟨c1,?_,hr⟩
   rw[hold l1.blk ?_];exact hc1
   intro e2
   exact e (h.alone hb hb1 hl hl1 e2.symm λs=>hw.hard hb s.1)
 ·intro b1 b2 o1 o2 l1 l2 h1 h2 k1 k2 e
  have g: ∀(x:Nat) (ox:Obj),(H.put b o').t.get x=some ox-> ∃oy,H.t.get x=some oy:=by
   intro x ox hx
   rw[Heap.get_put] at hx
   by_cases ex:b=x
   ·subst ex;exact⟨o,hb⟩
   ·rw[if_neg ex] at hx;exact⟨ox,hx⟩
  obtain⟨o1',h1'⟩:=g b1 o1 h1
  obtain⟨o2',h2'⟩:=g b2 o2 h2
  rcases h.inj b1 b2 o1' o2' l1 l2 h1' h2' k1 k2 e with e1|⟨s1,s2⟩
  ·exact .inl e1
  ·rw[Heap.get_put] at h1 h2
   rw[if_neg (λx=>by subst x;exact hw.hard h1' s1)] at h1
   rw[if_neg (λx=>by subst x;exact hw.hard h2' s2)] at h2
   rw[h1] at h1';cases h1'
   rw[h2] at h2';cases h2'
   exact .inr ⟨s1,s2⟩
 ·intro k hk hn
  exact hold k λe=>hn b l hw hl e.symm
 ·intro b1 l1 hw1 hl1 hlt
  by_cases e:b=b1
  ·subst e;exact⟨b,l1,hw,hl1,rfl⟩
  ·obtain⟨hro,o1,ho1,hown⟩:=hw1
   rw[Heap.get_put,if_neg e] at ho1
   exact⟨b1,l1,⟨hro,o1,ho1,hown⟩,hl1,rfl⟩
 ·intro b1 hb1
  rw[Heap.get_put,if_neg]
  intro e;have:=hw.1;omega
namespace N8
variable {α:Type}
theorem proj_upd(i j:Nat)(hi:i<8)(hj:j<8)(f:α->α)(n:N8 α):proj i (upd j f n)=if i=j then f (proj i n) else proj i n:=by
 obtain⟨a,b,c,d,e,g,h,k⟩:=n
 match i,hi,j,hj with
 |0,_,0,_=>rfl|0,_,1,_=>rfl|0,_,2,_=>rfl|0,_,3,_=>rfl|0,_,4,_=>rfl|0,_,5,_=>rfl|0,_,6,_=>rfl|0,_,7,_=>rfl
 |1,_,0,_=>rfl|1,_,1,_=>rfl|1,_,2,_=>rfl|1,_,3,_=>rfl|1,_,4,_=>rfl|1,_,5,_=>rfl|1,_,6,_=>rfl|1,_,7,_=>rfl
 |2,_,0,_=>rfl|2,_,1,_=>rfl|2,_,2,_=>rfl|2,_,3,_=>rfl|2,_,4,_=>rfl|2,_,5,_=>rfl|2,_,6,_=>rfl|2,_,7,_=>rfl
 |3,_,0,_=>rfl|3,_,1,_=>rfl|3,_,2,_=>rfl|3,_,3,_=>rfl|3,_,4,_=>rfl|3,_,5,_=>rfl|3,_,6,_=>rfl|3,_,7,_=>rfl
 |4,_,0,_=>rfl|4,_,1,_=>rfl|4,_,2,_=>rfl|4,_,3,_=>rfl|4,_,4,_=>rfl|4,_,5,_=>rfl|4,_,6,_=>rfl|4,_,7,_=>rfl
 |5,_,0,_=>rfl|5,_,1,_=>rfl|5,_,2,_=>rfl|5,_,3,_=>rfl|5,_,4,_=>rfl|5,_,5,_=>rfl|5,_,6,_=>rfl|5,_,7,_=>rfl
 |6,_,0,_=>rfl|6,_,1,_=>rfl|6,_,2,_=>rfl|6,_,3,_=>rfl|6,_,4,_=>rfl|6,_,5,_=>rfl|6,_,6,_=>rfl|6,_,7,_=>rfl
 |7,_,0,_=>rfl|7,_,1,_=>rfl|7,_,2,_=>rfl|7,_,3,_=>rfl|7,_,4,_=>rfl|7,_,5,_=>rfl|7,_,6,_=>rfl|7,_,7,_=>rfl
theorem proj_all(i:Nat)(x:α):proj i (all x)=x:=by
 unfold proj
 split<;>rfl
end N8
theorem Hz(n m:Nat)(hn:n<512)(hm:m<512)(tm:TM)(v:AV):Sk n (Pu m tm v)=if n=m then v else Sk n tm:=by
 show N8.proj (n % 8) (N8.proj (n/8 % 8) (N8.proj (n/64) (N8.upd (m/64) (N8.upd (m/8 % 8) (N8.upd (m % 8) (λ_=>v))) tm)))=if n=m then v else N8.proj (n % 8) (N8.proj (n/8 % 8) (N8.proj (n/64) tm))
 rw[N8.proj_upd _ _ (by omega) (by omega)]
 by_cases h1:n/64=m/64
 ·rw[if_pos h1,N8.proj_upd _ _ (by omega) (by omega)]
  by_cases h2:n/8 % 8=m/8 % 8
  ·rw[if_pos h2,N8.proj_upd _ _ (by omega) (by omega)]
   by_cases h3:n % 8=m % 8
   ·rw[if_pos h3,if_pos (by omega)]
   ·rw[if_neg h3,if_neg (by omega)]
  ·rw[if_neg h2,if_neg (by omega)]
 ·rw[if_neg h1,if_neg (by omega)]
theorem qA(n:Nat):Sk n ML=.unk:=by
 show N8.proj (n % 8) (N8.proj (n/8 % 8) (N8.proj (n/64) ML))=_
 rw[show ML=N8.all u64 from rfl,N8.proj_all,show u64=N8.all u8 from rfl,N8.proj_all,show u8=N8.all AV.unk from rfl,N8.proj_all]
structure Qx(σ:Mp)(N:Nat)(tm:TM)(t:Array Value):Prop where
 size:N<=t.size
 get: ∀n,n<512->Yt σ (Sk n tm) (t.getD n undef)
theorem Qx.mono{σ σ':Mp}{N:Nat}{tm:TM}{t:Array Value}(h:Ext σ σ')(x:Qx σ N tm t):Qx σ' N tm t:=⟨x.size,λn hn=>(x.get n hn).mono h⟩
theorem Qx.set{σ:Mp}{N:Nat}{tm:TM}{t:Array Value}(x:Qx σ N tm t){d:Nat}{a:AV}{v:Value}(hd:d<N)(h:Yt σ a v):
  Qx σ N (XW (some d) tm a) (t.setIfInBounds d v):=by
 refine⟨by simpa using x.size,λn hn=>?_⟩
 have hs:=x.size
 by_cases h5:d<=511
 ·have hb:Nat.ble d 511=true:=Zm h5
  have e:XW (some d)=Pu d:=by show cond (Nat.ble d 511) (Pu d) d0=_;rw[hb];rfl
  rw[e,Hz n d hn (by omega)]
  by_cases e1:n=d
  ·subst e1
   rw[if_pos rfl]
   simp only[ZU,YH]
   have:n<t.size:=by omega
   simpa [this] using h
  ·rw[if_neg e1]
   simp only[ZU,YH]
   rw[if_neg (λz=>e1 z.symm)]
   have:=x.get n hn
   simpa only[ZU] using this
 ·have hb:Nat.ble d 511=false:=by
   cases e:Nat.ble d 511 with
   |false=>rfl
   |true=>exact absurd (Z1 e) h5
  have e:XW (some d)=d0:=by show cond (Nat.ble d 511) (Pu d) d0=_;rw[hb];rfl
  rw[e]
  show Yt σ (Sk n tm) _
  simp only[ZU,YH]
  rw[if_neg (by omega)]
  have:=x.get n hn
  simpa only[ZU] using this
theorem KO{σ:Mp}{f:Value->AV}: ∀(l:List Value),(∀v∈l,Yt σ (f v) v)->YO σ (xi f l) l
 |[],_=>Ul
 |v::l,h=>WD (h v (by simp)) (KO l λu hu=>h u (by simp[hu]))
theorem sR(σ:Mp): ∀(n:Nat) (v:Value),La n v=true->Yt σ (IP n v) v:=by
 intro n
 induction n with
 |zero=>intro v _;simp[IP,Yt]
 |succ n ih=>
  intro v hp
  unfold IP
  split
  ·simp[Yt]
  ·simp[Yt]
  ·rename_i s;simp only[Yt]
  ·simp[Yt]
  ·simp[Yt]
  ·simp[Yt]
  ·simp[Yt]
  ·simp only[Yt];exact⟨[],[],Ul,Ul,rfl⟩
  ·simp[Yt]
  ·rename_i t u;simp only[Yt];exact⟨u,ih u (by simpa [La] using hp),rfl⟩
  ·rename_i cs
   simp only[La,YR,Yj] at hp
   simp only[Yt]
   exact⟨cs,KO cs λv hv=>ih v (hp v hv).2,λv hv=>(by have:=(hp v hv).1;cases v<;>first|rfl|exact this),rfl⟩
  ·rename_i cs
   simp only[La,YR] at hp
   simp only[Yt]
   exact⟨cs,KO cs λv hv=>ih v (hp v hv),rfl⟩
  ·simp[Yt]
theorem Ou{α:Type}(a:Nat)(f:Nat->α):S5 a f=f a:=by cases a<;>rfl
theorem Qn{α:Type}(n:Int)(f:Int->α):Pg n f=f n:=by
 cases n with
 |ofNat a=>show S5 a (λa=>f (.ofNat a))=_;rw[Ou]
 |negSucc a=>show S5 a (λa=>f (.negSucc a))=_;rw[Ou]
theorem qT(a b:Int):CP a b=a+b:=by cases a<;>cases b<;>rfl
theorem yV(a b:Int):CV a b=a - b:=by
 cases a<;>cases b<;>try rfl
 rename_i x y
 show cond (Nat.ble y x) (Int.ofNat (x - y)) (Int.ofNat x - Int.ofNat y)=_
 cases h:Nat.ble y x with
 |false=>rfl
 |true=>have:=Z1 h;show Int.ofNat (x - y)=_;simp only[Yy];omega
theorem qW(a b:Int):yT a b=a*b:=by cases a<;>cases b<;>rfl
theorem cj(a b:Int):ZbY a b=a.tdiv b:=by cases a<;>cases b<;>rfl
theorem cr(a b:Int):ZbZ a b=a.tmod b:=by cases a<;>cases b<;>rfl
theorem Yu(a b:Nat):Nat.beq a b=decide (a=b):=by
 by_cases h:a=b
 ·subst h;simp
 ·rw[Zb h]
  cases e:Nat.beq a b with
  |false=>rfl
  |true=>exact absurd (ZW e) h
theorem Xa(a b:Nat):Nat.ble a b=decide (a<=b):=by
 by_cases h:a<=b
 ·rw[Ze h];exact Zm h
 ·rw[Zb h]
  cases e:Nat.ble a b with
  |false=>rfl
  |true=>exact absurd (Z1 e) h
theorem OJ(a b:Int):E8 a b=(a==b):=by
 cases a<;>cases b
 ·rename_i x y;show Nat.beq x y=_;rw[Yu,Vh];simp;omega
 ·rfl
 ·rfl
 ·rename_i x y;show Nat.beq x y=_;rw[Yu,Vh];simp
theorem Kn(a b:Int):tL a b=decide (a<b):=by
 cases a<;>cases b
 ·rename_i x y;show Nat.ble (x+1) y=_;rw[Xa,Vh];simp;omega
 ·rename_i x y;show false=_;rw[Vh];simp;omega
 ·rename_i x y;show true=_;rw[Vh];simp;omega
 ·rename_i x y;show Nat.ble (y+1) x=_;rw[Xa,Vh];simp;omega
theorem Zb5(a b:IntKind):P0 a b=decide (a=b):=by cases a<;>cases b<;>rfl
theorem S9{a b:IntKind}(h:P0 a b=true):a=b:=by rw[Zb5] at h;exact Zo h
theorem Fc(k:IntKind)(m:Nat)(n:Int)(hs:k.signed=false)(hm:(2^k.bits:Int)=m):z5 k m n=k.wrap n:=by
 cases n with
 |negSucc a=>rfl
 |ofNat a=>
  show cond (Nat.ble m a) (Int.ofNat (a % m)) (Int.ofNat a)=_
  unfold IntKind.wrap
  simp only[hs,hm,Y4,YJ,if_false]
  rw[Xa]
  by_cases h:m<=a
  ·rw[Ze h];simp
  ·rw[Zb h]
   show Int.ofNat a=_
   rw[Yy,Int.emod_eq_of_lt (by omega) (by omega)]
theorem Fb(k:IntKind)(h:Nat)(n:Int)(hs:k.signed=true)(hm:(2^k.bits:Int)=2*h)(hh:(2^(k.bits - 1):Int)=h)(h0:0<h):uF k h n=k.wrap n:=by
 cases n with
 |ofNat a=>
  show cond (Nat.ble h a) (k.wrap (Int.ofNat a)) (Int.ofNat a)=_
  rw[Xa]
  by_cases g:h<=a
  ·rw[Ze g];rfl
  ·rw[Zb g]
   show Int.ofNat a=_
   unfold IntKind.wrap
   simp only[hs,hm,hh,Yz]
   rw[Yy,Int.emod_eq_of_lt (by omega) (by omega),if_neg]
   simp;omega
 |negSucc a=>
  show cond (Nat.ble h a) (k.wrap (Int.negSucc a)) (Int.negSucc a)=_
  rw[Xa]
  by_cases g:h<=a
  ·rw[Ze g];rfl
  ·rw[Zb g]
   show Int.negSucc a=_
   unfold IntKind.wrap
   simp only[hs,hm,hh,Yz]
   have e:(Int.negSucc a) % (2*(h:Int))=Int.negSucc a+2*h:=by
    have:=Int.add_mul_emod_self_left (Int.negSucc a) (2*(h:Int)) 1
    rw[<-this,Int.mul_one,Int.emod_eq_of_lt (by omega) (by omega)]
   rw[e,if_pos]
   ·omega
   ·simp;omega
theorem O2(k:IntKind)(n:Int):ZaN k n=k.wrap n:=by
 cases k
 ·exact Fb .i8 128 n rfl (by decide) (by decide) (by decide)
 ·exact Fb .i16 32768 n rfl (by decide) (by decide) (by decide)
 ·exact Fb .i32 2147483648 n rfl (by decide) (by decide) (by decide)
 ·exact Fb .i64 9223372036854775808 n rfl (by decide) (by decide) (by decide)
 ·exact Fc .u8 256 n rfl (by decide)
 ·exact Fc .u16 65536 n rfl (by decide)
 ·exact Fc .u32 4294967296 n rfl (by decide)
 ·exact Fc .u64 18446744073709551616 n rfl (by decide)
theorem C4(k:IntKind):PS k=2^k.bits:=by cases k<;>rfl
theorem ku(k:IntKind):ql k=k.bits:=by cases k<;>rfl
theorem Fj(k:IntKind)(n:Int):Nx (PS k) n=(BitVec.ofInt k.bits n).toNat:=by
 rw[BitVec.toNat_ofInt,C4]
 have hp:0<2^k.bits:=Nat.two_pow_pos _
 generalize 2^k.bits=m at*
 cases n with
 |ofNat a=>
  show a % m=_
  simp only[Yy]
  norm_cast
 |negSucc a=>
  show(m - 1) - a % m=_
  have h:(Int.negSucc a) % (m:Int)=((m - 1 - a % m:Nat):Int):=by
   rw[Int.negSucc_emod _ (by omega)]
   have:=Vl a hp
   omega
  rw[h];simp
theorem x8(k:IntKind)(a b:Int):Nat.land (BitVec.ofInt k.bits a).toNat ((2^k.bits - 1) - (BitVec.ofInt k.bits b).toNat)=(BitVec.ofInt k.bits a&&& ~~~ (BitVec.ofInt k.bits b)).toNat:=by
 rw[BitVec.toNat_and,BitVec.toNat_not];rfl
theorem w9(P:Program)(w:World)(op:BinOp)(f:Nat->Nat->Nat->Nat)(hop:(op=.and∧f=OK)∨(op=.or∧f=Mi)∨(op=.xor∧f=ei)∨(op=.andNot∧f=Hk))(k:IntKind)(a b:Int):
  (Op.intBits op k a b).run P w=.ok (.int k (k.wrap (Int.ofNat (f (PS k) (Nx (PS k) a) (Nx (PS k) b))))) w:=by
 rw[Fj,Fj]
 rcases hop with⟨rfl,rfl⟩|⟨rfl,rfl⟩|⟨rfl,rfl⟩|⟨rfl,rfl⟩
 ·simp[Op.intBits,OK]
 ·simp[Op.intBits,Mi]
 ·simp[Op.intBits,ei]
 ·unfold Hk;rw[C4]
  have:=x8 k a b
  simp only[Op.intBits]
  rw[show(Nat.land (BitVec.ofInt k.bits a).toNat (Nat.sub (Nat.sub (2^k.bits) 1) (BitVec.ofInt k.bits b).toNat))=_ from this]
  rfl
theorem ek(P:Program)(w:World)(k:IntKind)(a:Int):
  (Op.intBits .xor k (if k.signed then -1 else k.max) a).run P w=.ok (.int k (k.wrap (Int.ofNat (Nat.sub (Nat.sub (PS k) 1) (Nx (PS k) a))))) w:=by
 rw[Fj,C4]
 have h:BitVec.ofInt k.bits (if k.signed then -1 else k.max)=BitVec.allOnes k.bits:=by
  cases k<;>decide
 simp only[Op.intBits,h]
 have e:(BitVec.allOnes k.bits^^^BitVec.ofInt k.bits a)= ~~~ (BitVec.ofInt k.bits a):=by rw[BitVec.allOnes_xor]
 rw[e,BitVec.toNat_not]
 rfl
theorem cD(a:Int)(b:Nat):Zb1 a b=a.fdiv (2^b):=by
 have hp:(0:Int)<((2^b:Nat):Int):=by have:=Nat.two_pow_pos b;omega
 have he:(2^b:Int)=((2^b:Nat):Int):=by simp
 rw[he,Int.fdiv_eq_ediv_of_nonneg _ (by omega)]
 cases a with
 |ofNat x=>
  show Int.ofNat (x/2^b)=_
  rfl
 |negSucc x=>
  show Int.negSucc (x/2^b)=_
  rw[Int.negSucc_ediv _ hp]
  rfl
def Y3(P:Program)(σ:Mp)(H:Heap)(w:World)(r:Result Next):OR->Prop
 |.val v H'=> ∃σ' w' x,(r=.ok (.value x) w'∨(r=.ok .skip w'∧x=undef))∧Yt σ' v x∧Tr P σ H w σ' H' w'
 |.oth .fail=>True
 |.oth (.call f args H')=>H'=H∧ ∃vs,YO σ args vs∧r=(callFunc f ⟨vs⟩).run P w
 |.oth (.yield b args H')=>H'=H∧ ∃l vs,σ b=some l∧YO σ args vs∧r=(Instr.yield l.blk ⟨vs⟩).run P w
 |.oth (.pan v H')=>H'=H∧ ∃x,Yt σ v x∧r=.halt (.panic x) w
 |.oth .recov=>r=.ok .recover w
 |.oth (.defer f args)=> ∀g a b,f=.func g a b-> ∃x y z,YO σ a x∧YO σ args y∧YO σ b z∧r=.ok (.defer {target:=.fn (.func g) ⟨z⟩,args:=⟨x++y⟩}) w
section
variable {P:Program} {σ:Mp} {H:Heap} {w:World} {r:Result Next}
theorem Yg(hs:Ww P σ H w){v:AV}{x:Value}(h:r=.ok (.value x) w)(hr:Yt σ v x):Y3 P σ H w r (.val v H):=
 ⟨σ,w,x,.inl h,hr,Tr.refl hs⟩
theorem RS{v:AV}{f:IntKind->Int->OR}(h: ∀k n,v=.int k n->Y3 P σ H w r (f k n)):Y3 P σ H w r (Qq v f):=by
 unfold Qq;split
 ·exact h _ _ rfl
 ·trivial
theorem Sp{v:AV}{f:Nat->OR}(h: ∀k n,v=.int k (.ofNat n)->Y3 P σ H w r (f n)):Y3 P σ H w r (RB v f):=by
 unfold RB;split
 ·exact h _ _ rfl
 ·trivial
theorem AX{v:AV}{f:Bool->OR}(h: ∀b,v=.bool b->Y3 P σ H w r (f b)):Y3 P σ H w r (FX v f):=by
 unfold FX;split
 ·exact h _ rfl
 ·trivial
theorem PJ{v:AV}{f:List UInt8->OR}(h: ∀s,v=.str s->Y3 P σ H w r (f s)):Y3 P σ H w r (Oe v f):=by
 unfold Oe;split
 ·exact h _ rfl
 ·trivial
theorem QA{v:AV}{f:Nat->Nat->OR}(h: ∀b o,v=.ptr b o->Y3 P σ H w r (f b o)):Y3 P σ H w r (QL v f):=by
 unfold QL;split
 ·exact h _ _ rfl
 ·trivial
theorem HG{v:AV}{f:List AV->OR}(h: ∀cs,v=.agg cs->Y3 P σ H w r (f cs)):Y3 P σ H w r (Bf v f):=by
 unfold Bf;split
 ·exact h _ rfl
 ·trivial
theorem jx{v:AV}{f:List AV->OR}(h: ∀cs,v=.tup cs->Y3 P σ H w r (f cs)):Y3 P σ H w r (py v f):=by
 unfold py;split
 ·exact h _ rfl
 ·trivial
theorem OF{v:AV}{n:OR}{f:Nat->AV->OR}(h0:v=.nili->Y3 P σ H w r n)(h: ∀t x,v=.iface t x->Y3 P σ H w r (f t x)):Y3 P σ H w r (QK v n f):=by
 unfold QK;split
 ·exact h _ _ rfl
 ·exact h0 rfl
 ·trivial
theorem T8{v:AV}{n:OR}{f:Nat->Nat->Nat->Option Nat->OR}(h0:v=.nils->Y3 P σ H w r n)(h: ∀b o l c,v=.slice b o l c->Y3 P σ H w r (f b o l c)):Y3 P σ H w r (U0 v n f):=by
 unfold U0;split
 ·exact h _ _ _ _ rfl
 ·exact h0 rfl
 ·trivial
theorem HI{v:AV}{z n:OR}(h0:v=.slice0->Y3 P σ H w r z)(h:Y3 P σ H w r n):Y3 P σ H w r (bM v z n):=by
 unfold bM;split
 ·exact h0 rfl
 ·exact h
theorem HH{v:AV}{n:OR}{f:Nat->OR}(h0:v=.nilm->Y3 P σ H w r n)(h: ∀b,v=.map b->Y3 P σ H w r (f b)):Y3 P σ H w r (ES v n f):=by
 unfold ES;split
 ·exact h _ rfl
 ·exact h0 rfl
 ·trivial
theorem OG{b:Nat}{f:Obj->OR}(h: ∀o,H.t.get b=some o->Y3 P σ H w r (f o)):Y3 P σ H w r (KI H b f):=by
 unfold KI;split
 ·rename_i o ho;exact h _ ho
 ·trivial
theorem Tj{b:Nat}{f:Row->OR}(h: ∀o,H.t.get b=some (.row o)->Y3 P σ H w r (f o)):Y3 P σ H w r (Xp H b f):=by
 unfold Xp;split
 ·rename_i o ho;exact h _ ho
 ·trivial
theorem Qo{α:Type}{x:Option α}{f:α->OR}(h: ∀a,x=some a->Y3 P σ H w r (f a)):Y3 P σ H w r (Tu x f):=by
 unfold Tu;split
 ·exact h _ rfl
 ·trivial
theorem Ym{b:Bool}{f:OR}(h:b=true->Y3 P σ H w r f):Y3 P σ H w r (ZX b f):=by
 cases b with
 |false=>exact trivial
 |true=>exact h rfl
theorem V9{b:Bool}{f g:OR}(h1:b=true->Y3 P σ H w r f)(h2:b=false->Y3 P σ H w r g):Y3 P σ H w r (cond b f g):=by
 cases b with
 |false=>exact h2 rfl
 |true=>exact h1 rfl
theorem Nd{a:Nat}{f:Nat->OR}(h:Y3 P σ H w r (f a)):Y3 P σ H w r (S5 a f):=by rw[Ou];exact h
theorem Ka{a:Int}{f:Int->OR}(h:Y3 P σ H w r (f a)):Y3 P σ H w r (Pg a f):=by rw[Qn];exact h
theorem Rs(hs:Ww P σ H w){k:IntKind}{n:Int}(h:r=.ok (.value (.int k (k.wrap n))) w):Y3 P σ H w r (UP k n H):=by
 unfold UP
 refine Ka ?_
 rw[O2]
 exact Yg hs h (by simp[Yt])
theorem Iy(hs:Ww P σ H w){b:Bool}(h:r=.ok (.value (.bool b)) w):Y3 P σ H w r (SV b H):=by
 unfold SV
 cases b
 ·exact Yg hs h (by simp[Yt])
 ·exact Yg hs h (by simp[Yt])
theorem oU{x y:AV}{f:IntKind->Int->Int->OR}(h: ∀k a b,x=.int k a->y=.int k b->Y3 P σ H w r (f k a b)):Y3 P σ H w r (FG x y f):=by
 unfold FG
 refine RS λj a hx=>RS λl b hy=>Ym λhk=>?_
 have:=S9 hk;subst this
 exact h j a b hx hy
def Rl(P:Program)(σ:Mp)(tm:TM)(ρ:Operand->Value):Prop:= ∀x,Yt σ (YQ P x tm) (ρ x)
theorem Pd(σ:Mp)(v:Value):Yt σ (WI v) v:=by
 unfold WI
 cases h:La 20 v with
 |false=>simp[Yt]
 |true=>exact sR σ 20 v h
theorem KJ(hs:Ww P σ H w){N:Nat}{tm:TM}{a:Act}(ht:Qx σ N tm a.tmps):Rl P σ tm a.eval:=by
 intro x
 cases x with
 |tmp t=>
  show Yt σ ((cond (Nat.ble t 511) (Sk t) (k .unk)) tm) _
  rw[Xa]
  by_cases h:t<=511
  ·rw[Ze h];exact ht.get t (R4 h)
  ·rw[Zb h];simp[k,Yt]
 |const v=>exact Pd σ v
 |global g=>
  show Yt σ ((cond (Nat.ble (Nat.succ g) P.globals.size) (k (.ptr g 0)) (k .unk)) tm) _
  rw[Xa]
  by_cases h:Nat.succ g<=P.globals.size
  ·rw[Ze h]
   obtain⟨l,hl,hb,h0⟩:=hs.glob g h
   show Yt σ (.ptr g 0) (.pointer (some ⟨g,0,none⟩))
   simp only[Yt]
   exact⟨l,hl,by rw[hb,h0]⟩
  ·rw[Zb h];simp[k,Yt]
 |func f=>simp only[Act.eval,YQ,k,Yt];exact⟨[],[],Ul,Ul,rfl⟩
theorem XX{k:IntKind}{n:Int}{v:Value}(h:Yt σ (.int k n) v):v=.int k n:=by simpa [Yt] using h
theorem Tm{b:Bool}{v:Value}(h:Yt σ (.bool b) v):v=.bool b:=by simpa [Yt] using h
theorem Uf{s:List UInt8}{v:Value}(h:Yt σ (.str s) v):v=.string ⟨s.toArray⟩:=by simpa [Yt] using h
theorem WY{s:Sem Value}{x:Value}{w':World}(h:s.run P w=.ok x w'):((do pure (Next.value (<-s)):Sem Next)).run P w=.ok (.value x) w':=by
 simp[h]
end
section
variable {P:Program} {σ:Mp} {H:Heap} {w:World} {tm:TM} {ρ:Operand->Value}
def Xr(P:Program)(σ:Mp)(H:Heap)(w:World)(tm:TM)(ρ:Operand->Value)(o:Oper):Prop:=
 Y3 P σ H w ((execOp ρ o).run P w) (Vm P o.op tm H)
theorem bH(hs:Ww P σ H w)(hρ:Rl P σ tm ρ){o:Oper}{x:Operand}(ho:o.op=.move x):Xr P σ H w tm ρ o:=by
 unfold Xr;rw[ho]
 exact Yg hs (by simp[execOp,ho]) (hρ x)
theorem mn(hs:Ww P σ H w)(hρ:Rl P σ tm ρ){o:Oper}{x:Operand}(ho:o.op=.assign x):Xr P σ H w tm ρ o:=by
 unfold Xr;rw[ho]
 exact Yg hs (by simp[execOp,ho]) (hρ x)
theorem bJ(hs:Ww P σ H w)(hρ:Rl P σ tm ρ){o:Oper}{c a b:Operand}(ho:o.op=.pick c a b):Xr P σ H w tm ρ o:=by
 unfold Xr;rw[ho]
 refine AX λt ht=>?_
 have hc:=hρ c;rw[ht] at hc
 have hc:=Tm hc
 cases t
 ·exact Yg hs (x:=ρ b) (by simp[execOp,ho,asBool,hc]) (hρ b)
 ·exact Yg hs (x:=ρ a) (by simp[execOp,ho,asBool,hc]) (hρ a)
theorem Zct(hs:Ww P σ H w)(hρ:Rl P σ tm ρ){o:Oper}{x:Operand}(ho:o.op=.nilCheck x):Xr P σ H w tm ρ o:=by
 unfold Xr;rw[ho]
 show Y3 P σ H w _ (xd (YQ P x tm) (.val (YQ P x tm) H))
 have hx:=hρ x
 unfold xd
 split
 ·rename_i b o' e
  rw[e] at hx
  have h0:=hx
  simp only[Yt] at hx
  obtain⟨l,hl,hv⟩:=hx
  rw[e]
  exact Yg hs (x:=ρ x) (by simp[execOp,ho,hv]) h0
 ·rename_i f a b e
  rw[e] at hx
  have h0:=hx
  simp only[Yt] at hx
  obtain⟨p,q,_,_,hv⟩:=hx
  rw[e]
  exact Yg hs (x:=ρ x) (by simp[execOp,ho,hv]) h0
 ·rename_i t v e
  rw[e] at hx
  have h0:=hx
  simp only[Yt] at hx
  obtain⟨p,_,hv⟩:=hx
  rw[e]
  exact Yg hs (x:=ρ x) (by simp[execOp,ho,hv]) h0
 ·rename_i b e
  rw[e] at hx
  have h0:=hx
  simp only[Yt] at hx
  obtain⟨p,_,hv⟩:=hx
  rw[e]
  exact Yg hs (x:=ρ x) (by simp[execOp,ho,hv]) h0
 ·trivial
theorem Lf{o:Oper}{op:BinOp}{t:TypeId}{x y:Operand}{u:TypeId}(ho:o.op=.binOp op t x y u)(hg:(op matches .eql|.neq)=false){v:Value}(h:(binOp op t (ρ x) (ρ y)).run P w=.ok v w):
  (execOp ρ o).run P w=.ok (.value v) w:=by
 simp only[execOp,ho]
 refine WY ?_
 have:(eqGuard op t x y (ρ x) (ρ y)).run P w=.ok () w:=by
  cases op<;>first|rfl|cases hg
 simp[this,h]
theorem Js(s:List UInt8):(ByteArray.mk s.toArray).toList=s:=by
 exact ByteArray.toList_eq _
theorem Np(s:List UInt8):(ByteArray.mk s.toArray).size=s.length:=by simp[ByteArray.size]
theorem Aw(a b:UInt8):LV a b=(a==b):=by
 unfold LV
 rw[Yu,Vh]
 simp[UInt8.toNat_inj]
theorem Sw: ∀a b:List UInt8,LJ a b=(a==b)
 |[],[]=>rfl
 |[],_::_=>rfl
 |_::_,[]=>rfl
 |a::x,b::y=>by
  show cond (LV a b) (LJ x y) false=_
  rw[Aw,Sw x y]
  rw[show((a::x)==(b::y))=(a==b&&x==y) from rfl]
  cases(a==b)<;>rfl
theorem K0: ∀a b:List UInt8,Yn a b=Op.bytesLess a b
 |[],[]=>rfl
 |[],_::_=>rfl
 |_::_,[]=>rfl
 |a::x,b::y=>by
  show cond (Nat.ble (Nat.succ a.toNat) b.toNat) true (cond (LV a b) (Yn x y) false)=_
  rw[Aw,K0 x y,Xa]
  simp only[Op.bytesLess]
  have:decide (a.toNat.succ<=b.toNat)=decide (a<b):=by
   rw[decide_eq_decide,VK];omega
  rw[this]
  cases decide (a<b)<;>cases(a==b)<;>simp
theorem Gy(hs:Ww P σ H w)(hρ:Rl P σ tm ρ){o:Oper}{op:BinOp}{t:TypeId}{x y:Operand}{u:TypeId}(ho:o.op=.binOp op t x y u)(hg:(op matches .eql|.neq)=false)
  {f:IntKind->Int->Int->OR}(h: ∀k a b,ρ x=.int k a->ρ y=.int k b->(∀v,(binOp op t (.int k a) (.int k b)).run P w=.ok v w->(execOp ρ o).run P w=.ok (.value v) w)->Y3 P σ H w ((execOp ρ o).run P w) (f k a b)):
  Y3 P σ H w ((execOp ρ o).run P w) (FG (YQ P x tm) (YQ P y tm) f):=by
 refine oU λk a b hx hy=>?_
 have h1:=hρ x;rw[hx] at h1
 have h2:=hρ y;rw[hy] at h2
 have h1:=XX h1
 have h2:=XX h2
 exact h k a b h1 h2 λv hv=>Lf ho hg (by rw[h1,h2];exact hv)
theorem Zcy(hs:Ww P σ H w)(hρ:Rl P σ tm ρ){o:Oper}{t:TypeId}{x y:Operand}{u:TypeId}(ho:o.op=.binOp .sub t x y u):Xr P σ H w tm ρ o:=by
 unfold Xr;rw[ho]
 refine Gy hs hρ ho rfl λk a b _ _ hr=>?_
 rw[yV]
 exact Rs hs (hr _ (by simp[binOp,Op.intArith]))
theorem Zcr(hs:Ww P σ H w)(hρ:Rl P σ tm ρ){o:Oper}{t:TypeId}{x y:Operand}{u:TypeId}(ho:o.op=.binOp .mul t x y u):Xr P σ H w tm ρ o:=by
 unfold Xr;rw[ho]
 refine Gy hs hρ ho rfl λk a b _ _ hr=>?_
 rw[qW]
 exact Rs hs (hr _ (by simp[binOp,Op.intArith]))
theorem Zcu(hs:Ww P σ H w)(hρ:Rl P σ tm ρ){o:Oper}{t:TypeId}{x y:Operand}{u:TypeId}(ho:o.op=.binOp .quo t x y u):Xr P σ H w tm ρ o:=by
 unfold Xr;rw[ho]
 refine Gy hs hρ ho rfl λk a b _ _ hr=>?_
 refine V9 (λ_=>trivial) λh0=>?_
 rw[OJ] at h0
 have h0: ¬b=0:=by simpa using h0
 rw[cj]
 exact Rs hs (hr _ (by simp[binOp,Op.intDiv,h0]))
theorem Zcv(hs:Ww P σ H w)(hρ:Rl P σ tm ρ){o:Oper}{t:TypeId}{x y:Operand}{u:TypeId}(ho:o.op=.binOp .rem t x y u):Xr P σ H w tm ρ o:=by
 unfold Xr;rw[ho]
 refine Gy hs hρ ho rfl λk a b _ _ hr=>?_
 refine V9 (λ_=>trivial) λh0=>Ka ?_
 rw[OJ] at h0
 have h0: ¬b=0:=by simpa using h0
 rw[cr]
 exact Yg hs (x:=.int k (a.tmod b)) (hr _ (by simp[binOp,Op.intDiv,h0])) (by simp[Yt])
theorem Du(hs:Ww P σ H w)(hρ:Rl P σ tm ρ){o:Oper}{op:BinOp}{f:Nat->Nat->Nat->Nat}{t:TypeId}{x y:Operand}{u:TypeId}(ho:o.op=.binOp op t x y u)
  (hop:(op=.and∧f=OK)∨(op=.or∧f=Mi)∨(op=.xor∧f=ei)∨(op=.andNot∧f=Hk)):
  Y3 P σ H w ((execOp ρ o).run P w) (TN (YQ P x) (YQ P y) f tm H):=by
 refine Gy hs hρ ho (by rcases hop with⟨rfl,_⟩|⟨rfl,_⟩|⟨rfl,_⟩|⟨rfl,_⟩<;>rfl) λk a b _ _ hr=>?_
 refine Rs hs (hr _ ?_)
 rw[<-w9 P w op f hop k a b]
 rcases hop with⟨rfl,_⟩|⟨rfl,_⟩|⟨rfl,_⟩|⟨rfl,_⟩<;>simp[binOp]
theorem Zcw(hs:Ww P σ H w)(hρ:Rl P σ tm ρ){o:Oper}{t:TypeId}{x y:Operand}{u:TypeId}(ho:o.op=.binOp .shl t x y u):Xr P σ H w tm ρ o:=by
 unfold Xr;rw[ho]
 refine RS λk a hx=>Sp λj b hy=>?_
 have h1:=hρ x;rw[hx] at h1
 have h2:=hρ y;rw[hy] at h2
 have h1:=XX h1
 have h2:=XX h2
 rw[qW]
 have e:k.wrap (a*Int.ofNat (Nat.pow 2 (cond (Nat.ble b 64) b 64)))=k.wrap (a*2^(min b k.bits)):=by
  have hk:k.bits<=64:=by cases k<;>decide
  have key: ∀c:Nat,k.bits<=c->k.wrap (a*((2^c:Nat):Int))=k.wrap (a*((2^k.bits:Nat):Int)):=by
   intro c hc
   unfold IntKind.wrap
   have:(a*((2^c:Nat):Int)) % (2^k.bits:Int)=0:=by
    apply Int.emod_eq_zero_of_dvd
    refine Int.dvd_trans ?_ (Int.dvd_mul_left _ _)
    obtain⟨d,rfl⟩: ∃d,c=k.bits+d:=⟨c - k.bits,by omega⟩
    exact⟨2^d,by rw[Ql];simp⟩
   have h2:(a*((2^k.bits:Nat):Int)) % (2^k.bits:Int)=0:=by
    apply Int.emod_eq_zero_of_dvd
    exact⟨a,by rw[Int.mul_comm];simp⟩
   rw[this,h2]
  rw[Xa]
  by_cases hb:b<=64
  ·rw[Ze hb]
   show k.wrap (a*((2^b:Nat):Int))=_
   by_cases hb2:b<=k.bits
   ·rw[Vi hb2];simp
   ·rw[Sm (by omega),key b (by omega)];simp
  ·rw[Zb hb]
   show k.wrap (a*((2^64:Nat):Int))=_
   rw[Sm (by omega),key 64 hk];simp
 refine Rs hs (Lf ho rfl ?_)
 rw[h1,h2,e]
 have hn: ¬(Int.ofNat b<0):=by rw[Yy];omega
 simp only[binOp,Op.shift]
 rw[if_neg hn]
 simp
theorem Zcx(hs:Ww P σ H w)(hρ:Rl P σ tm ρ){o:Oper}{t:TypeId}{x y:Operand}{u:TypeId}(ho:o.op=.binOp .shr t x y u):Xr P σ H w tm ρ o:=by
 unfold Xr;rw[ho]
 refine RS λk a hx=>Sp λj b hy=>Ka ?_
 have h1:=hρ x;rw[hx] at h1
 have h2:=hρ y;rw[hy] at h2
 have h1:=XX h1
 have h2:=XX h2
 have e:Kw b (ql k)=min b k.bits:=by
  unfold Kw
  rw[Xa,ku]
  by_cases hb:b<=k.bits
  ·rw[Ze hb,Vi hb];rfl
  ·rw[Zb hb,Sm (by omega)];rfl
 rw[cD,e]
 refine Yg hs (x:=.int k (a.fdiv (2^(min b k.bits)))) (Lf ho rfl ?_) (by simp[Yt])
 rw[h1,h2]
 have hn: ¬(Int.ofNat b<0):=by rw[Yy];omega
 simp only[binOp,Op.shift]
 rw[if_neg hn]
 simp
theorem Zci(hs:Ww P σ H w)(hρ:Rl P σ tm ρ){o:Oper}{t:TypeId}{x y:Operand}{u:TypeId}(ho:o.op=.binOp .add t x y u):Xr P σ H w tm ρ o:=by
 unfold Xr;rw[ho]
 show Y3 P σ H w _ (Yk (YQ P x) (YQ P y) tm H)
 have h1:=hρ x
 have h2:=hρ y
 unfold Yk
 split
 ·rename_i j a e
  rw[e] at h1
  have h1:=XX h1
  refine RS λl b hy=>Ym λhk=>?_
  have:=S9 hk;subst this
  rw[hy] at h2
  have h2:=XX h2
  rw[qT]
  exact Rs hs (Lf ho rfl (by rw[h1,h2];simp[binOp,Op.intArith]))
 ·rename_i a e
  rw[e] at h1
  have h1:=Uf h1
  refine PJ λb hy=>Ym λhk=>?_
  rw[hy] at h2
  have h2:=Uf h2
  rw[Xa,Yw,Yw] at hk
  have hk:a.length+b.length<=4611686018427387904:=Zo hk
  refine Yg hs (x:=.string ⟨(a++b).toArray⟩) (Lf ho rfl ?_) (by simp[Yt])
  rw[h1,h2]
  have hm: ¬(((a.length+b.length:Nat):Int)>IntKind.i64.max):=by
   have:IntKind.i64.max=9223372036854775807:=by decide
   rw[this];omega
  simp only[binOp,Op.stringOp,Np]
  rw[if_neg hm]
  simp only[Sem.run_pure]
  congr 2
 ·trivial
theorem xk(hs:Ww P σ H w)(hρ:Rl P σ tm ρ){o:Oper}{op:BinOp}{t:TypeId}{x y:Operand}{u:TypeId}(ho:o.op=.binOp op t x y u)(hg:(op matches .eql|.neq)=false)
  {f:Int->Int->Bool}{g:List UInt8->List UInt8->Bool}
  (hf: ∀k a b,(binOp op t (.int k a) (.int k b)).run P w=.ok (.bool (f a b)) w)
  (hh: ∀a b:List UInt8,(binOp op t (.string ⟨a.toArray⟩) (.string ⟨b.toArray⟩)).run P w=.ok (.bool (g a b)) w):
  Y3 P σ H w ((execOp ρ o).run P w) (YE (YQ P x) (YQ P y) f g tm H):=by
 have h1:=hρ x
 have h2:=hρ y
 unfold YE
 split
 ·rename_i j a e
  rw[e] at h1
  have h1:=XX h1
  refine RS λl b hy=>Ym λhk=>?_
  have:=S9 hk;subst this
  rw[hy] at h2
  have h2:=XX h2
  exact Iy hs (Lf ho hg (by rw[h1,h2];exact hf _ _ _))
 ·rename_i a e
  rw[e] at h1
  have h1:=Uf h1
  refine PJ λb hy=>?_
  rw[hy] at h2
  have h2:=Uf h2
  exact Iy hs (Lf ho hg (by rw[h1,h2];exact hh _ _))
 ·trivial
theorem P1: ∀a b:List UInt8,(Op.bytesLess a b||a==b)=!Op.bytesLess b a
 |[],[]=>rfl
 |[],_::_=>rfl
 |_::_,[]=>rfl
 |a::x,b::y=>by
  have ih:=P1 x y
  simp only[Op.bytesLess]
  have e1:((a::x)==(b::y))=(a==b&&x==y):=rfl
  rw[e1]
  rcases Nat.lt_trichotomy a.toNat b.toNat with h|h|h
  ·have h1:decide (a<b)=true:=Ze (VK.2 h)
   have h2:decide (b<a)=false:=Zb (λz=>by have:=VK.1 z;omega)
   have h3:(b==a)=false:=by rw[beq_eq_false_iff_ne];intro z;subst z;omega
   rw[h1,h2,h3];rfl
  ·have hab:a=b:=UInt8.toNat_inj.1 h
   subst hab
   have h1:decide (a<a)=false:=Zb (λz=>by have:=VK.1 z;omega)
   rw[h1]
   simpa using ih
  ·have h1:decide (a<b)=false:=Zb (λz=>by have:=VK.1 z;omega)
   have h2:decide (b<a)=true:=Ze (VK.2 h)
   have h3:(a==b)=false:=by rw[beq_eq_false_iff_ne];intro z;subst z;omega
   rw[h1,h2,h3];rfl
theorem Zcq(hs:Ww P σ H w)(hρ:Rl P σ tm ρ){o:Oper}{t:TypeId}{x y:Operand}{u:TypeId}(ho:o.op=.binOp .lss t x y u):Xr P σ H w tm ρ o:=by
 unfold Xr;rw[ho]
 refine xk hs hρ ho rfl (λk a b=>?_) λa b=>?_
 ·simp[binOp,Op.intCmp,XC,Kn]
 ·simp[binOp,Op.stringOp,K0]
theorem Zcn(hs:Ww P σ H w)(hρ:Rl P σ tm ρ){o:Oper}{t:TypeId}{x y:Operand}{u:TypeId}(ho:o.op=.binOp .gtr t x y u):Xr P σ H w tm ρ o:=by
 unfold Xr;rw[ho]
 refine xk hs hρ ho rfl (λk a b=>?_) λa b=>?_
 ·simp[binOp,Op.intCmp,Sq,Kn]
 ·have:=P1 a b
  simp[binOp,Op.stringOp,VS,K0,this]
theorem Zcp(hs:Ww P σ H w)(hρ:Rl P σ tm ρ){o:Oper}{t:TypeId}{x y:Operand}{u:TypeId}(ho:o.op=.binOp .leq t x y u):Xr P σ H w tm ρ o:=by
 unfold Xr;rw[ho]
 refine xk hs hρ ho rfl (λk a b=>?_) λa b=>?_
 ·have:decide (a<=b)=!decide (b<a):=by rw[Vh];simp
  simp[binOp,Op.intCmp,Jz,Kn,this]
 ·have:=P1 a b
  simp[binOp,Op.stringOp,Og,K0,this]
theorem Zcm(hs:Ww P σ H w)(hρ:Rl P σ tm ρ){o:Oper}{t:TypeId}{x y:Operand}{u:TypeId}(ho:o.op=.binOp .geq t x y u):Xr P σ H w tm ρ o:=by
 unfold Xr;rw[ho]
 refine xk hs hρ ho rfl (λk a b=>?_) λa b=>?_
 ·have:decide (b<=a)=!decide (a<b):=by rw[Vh];simp
  simp[binOp,Op.intCmp,SK,Kn,this]
 ·simp[binOp,Op.stringOp,Vd,K0]
theorem ZfV(hs:Ww P σ H w)(hρ:Rl P σ tm ρ){o:Oper}{op:UnOp}{t:TypeId}{x:Operand}(ho:o.op=.unOp op t x):Xr P σ H w tm ρ o:=by
 unfold Xr;rw[ho]
 have h1:=hρ x
 cases op with
 |neg=>
  refine RS λk a hx=>?_
  rw[hx] at h1
  have h1:=XX h1
  rw[yV]
  exact Rs hs (by simp only[execOp,ho,h1];exact WY (by simp[Op.unary,Op.intArith]))
 |not=>
  refine AX λb hx=>?_
  rw[hx] at h1
  have h1:=Tm h1
  refine Yg hs (x:=.bool (!b)) (by simp only[execOp,ho,h1];exact WY (by simp[Op.unary])) (by cases b<;>simp[Yt])
 |xor=>
  refine RS λk a hx=>?_
  rw[hx] at h1
  have h1:=XX h1
  refine Rs hs ?_
  simp only[execOp,ho,h1]
  refine WY ?_
  simp only[Op.unary]
  exact ek P w k a
 |plus=>trivial
theorem bG(hs:Ww P σ H w)(hρ:Rl P σ tm ρ){o:Oper}{t:TypeId}{x:Operand}(ho:o.op=.makeInterface t x){d:TypeDesc}(ht:P.underlying t=some d)(hd:(d matches .interface _)=false):
  Y3 P σ H w ((execOp ρ o).run P w) (UX (YQ P x) t tm H):=by
 refine Yg hs (x:=.iface t (ρ x)) ?_ (by simp only[Yt];exact⟨_,hρ x,rfl⟩)
 simp only[execOp,ho]
 refine WY ?_
 simp only[Instr.makeInterface,Sem.run_bind,run_underlying ht,Result.andThen_ok]
 cases d<;>first|rfl|cases hd
theorem KN(hρ:Rl P σ tm ρ): ∀l:List Operand,YO σ (evs tm (l.map (YQ P))) (l.map ρ)
 |[]=>Ul
 |x::l=>WD (hρ x) (KN hρ l)
theorem mr(hs:Ww P σ H w)(hρ:Rl P σ tm ρ){o:Oper}{fn:Fn}{a b:Array Operand}(ho:o.op=.makeFunc fn a b):Xr P σ H w tm ρ o:=by
 unfold Xr;rw[ho]
 have hr:(execOp ρ o).run P w=.ok (.value (.func fn (a.map ρ) (b.map ρ))) w:=by
  simp only[execOp,ho]
  exact WY (by simp[Instr.makeFunc])
 show Y3 P σ H w _ ((match fn with
  |.func f=>LC f (args P a) (args P b)
  |.method n=>Zaz P n a.toList b.toList
  |_=>VG) tm H)
 split
 ·rename_i f
  refine Yg hs hr ?_
  simp only[Yt]
  refine⟨a.toList.map ρ,b.toList.map ρ,KN hρ _,KN hρ _,?_⟩
  congr 1<;>(apply Array.ext';simp)
 ·rename_i n
  obtain⟨a⟩:=a
  obtain⟨b⟩:=b
  match a,b with
  |[x],[]=>
   refine Yg hs hr ?_
   simp only[Yt]
   exact⟨ρ x,hρ x,by simp⟩
  |[],_=>trivial
  |[_],_::_=>trivial
  |_::_::_,_=>trivial
 ·trivial
theorem sY(hs:Ww P σ H w)(hρ:Rl P σ tm ρ){o:Oper}{x:Operand}{i:Nat}(ho:o.op=.extract x i):Xr P σ H w tm ρ o:=by
 unfold Xr;rw[ho]
 refine jx λvs hx=>Qo λv hv=>?_
 have h1:=hρ x
 rw[hx] at h1
 simp only[Yt] at h1
 obtain⟨us,hu,e⟩:=h1
 rw[Gq] at hv
 obtain⟨u,hu1,hu2⟩:=hu.get hv
 refine Yg hs (x:=u) ?_ hu2
 simp only[execOp,ho]
 refine WY ?_
 rw[e]
 simp[Instr.extract,hu1]
theorem TJ{r:Result Next}:Y3 P σ H w r (VG tm H):=trivial
theorem WF{b:Bool}{f g:W7}{r:Result Next}(h1:b=true->Y3 P σ H w r (f tm H))(h2:b=false->Y3 P σ H w r (g tm H)):Y3 P σ H w r ((cond b f g) tm H):=by
 cases b with
 |false=>exact h2 rfl
 |true=>exact h1 rfl
theorem XG{t:Nat}{f:TypeInfo->W7}{r:Result Next}(h: ∀i,P.info? t=some i->Y3 P σ H w r (f i tm H)):Y3 P σ H w r (UB P t f tm H):=by
 unfold UB
 cases e:P.info? t with
 |none=>exact trivial
 |some i=>exact h i e
theorem Xj{t:Nat}{f:TypeDesc->W7}{r:Result Next}(h: ∀d,P.underlying t=some d->Y3 P σ H w r (f d tm H)):Y3 P σ H w r (VH P t f tm H):=by
 unfold VH
 cases e:P.underlying t with
 |none=>exact trivial
 |some i=>exact h i e
theorem Ud{α:Type}{x:Option α}{f:α->W7}{r:Result Next}(h: ∀a,x=some a->Y3 P σ H w r (f a tm H)):Y3 P σ H w r (QM x f tm H):=by
 cases x with
 |none=>exact trivial
 |some i=>exact h i rfl
theorem HJ{f:Array Field->W7}{d:TypeDesc}{r:Result Next}(h: ∀fs,d=.struct fs->Y3 P σ H w r (f fs tm H)):Y3 P σ H w r (xK f d tm H):=by
 cases d<;>first|exact trivial|exact h _ rfl
theorem Nf{f:Nat->W7}{d:TypeDesc}{r:Result Next}(h: ∀e,d=.slice e->Y3 P σ H w r (f e tm H)):Y3 P σ H w r (BQ f d tm H):=by
 cases d<;>first|exact trivial|exact h _ rfl
theorem oV{f:Nat->W7}{d:TypeDesc}{r:Result Next}(h: ∀e,d=.pointer e->Y3 P σ H w r (f e tm H)):Y3 P σ H w r (ZgX f d tm H):=by
 cases d<;>first|exact trivial|exact h _ rfl
theorem Cr{f:W7}{d:TypeDesc}{r:Result Next}(h:d=.int .u8->Y3 P σ H w r (f tm H)):Y3 P σ H w r (tU8 f d tm H):=by
 cases d with
 |int k=>cases k<;>first|exact trivial|exact h rfl
 |_=>exact trivial
theorem Ps{t:Nat}{d:TypeDesc}(h:P.underlying t=some d):(isAgg t).run P w=.ok (NK P t) w:=by
 unfold isAgg NK
 rw[h]
 simp only[Sem.run_bind,run_underlying h,Result.andThen_ok]
 cases d<;>rfl
theorem Wq{t:Nat}{i:TypeInfo}(h:P.info? t=some i):(sizeOf t).run P w=.ok i.size w:=by
 rw[run_sizeOf w h,Program.cellsOf,h];rfl
theorem Ue{b o:Nat}{v:Value}(h:Yt σ (.ptr b o) v): ∃l,σ b=some l∧v=.pointer (some ⟨l.blk,l.base+o,none⟩):=by simpa only[Yt] using h
theorem Mq{b o:Nat}{l:Loc}(h:σ b=some l):Yt σ (.ptr b o) (.pointer (some ⟨l.blk,l.base+o,none⟩)):=by simp only[Yt];exact⟨l,h,rfl⟩
theorem RO(b o n:Nat):Addr.add ⟨b,o,none⟩ n=⟨b,o+n,none⟩:=by
 unfold Addr.add
 by_cases h:n=0
 ·rw[if_pos h,h];rfl
 ·rw[if_neg h]
theorem xm(hs:Ww P σ H w)(hρ:Rl P σ tm ρ){o:Oper}{t:TypeId}{x:Operand}{f:Nat}(ho:o.op=.fieldAddr t x f):Xr P σ H w tm ρ o:=by
 unfold Xr;rw[ho]
 refine Xj λd hu=>HJ λfs hd=>Ud λg hg=>XG λi hi=>WF (λh1=>?_) λ_=>TJ
 subst hd
 refine QA λb off hx=>?_
 have h1':=hρ x
 rw[hx] at h1'
 obtain⟨l,hl,e⟩:=Ue h1'
 rw[Xa] at h1
 have h1:1<=i.size:=Zo h1
 refine Yg hs ?_ (Mq hl)
 simp only[execOp,ho]
 refine WY ?_
 rw[e]
 simp only[Instr.fieldAt,Sem.run_bind,run_underlying hu,Result.andThen_ok,hg,Instr.sureAddr,Sem.run_pure,fieldPlace,Wq hi]
 rw[if_neg (by omega)]
 simp only[Sem.run_pure,Result.andThen_ok,RO,XF]
 rfl
theorem hK(hs:Ww P σ H w)(hρ:Rl P σ tm ρ){o:Oper}{t:TypeId}{x:Operand}{f:Nat}(ho:o.op=.field t x f):Xr P σ H w tm ρ o:=by
 unfold Xr;rw[ho]
 refine Xj λd hu=>HJ λfs hd=>Ud λg hg=>XG λi hi=>Xj λd2 hu2=>?_
 subst hd
 have hag:=Ps (w:=w) hu2
 refine WF (λh1=>?_) λh1=>?_
 ·refine HG λcs hx=>?_
  have h1':=hρ x
  rw[hx] at h1'
  simp only[Yt] at h1'
  obtain⟨vs,hvs,hone,e⟩:=h1'
  rw[h1] at hag
  refine Yg hs (x:=.agg ⟨(vs.drop g.offset).take i.size⟩) ?_ ?_
  ·simp only[execOp,ho]
   refine WY ?_
   rw[e]
   simp only[Instr.field,Sem.run_bind,run_underlying hu,Result.andThen_ok,hg,asAgg,Sem.run_pure,part,hag,if_true,Wq hi]
   congr 2
   apply Array.ext'
   simp[WL]
  ·rw[O0,OE]
   simp only[Yt]
   exact⟨_,(hvs.drop _).take _,λy hy=>hone y (T5 (US hy)),rfl⟩
 ·refine HG λcs hx=>Qo λv hv=>?_
  have h1':=hρ x
  rw[hx] at h1'
  simp only[Yt] at h1'
  obtain⟨vs,hvs,hone,e⟩:=h1'
  rw[h1] at hag
  rw[Gq] at hv
  obtain⟨u,hu1,hu2⟩:=hvs.get hv
  refine Yg hs (x:=u) ?_ hu2
  simp only[execOp,ho]
  refine WY ?_
  rw[e]
  simp only[Instr.field,Sem.run_bind,run_underlying hu,Result.andThen_ok,hg,asAgg,Sem.run_pure,part,hag]
  simp[hu1]
theorem xn(hs:Ww P σ H w)(hρ:Rl P σ tm ρ){o:Oper}{t:TypeId}{x i:Operand}(ho:o.op=.indexAddr t x i):Xr P σ H w tm ρ o:=by
 unfold Xr;rw[ho]
 refine Xj λd hu=>?_
 cases d<;>try exact trivial
 case slice el=>
  refine XG λj hj=>Sp λk n hn=>T8 (λ_=>trivial) λb off len cap hx=>Ym λhlt=>?_
  have h1:=hρ x
  have h2:=hρ i
  rw[hx] at h1;rw[hn] at h2
  simp only[Yt] at h1
  obtain⟨l,hl,e⟩:=h1
  have h2:=XX h2
  rw[Xa] at hlt
  have hlt:n+1<=len:=Zo hlt
  refine Yg hs ?_ (Mq hl)
  simp only[execOp,ho]
  refine WY ?_
  rw[e,h2]
  simp only[Instr.indexAt,Sem.run_bind,asIntOf,Sem.run_pure,Result.andThen_ok,run_underlying hu]
  rw[if_pos (by constructor<;>simp only[Yy]<;>omega)]
  simp only[Sem.run_bind,Wq hj,Result.andThen_ok,Sem.run_pure,RO,XF,Yy,Wi]
  rfl
 case array m el=>
  refine XG λj hj=>Sp λk n hn=>QA λb off hx=>Ym λhlt=>?_
  have h1:=hρ x
  have h2:=hρ i
  rw[hx] at h1;rw[hn] at h2
  obtain⟨l,hl,e⟩:=Ue h1
  have h2:=XX h2
  rw[Xa] at hlt
  have hlt:n+1<=m:=Zo hlt
  refine Yg hs ?_ (Mq hl)
  simp only[execOp,ho]
  refine WY ?_
  rw[e,h2]
  simp only[Instr.indexAt,Sem.run_bind,asIntOf,Sem.run_pure,Result.andThen_ok,run_underlying hu,Instr.sureAddr]
  rw[if_pos (by constructor<;>simp only[Yy]<;>omega)]
  simp only[Sem.run_bind,Wq hj,Result.andThen_ok,Sem.run_pure,RO,XF,Yy,Wi]
  rfl
theorem hU(hs:Ww P σ H w)(hρ:Rl P σ tm ρ){o:Oper}{t:TypeId}{x i:Operand}(ho:o.op=.index t x i):Xr P σ H w tm ρ o:=by
 unfold Xr;rw[ho]
 refine Xj λd hu=>?_
 cases d<;>try exact trivial
 case string=>
  refine Sp λk n hn=>PJ λs hx=>Qo λb hb=>Nd ?_
  have h1:=hρ x
  have h2:=hρ i
  rw[hx] at h1;rw[hn] at h2
  have h1:=Uf h1
  have h2:=XX h2
  rw[xf] at hb
  refine Yg hs (x:=.int .u8 b.toNat) ?_ (by simp[Yt])
  simp only[execOp,ho]
  refine WY ?_
  rw[h1,h2]
  have hb':(ByteArray.mk s.toArray)[n]? =some b:=by
   rw[<-hb]
   by_cases h:n<s.length
   ·have h':n<(ByteArray.mk s.toArray).size:=by rw[Np];exact h
    rw[getElem?_pos (ByteArray.mk s.toArray) n h',Zg h];rfl
   ·rw[getElem?_neg (ByteArray.mk s.toArray) n (by rw[Np];exact h),YB (by omega)]
  simp only[Instr.index,Sem.run_bind,asIntOf,Sem.run_pure,Result.andThen_ok,run_underlying hu]
  rw[if_pos (by simp only[Yy];omega)]
  simp only[Yy,Wi,hb',Sem.run_pure]
 case array m el=>
  refine XG λj hj=>Xj λd2 hu2=>?_
  have hag:=Ps (w:=w) hu2
  refine WF (λh1=>?_) λh1=>WF (λhz=>?_) λ_=>TJ
  ·refine Sp λk n hn=>HG λcs hx=>Ym λhlt=>?_
   have g1:=hρ x
   have g2:=hρ i
   rw[hx] at g1;rw[hn] at g2
   have g2:=XX g2
   simp only[Yt] at g1
   obtain⟨vs,hvs,hone,e⟩:=g1
   rw[h1] at hag
   rw[Xa] at hlt
   have hlt:n+1<=m:=Zo hlt
   refine Yg hs (x:=.agg ⟨(vs.drop (n*j.size)).take j.size⟩) ?_ ?_
   ·simp only[execOp,ho]
    refine WY ?_
    rw[e,g2]
    simp only[Instr.index,Sem.run_bind,asIntOf,Sem.run_pure,Result.andThen_ok,run_underlying hu]
    rw[if_pos (by constructor<;>simp only[Yy]<;>omega)]
    simp only[Sem.run_bind,Wq hj,Result.andThen_ok,part,hag,if_true,Sem.run_pure,Yy,Wi]
    congr 2
    apply Array.ext'
    simp[WL]
   ·rw[O0,OE]
    simp only[Yt]
    exact⟨_,(hvs.drop _).take _,λy hy=>hone y (T5 (US hy)),rfl⟩
  ·refine Sp λk n hn=>HG λcs hx=>Ym λhlt=>Qo λv hv=>?_
   have g1:=hρ x
   have g2:=hρ i
   rw[hx] at g1;rw[hn] at g2
   have g2:=XX g2
   simp only[Yt] at g1
   obtain⟨vs,hvs,hone,e⟩:=g1
   rw[h1] at hag
   rw[Xa] at hlt
   have hlt:n+1<=m:=Zo hlt
   rw[Yu] at hz
   have hz:j.size=1:=Zo hz
   rw[Gq] at hv
   obtain⟨u,hu1,Zjn⟩:=hvs.get hv
   refine Yg hs (x:=u) ?_ Zjn
   simp only[execOp,ho]
   refine WY ?_
   rw[e,g2]
   simp only[Instr.index,Sem.run_bind,asIntOf,Sem.run_pure,Result.andThen_ok,run_underlying hu]
   rw[if_pos (by constructor<;>simp only[Yy]<;>omega)]
   simp only[Sem.run_bind,Wq hj,Result.andThen_ok,part,hag,Yy,Wi,hz,Xw]
   simp[hu1]
theorem Iw{r:Result Next}{x:Option Operand}{dflt top:Nat}{f:Nat->OR}(hρ:Rl P σ tm ρ)
  (h: ∀n,(∀code,(match x.map ρ with|some v=>Instr.sliceBound v top code|none=>pure dflt:Sem Nat).run P w=.ok n w)->((x=none∧n=dflt)∨(x.isSome=true∧n<=top))->Y3 P σ H w r (f n)):
  Y3 P σ H w r (qp tm (opt P x) dflt top f):=by
 cases x with
 |none=>exact h dflt (λ_=>rfl) (.inl ⟨rfl,rfl⟩)
 |some x=>
  refine Sp (v:=YQ P x tm) λk n hn=>Ym λhle=>?_
  rw[Xa] at hle
  have hle:n<=top:=Zo hle
  refine h n (λcode=>?_) (.inr ⟨rfl,hle⟩)
  have h1:=hρ x
  rw[hn] at h1
  have h1:=XX h1
  simp only[Wb,h1,Instr.sliceBound,Sem.run_bind,asIntOf,Sem.run_pure,Result.andThen_ok]
  rw[if_pos (by constructor<;>simp only[Yy]<;>omega)]
  simp
theorem PH{r:Result Next}{lo hi mx:Option Operand}{len cap capC:Nat}{f:Nat->Nat->Nat->OR}(isSlice:Bool)(hρ:Rl P σ tm ρ)(hmx:mx.isSome=true->hi.isSome=true)(hc:cap<=capC)
  (h: ∀l h m mC,(Instr.sliceBounds isSlice len capC (lo.map ρ) (hi.map ρ) (mx.map ρ)).run P w=.ok (l,h,mC) w->l<=h->m<=cap->(mx=none->m=cap∧mC=capC)->(mx.isSome=true->m=mC)->(hi=none->h=len)->(hi.isSome=true->h<=m)->Y3 P σ H w r (f l h m)):
  Y3 P σ H w r (Il tm (opt P lo) (opt P hi) (opt P mx) len cap f):=by
 unfold Il
 have up: ∀(x:Option Operand) (dflt top topC n:Nat),top<=topC->(∀code,(match x.map ρ with|some v=>Instr.sliceBound v top code|none=>pure dflt:Sem Nat).run P w=.ok n w)->((x=none∧n=dflt)∨(x.isSome=true∧n<=top))->
   (∀d2,(x=none->d2=n)-> ∀code,(match x.map ρ with|some v=>Instr.sliceBound v topC code|none=>pure d2:Sem Nat).run P w=.ok n w):=by
  intro x dflt top topC n ht h1 h2 d2 hd code
  cases x with
  |none=>rw[hd rfl];rfl
  |some x=>
   have h1:=h1 code
   simp only[Wb] at h1 ⊢
   have h2:n<=top:=by rcases h2 with⟨h2,_⟩|⟨_,h2⟩;cases h2;exact h2
   unfold Instr.sliceBound at h1 ⊢
   cases hv:ρ x<;>rw[hv] at h1<;>simp only[asIntOf,Sem.run_bind,Sem.run_pure,Result.andThen_ok,run_stuck,Result.andThen_halt,run_unsupported] at h1 ⊢
   case int k i=>
    by_cases hh:0<=i∧i<=(top:Int)
    ·rw[if_pos hh] at h1
     rw[if_pos (by omega)];exact h1
    ·rw[if_neg hh] at h1
     exfalso
     have hr:=h1
     first
      |(obtain⟨s',w',hp⟩:=run_boundsPanic (P:=P) (w:=w) (α:=Nat) _ i top code
        rw[hp] at hr;cases hr)
      |(obtain⟨s',w',hp⟩:=run_boundsPanic (P:=P) (w:=w) (α:=Nat) _ i top code
        simp[hp] at hr)
   all_goals (first|cases h1|(rename_i p;cases p<;>simp at h1))
 refine Iw hρ λm hm hm2=>Iw hρ λhh hh1 hh2=>Iw hρ λl hl hl2=>?_
 have hmc:m<=cap:=by rcases hm2 with⟨_,e⟩|⟨_,e⟩<;>omega
 have hlh:l<=hh:=by rcases hl2 with⟨_,e⟩|⟨_,e⟩<;>omega
 have fin: ∀mC,(mx=none->m=cap∧mC=capC)->(mx.isSome=true->m=mC)->(Instr.sliceBounds isSlice len capC (lo.map ρ) (hi.map ρ) (mx.map ρ)).run P w=.ok (l,hh,mC) w->Y3 P σ H w r (f l hh m):=by
  intro mC q1 q2 q3
  refine h l hh m mC q3 hlh hmc q1 q2 (λe=>?_) (λe=>?_)
  ·rcases hh2 with⟨_,e2⟩|⟨e2,_⟩;exact e2;rw[e] at e2;cases e2
  ·rcases hh2 with⟨e2,_⟩|⟨_,e2⟩;rw[e2] at e;cases e;exact e2
 cases mx with
 |none=>
  have hm':m=cap:=by rcases hm2 with⟨_,e⟩|⟨e,_⟩;exact e;cases e
  refine fin capC (λ_=>⟨hm',rfl⟩) (λe=>by cases e) ?_
  have h2:=up hi len m capC hh (by omega) hh1 hh2
  unfold Instr.sliceBounds
  cases hi with
  |none=>
   have e1:hh=len:=by rcases hh2 with⟨_,e⟩|⟨e,_⟩;exact e;cases e
   subst e1
   cases lo with
   |none=>
    have e2:l=0:=by rcases hl2 with⟨_,e⟩|⟨e,_⟩;exact e;cases e
    subst e2;simp
   |some lo=>have hl':=λc=>hl c;simp only[Wb] at hl';simp[hl']
  |some hi=>
   have h2':=λc=>h2 0 (λe=>by cases e) c
   simp only[Wb] at h2'
   cases lo with
   |none=>
    have e2:l=0:=by rcases hl2 with⟨_,e⟩|⟨e,_⟩;exact e;cases e
    subst e2;simp[h2']
   |some lo=>have hl':=λc=>hl c;simp only[Wb] at hl';simp[hl',h2']
 |some mx=>
  refine fin m (λe=>by cases e) (λ_=>rfl) ?_
  have h3:=up (some mx) cap cap capC m hc hm hm2
  have h3':=λc=>h3 0 (λe=>by cases e) c
  simp only[Wb] at h3'
  unfold Instr.sliceBounds
  cases hi with
  |none=>have:=hmx rfl;cases this
  |some hi=>
   have hh':=λc=>hh1 c
   simp only[Wb] at hh'
   cases lo with
   |none=>
    have e2:l=0:=by rcases hl2 with⟨_,e⟩|⟨e,_⟩;exact e;cases e
    subst e2;simp[hh',h3']
   |some lo=>
    have hl':=λc=>hl c
    simp only[Wb] at hl'
    simp[hl',hh',h3']
end
section
variable {P:Program} {σ:Mp} {H:Heap} {w:World}
theorem Ww.row(hs:Ww P σ H w){b:Nat}{r:Row}{l:Loc}(hb:H.t.get b=some (.row r))(hl:σ b=some l):
  ∃cs fr,w.heap[l.blk]? =some (.cells cs r.elem fr)∧R8 σ r l cs fr:=by
 obtain⟨c,hc,ho⟩:=hs.alive b _ l hb hl
 obtain⟨cs,fr,rfl,hr⟩:=ho
 exact⟨cs,fr,hc,hr⟩
theorem Hm{w:World}{g:Nat}{cs:Array Value}{t:TypeId}{fr:Nat×Nat}(h:w.heap[g]? =some (.cells cs t fr))(i:Nat):w.cell? ⟨g,i,none⟩=cs[i]? :=
 cell_of_row w g i cs t fr h
theorem Row.get_eq(r:Row)(i:Nat):r.get i=(r.cells.get i).getD r.dflt:=by
 unfold Row.get
 cases r.cells.get i<;>rfl
theorem Se(r:Row): ∀(n o:Nat),(WO r o n).length=n
 |0,_=>rfl
 |n+1,o=>by simp[WO,Se r n]
theorem Pp{r:Row}{l:Loc}{cs:Array Value}{fr:Nat×Nat}(h:R8 σ r l cs fr): ∀(n o:Nat),o+n<=r.size->
  ∃vs,YO σ (WO r o n) vs∧vs.length=n∧(∀(j:Nat) (v:Value),vs[j]? =some v->cs[l.base+o+j]? =some v)∧ ∀v∈vs,v.oneCell'=true
 |0,o,_=>⟨[],Ul,rfl,by simp,by simp⟩
 |n+1,o,ho=>by
  obtain⟨v,hv,hr⟩:=h.cell o (by omega)
  obtain⟨vs,h1,h2,h3,h4⟩:=Pp h n (o+1) (by omega)
  refine⟨v::vs,WD hr h1,by simp[h2],?_,?_⟩
  ·intro j u hj
   cases j with
   |zero=>simp at hj;subst hj;exact hv
   |succ j=>
    have:=h3 j u (by simpa using hj)
    rw[<-this];congr 1;omega
  ·intro u hu
   rcases ZN.1 hu with rfl|hu
   ·exact h.one _ _ (by omega) hv
   ·exact h4 u hu
theorem Ri{g o:Nat}{cs:Array Value}{t:TypeId}{fr:Nat×Nat}(h:w.heap[g]? =some (.cells cs t fr))(vs:List Value)
  (hv: ∀(j:Nat) (v:Value),vs[j]? =some v->cs[o+j]? =some v):(loadCells ⟨g,o,none⟩ vs.length).run P w=.ok vs.toArray w:=by
 refine run_loadCells_list (w:=w) ⟨g,o,none⟩ vs λj v hj=>?_
 rw[RO,Hm h]
 exact hv j v hj
def R2(cs:Array Value)(o:Nat):List Value->Array Value
 |[]=>cs
 |v::vs=>R2 (cs.setIfInBounds o v) (o+1) vs
theorem PB(vs:List Value): ∀(cs:Array Value) (o:Nat),(R2 cs o vs).size=cs.size:=by
 induction vs with
 |nil=>intro cs o;rfl
 |cons v vs ih=>intro cs o;simp[R2,ih]
theorem QW(vs:List Value): ∀(cs:Array Value) (o i:Nat),o+vs.length<=cs.size->
  (R2 cs o vs)[i]? =if o<=i∧i<o+vs.length then vs[i - o]? else cs[i]? :=by
 induction vs with
 |nil=>intro cs o i _;rw[if_neg (by simp)];rfl
 |cons v vs ih=>
  intro cs o i h
  simp only[Zh] at h ⊢
  show(R2 (cs.setIfInBounds o v) (o+1) vs)[i]? =_
  rw[ih _ _ _ (by simp;omega)]
  by_cases h1:o+1<=i∧i<o+1+vs.length
  ·rw[if_pos h1,if_pos (by omega),show i - o=(i - (o+1))+1 by omega];simp
  ·rw[if_neg h1,YH]
   by_cases h2:o=i
   ·subst h2
    rw[if_pos rfl,if_pos (by omega),if_pos (by omega)];simp
   ·rw[if_neg h2,if_neg (by omega)]
theorem Sj(vs:List AV): ∀(c:T AV) (o i:Nat),(Wg c o vs).get i=if o<=i∧i<o+vs.length then vs[i - o]? else c.get i:=by
 induction vs with
 |nil=>intro c o i;rw[if_neg (by simp)];rfl
 |cons v vs ih=>
  intro c o i
  show(Wg (c.set o v) (o+1) vs).get i=_
  rw[ih,T.get_set]
  simp only[Zh]
  by_cases h1:o+1<=i∧i<o+1+vs.length
  ·rw[if_pos h1,if_pos (by omega),show i - o=(i - (o+1))+1 by omega];simp
  ·rw[if_neg h1]
   by_cases h2:o=i
   ·subst h2;rw[if_pos rfl,if_pos (by omega)];simp
   ·rw[if_neg h2,if_neg (by omega)]
structure Ap(w w':World)(g:Nat)(c:Go.Obj):Prop where
 size:w'.heap.size=w.heap.size
 new:w'.heap[g]? =some c
 old: ∀k,k≠g->w'.heap[k]? =w.heap[k]?
 tape:w'.tape=w.tape
 os:w'.os=w.os
 out:w'.output=w.output
theorem Aj{w:World}{g i:Nat}{cs:Array Value}{t:TypeId}{fr:Nat×Nat}(h:w.heap[g]? =some (.cells cs t fr))(v:Value):
  Ap w (w.setCell ⟨g,i,none⟩ v) g (.cells (cs.setIfInBounds i v) t fr):=by
 have hlt:=(ZT.1 h).1
 refine⟨by simp[World.setCell],?_,λk hk=>?_,rfl,rfl,rfl⟩
 ·simp only[World.setCell,XT]
  rw[h];simp
 ·simp only[World.setCell,XT]
  rw[if_neg (λe=>hk e.symm)]
theorem oN{w:World}{g i:Nat}{cs:Array Value}{t:TypeId}{fr:Nat×Nat}(h:w.heap[g]? =some (.cells cs t fr))(hf: ¬(fr.1<=i∧i<fr.2)):w.frozen? ⟨g,i,none⟩=false:=by
 unfold World.frozen?
 rw[h]
 obtain⟨a,b⟩:=fr
 simp only[Bool.and_eq_false_iff,decide_eq_false_iff_not]
 simp only at hf
 omega
theorem P6{P:Program}{g o:Nat}{t:TypeId}{fr:Nat×Nat}: ∀(vs:List Value) (i:Nat) (w:World) (cs:Array Value),w.heap[g]? =some (.cells cs t fr)->
  o+i+vs.length<=cs.size->(∀v∈vs,v.oneCell'=true)->(∀j,j<vs.length-> ¬(fr.1<=o+i+j∧o+i+j<fr.2))->
  ∃w',(storeCells ⟨g,o,none⟩ vs i).run P w=.ok () w'∧Ap w w' g (.cells (R2 cs (o+i) vs) t fr)
 |[],i,w,cs,h,_,_,_=>⟨w,rfl,⟨rfl,h,λ_ _=>rfl,rfl,rfl,rfl⟩⟩
 |v::vs,i,w,cs,h,hsz,hone,hfr=>by
  simp only[Zh] at hsz hfr
  have hw:=Aj (i:=o+i) h v
  obtain⟨w',hr,h'⟩:=P6 (P:=P) (g:=g) (o:=o) (t:=t) (fr:=fr) vs (i+1) (w.setCell ⟨g,o+i,none⟩ v) (cs.setIfInBounds (o+i) v) hw.new
   (by simp;omega) (λu hu=>hone u (by simp[hu])) (λj hj=>by have:=hfr (j+1) (by omega);rwa [show o+(i+1)+j=o+i+(j+1) by omega])
  refine⟨w',?_,?_⟩
  ·simp only[storeCells,Sem.run_bind,RO]
   rw[run_store P w _ v .plain (hone v (by simp)),Hm h,Wp (by omega)]
   simp only
   rw[oN h (by have:=hfr 0 (by omega);simpa using this)]
   simp only[YJ,if_false,Result.andThen_ok]
   exact hr
  ·refine⟨by rw[h'.size,hw.size],?_,λk hk=>by rw[h'.old k hk,hw.old k hk],by rw[h'.tape,hw.tape],by rw[h'.os,hw.os],by rw[h'.out,hw.out]⟩
   rw[h'.new];rfl
theorem Wr.of_may{b:Nat}{r:Row}(h:H.may r b=true)(hb:H.t.get b=some (.row r)):Wr H b∧r.own=true:=by
 unfold Heap.may at h
 cases ho:r.own with
 |false=>rw[ho] at h;cases h
 |true=>
  rw[ho] at h
  have:H.ro<=b:=Z1 h
  refine⟨⟨this,_,hb,λr' e=>?_,λe=>by cases e⟩,rfl⟩
  cases e;exact ho
theorem F3(hs:Ww P σ H w){b:Nat}{r:Row}{l:Loc}(hb:H.t.get b=some (.row r))(hl:σ b=some l)(RI:H.may r b=true){o:Nat}{as:List AV}{vs:List Value}
  (ha:YO σ as vs)(hone: ∀v∈vs,v.oneCell'=true)(hsz:o+vs.length<=r.size)(hfz:r.fz<=o):
  ∃w',(storeCells ⟨l.blk,l.base+o,none⟩ vs 0).run P w=.ok () w'∧Tr P σ H w σ (H.put b (.row (r.setCells (Wg r.cells o as)))) w':=by
 obtain⟨cs,fr,hc,hr⟩:=hs.row hb hl
 obtain⟨hwr,hown⟩:=Wr.of_may RI hb
 have h1:=hr.fits
 have h2:=hr.room
 have hlen:=ha.length
 obtain⟨w',hrun,hw⟩:=P6 (P:=P) (o:=l.base+o) vs 0 w cs hc (by omega) hone (λj hj=>by
  have:=hr.frz hown (o+j) (by omega) (by omega)
  rwa [show l.base+o+0+j=l.base+(o+j) by omega])
 refine⟨w',hrun,Tr.write hs hb hl hwr hw.size hw.new hw.old ⟨_,fr,rfl,?_⟩ hw.tape hw.os hw.out⟩
 refine⟨hr.sz,hr.sz1,hr.fits,by rw[PB];exact hr.room,λe=>by rw[PB];exact hr.exact e,?_,?_,hr.frz,hr.frs⟩
 ·intro i hi
  have hi:i<r.size:=hi
  rw[Row.get_eq]
  show ∃v,_∧Yt σ (((Wg r.cells o as).get i).getD r.dflt) v
  rw[Sj,QW _ _ _ _ (by omega)]
  by_cases hin:o<=i∧i<o+as.length
  ·rw[if_pos hin,if_pos (by omega)]
   obtain⟨a,hga⟩: ∃a,as[i - o]? =some a:=⟨as[i - o]'(by omega),Zg (by omega)⟩
   obtain⟨v,hv,hrel⟩:=ha.get hga
   refine⟨v,?_,?_⟩
   ·rw[show l.base+i - (l.base+o+0)=i - o by omega];exact hv
   ·rw[hga];exact hrel
  ·rw[if_neg hin,if_neg (by omega)]
   obtain⟨v,hv,hrel⟩:=hr.cell i hi
   rw[Row.get_eq] at hrel
   exact⟨v,hv,hrel⟩
 ·intro i v hi hv
  have hi:i<r.size:=hi
  rw[QW _ _ _ _ (by omega)] at hv
  split at hv
  ·exact hone v (WU hv)
  ·exact hr.one i v hi hv
end
theorem we{n:Nat}(h:n % 2=1):bits n=true::bits (n/2):=by
 unfold bits
 obtain⟨m,rfl⟩: ∃m,n=m+1:=⟨n - 1,by omega⟩
 rw[Qc,if_neg (by omega),if_pos h,MP ((m+1)/2) _ m (Zl _) (by omega)]
theorem Au{n:Nat}(h0:n≠0)(h:n % 2=0):bits n=false::bits (n/2 - 1):=by
 unfold bits
 obtain⟨m,rfl⟩: ∃m,n=m+1:=⟨n - 1,by omega⟩
 rw[Qc,if_neg (by omega),if_neg (by omega),MP ((m+1)/2 - 1) _ m (Zl _) (by omega)]
namespace T
variable {α:Type}
theorem ju(l r:T α)(v:Option α)(n:Nat):(T.node l v r).get n=if n=0 then v else if n % 2=1 then l.get (n/2) else r.get (n/2 - 1):=by
 unfold get
 by_cases h0:n=0
 ·subst h0;rfl
 ·rw[if_neg h0]
  by_cases h1:n % 2=1
  ·rw[if_pos h1,we h1];rfl
  ·rw[if_neg h1,Au h0 (by omega)];rfl
theorem Bb: ∀(l:List α) (k:Nat),(SL l)[k]? =l[2*k]?
 |[],k=>by simp[SL]
 |[x],k=>by cases k<;>simp[SL]
 |x::y::l,0=>by simp[SL]
 |x::y::l,k+1=>by
  show(x::SL l)[k+1]? =(x::y::l)[2*(k+1)]?
  rw[show 2*(k+1)=(2*k+1)+1 by omega]
  simp[Bb l k]
theorem KH: ∀l:List α,(SL l).length<=l.length
 |[]=>by simp[SL]
 |[x]=>by simp[SL]
 |x::y::l=>by have:=KH l;simp[SL];omega
theorem L8: ∀(f:Nat) (l:List α) (i:Nat),l.length<=f->(Rt f l).get i=l[i]?
 |0,l,i,h=>by
  have:l=[]:=by cases l<;>simp_all
  subst this;simp[Rt,get_leaf]
 |f+1,[],i,_=>by simp[Rt,get_leaf]
 |f+1,x::l,i,h=>by
  simp only[Zh] at h
  show(T.node (Rt f (SL l)) (some x) (Rt f (SL l.tail))).get i=_
  rw[ju]
  by_cases h0:i=0
  ·subst h0;simp
  ·rw[if_neg h0]
   by_cases h1:i % 2=1
   ·rw[if_pos h1,L8 f _ _ (by have:=KH l;omega),Bb]
    rw[show 2*(i/2)=i - 1 by omega]
    obtain⟨k,rfl⟩: ∃k,i=k+1:=⟨i - 1,by omega⟩
    simp
   ·rw[if_neg h1,L8 f _ _ (by have:=KH l.tail;simp at this;omega),Bb]
    rw[show 2*(i/2 - 1)=i - 2 by omega]
    obtain⟨k,rfl⟩: ∃k,i=k+2:=⟨i - 2,by omega⟩
    simp
theorem y4(l:List α):ZfK l=l.length:=Yw l
theorem get_ofList(l:List α)(i:Nat):(ofList l).get i=l[i]? :=L8 _ _ _ (by rw[y4];exact Zl _)
end T
section
variable {P:Program} {σ:Mp} {H:Heap} {w:World}
theorem IU{σ:Mp}{e sz tot:Nat}{as:List AV}{vs rest:List Value}{sm exact:Bool}{blk:Nat}{fr:Nat×Nat}(ha:YO σ as vs)(hone: ∀v∈vs++rest,v.oneCell'=true)(hsz:1<=sz)
  (hfit:as.length<=tot*sz)(hroom:tot*sz<=(vs++rest).length)(hex:exact=true->as.length=tot*sz∧rest=[])(hfr:if sm then tot*sz<=fr.1 else fr.1=fr.2):
  R8 σ ⟨e,sz,YF as,T.ofList as,.unk,0,sm,true,exact⟩ ⟨blk,0,tot,sz⟩ ⟨vs++rest⟩ fr:=by
 have hlen:=ha.length
 refine⟨rfl,hsz,by rw[Yw];exact hfit,by simpa using hroom,λh=>?_,?_,?_,?_,?_⟩
 ·obtain⟨h1,h2⟩:=hex h
  subst h2
  exact⟨by rw[Yw];exact h1,rfl,by rw[Yw];simp[hlen]⟩
 ·intro i hi
  have hi:i<as.length:=by rw[<-Yw];exact hi
  rw[Row.get_eq]
  show ∃v,_∧Yt σ (((T.ofList as).get i).getD .unk) v
  rw[T.get_ofList,Zg hi]
  obtain⟨v,hv,hr⟩:=ha.get (Zg hi)
  refine⟨v,?_,hr⟩
  simp only[Zs,XD]
  rw[Yc (by omega)]
  exact hv
 ·intro i v _ hv
  simp only[XD] at hv
  exact hone v (WU hv)
 ·intro _ i _ hi
  cases sm with
  |true=>simp only[if_true] at hfr;simp only at hi ⊢;omega
  |false=>simp only[YJ,if_false] at hfr;simp only at hi ⊢;omega
 ·intro _ hsm
  have hsm:sm=false:=hsm
  subst hsm
  simp only[YJ,if_false] at hfr
  exact .inl hfr
theorem Ji(hs:Ww P σ H w){e sz tot:Nat}{as:List AV}{vs:List Value}(ha:YO σ as vs)(hone: ∀v∈vs,v.oneCell'=true)(hsz:1<=sz)(hlen:as.length=tot*sz):
  Tr P σ H w (σ.put H.nx ⟨w.heap.size,0,tot,sz⟩) (H.newRow e sz as true) (w.alloc (.cells ⟨vs⟩ e)):=by
 refine Tr.alloc hs _ _ _ rfl ⟨⟨vs⟩,(0,0),rfl,?_⟩
 have:=IU (σ:=σ.put H.nx ⟨w.heap.size,0,tot,sz⟩) (e:=e) (sm:=false) (exact:=true) (blk:=w.heap.size) (fr:=(0,0)) (rest:=[]) (ha.mono (Mp.put_ext _ (hs.fresh (Zl _)))) (by simpa using hone) hsz (by omega) (by simp;have:=ha.length;omega) (λ_=>⟨hlen,rfl⟩) rfl
 simpa using this
theorem pj(hs:Ww P σ H w){e n:Nat}{a:AV}{v:Value}(ha:Yt σ a v)(hone:v.oneCell'=true):
  Tr P σ H w (σ.put H.nx ⟨w.heap.size,0,n,1⟩) (H.new (.row ⟨e,1,n,.leaf,a,0,false,true,true⟩)) (w.alloc (.cells ⟨List.replicate n v⟩ e)):=by
 refine Tr.alloc hs _ _ _ rfl ⟨_,(0,0),rfl,⟨rfl,Zl _,by simp,by simp,λ_=>⟨by simp,rfl,by simp⟩,?_,?_,?_,?_⟩⟩
 ·intro i hi
  have hi:i<n:=hi
  rw[Row.get_eq]
  refine⟨v,?_,?_⟩
  ·simp[WC,hi]
  ·rw[T.get_leaf];exact ha.mono (Mp.put_ext _ (hs.fresh (Zl _)))
 ·intro i u _ hu
  simp only[XD,WC] at hu
  split at hu
  ·cases hu;exact hone
  ·cases hu
 ·intro _ i _ hi;simp only;omega
 ·intro _ _;exact .inl rfl
end
section
variable {P:Program} {σ:Mp} {H:Heap} {w:World} {tm:TM} {ρ:Operand->Value}
theorem Jo{σ:Mp}{b:Nat}{l:Loc}(hb:l.base=0):Yt (σ.put b l) (.ptr b 0) (.pointer (some ⟨l.blk,0,none⟩)):=by
 simp only[Yt];exact⟨l,Mp.put_same _ _ _,by rw[hb]⟩
theorem Sf{σ:Mp}{b n:Nat}{l:Loc}(hb:l.base=0):Yt (σ.put b l) (.slice b 0 n none) (.slice (some ⟨l.blk,0,none⟩) n l.tot):=by
 simp only[Yt];exact⟨l,Mp.put_same _ _ _,by rw[hb];simp⟩
theorem Vr{r:Result Next}{σ':Mp}{H':Heap}{w':World}{v:AV}{x:Value}(ht:Tr P σ H w σ' H' w')(hr:r=.ok (.value x) w')(hx:Yt σ' v x):Y3 P σ H w r (.val v H'):=
 ⟨σ',w',x,.inl hr,hx,ht⟩
theorem TR{t:Nat}{i:TypeInfo}{z:Value}(h:P.info? t=some i)(hz:i.zero=some z):(zeroValue t).run P w=.ok z w:=by
 simp[zeroValue,typeInfo,h,hz]
theorem S4(z:Value)(h:1<=(WI z).cells.length):YO σ (WI z).cells z.cells.toList∧ ∀x∈z.cells.toList,x.oneCell'=true:=(Pd σ z).cells h
theorem qh{kd:IntKind}{m:Int}: ∀{l:List Value},eS kd m l=true->l=List.replicate l.length (.int kd m)
 |[],_=>rfl
 |v::l,h=>by
  unfold eS at h
  split at h
  ·rename_i j n
   cases h1:P0 kd j with
   |false=>rw[h1] at h;cases h
   |true=>
    have:=S9 h1;subst this
    rw[h1] at h
    cases h2:E8 m n with
    |false=>rw[h2] at h;cases h
    |true=>
     rw[h2] at h
     rw[OJ] at h2
     have h2:m=n:=by simpa using h2
     subst h2
     have ih:=qh h
     rw[Zh,TE,<-ih]
  ·cases h
theorem i0(hs:Ww P σ H w){o:Oper}{t:TypeId}(ho:o.op=.alloc t):Xr P σ H w tm ρ o:=by
 unfold Xr;rw[ho]
 refine XG λi hi=>Ud λz hz=>?_
 have hrun:(execOp ρ o).run P w=.ok (.value (.pointer (some ⟨w.heap.size,0,none⟩))) (w.alloc (.cells z.cells t)):=by
  simp only[execOp,ho]
  refine WY ?_
  simp only[Instr.alloc,Sem.run_bind,TR hi hz,Result.andThen_ok]
  simp[newVar,newRow]
 have key:Y3 P σ H w ((execOp ρ o).run P w) (WK t (WI z).cells tm H):=by
  refine Ym λh1=>?_
  rw[Xa,Yw] at h1
  have h1:1<=(WI z).cells.length:=Zo h1
  obtain⟨hr,hone⟩:=S4 (σ:=σ) z h1
  exact Vr (Ji hs (tot:=(WI z).cells.length) hr hone (Zl _) (by simp)) hrun (Jo rfl)
 show Y3 P σ H w _ (ki t z.cells.toList (WI z).cells tm H)
 cases hl:z.cells.toList with
 |nil=>exact key
 |cons v l'=>
  cases v<;>try exact key
  case int kd m=>
   refine WF (λ_=>WF (λha=>?_) λ_=>key) λ_=>key
   have hrep:=qh ha
   rw[Yw]
   refine Vr (pj hs (n:=l'.length+1) (v:=.int kd m) (by simp[Yt]) rfl) ?_ (Jo rfl)
   rw[hrun]
   have:z.cells=⟨List.replicate (l'.length+1) (.int kd m)⟩:=by
    apply Array.ext'
    rw[hl,TE,<-hrep]
   rw[this]
theorem Zcj(hs:Ww P σ H w)(hρ:Rl P σ tm ρ){o:Oper}{t:TypeId}{x:Operand}(ho:o.op=.box t x):Xr P σ H w tm ρ o:=by
 unfold Xr;rw[ho]
 refine Ym λh1=>?_
 rw[Xa,Yw] at h1
 have h1:1<=(YQ P x tm).cells.length:=Zo h1
 obtain⟨hr,hone⟩:=(hρ x).cells h1
 refine Vr (Ji hs (tot:=(YQ P x tm).cells.length) hr hone (Zl _) (by simp)) ?_ (Jo rfl)
 simp only[execOp,ho]
 refine WY ?_
 simp[Instr.box,newVar,newRow]
theorem bF(hs:Ww P σ H w)(hρ:Rl P σ tm ρ){o:Oper}{t:TypeId}{x:Operand}(ho:o.op=.load t x):Xr P σ H w tm ρ o:=by
 unfold Xr;rw[ho]
 refine XG λi hi=>Xj λd hu=>?_
 have hag:=Ps (w:=w) hu
 refine WF (λh1=>?_) λh1=>?_
 ·refine QA λb off hx=>Tj λr hr=>Ym λhle=>?_
  rw[Xa] at hle
  have hle:off+i.size<=r.size:=Zo hle
  have g:=hρ x
  rw[hx] at g
  obtain⟨l,hl,e⟩:=Ue g
  obtain⟨cs,fr,hc,hrr⟩:=hs.row hr hl
  obtain⟨vs,h2,h3,h4,h5⟩:=Pp hrr i.size off hle
  rw[h1] at hag
  refine Yg hs (x:=.agg ⟨vs⟩) ?_ (by simp only[Yt];exact⟨vs,h2,h5,rfl⟩)
  simp only[execOp,ho]
  refine WY ?_
  rw[e]
  have:=Ri (P:=P) hc vs (o:=l.base+off) h4
  rw[h3] at this
  simp only[Instr.loadAt,Instr.sureAddr,Sem.run_bind,Sem.run_pure,Result.andThen_ok,loadVar,hag,if_true,Wq hi,this]
 ·refine QA λb off hx=>Tj λr hr=>Ym λhle=>?_
  rw[Xa] at hle
  have hle:off+1<=r.size:=Zo hle
  have g:=hρ x
  rw[hx] at g
  obtain⟨l,hl,e⟩:=Ue g
  obtain⟨cs,fr,hc,hrr⟩:=hs.row hr hl
  obtain⟨v,hv,hrel⟩:=hrr.cell off hle
  rw[h1] at hag
  refine Yg hs (x:=v) ?_ hrel
  simp only[execOp,ho]
  refine WY ?_
  rw[e]
  simp only[Instr.loadAt,Instr.sureAddr,Sem.run_bind,Sem.run_pure,Result.andThen_ok,loadVar,hag,YJ,if_false,run_load,Hm hc,hv]
theorem gh(hs:Ww P σ H w)(hρ:Rl P σ tm ρ){o:Oper}{t:TypeId}{x y:Operand}(ho:o.op=.store t x y):Xr P σ H w tm ρ o:=by
 unfold Xr;rw[ho]
 refine XG λi hi=>?_
 refine QA λb off hx=>Tj λr hr=>Ym λhn=>Ym λRI=>Ym λhle=>Ym λhfz=>Ym λhlen=>?_
 rw[Xa] at hn hle hfz
 rw[Yu,Yw] at hlen
 have hn:1<=i.size:=Zo hn
 have hle:off+i.size<=r.size:=Zo hle
 have hfz:r.fz<=off:=Zo hfz
 have hlen:(YQ P y tm).cells.length=i.size:=Zo hlen
 have g:=hρ x
 rw[hx] at g
 obtain⟨l,hl,e⟩:=Ue g
 obtain⟨hrel,hone⟩:=(hρ y).cells (by omega)
 have hl2:=hrel.length
 obtain⟨w',hrun,htr⟩:=F3 hs hr hl RI hrel hone (o:=off) (by omega) hfz
 refine⟨σ,w',undef,.inr ⟨?_,rfl⟩,by simp[Xl,undef,Yt,YO],htr⟩
 simp only[execOp,ho]
 rw[e]
 have hsz:(ρ y).cells.size=i.size:=by rw[<-hlen,hl2];simp
 simp only[Instr.storeAt,Instr.sureAddr,Sem.run_bind,Sem.run_pure,Result.andThen_ok,storeVar,Wq hi,hsz]
 simp[hrun]
theorem JL(off:Nat): ∀(l:List Value) (i:Nat) (cs:Array Value),(l.zipIdx i).foldl (λcs (x:Value×Nat)=>cs.setIfInBounds (off+x.2) x.1) cs=R2 cs (off+i) l
 |[],_,_=>rfl
 |v::l,i,cs=>by
  simp only[List.zipIdx_cons,List.foldl_cons]
  rw[JL off l (i+1)]
  rfl
theorem De{cs:Array Value}{o:Nat}{vs:List Value}(h:o+vs.length<=cs.size):(R2 cs o vs).toList=cs.toList.take o++(vs++cs.toList.drop (o+vs.length)):=by
 apply X4
 intro i
 rw[Yd,QW _ _ _ _ h]
 have hlen:(cs.toList.take o).length=o:=by simp;omega
 by_cases h1:i<o
 ·rw[if_neg (by omega),Yc (by omega),List.getElem?_take,if_pos h1,Yd]
 ·rw[Zu (by omega),hlen]
  by_cases h2:i - o<vs.length
  ·rw[if_pos (by omega),Yc h2]
  ·rw[if_neg (by omega),Zu (by omega),Xd,Yd]
   congr 1;omega
theorem FA{r:Result Next}(hρ:Rl P σ tm ρ){place:Nat->Option (Nat×Nat)}{k:List AV->OR}: ∀(ps:List (Nat×Operand)) (cells:List AV) (cs:Array Value),
  YO σ cells cs.toList->(∀v∈cs.toList,v.oneCell'=true)->
  (∀cells' cs',YO σ cells' cs'.toList->(∀v∈cs'.toList,v.oneCell'=true)->cs'.size=cs.size->Instr.fill place cs (ps.map λp=>(p.1,ρ p.2))=some cs'->Y3 P σ H w r (k cells'))->
  Y3 P σ H w r (AJ tm k (ps.map (Q5 P place)) cells)
 |[],cells,cs,h1,h2,h3=>h3 cells cs h1 h2 rfl rfl
 |p::ps,cells,cs,h1,h2,h3=>by
  show Y3 P σ H w r (ZX (Nat.ble 1 (Q5 P place p).sz)<|ZX (Nat.beq (YF ((Q5 P place p).x tm).cells) (Q5 P place p).sz) (ZX (Nat.ble (Nat.add (Q5 P place p).off (Q5 P place p).sz) (YF cells))
   (AJ tm k (ps.map (Q5 P place)) (PX (Q5 P place p).off cells++(((Q5 P place p).x tm).cells++Q0 (Nat.add (Q5 P place p).off (Q5 P place p).sz) cells)))))
  refine Ym λg1=>Ym λg2=>Ym λg3=>?_
  cases hp:place p.1 with
  |none=>unfold Q5 at g1;rw[hp] at g1;cases g1
  |some q=>
   obtain⟨off,sz⟩:=q
   have hpe:Q5 P place p=⟨off,sz,YQ P p.2⟩:=by unfold Q5;rw[hp]
   rw[hpe] at g1 g2 g3 ⊢
   simp only at g1 g2 g3 ⊢
   rw[Xa] at g1 g3
   rw[Yu,Yw] at g2
   rw[Yw] at g3
   have g1:1<=sz:=Zo g1
   have g2:(YQ P p.2 tm).cells.length=sz:=Zo g2
   have g3:off+sz<=cells.length:=Zo g3
   obtain⟨hr,hone⟩:=(hρ p.2).cells (by omega)
   have hl:=hr.length
   have hl1:=h1.length
   have hsz:(ρ p.2).cells.size=sz:=by rw[<-g2,hl];simp
   have hcs:cells.length=cs.size:=by rw[hl1];simp
   have hw:(R2 cs off (ρ p.2).cells.toList).toList=cs.toList.take off++((ρ p.2).cells.toList++cs.toList.drop (off+sz)):=by
    rw[De (by simp;omega)];simp[hsz]
   refine FA hρ ps _ (R2 cs off (ρ p.2).cells.toList) ?_ ?_ λcells' cs' k1 k2 k3 k4=>h3 cells' cs' k1 k2 (by rw[k3,PB]) ?_
   ·rw[hw,O0,OE]
    exact(h1.take _).append (hr.append (h1.drop _))
   ·intro v hv
    rw[hw] at hv
    rcases Zy.1 hv with hv|hv
    ·exact h2 v (US hv)
    ·rcases Zy.1 hv with hv|hv
     ·exact hone v hv
     ·exact h2 v (T5 hv)
   ·simp only[ZE,Instr.fill,hp]
    rw[if_neg (by simp only[TG,decide_eq_true_eq];omega)]
    rw[<-k4]
    congr 1
    have:=JL off (ρ p.2).cells.toList 0 cs
    rw[ZZ] at this
    rw[<-this,<-Array.foldl_toList,Array.toList_zipIdx]
theorem i6(hs:Ww P σ H w)(hρ:Rl P σ tm ρ){o:Oper}{t:TypeId}{ps:Array (Nat×Operand)}(ho:o.op=.build t ps):Xr P σ H w tm ρ o:=by
 unfold Xr;rw[ho]
 refine XG λi hi=>Ud λz hz=>Xj λd hu=>?_
 have hps:(ps.map λ(x:Nat×Operand)=>(x.1,ρ x.2)).toList=ps.toList.map λp=>(p.1,ρ p.2):=by simp
 have fin: ∀(place:Nat->Option (Nat×Nat)),(∀cs',Instr.fill place z.cells (ps.toList.map λp=>(p.1,ρ p.2))=some cs'->P.built t (ps.toList.map λp=>(p.1,ρ p.2))=some cs')->
   Y3 P σ H w ((execOp ρ o).run P w) (Vw (WI z).cells (ps.toList.map (Q5 P place)) tm H):=by
  intro place hb
  refine Ym λh1=>?_
  rw[Xa,Yw] at h1
  have h1:1<=(WI z).cells.length:=Zo h1
  obtain⟨hr,hone⟩:=S4 (σ:=σ) z h1
  refine FA hρ _ _ _ hr hone λcells' cs' k1 k2 k3 k4=>?_
  refine Yg hs (x:=.agg cs') ?_ (by simp only[Yt];exact⟨cs'.toList,k1,k2,rfl⟩)
  simp only[execOp,ho]
  refine WY ?_
  exact run_build w t _ cs' (by rw[hps];exact hb cs' k4)
 cases d<;>try exact trivial
 case struct fs=>
  refine Ud λplaces hp=>fin _ λcs' hf=>?_
  simp only[Program.built,hi,hu,hz,hp]
  exact hf
 case array n e=>
  refine XG λj hj=>fin _ λcs' hf=>?_
  simp only[Program.built,hi,hu,hz,hj]
  exact hf
theorem EC{α:Type}(l:List α)(hl:1<=l.length): ∀(n i:Nat),(List.replicate n l).flatten[i]? =if i<n*l.length then l[i % l.length]? else none
 |0,i=>by simp
 |n+1,i=>by
  rw[TE,W8,Xu]
  by_cases h:i<l.length
  ·rw[Yc h,if_pos (by omega),Z7 h]
  ·rw[Zu (by omega),EC l hl n]
   have e:i % l.length=(i - l.length) % l.length:=by
    conv=>lhs;rw[show i=(i - l.length)+l.length by omega]
    rw[Nat.add_mod_right]
   rw[<-e]
   by_cases h2:i - l.length<n*l.length
   ·rw[if_pos h2,if_pos (by omega)]
   ·rw[if_neg h2,if_neg (by omega)]
theorem Em{as:List AV}{z:Array Value}(h:YO σ as z.toList)(hone: ∀v∈z.toList,v.oneCell'=true)(h1:1<=as.length)(n:Nat):
  YO σ (List.replicate n as).flatten ((Array.range (n*as.length)).map (z[· % z.size]!)).toList∧ ∀v∈((Array.range (n*as.length)).map (z[· % z.size]!)).toList,v.oneCell'=true:=by
 have hl:as.length=z.size:=by rw[h.length];simp
 have hz: ∀i,i % z.size<z.size:=λi=>Vl _ (by omega)
 constructor
 ·refine YO.of_get ?_ λi a v ha hv=>?_
  ·simp[List.length_flatten]
  ·rw[EC _ h1] at ha
   split at ha
   ·rename_i hi
    simp only[Ro,Array.toList_range,Yh] at hv
    rw[Wm hi] at hv
    simp only[Wb,Option.some.injEq] at hv
    obtain⟨u,hu,hr⟩:=h.get ha
    rw[Yd,hl,Wp (hz i)] at hu
    cases hu
    rw[<-hv,getElem!_pos z _ (hz i)]
    exact hr
   ·cases ha
 ·intro v hv
  simp only[Ro,YC] at hv
  obtain⟨i,_,rfl⟩:=hv
  rw[getElem!_pos z _ (hz i)]
  exact hone _ (Array.getElem_mem_toList _)
theorem mp(hs:Ww P σ H w)(hρ:Rl P σ tm ρ){o:Oper}{t:TypeId}{n:Nat}{ps:Array (Nat×Operand)}(ho:o.op=.buildSlice t n ps):Xr P σ H w tm ρ o:=by
 unfold Xr;rw[ho]
 refine Xj λd hu=>Nf λe hd=>XG λj hj=>Ud λz hz=>WF (λhsz=>?_) λ_=>TJ
 subst hd
 have hps:(ps.map λ(x:Nat×Operand)=>(x.1,ρ x.2)).toList=ps.toList.map λp=>(p.1,ρ p.2):=by simp
 refine Ym λg1=>Ym λg2=>?_
 rw[Xa] at g1 hsz
 rw[Yu,Yw] at g2
 have g1:1<=j.size:=Zo g1
 have hsz:n*j.size<=16777216:=Zo hsz
 have g2:(List.replicate n (WI z).cells).flatten.length=n*j.size:=Zo g2
 have hlen:n=0∨(WI z).cells.length=j.size:=by
  rw[List.length_flatten] at g2
  simp only[List.map_replicate,List.sum_replicate_nat] at g2
  by_cases h0:n=0
  ·exact .inl h0
  ·exact .inr (Nat.eq_of_mul_eq_mul_left (by omega) g2)
 have base: ∃zc:Array Value,YO σ (List.replicate n (WI z).cells).flatten zc.toList∧(∀v∈zc.toList,v.oneCell'=true)∧zc.size=n*j.size∧
   (do let zero<-if n*j.size=0 then pure #[] else do pure (<-zeroValue e).cells
       pure ((Array.range (n*j.size)).map (zero[· % zero.size]!)):Sem (Array Value)).run P w=.ok zc w:=by
  rcases hlen with h0|h0
  ·subst h0
   exact⟨#[],by simpa using Ul,by simp,by simp,by simp⟩
  ·obtain⟨hr,hone⟩:=S4 (σ:=σ) z (by omega)
   obtain⟨k1,k2⟩:=Em hr hone (by omega) n
   rw[h0] at k1 k2
   refine⟨_,k1,k2,by simp,?_⟩
   by_cases hn:n*j.size=0
   ·simp[hn]
   ·simp[hn,TR hj hz]
 obtain⟨zc,b1,b2,b3,b4⟩:=base
 refine FA hρ _ _ zc b1 b2 λcells' cs' k1 k2 k3 k4=>?_
 have hl':cells'.length=n*j.size:=by rw[k1.length];simp[k3,b3]
 refine Vr (Ji hs (tot:=n) k1 k2 g1 hl') ?_ (Sf rfl)
 simp only[execOp,ho]
 refine WY ?_
 simp only[Instr.buildSlice,Sem.run_bind,run_underlying hu,Result.andThen_ok,Wq hj]
 rw[if_neg (by omega)]
 by_cases hn:n*j.size=0
 ·rw[if_pos hn] at b4 ⊢
  simp only[Sem.run_bind,Sem.run_pure,Result.andThen_ok,Result.ok.injEq,and_true] at b4 ⊢
  rw[b4,hps,k4]
  simp[newRow]
 ·rw[if_neg hn] at b4 ⊢
  simp only[Sem.run_bind,TR hj hz,Sem.run_pure,Result.andThen_ok,Result.ok.injEq,and_true] at b4 ⊢
  rw[b4,hps,k4]
  simp[newRow]
theorem Ek{n:Int}(h0:0<=n)(h1:n<9223372036854775808):IntKind.i64.wrap n=n:=by
 rw[<-O2]
 obtain⟨m,rfl⟩:=Int.eq_ofNat_of_zero_le h0
 show cond (Nat.ble 9223372036854775808 m) (IntKind.wrap .i64 (Int.ofNat m)) (Int.ofNat m)=_
 rw[Xa,Zb (by omega)]
 rfl
theorem IL(f:Nat->Value):Array.map f (Array.range 0)= #[]:=by apply Array.ext';simp
def vw(e n l c:Nat):Sem Next:=do
 let zero<-if n=0 then pure #[] else do pure (<-zeroValue e).cells
 let a<-newRow e ((Array.range n).map (zero[· % zero.size]!))
 pure (Next.value (.slice (some a) l c))
theorem s4(hs:Ww P σ H w)(hρ:Rl P σ tm ρ){o:Oper}{t:TypeId}{x y:Operand}(ho:o.op=.makeSlice t x y):Xr P σ H w tm ρ o:=by
 unfold Xr;rw[ho]
 refine Xj λd hu=>Nf λe hd=>XG λi hi=>Ud λz hz=>?_
 subst hd
 refine Sp λk1 l hx=>Sp λk2 c hy=>Ym λg1=>Ym λg2=>Ym λg3=>Ym λg4=>?_
 have h1:=hρ x;rw[hx] at h1
 have h2:=hρ y;rw[hy] at h2
 have h1:=XX h1
 have h2:=XX h2
 rw[Xa] at g1 g2 g3 g4
 have g1:1<=i.size:=Zo g1
 have g2:l<=c:=Zo g2
 have g3:c<=140737488355328:=Zo g3
 have g4:c*i.bytes<=140737488355328:=Zo g4
 have hrun:(execOp ρ o).run P w=(vw e (c*i.size) l c).run P w:=by
  simp only[execOp,ho,h1,h2]
  simp only[Instr.makeSlice,Sem.run_bind,run_underlying hu,Result.andThen_ok,asInt,asIntOf,Sem.run_pure,typeInfo,run_program,hi,Yy]
  rw[Ek (by omega) (by omega),Ek (by omega) (by omega)]
  have e1:((i.bytes:Int)*(c:Int))<=140737488355328:=by
   have e0:(i.bytes:Int)*(c:Int)=((c*i.bytes:Nat):Int):=by rw[Int.natCast_mul,Int.mul_comm]
   rw[e0]
   generalize c*i.bytes=p at g4
   omega
  have e2: ¬((decide ((c:Int)<0)||decide ((i.bytes:Int)*(c:Int)>2^48)||decide ((l:Int)<0)||decide ((l:Int)>(c:Int)))=true):=by
   simp only[TG,decide_eq_true_eq]
   omega
  rw[if_neg e2]
  simp only[Wi,Sem.run_bind,run_askRoom,Result.andThen_ok,Wq hi]
  by_cases hn:c*i.size=0
  ·simp[vw,hn,newRow]
  ·simp[vw,hn,TR hi hz,newRow]
 have qQ: ∀zc:Array Value,(c*i.size=0∨zc=z.cells)->(c*i.size=0->zc= #[])->(execOp ρ o).run P w=.ok (.value (.slice (some ⟨w.heap.size,0,none⟩) l c)) (w.alloc (.cells ((Array.range (c*i.size)).map (zc[· % zc.size]!)) e)):=by
  intro zc h3 h4
  rw[hrun]
  by_cases hn:c*i.size=0
  ·rw[h4 hn];simp[vw,hn,newRow]
  ·rcases h3 with h3|h3
   ·exact absurd h3 hn
   ·rw[h3];simp[vw,hn,TR hi hz,newRow]
 show Y3 P σ H w _ (ZaA H e i.size l c (WI z).cells)
 have gen:1<=(WI z).cells.length->(WI z).cells.length=i.size->Y3 P σ H w ((execOp ρ o).run P w) (.val (.slice H.nx 0 l none) (H.newRow e i.size ((List.replicate c (WI z).cells).flatten) true)):=by
  intro q1 q2
  obtain⟨hr,hone⟩:=S4 (σ:=σ) z q1
  obtain⟨k1,k2⟩:=Em hr hone q1 c
  refine Vr (Ji hs (tot:=c) k1 k2 g1 (by simp[List.length_flatten,q2])) ?_ (Sf rfl)
  by_cases hn:c*i.size=0
  ·rw[qQ #[] (.inl hn) (λ_=>rfl),q2,hn,IL,IL]
  ·rw[qQ z.cells (.inr rfl) (λh=>absurd h hn),q2]
 cases hz2:(WI z).cells with
 |nil=>
  refine Ym λq=>?_
  rw[Yu] at q
  have q:0=i.size:=Zo q
  omega
 |cons a as=>
  cases as with
  |nil=>
   refine Ym λq=>?_
   rw[Yu] at q
   have q:i.size=1:=Zo q
   obtain⟨hr,hone⟩:=S4 (σ:=σ) z (by rw[hz2];simp)
   rw[hz2] at hr
   obtain⟨v,vs,h3,h4,h5⟩:=hr.cons_inv
   rw[h4.nil_inv] at h5
   refine Vr (pj hs (n:=c) h3 (hone v (by rw[h5];simp))) ?_ (Sf rfl)
   have hzc:z.cells= #[v]:=by apply Array.ext';rw[h5]
   by_cases hn:c=0
   ·subst hn
    rw[qQ #[] (.inl (by simp)) (λ_=>rfl),W3,IL];rfl
   ·rw[qQ z.cells (.inr rfl) (λh=>by rw[q] at h;omega),hzc,q]
    congr 2
    congr 1
    apply Array.ext'
    apply X4
    intro j
    simp only[Xw,List.size_toArray,List.length_singleton,Nat.mod_one,Ro,Array.toList_range,Yh,WC]
    by_cases hj:j<c
    ·rw[Wm hj,if_pos hj];rfl
    ·rw[if_neg hj,YB (by simp;omega)];rfl
  |cons a2 as2=>
   refine Ym λq=>?_
   rw[Yu,Yw,<-hz2] at q
   have:=gen (by rw[hz2];simp) (Zo q)
   rw[hz2] at this
   exact this
theorem Mp.put_old{σ:Mp}{b c:Nat}{l:Loc}(h:c≠b):σ.put b l c=σ c:=by unfold Mp.put;rw[if_neg h]
theorem Tr.ghost(hs:Ww P σ H w)(l:Loc):Tr P σ H w (σ.put H.nx l) ⟨Nat.succ H.nx,H.t,H.ro⟩ w:=by
 have he:=Mp.put_ext l (hs.fresh (Zl H.nx))
 have hold: ∀b o,H.t.get b=some o->σ.put H.nx l b=σ b:=λb o hb=>Mp.put_old (by have:=hs.get_lt hb;omega)
 refine⟨he,⟨?_,?_,?_,?_,?_,?_⟩,Zl _,λ_ _ _=>rfl,?_,XV _,rfl,λ_ _=>rfl,rfl,rfl,rfl,λb hb hn=>⟨rfl,by rw[Mp.put_old (by omega)];exact hn⟩⟩
 ·intro b m hb
  show b<H.nx+1
  by_cases e:b=H.nx
  ·omega
  ·rw[Mp.put_old e] at hb;have:=hs.dom b m hb;omega
 ·intro b o hb
  show b<H.nx+1
  have:=hs.low b o hb;omega
 ·intro b o l' hb hl'
  rw[hold b o hb] at hl'
  obtain⟨c,hc,ho⟩:=hs.alive b o l' hb hl'
  exact⟨c,hc,ho.mono he⟩
 ·intro b b' o o' l1 l2 h1 h2 k1 k2 e
  rw[hold b o h1] at k1;rw[hold b' o' h2] at k2
  exact hs.inj b b' o o' l1 l2 h1 h2 k1 k2 e
 ·intro g hg
  obtain⟨l',h1,h2⟩:=hs.glob g hg
  exact⟨l',he g l' h1,h2⟩
 ·show H.ro<=H.nx+1;have:=hs.ro;omega
 ·intro b l1 hw hl hlt
  obtain⟨hro,o,ho,hown⟩:=hw
  rw[hold b o ho] at hl
  exact⟨b,l1,⟨hro,o,ho,hown⟩,hl,rfl⟩
theorem Ub{b o n:Nat}{cap:Option Nat}{v:Value}(h:Yt σ (.slice b o n cap) v): ∃l,σ b=some l∧v=.slice (some ⟨l.blk,l.base+o,none⟩) n (cap.getD (l.tot - o/l.sz)):=by simpa only[Yt] using h
theorem Rf{b o n:Nat}{cap:Option Nat}{l:Loc}(h:σ b=some l):Yt σ (.slice b o n cap) (.slice (some ⟨l.blk,l.base+o,none⟩) n (cap.getD (l.tot - o/l.sz))):=by simp only[Yt];exact⟨l,h,rfl⟩
theorem D4{r:Row}{l:Loc}{cs:Array Value}{fr:Nat×Nat}(hr:R8 σ r l cs fr)(o:Nat)(cap:Option Nat):UT r o cap<=cap.getD (l.tot - o/l.sz):=by
 cases cap with
 |some c=>exact Zl _
 |none=>
  show cond (Nat.beq r.sz 1) (r.size - o) ((r.size - o)/r.sz)<=l.tot - o/l.sz
  have h1:=hr.sz
  have h2:=hr.sz1
  have h3:=hr.fits
  have key:(r.size - o)/l.sz<=l.tot - o/l.sz:=by
   rw[Nat.div_le_iff_le_mul_add_pred (by omega)]
   have:=TH o l.sz
   have hm:=Vl o (show 0<l.sz by omega)
   rw[Nat.mul_sub]
   have e1:l.sz*l.tot=l.tot*l.sz:=W2 _ _
   omega
  rw[Yu]
  by_cases e:r.sz=1
  ·rw[Ze e]
   show r.size - o<=_
   have e2:l.sz=1:=by omega
   rw[e2] at key ⊢;simpa using key
  ·rw[Zb e]
   show(r.size - o)/r.sz<=_
   rw[<-h1];exact key
theorem mi{hi mx:Option Operand}(h:Zch hi mx=true):mx.isSome=true->hi.isSome=true:=by
 cases mx<;>cases hi<;>simp_all [Zch]
theorem gd(hs:Ww P σ H w)(hρ:Rl P σ tm ρ){o:Oper}{t:TypeId}{x:Operand}{lo hi mx:Option Operand}(ho:o.op=.slice t x lo hi mx):Xr P σ H w tm ρ o:=by
 unfold Xr;rw[ho]
 refine WF (λhmx=>?_) λ_=>TJ
 have hmx:=mi hmx
 refine Xj λd hu=>?_
 have h1:=hρ x
 cases d<;>try exact trivial
 case string=>
  cases mx with
  |some m=>exact trivial
  |none=>
   refine PJ λs hx=>?_
   rw[hx] at h1
   have h1:=Uf h1
   refine PH (mx:=none) false hρ hmx (Zl _) λl h m mC hr hlh hm q1 _ q3 q4=>?_
   refine Yg hs (x:=.string ⟨((s.take h).drop l).toArray⟩) ?_ (by rw[OZ,Hu];simp[Yt])
   simp only[execOp,ho]
   refine WY ?_
   rw[h1]
   rw[Yw] at hr
   simp only[Instr.sliceAt,Sem.run_bind,run_underlying hu,Result.andThen_ok,Instr.slice,Option.map_none,Option.isSome_none,YJ,if_false,Np,hr,Sem.run_pure]
   simp only[Option.map_none] at hr
   simp only[hr,Result.andThen_ok]
   congr 2
   rw[ByteArray.ext_iff]
   simp only[ByteArray.data_extract]
   apply Array.ext'
   simp[WL,List.drop_take]
 case slice e=>
  refine XG λi hi'=>HI (λhx=>?_) (T8 (λhx=>?_) λb off len cap hx=>Tj λr hr=>Ym λhsz=>?_)
  ·rw[hx] at h1
   obtain⟨a,h1⟩: ∃a,ρ x=.slice (some a) 0 0:=by simpa only[Yt] using h1
   refine PH (capC:=0) true hρ hmx (Zl _) λl h m mC hr hlh hm q1 q2 q3 q4=>?_
   have hh:h=0:=by
    cases hi with
    |none=>exact q3 rfl
    |some y=>have:=q4 rfl;omega
   have hl:l=0:=by omega
   have hmC:mC=0:=by
    cases mx with
    |none=>exact(q1 rfl).2
    |some y=>have:=q2 rfl;omega
   refine Yg hs (x:=.slice (some a) 0 0) ?_ (by simp[Yt])
   simp only[execOp,ho]
   refine WY ?_
   rw[h1]
   simp only[Instr.sliceAt,Sem.run_bind,run_underlying hu,Result.andThen_ok,Instr.slice,hr,Wq hi',Sem.run_pure]
   subst hh;subst hl;subst hmC
   simp
  ·rw[hx] at h1
   have h1:ρ x=.slice none 0 0:=by simpa only[Yt] using h1
   refine PH (capC:=0) true hρ hmx (Zl _) λl h m mC hr hlh hm q1 q2 q3 q4=>?_
   have hh:h=0:=by
    cases hi with
    |none=>exact q3 rfl
    |some y=>have:=q4 rfl;omega
   have hl:l=0:=by omega
   have hmC:mC=0:=by
    cases mx with
    |none=>exact(q1 rfl).2
    |some y=>have:=q2 rfl;omega
   refine Yg hs (x:=.slice none 0 0) ?_ (by simp[Yt])
   simp only[execOp,ho]
   refine WY ?_
   rw[h1]
   simp only[Instr.sliceAt,Sem.run_bind,run_underlying hu,Result.andThen_ok,Instr.slice,hr,Wq hi',Sem.run_pure]
   subst hh;subst hl;subst hmC
   simp
  ·rw[hx] at h1
   obtain⟨l,hl,e1⟩:=Ub h1
   obtain⟨cs,fr,hc,hrr⟩:=hs.row hr hl
   refine PH (capC:=cap.getD (l.tot - off/l.sz)) true hρ hmx (D4 hrr off cap) λlo' h m mC hrun hlh hm q1 q2 q3 q4=>?_
   have run:(execOp ρ o).run P w=.ok (.value (.slice (some (if mC=lo' then⟨l.blk,l.base+off,none⟩ else⟨l.blk,l.base+off+lo'*i.size,none⟩)) (h - lo') (mC - lo'))) w:=by
    simp only[execOp,ho]
    refine WY ?_
    rw[e1]
    simp only[Instr.sliceAt,Sem.run_bind,run_underlying hu,Result.andThen_ok,Instr.slice,hrun,Wq hi',Sem.run_pure]
    by_cases hmm:mC=lo'
    ·simp[hmm]
    ·simp[hmm,RO]
   refine Ym λhle=>?_
   rw[Xa] at hle
   have hle:lo'<=m:=Zo hle
   refine V9 (λhlm=>?_) λhlm=>?_
   ·rw[Yu] at hlm
    have hlm:lo'=m:=Zo hlm
    cases mx with
    |none=>
     cases cap with
     |some c=>
      obtain⟨z1,z2⟩:=q1 rfl
      have z1:m=c:=z1
      have z2:mC=c:=z2
      have hmm:mC=lo':=by omega
      refine Yg hs run ?_
      rw[if_pos hmm,hmm,T6]
      exact Rf (cap:=some 0) hl
     |none=>
     refine Vr (Tr.ghost hs ⟨l.blk,(if mC=lo' then l.base+off else l.base+off+lo'*i.size),mC - lo',1⟩) run ?_
     simp only[Yt]
     refine⟨_,Mp.put_same _ _ _,?_⟩
     by_cases hmm:mC=lo'
     ·simp[hmm]
     ·simp[hmm]
    |some y=>
     have hmm:mC=lo':=by have:=q2 rfl;omega
     refine Yg hs run ?_
     rw[if_pos hmm,hmm,T6]
     exact Rf (cap:=some 0) hl
   ·rw[Yu] at hlm
    have hlm:lo'≠m:=of_decide_eq_false hlm
    have Zi6:mC≠lo':=by
     cases mx with
     |none=>
      obtain⟨z1,z2⟩:=q1 rfl
      have:=D4 hrr off cap
      omega
     |some y=>have:=q2 rfl;omega
    refine Yg hs run ?_
    rw[if_neg Zi6]
    have e2:l.base+off+lo'*i.size=l.base+(off+lo'*i.size):=by omega
    rw[e2]
    cases mx with
    |some y=>
     have hmm:mC=m:=(q2 rfl).symm
     rw[hmm]
     exact Rf (cap:=some (m - lo')) hl
    |none=>
     obtain⟨z1,z2⟩:=q1 rfl
     cases cap with
     |some c=>
      rw[z2]
      exact Rf (cap:=some (c - lo')) hl
     |none=>
      rw[z2]
      have hz:l.sz=i.size:=by
       rw[hrr.sz]
       have:Nat.beq r.sz i.size=true:=hsz
       rw[Yu] at this
       exact Zo this
      have h2:=hrr.sz1
      have e3:l.tot - off/l.sz - lo'=l.tot - (off+lo'*i.size)/l.sz:=by
       rw[<-hz,Nat.add_mul_div_right _ _ (by omega),Nat.sub_sub]
      show Yt σ (.slice b (off+lo'*i.size) (h - lo') none) (.slice _ _ (l.tot - off/l.sz - lo'))
      rw[e3]
      exact Rf (cap:=none) hl
 case array n e=>
  refine XG λi hi'=>QA λb off hx=>?_
  rw[hx] at h1
  obtain⟨l,hl,e1⟩:=Ue h1
  refine PH (capC:=n) false hρ hmx (Zl _) λlo' h m mC hrun hlh hm q1 q2 q3 q4=>?_
  have hmC:mC=m:=by
   cases mx with
   |none=>obtain⟨z1,z2⟩:=q1 rfl;omega
   |some y=>exact(q2 rfl).symm
  subst hmC
  have run:(execOp ρ o).run P w=.ok (.value (.slice (some (if mC=lo' then⟨l.blk,l.base+off,none⟩ else⟨l.blk,l.base+off+lo'*i.size,none⟩)) (h - lo') (mC - lo'))) w:=by
   simp only[execOp,ho]
   refine WY ?_
   rw[e1]
   simp only[Instr.sliceAt,Sem.run_bind,run_underlying hu,Result.andThen_ok,Instr.sureAddr,hrun,Wq hi',Sem.run_pure]
   by_cases hmm:mC=lo'
   ·simp[hmm]
   ·simp[hmm,RO]
  refine V9 (λhlm=>?_) λhlm=>?_
  ·rw[Yu] at hlm
   have hlm:lo'=mC:=Zo hlm
   refine Yg hs run ?_
   rw[if_pos hlm.symm]
   exact Rf (cap:=some (mC - lo')) hl
  ·rw[Yu] at hlm
   have hlm:lo'≠mC:=of_decide_eq_false hlm
   refine Yg hs run ?_
   rw[if_neg (λe=>hlm e.symm),XF]
   exact Rf (cap:=some (mC - lo')) hl
end
end
end Go.AI
