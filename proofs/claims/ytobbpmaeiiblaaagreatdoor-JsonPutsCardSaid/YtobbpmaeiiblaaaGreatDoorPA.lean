/- Texts and values, plainly, and how a heap bears them: proved without conditions but those that each names. -/
import Derived.Test.YtobbpmaeiiblaaaGreatDoorP7
import Derived.Test.YtobbpmaeiiblaaaGreatDoorP9
set_option maxRecDepth 1000000
set_option maxHeartbeats 0
set_option linter.unusedVariables false
set_option linter.unusedSimpArgs false
namespace Go.AI
open Go
noncomputable section
theorem U6{sz:Nat}: ∀{ls:List (List AV)},(∀l∈ls,l.length=sz)→ls.flatten.length=ls.length*sz
 |[],_=>by simp
 |l::ls,h=>by
  rw[List.flatten_cons,Zq,U6 (fun x hx=>h x (ZB _ hx)),h l (Zy ..),Zn,Nat.add_mul]
  omega
theorem Zih{sz:Nat}: ∀{ls:List (List AV)} {i:Nat},(∀l∈ls,l.length=sz)→i<ls.length→(ls.flatten.drop (i*sz)).take sz=ls.getD i []
 |l::ls,0,h,_=>by
  rw[Nat.zero_mul,Yl,List.flatten_cons,List.take_append_of_le_length (by rw[h l (Zy ..)];exact Zk _),ZK (by rw[h l (Zy ..)];exact Zk _)]
  rfl
 |l::ls,i+1,h,hi=>by
  have hl:=h l (Zy ..)
  have e:(i+1)*sz=l.length+i*sz:=by rw[hl,Nat.add_mul];omega
  rw[List.flatten_cons,e,←List.drop_drop,List.drop_left]
  have:=Zih (i:=i) (fun x hx=>h x (ZB _ hx)) (by simpa using hi)
  rw[this];rfl
structure Recs(H:Heap)(b e sz:Nat)(ls:List (List AV))(r:Row):Prop where
 at_:H.t.get b=some (.row r)
 elem:r.elem=e
 szr:r.sz=sz
 own:r.own=true
 fz:r.fz=0
 sm:r.sm=false
 exact_:r.exact=false
 cells:Cells r ls.flatten
 each: ∀l∈ls,l.length=sz
 ro:H.ro≤b
 low:b<H.nx
theorem Recs.size{H:Heap}{b e sz:Nat}{ls:List (List AV)}{r:Row}(h:Recs H b e sz ls r):r.size=ls.length*sz:=by rw[h.cells.size,U6 h.each]
theorem Recs.moved{H H':Heap}{b e sz:Nat}{ls:List (List AV)}{r:Row}(h:Recs H b e sz ls r)(g:H'.t.get b=H.t.get b)(hro:H'.ro=H.ro)(hnx:H.nx≤H'.nx):Recs H' b e sz ls r:=
 ⟨g.trans h.at_,h.elem,h.szr,h.own,h.fz,h.sm,h.exact_,h.cells,h.each,by rw[hro];exact h.ro,ZF h.low hnx⟩
theorem Recs.load{H H':Heap}{b e sz:Nat}{ls:List (List AV)}{r:Row}(h:Recs H b e sz ls r)(ht:H'.t=H.t){i:Nat}(hi:i<ls.length):Zni sz (.ptr b (i*sz)) H'= .val (.agg (ls.getD i [])) H':=by
 have hf:=U6 h.each
 have hm:(i+1)*sz≤ls.length*sz:=Ww _ hi
 rw[Nat.add_mul,Nat.one_mul] at hm
 rw[ZuK (r:=r) (by rw[ht];exact h.at_) h.cells (by omega),Zih h.each hi]
theorem Zal{n i sz:Nat}(h:i<n)(b o:Nat)(c:Option Nat)(k:IntKind)(H:Heap):Zlw sz (.slice b o n c) (nI k i) H= .val (.ptr b (o+i*sz)) H:=by
 show ZS (Nat.ble (Nat.succ i) n) (OR.val (.ptr b (Nat.add o (Nat.mul i sz))) H)=_
 rw[Zl (show Nat.succ i≤n from h)];rfl
def RBuf(H:Heap)(v:AV)(e sz:Nat)(ls:List (List AV))(lo:Nat):Prop:=(ls=[]∧v= .nils)∨(ls≠[]∧ ∃b r,v= .slice b 0 ls.length none∧Recs H b e sz ls r∧lo≤b)
theorem Zda{H:Heap}{v:AV}{e sz bytes:Nat}{ls:List (List AV)}{lo:Nat}(h:RBuf H v e sz ls lo)(hsz:1≤sz)(hby:1≤bytes)(hl:(ls.length+1)*bytes≤140737488355328)(hro:H.ro≤H.nx)(hlo:lo≤H.nx){x:List AV}(hx:x.length=sz):
  ∃v' H',UX e sz bytes v (.slice H.nx 0 1 none) (H.newRow e sz x true)= .val v' H'∧RBuf H' v' e sz (ls++[x]) lo∧Below lo H H':=by
 generalize hH1:H.newRow e sz x true=H1
 have nx1:H1.nx=H.nx+1:=by rw[←hH1];rfl
 have k1:Keep H H1 []:=by rw[←hH1];exact Keep.new H _ []
 have b1:Below lo H H1:=by rw[←hH1];exact Below.new lo H _
 have gx:H1.t.get H.nx=some (.row ⟨e,sz,Yt x,T.ofList x, .unk,0,false,true,true⟩):=by rw[←hH1,Zc9,Zbb,if_pos rfl]
 have cx:=Cells.new e sz x 0 false true true
 have src: ∀k:Nat→List AV→OR,(Zo3 (.slice H.nx 0 1 none) fun n=>Vs H1 sz (.slice H.nx 0 1 none) n fun new=>k n new)=k 1 x:=by
  intro k
  show(Vs H1 sz (.slice H.nx 0 1 none) 1 fun new=>k 1 new)=_
  generalize(⟨e,sz,Yt x,T.ofList x, .unk,0,false,true,true⟩:Row)=r0 at gx cx
  unfold Vs YH
  simp only[gx]
  show ZS (Nat.ble (0+1*sz) r0.size) (k 1 (loadN r0 0 (1*sz)))=_
  rw[Nat.one_mul,cx.size,hx,Zl (show 0+sz≤sz by omega)]
  have:=cx.load (o:=0) (n:=sz) (by omega)
  rw[this,Yl,ZK (by omega)]
  rfl
 have ap: ∀a,UX e sz bytes a (.slice H.nx 0 1 none) H1=Zel a e sz bytes H1 1 x:=by
  intro a
  show ZS (Nat.ble 1 sz) (ZS (Nat.ble 1 bytes) _)=_
  rw[Zl hsz,Zl hby]
  exact src fun n new=>Zel a e sz bytes H1 n new
 rw[ap]
 rcases h with⟨rfl,rfl⟩|⟨hne,b,r,rfl,g,hb⟩
 ·refine⟨.slice H1.nx 0 1 none,H1.newRow e sz x false,?_, .inr ⟨by simp,H1.nx,_,rfl,⟨by rw[Zc9,Zbb,if_pos rfl],rfl,rfl,rfl,rfl,rfl,rfl,by simpa using Cells.new e sz x 0 false true false,fun l hm=>by simp at hm;rw[hm];exact hx,by show H1.ro≤H1.nx;rw[k1.ro];omega,Ys _⟩,by omega⟩,b1.trans (Below.new lo H1 _)⟩
  show ZS (Nat.ble (1*bytes) 140737488355328) (OR.val (.slice H1.nx 0 1 none) (H1.newRow e sz x false))=_
  rw[Zl (by simpa using hl)];rfl
 ·have g1:Recs H1 b e sz ls r:=g.moved (k1.get b g.low (by simp)) k1.ro (by omega)
  have hs:=g1.size
  have hcap:Uu r 0 none=ls.length:=by
   show cond (Nat.beq r.sz 1) (r.size - 0) ((r.size - 0)/r.sz)=_
   rw[g1.szr,hs,Nat.sub_zero]
   by_cases h1:sz=1
   ·subst h1;show ls.length*1=_;omega
   ·rw[Ye,Zc h1]
    exact Nat.mul_div_cancel _ (by omega)
  have hmay:H1.may r b=true:=by unfold Heap.may;rw[g1.own,Zl g1.ro];rfl
  have hlen:(ls.length+1)*sz=ls.length*sz+sz:=by rw[Nat.add_mul];omega
  refine⟨.slice H1.nx 0 (ls++[x]).length none,⟨Nat.succ H1.nx,(H1.t.del b).set H1.nx (.row ⟨r.elem,sz,(ls.length+1)*sz,Wn r.cells (ls.length*sz) x,r.dflt,r.fz,r.sm,true,false⟩),H1.ro⟩,?_, .inr ⟨by simp,H1.nx,⟨r.elem,sz,(ls.length+1)*sz,Wn r.cells (ls.length*sz) x,r.dflt,r.fz,r.sm,true,false⟩,rfl,⟨by rw[T.get_set,if_pos rfl],g1.elem,rfl,rfl,g1.fz,g1.sm,rfl,?_,?_,Z6 g1.ro (Zbf g1.low),Ys _⟩,by omega⟩,b1.trans ⟨Nat.le_succ _,rfl,fun c hc hn=>?_⟩⟩
  ·show YH H1 b _=_
   unfold YH
   simp only[g1.at_]
   have h1:Ziu r sz none=true:=by show Nat.beq r.sz sz=true;rw[g1.szr,Yc]
   have h2:Nat.ble (Nat.add ls.length 1) (Uu r 0 none)=false:=by
    rw[hcap]
    cases h:Nat.ble (Nat.add ls.length 1) ls.length with
    |false=>rfl
    |true=>have:=ZO h;have:ls.length+1≤ls.length:=this;omega
   rw[h1,h2]
   show ZS (Nat.ble ((ls.length+1)*bytes) 140737488355328) (ZS (Nat.ble (0+ls.length*sz) r.size) (cond r.exact _ (Zgn H1 e b 0 ls.length 1 sz r x)))=_
   rw[Zl hl,hs,Zi,Zl (Zk _),g1.exact_]
   show ZS (Nat.beq r.elem e) (ZS (H1.may r b) (ZS (Nat.ble r.fz (ls.length*sz)) (ZS (Nat.beq (ls.length*sz) r.size) (ZS (Nat.beq 0 0) _))))=_
   rw[g1.elem,Yc,hmay,g1.fz,Zl (ZX _),hs,Yc]
   show OR.val (.slice H1.nx 0 (ls.length+1) none) _=_
   rw[Zq]
   rfl
  ·have hf:=U6 g1.each
   refine⟨by show(ls.length+1)*sz=_;rw[List.flatten_append,Zq,hf];simp[hx];omega,fun i hi=>?_⟩
   rw[List.flatten_append,Zq,hf] at hi
   have e1:[x].flatten=x:=by simp
   rw[e1] at hi
   rw[Row.get_eq]
   show((Wn r.cells (ls.length*sz) x).get i).getD r.dflt=_
   rw[Qq,Zj,List.flatten_append,e1]
   by_cases h1:ls.length*sz≤i
   ·rw[if_pos ⟨h1,by omega⟩,List.getElem?_append_right (by omega),hf,Zp (show i - ls.length*sz<x.length by omega)];rfl
   ·rw[if_neg (by omega),Ym (by omega)]
    have:=g1.cells.get i (by omega)
    rw[Row.get_eq,Zj] at this
    exact this
  ·intro l hm
   rcases List.mem_append.1 hm with hm|hm
   ·exact g1.each l hm
   ·simp at hm;rw[hm];exact hx
  ·show((H1.t.del b).set H1.nx _).get c=_
   rw[T.get_set,if_neg (by omega),T.get_del,if_neg (by omega)]
theorem RBuf.below{H H':Heap}{v:AV}{e sz:Nat}{ls:List (List AV)}{lo:Nat}(h:RBuf H v e sz ls lo)(hp: ∀c,lo≤c→c<H.nx→H'.t.get c=H.t.get c)(hro:H'.ro=H.ro)(hnx:H.nx≤H'.nx):RBuf H' v e sz ls lo:=by
 rcases h with h|⟨hne,b,r,rfl,g,hb⟩
 ·exact .inl h
 ·exact .inr ⟨hne,b,r,rfl,g.moved (hp b hb g.low) hro hnx,hb⟩
theorem RBuf.len{H:Heap}{v:AV}{e sz:Nat}{ls:List (List AV)}{lo:Nat}(h:RBuf H v e sz ls lo)(G:Heap):Qe v G= .val (nI .i64 ls.length) G:=by
 rcases h with⟨rfl,rfl⟩|⟨_,b,r,rfl,_⟩
 ·exact Zcc G
 ·exact VL ..
theorem RBuf.low{H:Heap}{v:AV}{e sz:Nat}{ls:List (List AV)}{lo:Nat}(h:RBuf H v e sz ls lo){n:Nat}(hn:H.nx≤n):YA n v=true:=by
 rcases h with⟨_,rfl⟩|⟨_,b,r,rfl,g,_⟩
 ·rfl
 ·exact YP (ZF g.low hn) _ _ _
theorem RBuf.same{H:Heap}{v:AV}{e sz:Nat}{ls:List (List AV)}{lo:Nat}(h:RBuf H v e sz ls lo)(n:Nat)(t:T Obj):Vk (.val v ⟨n,t,n⟩) v n=true:=by
 rcases h with⟨_,rfl⟩|⟨_,b,r,rfl,_⟩
 ·exact Zbu n t
 ·exact UY _ _ _ _ _ _
end
end Go.AI
namespace Go.AI
open Go
noncomputable section
theorem Ztn(a b:List UInt8):eqS (.str a) (.str b)=some (decide (a=b)):=by
 show some (Zd1 a b)=_
 rw[U5]
 congr 1
 by_cases h:a=b<;>simp[h]
def Seen(es:List Ent)(ks:List (List UInt8)):Prop:=es.map (fun e=>(e.key,e.val))=ks.map fun k=>(AV.str k,nI .i64 1)
theorem Seen.nil:Seen [] []:=rfl
theorem Seen.push{es:List Ent}{ks:List (List UInt8)}(h:Seen es ks)(k:List UInt8)(c:Nat):Seen (es++[⟨.str k,nI .i64 1,c⟩]) (ks++[k]):=by
 unfold Seen at*
 rw[List.map_append,List.map_append,h];rfl
theorem Znz{no:OR}{yes:AV→OR}(k:List UInt8): ∀{es:List Ent} {ks:List (List UInt8)},Seen es ks→Va eqS (.str k) no yes es=if k∈ks then yes (nI .i64 1) else no
 |[],ks,h=>by
  have:ks=[]:=by
   unfold Seen at h;cases ks with
   |nil=>rfl
   |cons=>simp at h
  subst this
  simp[Va]
 |e::es,[],h=>by unfold Seen at h;simp at h
 |e::es,q::ks,h=>by
  unfold Seen at h
  rw[List.map_cons,List.map_cons,List.cons.injEq,Prod.mk.injEq] at h
  obtain⟨⟨h1,h2⟩,h3⟩:=h
  unfold Va
  rw[h1,h2,Ztn,Znz k h3]
  show cond (decide (k=q)) _ _=_
  by_cases hk:k=q
  ·subst hk;simp
  ·simp[hk]
theorem ZqF{done:List Ent→Nat→OR}{k:List UInt8}{v:AV}{c:Nat}: ∀{es:List Ent} {ks:List (List UInt8)} {pre:List Ent},Seen es ks→k∉ks→Zb0 eqS (.str k) v c (fun l q=>done (pre++l) q) es=done (pre++(es++[⟨.str k,v,c⟩])) (c+1)
 |[],_,pre,_,_=>by simp[Zb0]
 |e::es,[],pre,h,_=>by unfold Seen at h;simp at h
 |e::es,q::ks,pre,h,hk=>by
  unfold Seen at h
  rw[List.map_cons,List.map_cons,List.cons.injEq,Prod.mk.injEq] at h
  obtain⟨⟨h1,h2⟩,h3⟩:=h
  unfold Zb0
  rw[h1,Ztn,Zc (fun e=>hk (by rw[e];exact Zy ..))]
  show Zb0 eqS (.str k) v c (fun l' c=>done (pre++(e::l')) c) es=_
  have:=ZqF (done:=done) (v:=v) (c:=c) (pre:=pre++[e]) h3 (fun hm=>hk (ZB _ hm))
  simp only[VE,List.singleton_append] at this
  rw[this];simp
def ZBK(eq:AV→AV→Option Bool)(zv:AV)(ok:Bool)(m k:AV)(H:Heap):OR:=Zjr m (Zf0 ok H zv false) fun b=>Zeq H b fun o=>ZqZ o fun es=>Va eq k (Zf0 ok H zv false) (fun v=>Zf0 ok H v true) es
theorem ZdM(eq:AV→AV→Option Bool)(zv:AV)(ok:Bool)(m k:EvF)(tm:TM)(H:Heap):Zkd eq zv ok m k tm H=ZBK eq zv ok (m tm) (k tm) H:=rfl
def ZFd(eq:AV→AV→Option Bool)(m k v:AV)(H:Heap):OR:=Zjr m .fail fun b=>Zeq H b fun o=>Zml o fun es clock=>
 ZS (Nat.ble H.ro b) (Zb0 eq k v clock (fun es c=> .val Yx (H.put b (.map es c))) es)
theorem ZdN(eq:AV→AV→Option Bool)(m k v:EvF)(tm:TM)(H:Heap):Zdg eq m k v tm H=ZFd eq (m tm) (k tm) (v tm) H:=rfl
theorem Zvt(tm:TM)(H:Heap):ZnS tm H= .val (.map H.nx) (H.new (.map [] 0)):=rfl
def lkO(eq:AV→AV→Option Bool)(zv:AV)(ok:Bool)(x:Option Obj)(k:AV)(H:Heap):OR:=match x with|some o=>ZqZ o fun es=>Va eq k (Zf0 ok H zv false) (fun v=>Zf0 ok H v true) es|none=> .fail
theorem Zii(eq:AV→AV→Option Bool)(zv:AV)(ok:Bool)(b:Nat)(k:AV)(H:Heap):ZBK eq zv ok (.map b) k H=lkO eq zv ok (H.t.get b) k H:=rfl
def upO(eq:AV→AV→Option Bool)(x:Option Obj)(b:Nat)(k v:AV)(H:Heap):OR:=match x with|some o=>Zml o fun es clock=>ZS (Nat.ble H.ro b) (Zb0 eq k v clock (fun es c=> .val Yx (H.put b (.map es c))) es)|none=> .fail
theorem Zkq(eq:AV→AV→Option Bool)(b:Nat)(k v:AV)(H:Heap):ZFd eq (.map b) k v H=upO eq (H.t.get b) b k v H:=rfl
theorem Zyd{c:Nat}{es:List Ent}{ks:List (List UInt8)}(hs:Seen es ks)(k:List UInt8)(H:Heap):lkO eqS (nI .i64 0) false (some (.map es c)) (.str k) H= .val (nI .i64 (if k∈ks then 1 else 0)) H:=by
 show Va eqS (.str k) _ _ es=_
 rw[Znz k hs]
 split<;>rfl
theorem Zye{c:Nat}{es:List Ent}{ks:List (List UInt8)}(hs:Seen es ks){k:List UInt8}(hk:k∉ks){b:Nat}{H:Heap}(hro:H.ro≤b):upO eqS (some (.map es c)) b (.str k) (nI .i64 1) H= .val Yx (H.put b (.map (es++[⟨.str k,nI .i64 1,c⟩]) (c+1))):=by
 show ZS (Nat.ble H.ro b) (Zb0 eqS (.str k) (nI .i64 1) c (fun es c=> .val Yx (H.put b (.map es c))) es)=_
 rw[Zl hro]
 exact ZqF (done:=fun es c=>OR.val Yx (H.put b (.map es c))) (pre:=[]) hs hk
structure Sl(H:Heap)(sz:Nat)(v:AV)(ls:List (List AV)):Prop where
 each: ∀l∈ls,l.length=sz
 here:(ls=[]∧v= .nils)∨ ∃b o c,v= .slice b o ls.length c∧b<H.nx∧(ls≠[]→ ∃r,H.t.get b=some (.row r)∧o+ls.length*sz≤r.size∧ ∀i,i<ls.length*sz→r.get (o+i)=ls.flatten.getD i .unk)
theorem Sl.nil(H:Heap)(sz:Nat):Sl H sz .nils []:=⟨fun _ h=>(by cases h), .inl ⟨rfl,rfl⟩⟩
theorem Sl.keep{H H':Heap}{sz:Nat}{v:AV}{ls:List (List AV)}{S:List Nat}(h:Sl H sz v ls)(k:Keep H H' S)(hS: ∀b o n c,v= .slice b o n c→b∉S):Sl H' sz v ls:=by
 refine⟨h.each,?_⟩
 rcases h.here with h1|⟨b,o,c,rfl,hb,h2⟩
 ·exact .inl h1
 ·refine .inr ⟨b,o,c,rfl,ZF hb k.nx,fun hne=>?_⟩
  obtain⟨r,h3,h4⟩:=h2 hne
  exact⟨r,by rw[k.get b hb (hS _ _ _ _ rfl)];exact h3,h4⟩
theorem Sl.keep0{H H':Heap}{sz:Nat}{v:AV}{ls:List (List AV)}(h:Sl H sz v ls)(k:Keep H H' []):Sl H' sz v ls:=h.keep k (by simp)
theorem Sl.len{H:Heap}{sz:Nat}{v:AV}{ls:List (List AV)}(h:Sl H sz v ls)(G:Heap):Qe v G= .val (nI .i64 ls.length) G:=by
 rcases h.here with⟨rfl,rfl⟩|⟨b,o,c,rfl,_⟩
 ·rfl
 ·exact VL ..
theorem Sl.low{H:Heap}{sz:Nat}{v:AV}{ls:List (List AV)}(h:Sl H sz v ls){n:Nat}(hn:H.nx≤n):YA n v=true:=by
 rcases h.here with⟨rfl,rfl⟩|⟨b,o,c,rfl,hb,_⟩
 ·rfl
 ·exact YP (by omega) ..
theorem Sl.same{H:Heap}{sz:Nat}{v:AV}{ls:List (List AV)}(h:Sl H sz v ls)(n:Nat)(t:T Obj):Vk (.val v ⟨n,t,n⟩) v n=true:=by
 rcases h.here with⟨rfl,rfl⟩|⟨b,o,c,rfl,_⟩
 ·exact Zbu ..
 ·exact UY ..
theorem Sl.cells{H:Heap}{sz:Nat}{v:AV}{ls:List (List AV)}(h:Sl H sz v ls):v.cells=[v]:=by
 rcases h.here with⟨rfl,rfl⟩|⟨b,o,c,rfl,_⟩<;>rfl
theorem Sl.at_{H:Heap}{sz:Nat}{v:AV}{ls:List (List AV)}(h:Sl H sz v ls){i:Nat}(hi:i<ls.length):
  ∃b o r,(∀(k:IntKind) (G:Heap),Zlw sz v (nI k i) G= .val (.ptr b o) G)∧b<H.nx∧H.t.get b=some (.row r)∧(∀G:Heap,ldN sz (some (.row r)) o G= .val (.agg (ls.getD i [])) G)∧ ∀(j:Nat) (G:Heap),j<sz→ld1 (some (.row r)) (o+j) G= .val ((ls.getD i []).getD j .unk) G:=by
 have hne:ls≠[]:=by intro e;subst e;cases hi
 rcases h.here with⟨rfl,_⟩|⟨b,o,c,rfl,hb,h2⟩
 ·exact absurd rfl hne
 ·obtain⟨r,h3,h4,h5⟩:=h2 hne
  have hm:(i+1)*sz≤ls.length*sz:=Ww _ hi
  rw[Nat.add_mul,Nat.one_mul] at hm
  have hf:=U6 h.each
  have hg:=Zih h.each hi
  refine⟨b,o+i*sz,r,fun k G=>Zal hi b o c k G,hb,h3,fun G=>?_,fun j G hj=>?_⟩
  ·show ZS (Nat.ble (Nat.add (o+i*sz) sz) r.size) (OR.val (.agg (loadN r (o+i*sz) sz)) G)=_
   rw[Zl (show Nat.add (o+i*sz) sz≤r.size by show o+i*sz+sz≤_;omega)]
   show OR.val (.agg (loadN r (o+i*sz) sz)) G=_
   congr 2
   rw[←hg]
   apply List.ext_getElem?
   intro j
   by_cases hj:j<sz
   ·rw[UD _ _ _ _ hj,List.getElem?_take_of_lt hj,List.getElem?_drop]
    have:=h5 (i*sz+j) (by omega)
    rw[←Nat.add_assoc,Zj,Zp (by omega)] at this
    rw[Zp (by omega),this];rfl
   ·rw[Yp (by rw[Um];omega),Yp (by rw[Yb];omega)]
  ·rw[Zkn (by omega)]
   congr 1
   rw[←hg,Nat.add_assoc,h5 _ (by omega),Zj,Zj,List.getElem?_take_of_lt hj,List.getElem?_drop]
theorem Sl.of_rG{H:Heap}{b e sz:Nat}{ls:List (List AV)}{fz:Nat}{sm own ex:Bool}{c:Option Nat}(hb:H.t.get b=some (rG e sz ls.flatten fz sm own ex))(hn:b<H.nx)(he: ∀l∈ls,l.length=sz):Sl H sz (.slice b 0 ls.length c) ls:=
 ⟨he, .inr ⟨b,0,c,rfl,hn,fun _=>⟨_,hb,by show 0+_≤Yt ls.flatten;rw[Yr,U6 he];omega,fun i _=>by rw[Zi,ZrZ]⟩⟩⟩
theorem Sl.of_recs{H:Heap}{b e sz:Nat}{ls:List (List AV)}{r:Row}(h:Recs H b e sz ls r)(c:Option Nat):Sl H sz (.slice b 0 ls.length c) ls:=
 ⟨h.each, .inr ⟨b,0,c,rfl,h.low,fun _=>⟨r,h.at_,by rw[h.size];omega,fun i hi=>by rw[Zi];exact h.cells.get i (by rw[U6 h.each];exact hi)⟩⟩⟩
theorem Sl.of_buf{H:Heap}{v:AV}{e sz:Nat}{ls:List (List AV)}{lo:Nat}(h:RBuf H v e sz ls lo):Sl H sz v ls:=by
 rcases h with⟨rfl,rfl⟩|⟨_,b,r,rfl,h,_⟩
 ·exact Sl.nil ..
 ·exact Sl.of_recs h _
theorem Y8{n b:Nat}{l vs:List AV}{H:Heap}(hl:l.length=n)(hv:vs.length=n)(hn:1≤n)(hro:H.ro≤b)(e sz:Nat)(sm ex:Bool):stN n (some (rG e sz l 0 sm true ex)) b 0 (.agg vs) H= .val Yx (H.put b (rG e sz vs 0 sm true ex)):=by
 rw[ZdE hn (by exact hv) (by omega) hro (ZX _)]
 congr 3
 rw[ZrY _ _ _ (by show 0+vs.length≤_;omega)]
 show []++(vs++l.drop (0+vs.length))=vs
 rw[Y7 (by omega)];simp
theorem Zji{α:Type}[Inhabited α](l:List α)(f:α→Bool):(List.range l.length).any (fun i=>f (l.getD i default))=l.any f:=by
 rw[Bool.eq_iff_iff]
 simp only[List.any_eq_true,List.mem_range]
 constructor
 ·rintro ⟨i,hi,h⟩
  rw[Zj,Zp hi] at h
  exact⟨_,YL hi,h⟩
 ·rintro ⟨x,hx,h⟩
  obtain⟨i,hi,rfl⟩:=ZbZ hx
  exact⟨i,hi,by rw[Zj,Zp hi];exact h⟩
def Zdb(p:Nat→Bool)(n:Nat):AV:=match(List.range n).find? p with|some i=>nI .i64 i|none=> .int .i64 (.negSucc 0)
theorem ZnA{p:Nat→Bool}{n:Nat}(h: ∀j,j<n→p j=false):(List.range n).find? p=none:=by
 rw[List.find?_eq_none];intro x hx;rw[h x (List.mem_range.1 hx)];simp
theorem ZnB{p:Nat→Bool}{n i:Nat}(hi:i<n)(h: ∀j,j<i→p j=false)(hp:p i=true):(List.range n).find? p=some i:=by
 rw[List.find?_range_eq_some]
 exact⟨hp,List.mem_range.2 hi,fun j hj=>by rw[h j hj];rfl⟩
theorem Zto(p:Nat→Bool)(n:Nat)(H:Heap):Zeo UK WW (Zdb p n) (nI .i64 0) H= .val (.bool ((List.range n).any p)) H:=by
 unfold Zdb
 cases h:(List.range n).find? p with
 |none=>
  have:(List.range n).any p=false:=by
   rw[List.find?_eq_none] at h
   rw[List.any_eq_false];exact h
  rw[this]
  show ZS (kEq .i64 .i64) _=_
  rw[YM];rfl
 |some i=>
  have:(List.range n).any p=true:=List.any_eq_true.2 ⟨i,List.mem_of_find?_eq_some h,List.find?_some h⟩
  rw[this,Y2];rfl
end
end Go.AI
namespace Go.AI
def Zdc(b:Nat):Nat:=if b<128 then 240 else if b<194 then 241 else if b<224 then 2 else if b=224 then 19 else if b=237 then 35 else if b<240 then 3 else if b=240 then 52 else if b<244 then 4 else if b=244 then 68 else 241
def Zyf:List Nat:=(List.range 256).map Zdc
def Zg1:List Nat:=[128,191,160,191,128,159,144,191,128,143,0,0,0,0,0,0,0,0,0,0,0,0,0,0,0,0,0,0,0,0,0,0]
def by_(s:List UInt8)(i:Nat):Nat:=(s.getD i 0).toNat
def Qg(s:List UInt8):Nat:=
 let b:=by_ s 0
 if b<128 then 1 else
 let x:=Zdc b
 let lo:=Zg1.getD (x/16*2) 0
 let hi:=Zg1.getD (x/16*2+1) 0
 if x % 8=2 then(if s.length<2∨by_ s 1<lo∨hi<by_ s 1 then 0 else 2)
 else if x % 8=3 then(if s.length<3∨by_ s 1<lo∨hi<by_ s 1∨by_ s 2<128∨191<by_ s 2 then 0 else 3)
 else if x % 8=4 then(if s.length<4∨by_ s 1<lo∨hi<by_ s 1∨by_ s 2<128∨191<by_ s 2∨by_ s 3<128∨191<by_ s 3 then 0 else 4)
 else 0
def vuF:Nat→List UInt8→Bool
 |0,_=>true
 |f+1,s=>if s.length=0 then true else if Qg s=0 then false else vuF f (s.drop (Qg s))
def vu(s:List UInt8):Bool:=vuF s.length s
theorem ZqG: ∀(f g:Nat) (s:List UInt8),s.length≤f→s.length≤g→vuF f s=vuF g s
 |0,g,s,h,_=>by
  have:s.length=0:=by omega
  cases g with
  |zero=>rfl
  |succ g=>unfold vuF;rw[if_pos this]
 |f+1,0,s,_,h=>by
  have:s.length=0:=by omega
  unfold vuF;rw[if_pos this]
 |f+1,g+1,s,h,hg=>by
  unfold vuF
  by_cases h0:s.length=0
  ·rw[if_pos h0,if_pos h0]
  ·rw[if_neg h0,if_neg h0]
   by_cases h1:Qg s=0
   ·rw[if_pos h1,if_pos h1]
   ·rw[if_neg h1,if_neg h1]
    exact ZqG f g _ (by rw[List.length_drop];omega) (by rw[List.length_drop];omega)
theorem ZCU:vu []=true:=rfl
theorem Zyg(f:Nat)(s:List UInt8):vuF (f+1) s=if s.length=0 then true else if Qg s=0 then false else vuF f (s.drop (Qg s)):=rfl
theorem Zkr{s:List UInt8}(h:0<s.length):vu s=if Qg s=0 then false else vu (s.drop (Qg s)):=by
 show vuF s.length s=if Qg s=0 then false else vuF (s.drop (Qg s)).length (s.drop (Qg s))
 obtain⟨n,hn⟩: ∃n,s.length=n+1:=⟨s.length - 1,by omega⟩
 rw[hn,Zyg,if_neg (by omega)]
 by_cases h1:Qg s=0
 ·rw[if_pos h1,if_pos h1]
 ·rw[if_neg h1,if_neg h1]
  exact ZqG n _ (s.drop (Qg s)) (by rw[List.length_drop];omega) (Zk _)
theorem ZoN{s:List UInt8}(h:0<s.length)(h2:Qg s=0):vu s=false:=by rw[Zkr h,if_pos h2]
theorem ZoO{s:List UInt8}{n:Nat}(h:0<s.length)(h2:Qg s=n)(h3:n≠0):vu s=vu (s.drop n):=by rw[Zkr h,if_neg (by rw[h2];exact h3),h2]
theorem ZjT{s:List UInt8}(h:by_ s 0<128):Qg s=1:=by unfold Qg;simp only;rw[if_pos h]
theorem Zij(s:List UInt8)(n i:Nat):by_ (s.drop n) i=by_ s (n+i):=by
 unfold by_
 rw[Zj,List.getElem?_drop,Zj]
theorem Zik: ∀(n:Nat) {s:List UInt8},n≤s.length→(∀i,i<n→by_ s i<128)→vu s=vu (s.drop n)
 |0,s,_,_=>by rw[Yl]
 |n+1,s,h,ha=>by
  rw[Zkr (by omega),ZjT (ha 0 (by omega)),if_neg (by omega),Zik n (s:=s.drop 1) (by rw[List.length_drop];omega) (fun i hi=>by rw[Zij];exact ha _ (by omega)),List.drop_drop,Nat.add_comm]
def w8(s:List UInt8):Nat:=
 by_ s 0|||by_ s 1*2^8 % 18446744073709551616|||by_ s 2*2^16 % 18446744073709551616|||by_ s 3*2^24 % 18446744073709551616|||by_ s 4*2^32 % 18446744073709551616|||by_ s 5*2^40 % 18446744073709551616|||by_ s 6*2^48 % 18446744073709551616|||by_ s 7*2^56 % 18446744073709551616
theorem ZnC(s:List UInt8)(i:Nat):by_ s i<256:=(s.getD i 0).toNat_lt
theorem ZCV{b k:Nat}(hk:k≤7)(h:(b*2^(8*k) % 18446744073709551616).testBit (8*k+7)=false)(hb:b<256):b<128:=by
 rw[show(18446744073709551616:Nat)=2^64 from rfl,Nat.testBit_mod_two_pow,Zh (by omega),ZY,Nat.testBit_mul_two_pow] at h
 have h:b.testBit 7=false:=by
  rw[Zh (by omega),ZY,show 8*k+7 - 8*k=7 by omega] at h;exact h
 rw[Nat.testBit_eq_decide_div_mod_eq] at h
 have:=of_decide_eq_false h
 omega
theorem ZdO{s:List UInt8}(h: ∀k,k<8→(w8 s).testBit (8*k+7)=false): ∀i,i<8→by_ s i<128:=by
 have e: ∀k,k<8→ ∀j,j<8→((by_ s j)*2^(8*j) % 18446744073709551616).testBit (8*k+7)=false:=by
  intro k hk j hj
  have:=h k hk
  unfold w8 at this
  simp only[Nat.testBit_or,Bool.or_eq_false_iff] at this
  obtain⟨⟨⟨⟨⟨⟨⟨a0,a1⟩,a2⟩,a3⟩,a4⟩,a5⟩,a6⟩,a7⟩:=this
  have hb:=ZnC s 0
  match j,hj with
  |0,_=>rw[Nat.mul_zero,Nat.pow_zero,Nat.mul_one,Z0 (by omega)];exact a0
  |1,_=>exact a1
  |2,_=>exact a2
  |3,_=>exact a3
  |4,_=>exact a4
  |5,_=>exact a5
  |6,_=>exact a6
  |7,_=>exact a7
 intro i hi
 exact ZCV (by omega) (e i hi i hi) (ZnC s i)
theorem Zjj{x:Nat}(h:x&&&9259542123273814144=0): ∀k,k<8→x.testBit (8*k+7)=false:=by
 intro k hk
 have:(x&&&9259542123273814144).testBit (8*k+7)=false:=by rw[h];exact Nat.zero_testBit _
 rw[Nat.testBit_and] at this
 have hm: ∀k,k<8→(9259542123273814144:Nat).testBit (8*k+7)=true:=by decide
 rw[hm k hk,Bool.and_true] at this
 exact this
theorem ZCW{s:List UInt8}(h:w8 s&&&9259542123273814144=0): ∀i,i<8→by_ s i<128:=ZdO (Zjj h)
theorem Zyh{x y:Nat}(h:(x|||y)&&&9259542123273814144=0):(∀k,k<8→x.testBit (8*k+7)=false)∧ ∀k,k<8→y.testBit (8*k+7)=false:=by
 have:=Zjj h
 simp only[Nat.testBit_or,Bool.or_eq_false_iff] at this
 exact⟨fun k hk=>(this k hk).1,fun k hk=>(this k hk).2⟩
theorem ZAB{s:List UInt8}(h:(w8 s|||w8 (s.drop 8))&&&9259542123273814144=0): ∀i,i<16→by_ s i<128:=by
 obtain⟨a,b⟩:=Zyh h
 intro i hi
 by_cases h8:i<8
 ·exact ZdO a i h8
 ·have:=ZdO b (i - 8) (by omega)
  rw[Zij,show 8+(i - 8)=i by omega] at this;exact this
theorem ZAC{s:List UInt8}(h:(w8 s|||w8 (s.drop 8)|||(w8 (s.drop 16)|||w8 (s.drop 24)))&&&9259542123273814144=0): ∀i,i<32→by_ s i<128:=by
 have:=Zjj h
 simp only[Nat.testBit_or,Bool.or_eq_false_iff] at this
 intro i hi
 by_cases h8:i<8
 ·exact ZdO (fun k hk=>(this k hk).1.1) i h8
 by_cases h16:i<16
 ·have:=ZdO (fun k hk=>(this k hk).1.2) (i - 8) (by omega)
  rw[Zij,show 8+(i - 8)=i by omega] at this;exact this
 by_cases h24:i<24
 ·have:=ZdO (fun k hk=>(this k hk).2.1) (i - 16) (by omega)
  rw[Zij,show 16+(i - 16)=i by omega] at this;exact this
 ·have:=ZdO (fun k hk=>(this k hk).2.2) (i - 24) (by omega)
  rw[Zij,show 24+(i - 24)=i by omega] at this;exact this
end Go.AI
namespace Go.AI
def Wc:List (List UInt8)→List UInt8
 |[]=>[]
 |s::r=>s++r.flatMap fun x=>44::x
def ZdP(l:List (List UInt8)):Nat:=(l.map List.length).sum
theorem Zjk(s:List UInt8)(l:List (List UInt8)):ZdP (s::l)=s.length+ZdP l:=by unfold ZdP;simp
theorem ZqH(a b:List (List UInt8)):ZdP (a++b)=ZdP a+ZdP b:=by unfold ZdP;simp
theorem Zjl{l:List (List UInt8)}(h:l≠[])(r:List (List UInt8)):Wc (l++r)=Wc l++r.flatMap fun x=>44::x:=by
 cases l with
 |nil=>exact absurd rfl h
 |cons s l=>show s++(l++r).flatMap _=(s++l.flatMap _)++_;rw[List.flatMap_append,VE]
theorem ZnD: ∀r:List (List UInt8),(r.flatMap fun x=>(44:UInt8)::x).length=r.length+ZdP r
 |[]=>rfl
 |x::r=>by
  rw[List.flatMap_cons,Zq,ZnD r,Zn,Zn,Zjk];omega
theorem ZnE{l:List (List UInt8)}(h:l≠[]):(Wc l).length=(l.length - 1)+ZdP l:=by
 cases l with
 |nil=>exact absurd rfl h
 |cons s l=>
  show(s++l.flatMap _).length=_
  rw[Zq,ZnD,Zjk,Zn];omega
theorem Zam{α:Type}[Inhabited α]{l:List α}{i:Nat}(h:i<l.length)(d:α):l.take (i+1)=l.take i++[l.getD i d]:=by
 rw[List.take_add_one,Zp h,Zj,Zp h];rfl
theorem Zsr{l:List (List UInt8)}{i:Nat}(h:i+1<l.length):Wc (l.take (i+2))=Wc (l.take (i+1))++[44]++l.getD (i+1) []:=by
 rw[Zam h [],Zjl (by intro e;have:=congrArg List.length e;rw[Yb,Zw] at this;omega)]
 simp
theorem ZlT{l:List (List UInt8)}{k:Nat}(h:0<k)(hl:l≠[]):(Wc (l.take k)).length≤(Wc l).length:=by
 have e:l.take k≠[]:=by intro e;have:=congrArg List.length e;rw[Yb,Zw] at this;have:=List.length_pos_iff.2 hl;omega
 have:=Zjl e (l.drop k)
 rw[List.take_append_drop] at this
 rw[this,Zq];omega
theorem Zvu{l:List (List UInt8)}{i:Nat}(h:i<l.length):ZdP (l.take (i+1))=ZdP (l.take i)+(l.getD i []).length:=by
 rw[Zam h [],ZqH];unfold ZdP;simp
theorem Ztp(l:List (List UInt8))(k:Nat):ZdP (l.take k)≤ZdP l:=by
 have:=ZqH (l.take k) (l.drop k)
 rw[List.take_append_drop] at this;omega
end Go.AI
namespace Go.AI
def Zss(n:Nat):UInt8:=if n<10 then UInt8.ofNat (48+n) else UInt8.ofNat (87+n)
def qB(c:UInt8):List UInt8:=if c.toNat=34∨c.toNat=92 then [92,c] else if c.toNat<32 then [92,117,48,48,Zss (c.toNat/16),Zss (c.toNat % 16)] else [c]
def quo(s:List UInt8):List UInt8:=[34]++s.flatMap qB++[34]
theorem ZCX(c:UInt8):1≤(qB c).length∧(qB c).length≤6:=by
 unfold qB;split
 ·simp
 ·split<;>simp
theorem Ztq: ∀s:List UInt8,(s.flatMap qB).length≤6*s.length
 |[]=>by simp
 |c::s=>by
  rw[List.flatMap_cons,Zq,Zn]
  have:=Ztq s;have:=(ZCX c).2;omega
theorem ZoP(s:List UInt8):(quo s).length≤6*s.length+2∧2≤(quo s).length:=by
 unfold quo
 have:=Ztq s
 simp only[Zq,Zn,Zw]
 omega
theorem ZCY{s:List UInt8}{i:Nat}(h:i<s.length):(s.take (i+1)).flatMap qB=(s.take i).flatMap qB++qB (s.getD i 0):=by
 rw[List.take_add_one,Zp h,List.flatMap_append,Zj,Zp h]
 simp
theorem ZAD{s:List UInt8}{i:Nat}(h:i<s.length):(s.take (i+1)).drop i=[s.getD i 0]:=by
 rw[List.take_add_one,Zp h,List.drop_append,Y7 (by rw[Yb];omega),Yb,Nat.min_eq_left (by omega),UO,Zj,Zp h]
 rfl
theorem ZCZ{n:Nat}(h:n<16):by_ [48,49,50,51,52,53,54,55,56,57,97,98,99,100,101,102] n=(Zss n).toNat:=by
 have:n=0∨n=1∨n=2∨n=3∨n=4∨n=5∨n=6∨n=7∨n=8∨n=9∨n=10∨n=11∨n=12∨n=13∨n=14∨n=15:=by omega
 rcases this with rfl|rfl|rfl|rfl|rfl|rfl|rfl|rfl|rfl|rfl|rfl|rfl|rfl|rfl|rfl|rfl<;>rfl
theorem ZC0{n:Nat}(h:n<2):by_ [48,49] n=(Zss n).toNat:=by
 have:n=0∨n=1:=by omega
 rcases this with rfl|rfl<;>rfl
theorem Ztr{n:Nat}(h:n<16):(Zss n).toNat<128:=by
 have:n=0∨n=1∨n=2∨n=3∨n=4∨n=5∨n=6∨n=7∨n=8∨n=9∨n=10∨n=11∨n=12∨n=13∨n=14∨n=15:=by omega
 rcases this with rfl|rfl|rfl|rfl|rfl|rfl|rfl|rfl|rfl|rfl|rfl|rfl|rfl|rfl|rfl|rfl<;>decide
end Go.AI
namespace Go.AI
open Go
inductive JV where
 |mk (k:Nat) (b:Bool) (n:Int) (s:List UInt8) (l:List JV) (m:List (List UInt8×JV))
instance:Inhabited JV:=⟨.mk 0 false 0 [] [] []⟩
namespace JV
def apart:JV→Bool
 | .mk k b n s l m=>(decide (k=2)||!b)&&(decide (k=3)||decide (n=0))&&(decide (k=4)||decide (s=[]))&&(decide (k=5)||decide (l.length=0))&&(decide (k=6)||decide (m.length=0))
def badM(f:JV→Bool):List (List UInt8)→List (List UInt8×JV)→Bool
 |_,[]=>false
 |seen,e::m=>decide (e.1∈seen)||!vu e.1||f e.2||badM f (seen++[e.1]) m
def wrong:Nat→JV→Bool
 |0,_=>false
 |d+1, .mk k b n s l m=>decide (k<1)||decide (6<k)||!apart (.mk k b n s l m)||!vu s||badM (wrong d) [] m||l.any (wrong d)
def deep:Nat→JV→Bool
 |0,_=>true
 |d+1, .mk _ _ _ _ l m=>l.any (deep d)||m.any fun e=>deep d e.2
def check(v:JV):Nat:=if wrong 32 v then 1 else if deep 32 v then 23 else 0
end JV
noncomputable section
def VR(H:Heap):Nat→JV→List AV→Prop
 |0,_,_=>False
 |h+1, .mk k b n s l m,cs=> ∃lv mv ls ms,cs=[nI .i64 k, .bool b, .int .i64 n, .str s,lv,mv]∧ -9223372036854775808≤n∧n<9223372036854775808∧s.length≤9000∧l.length≤9000∧m.length≤9000∧Sl H 6 lv ls∧Sl H 7 mv ms∧ls.length=l.length∧ms.length=m.length∧
  (∀i,i<l.length→VR H h (l.getD i default) (ls.getD i []))∧ ∀i,i<m.length→(m.getD i default).1.length≤9000∧ ∃t,ms.getD i []= .str (m.getD i default).1::t∧VR H h (m.getD i default).2 t
theorem VR.keep{H H':Heap}(k:Keep H H' []): ∀{h:Nat} {v:JV} {cs:List AV},VR H h v cs→VR H' h v cs
 |h+1, .mk _ _ _ _ l m,cs,⟨lv,mv,ls,ms,e,a1,a2,a3,a4,a5,sl,sm,e1,e2,hl,hm⟩=>
  ⟨lv,mv,ls,ms,e,a1,a2,a3,a4,a5,sl.keep0 k,sm.keep0 k,e1,e2,fun i hi=>(hl i hi).keep k,fun i hi=>by
   obtain⟨b,t,c,d⟩:=hm i hi
   exact⟨b,t,c,d.keep k⟩⟩
theorem VR.up{H:Heap}: ∀{h h':Nat} {v:JV} {cs:List AV},h≤h'→VR H h v cs→VR H h' v cs
 |h+1,h'+1, .mk _ _ _ _ l m,cs,hh,⟨lv,mv,ls,ms,e,a1,a2,a3,a4,a5,sl,sm,e1,e2,hl,hm⟩=>
  ⟨lv,mv,ls,ms,e,a1,a2,a3,a4,a5,sl,sm,e1,e2,fun i hi=>(hl i hi).up (by omega),fun i hi=>by
   obtain⟨b,t,c,d⟩:=hm i hi
   exact⟨b,t,c,d.up (by omega)⟩⟩
 |h+1,0,_,_,hh,_=>by omega
theorem VR.len{H:Heap}: ∀{h:Nat} {v:JV} {cs:List AV},VR H h v cs→cs.length=6
 |h+1, .mk _ _ _ _ l m,cs,⟨lv,mv,ls,ms,e,_⟩=>by rw[e];rfl
end
end Go.AI
namespace Go.AI
open Go
section
variable {α:Type} [Inhabited α] (lt:α→α→Bool)
def swp(L:List α)(j:Nat):List α:=(L.set (j+1) (L.getD j default)).set j (L.getD (j+1) default)
def ZaO:Nat→List α→List α
 |0,L=>L
 |j+1,L=>if lt (L.getD (j+1) default) (L.getD j default) then ZaO j (swp L j) else L
def Zka:Nat→Nat→List α→List α
 |0,_,L=>L
 |k+1,i,L=>Zka k (i+1) (ZaO lt i L)
def WQ(L:List α):List α:=Zka lt (L.length - 1) 1 L
theorem Zbe(L:List α)(j:Nat):(swp L j).length=L.length:=by unfold swp;rw[List.length_set,List.length_set]
theorem ZaJ: ∀(j:Nat) (L:List α),(ZaO lt j L).length=L.length
 |0,L=>rfl
 |j+1,L=>by
  unfold ZaO
  split
  ·rw[ZaJ j,Zbe]
  ·rfl
theorem ZqI: ∀(k i:Nat) (L:List α),(Zka lt k i L).length=L.length
 |0,_,L=>rfl
 |k+1,i,L=>by unfold Zka;rw[ZqI k,ZaJ]
theorem ZnF(L:List α):(WQ lt L).length=L.length:=ZqI lt _ _ L
theorem ZAE{L:List α}{j:Nat}(h:j+1<L.length): ∀x∈swp L j,x∈L:=by
 intro x hx
 unfold swp at hx
 have d: ∀i,i<L.length→L.getD i default∈L:=fun i hi=>by rw[Zj,Zp hi];exact YL hi
 rcases List.mem_or_eq_of_mem_set hx with h1|h1
 ·rcases List.mem_or_eq_of_mem_set h1 with h2|h2
  ·exact h2
  ·rw[h2];exact d _ (by omega)
 ·rw[h1];exact d _ h
theorem ZqJ: ∀{j:Nat} {L:List α},j<L.length→ ∀x∈ZaO lt j L,x∈L
 |0,L,_,x,hx=>hx
 |j+1,L,h,x,hx=>by
  unfold ZaO at hx
  split at hx
  ·exact ZAE h x (ZqJ (by rw[Zbe];omega) x hx)
  ·exact hx
theorem ZqK: ∀{k i:Nat} {L:List α},i+k≤L.length→ ∀x∈Zka lt k i L,x∈L
 |0,_,L,_,x,hx=>hx
 |k+1,i,L,h,x,hx=>by
  unfold Zka at hx
  exact ZqJ lt (by omega) x (ZqK (by rw[ZaJ];omega) x hx)
theorem ZbY{L:List α}: ∀x∈WQ lt L,x∈L:=by
 intro x hx
 unfold WQ at hx
 by_cases h:L.length=0
 ·have:L=[]:=List.length_eq_zero_iff.1 h
  subst this;exact hx
 ·exact ZqK lt (by omega) x hx
end
noncomputable section
theorem Zjm{sz:Nat}{ls:List (List AV)}(h: ∀l∈ls,l.length=sz){i j:Nat}(hi:i<ls.length)(hj:j<sz):ls.flatten.getD (i*sz+j) .unk=(ls.getD i []).getD j .unk:=by
 rw[←Zih h hi,Zj,Zj,List.getElem?_take_of_lt hj,List.getElem?_drop]
theorem Zil{sz:Nat}{ls:List (List AV)}(h: ∀l∈ls,l.length=sz){vs:List AV}(hv:vs.length=sz)(i:Nat): ∀l∈ls.set i vs,l.length=sz:=by
 intro l hl
 rcases List.mem_or_eq_of_mem_set hl with h1|h1
 ·exact h l h1
 ·rw[h1];exact hv
theorem Recs.store{H:Heap}{b e sz:Nat}{ls:List (List AV)}{r:Row}(h:Recs H b e sz ls r){i:Nat}(hi:i<ls.length){vs:List AV}(hv:vs.length=sz)(hsz:1≤sz):
  ∃r',stN sz (some (.row r)) b (i*sz) (.agg vs) H= .val Yx (H.put b (.row r'))∧Recs (H.put b (.row r')) b e sz (ls.set i vs) r':=by
 have hm:(i+1)*sz≤ls.length*sz:=Ww _ hi
 rw[Nat.add_mul,Nat.one_mul] at hm
 have hs:=h.size
 have hmay:H.may r b=true:=by unfold Heap.may;rw[h.own,Zl h.ro];rfl
 refine⟨r.setCells (Wn r.cells (i*sz) vs),?_,Yo ..,h.elem,h.szr,h.own,h.fz,h.sm,h.exact_,⟨?_,fun q hq=>?_⟩,Zil h.each hv i,h.ro,h.low⟩
 ·show ZS (Nat.ble 1 sz) (ZS (H.may r b) (ZS (Nat.ble (i*sz+sz) r.size) (ZS (Nat.ble r.fz (i*sz)) (ZS (Nat.beq (Yt vs) sz) _))))=_
  rw[Zl hsz,hmay,Zl (by omega),h.fz,Zl (ZX _),Yr,hv,Yc];rfl
 ·show r.size=_
  rw[U6 (Zil h.each hv i),List.length_set,hs]
 ·have hf:=U6 (Zil h.each hv i)
  rw[List.length_set] at hf
  rw[hf] at hq
  show(Option.rec r.dflt (fun v=>v) ((Wn r.cells (i*sz) vs).get q):AV)=_
  have hd:=Nat.div_add_mod q sz
  have hmd:=Vh q hsz
  have hq1:q/sz<ls.length:=Nat.div_lt_of_lt_mul (by rw[Nat.mul_comm];exact hq)
  rw[Nat.mul_comm] at hd
  generalize hqa:q/sz=a at hd hq1
  generalize hqc:q % sz=cc at hd hmd
  rw[Qq,←hd,Zjm (Zil h.each hv i) (by rw[List.length_set];exact hq1) hmd]
  by_cases ha:a=i
  ·subst ha
   have e:(ls.set a vs).getD a []=vs:=by rw[Zj,List.getElem?_set_self hq1];rfl
   rw[if_pos (by omega),show a*sz+cc - a*sz=cc by omega,e,Zj,Zp (by omega)];rfl
  ·have: ¬(i*sz≤a*sz+cc∧a*sz+cc<i*sz+vs.length):=by
    intro⟨h1,h2⟩
    rcases Nat.lt_or_gt_of_ne ha with h3|h3
    ·have:=Ww sz (show a+1≤i from h3);rw[Nat.add_mul] at this;omega
    ·have:=Ww sz (show i+1≤a from h3);rw[Nat.add_mul] at this;omega
   rw[if_neg this]
   have:=h.cells.get (a*sz+cc) (by rw[U6 h.each];omega)
   rw[Zjm h.each hq1 hmd] at this
   rw[Zj (l:=ls.set i vs),List.getElem?_set_ne (fun e=>ha e.symm),←Zj]
   exact this
end
end Go.AI
namespace Go.AI
def ltE(x y:List UInt8×JV):Bool:=Yg x.1 y.1
namespace JV
def text:Nat→JV→List UInt8
 |0,_=>[]
 |h+1, .mk k b n s l m=>if k=1 then [110,117,108,108] else if k=2 then(if b=true then [116,114,117,101] else [102,97,108,115,101]) else if k=3 then Zep n else if k=4 then quo s
  else if k=5 then [91]++Wc (l.map (text h))++[93] else [123]++Wc ((WQ ltE m).map fun e=>quo e.1++[58]++text h e.2)++[125]
def tb:Nat→JV→Nat
 |0,_=>0
 |h+1, .mk _ _ _ s l m=>50+6*s.length+(l.map fun x=>1+tb h x).sum+(m.map fun e=>6*e.1.length+4+tb h e.2).sum
def ok:Nat→JV→Prop
 |0,_=>True
 |h+1, .mk _ _ n _ l m=>(-9223372036854775808≤n∧n<9223372036854775808)∧m.length≤12∧(∀x∈l,ok h x)∧ ∀e∈m,ok h e.2
theorem Zts{α:Type}[Inhabited α](f:α→Nat): ∀(L:List α) (j:Nat),j+1<L.length→((swp L j).map f).sum=(L.map f).sum
 |[],j,h=>by simp at h
 |[a],j,h=>by simp at h
 |a::b::L,0,_=>by
  show((b::a::L).map f).sum=_
  simp only[List.map_cons,List.sum_cons];omega
 |a::b::L,j+1,h=>by
  show((a::swp (b::L) j).map f).sum=_
  show f a+((swp (b::L) j).map f).sum=f a+((b::L).map f).sum
  rw[Zts f (b::L) j (by simpa using h)]
theorem ZqL{α:Type}[Inhabited α](lt:α→α→Bool)(f:α→Nat): ∀(j:Nat) (L:List α),j<L.length→((ZaO lt j L).map f).sum=(L.map f).sum
 |0,L,_=>rfl
 |j+1,L,h=>by
  unfold ZaO
  split
  ·rw[ZqL lt f j _ (by rw[Zbe];omega),Zts f L j h]
  ·rfl
theorem ZqM{α:Type}[Inhabited α](lt:α→α→Bool)(f:α→Nat): ∀(k i:Nat) (L:List α),i+k≤L.length→((Zka lt k i L).map f).sum=(L.map f).sum
 |0,_,L,_=>rfl
 |k+1,i,L,h=>by
  unfold Zka
  rw[ZqM lt f k _ _ (by rw[ZaJ];omega),ZqL lt f i L (by omega)]
theorem Zjn{α:Type}[Inhabited α](lt:α→α→Bool)(f:α→Nat)(L:List α):((WQ lt L).map f).sum=(L.map f).sum:=by
 unfold WQ
 by_cases h:L.length=0
 ·have:L=[]:=List.length_eq_zero_iff.1 h
  subst this;rfl
 ·exact ZqM lt f _ _ L (by omega)
theorem ZqN(l:List (List UInt8)):(Wc l).length≤(l.map fun x=>1+x.length).sum:=by
 cases l with
 |nil=>exact ZX _
 |cons s l=>
  rw[ZnE (by simp)]
  have: ∀l:List (List UInt8),(l.map fun x=>1+x.length).sum=l.length+ZdP l:=by
   intro l
   induction l with
   |nil=>rfl
   |cons a l ih=>rw[List.map_cons,List.sum_cons,ih,Zjk,Zn];omega
  rw[this];omega
theorem Zst{α:Type}(f g:α→Nat): ∀(l:List α),(∀x∈l,f x≤g x)→(l.map f).sum≤(l.map g).sum
 |[],_=>Zk _
 |a::l,h=>by
  rw[List.map_cons,List.map_cons,List.sum_cons,List.sum_cons]
  have:=h a (Zy ..)
  have:=Zst f g l fun x hx=>h x (ZB _ hx)
  omega
theorem mem_sum{α:Type}(f:α→Nat): ∀{l:List α} {x:α},x∈l→f x≤(l.map f).sum
 |a::l,x,h=>by
  rw[List.map_cons,List.sum_cons]
  rcases List.mem_cons.1 h with rfl|h
  ·omega
  ·have:=mem_sum f h;omega
theorem Zsu{z:Int}(h1: -9223372036854775808≤z)(h2:z<9223372036854775808)(hd: ∀n,n<18446744073709551616→(dec n).length≤20):(Zep z).length≤21:=by
 unfold Zep
 split
 ·rw[Zn];have:=hd z.natAbs (by omega);omega
 ·have:=hd z.natAbs (by omega);omega
theorem text_len(hd: ∀n,n<18446744073709551616→(dec n).length≤20): ∀(h:Nat) (v:JV),ok h v→(text h v).length≤tb h v
 |0,_,_=>Zk _
 |h+1, .mk k b n s l m,⟨⟨h1,h2⟩,h3,h4,h5⟩=>by
  show List.length (if k=1 then _ else _)≤50+6*s.length+(l.map fun x=>1+tb h x).sum+(m.map fun e=>6*e.1.length+4+tb h e.2).sum
  by_cases k1:k=1
  ·rw[if_pos k1];simp only[Zn,Zw];omega
  rw[if_neg k1]
  by_cases k2:k=2
  ·rw[if_pos k2];split<;>(simp only[Zn,Zw];omega)
  rw[if_neg k2]
  by_cases k3:k=3
  ·rw[if_pos k3];have:=Zsu h1 h2 hd;omega
  rw[if_neg k3]
  by_cases k4:k=4
  ·rw[if_pos k4];have:=(ZoP s).1;omega
  rw[if_neg k4]
  by_cases k5:k=5
  ·rw[if_pos k5]
   simp only[Zq,Zn,Zw]
   have a:=ZqN (l.map (text h))
   rw[List.map_map] at a
   have b:=Zst ((fun x=>1+x.length)∘text h) (fun x=>1+tb h x) l fun x hx=>by
    have:=text_len hd h x (h4 x hx)
    show 1+(text h x).length≤1+tb h x;omega
   omega
  rw[if_neg k5]
  simp only[Zq,Zn,Zw]
  have a:=ZqN ((WQ ltE m).map fun e=>quo e.1++[58]++text h e.2)
  rw[List.map_map] at a
  have b:=Zst ((fun x=>1+x.length)∘fun e=>quo e.1++[58]++text h e.2) (fun e=>6*e.1.length+4+tb h e.2) (WQ ltE m) fun e he=>by
   have:=text_len hd h e.2 (h5 e (ZbY ltE e he))
   have:=(ZoP e.1).1
   show 1+(quo e.1++[58]++text h e.2).length≤_
   simp only[Zq,Zn,Zw];omega
  rw[Zjn] at a
  rw[Zjn,Zjn] at b
  omega
end JV
end Go.AI
namespace Go.AI
open Go
noncomputable section
def NB(H:Heap)(b:Nat):Heap:=H.put b .loop
theorem NB.keep{H H':Heap}{b:Nat}(k:Keep H H' [b]):Keep (NB H b) (NB H' b) []:=by
 refine⟨k.nx,k.ro,fun c hc _=>?_⟩
 show(H'.put b .loop).t.get c=(H.put b .loop).t.get c
 by_cases h:b=c
 ·subst h;rw[Yo,Yo]
 ·rw[Z3 h,Z3 h]
  exact k.get c hc (by simp;exact fun e=>h e.symm)
theorem Sl.nb{H:Heap}{b sz:Nat}{v:AV}{ls:List (List AV)}(h:Sl (NB H b) sz v ls):Sl H sz v ls:=by
 refine⟨h.each,?_⟩
 rcases h.here with h1|⟨c,o,q,rfl,hb,h2⟩
 ·exact .inl h1
 ·refine .inr ⟨c,o,q,rfl,hb,fun hne=>?_⟩
  obtain⟨r,h3,h4⟩:=h2 hne
  refine⟨r,?_,h4⟩
  by_cases hc:b=c
  ·subst hc
   have:(H.put b .loop).t.get b=some (.row r):=h3
   rw[Yo] at this;cases this
  ·have:(H.put b .loop).t.get c=some (.row r):=h3
   rw[Z3 hc] at this;exact this
theorem VR.nb{H:Heap}{b:Nat}: ∀{h:Nat} {v:JV} {cs:List AV},VR (NB H b) h v cs→VR H h v cs
 |h+1, .mk _ _ _ _ l m,cs,⟨lv,mv,ls,ms,e,a1,a2,a3,a4,a5,sl,sm,e1,e2,hl,hm⟩=>
  ⟨lv,mv,ls,ms,e,a1,a2,a3,a4,a5,sl.nb,sm.nb,e1,e2,fun i hi=>(hl i hi).nb,fun i hi=>by
   obtain⟨b,t,c,d⟩:=hm i hi
   exact⟨b,t,c,d.nb⟩⟩
end
end Go.AI
namespace Go.AI
open Go
noncomputable section
theorem WA{b:Bool}{k:OR}{v:AV}{H:Heap}(h:ZS b k= .val v H):k= .val v H:=by
 cases b with
 |true=>exact h
 |false=>cases h
theorem Zvv{H:Heap}{b:Nat}{k:Row→OR}{v:AV}{H':Heap}(h:YH H b k= .val v H'): ∃r,k r= .val v H':=by
 unfold YH at h
 split at h
 ·exact⟨_,h⟩
 ·cases h
theorem Zch{H:Heap}{e sz:Nat}{l:List AV}{ex:Bool}{c:Nat}(hc:c<H.nx):(H.newRow e sz l ex).t.get c=H.t.get c:=by
 rw[Wi,Yy (by omega)]
theorem Zvw{v:AV}{e sz bytes:Nat}{H:Heap}{n:Nat}{new:List AV}{v':AV}{H':Heap}(h:Zel v e sz bytes H n new= .val v' H'){c:Nat}(hc:c<H.nx)(hv: ∀b o l q,v= .slice b o l q→c≠b):H'.t.get c=H.t.get c:=by
 cases v with
 |nils=>
  replace h:cond (Nat.beq n 0) (.val .nils H) (ZS (Nat.ble (Nat.mul n bytes) 140737488355328) (.val (.slice H.nx 0 n none) (H.newRow e sz new false)))=OR.val v' H':=h
  cases h0:Nat.beq n 0 with
  |true=>rw[h0] at h;cases h;rfl
  |false=>
   rw[h0] at h
   have h:=WA (show ZS (Nat.ble (Nat.mul n bytes) 140737488355328) (.val (.slice H.nx 0 n none) (H.newRow e sz new false))=OR.val v' H' from h)
   cases h;exact Zch hc
 |slice b o len cap=>
  have hb:=hv b o len cap rfl
  replace h:YH H b (fun r=>ZS (Ziu r sz cap) (cond (Nat.ble (Nat.add len n) (Uu r o cap)) (Zkz H (.slice b o len cap) b o len n sz cap r new) (Zev H e b o len n sz bytes cap r new)))=OR.val v' H':=h
  obtain⟨r,h⟩:=Zvv h
  have h:=WA h
  cases h0:Nat.ble (Nat.add len n) (Uu r o cap) with
  |true=>
   rw[h0] at h
   replace h:Zkz H (.slice b o len cap) b o len n sz cap r new=OR.val v' H':=h
   unfold Zkz at h
   cases h1:Nat.beq n 0 with
   |true=>rw[h1] at h;cases h;rfl
   |false=>
    rw[h1] at h
    have h:=WA (WA (WA h))
    cases h
    exact Z3 (fun e=>hb e.symm) ..
  |false=>
   rw[h0] at h
   replace h:Zev H e b o len n sz bytes cap r new=OR.val v' H':=h
   unfold Zev at h
   have h:=WA (WA h)
   cases cap with
   |some q=>cases h;exact Zch hc
   |none=>
    cases h1:r.exact with
    |true=>
     have h:=WA (show ZS (Nat.beq (Nat.mod o sz) 0) (.val (.slice H.nx 0 (Nat.add len n) none) (H.newRow e sz (loadN r o (Nat.mul len sz)++new) false))=OR.val v' H' by rw[h1] at h;exact h)
     cases h;exact Zch hc
    |false=>
     have h:Zgn H e b o len n sz r new=OR.val v' H':=by rw[h1] at h;exact h
     unfold Zgn at h
     have h:=WA (WA (WA (WA (WA h))))
     cases h
     show((H.t.del b).set H.nx _).get c=_
     rw[T.get_set,if_neg (by omega),T.get_del,if_neg fun e=>hb e.symm]
 |_=>cases h
theorem Zyi{v:AV}{e sz bytes:Nat}{H:Heap}{n:Nat}{new:List AV}{v':AV}{H':Heap}(h:Zel v e sz bytes H n new= .val v' H')(hcap: ∀b o l q,v= .slice b o l q→ ∀r,H.t.get b=some (.row r)→Nat.ble (Nat.add l n) (Uu r o q)=false): ∀b o l q,v'= .slice b o l q→b=H.nx:=by
 intro b0 o0 l0 q0 e0
 cases v with
 |nils=>
  replace h:cond (Nat.beq n 0) (.val .nils H) (ZS (Nat.ble (Nat.mul n bytes) 140737488355328) (.val (.slice H.nx 0 n none) (H.newRow e sz new false)))=OR.val v' H':=h
  cases h0:Nat.beq n 0 with
  |true=>rw[h0] at h;cases h;cases e0
  |false=>
   rw[h0] at h
   have h:=WA (show ZS (Nat.ble (Nat.mul n bytes) 140737488355328) (.val (.slice H.nx 0 n none) (H.newRow e sz new false))=OR.val v' H' from h)
   cases h;cases e0;rfl
 |slice b o len cap=>
  have hb:=hcap b o len cap rfl
  replace h:YH H b (fun r=>ZS (Ziu r sz cap) (cond (Nat.ble (Nat.add len n) (Uu r o cap)) (Zkz H (.slice b o len cap) b o len n sz cap r new) (Zev H e b o len n sz bytes cap r new)))=OR.val v' H':=h
  unfold YH at h
  split at h
  ·rename_i r hr
   have h:=WA h
   rw[hb r hr] at h
   replace h:Zev H e b o len n sz bytes cap r new=OR.val v' H':=h
   unfold Zev at h
   have h:=WA (WA h)
   cases cap with
   |some q=>cases h;cases e0;rfl
   |none=>
    cases h1:r.exact with
    |true=>
     have h:=WA (show ZS (Nat.beq (Nat.mod o sz) 0) (.val (.slice H.nx 0 (Nat.add len n) none) (H.newRow e sz (loadN r o (Nat.mul len sz)++new) false))=OR.val v' H' by rw[h1] at h;exact h)
     cases h;cases e0;rfl
    |false=>
     have h:Zgn H e b o len n sz r new=OR.val v' H':=by rw[h1] at h;exact h
     unfold Zgn at h
     have h:=WA (WA (WA (WA (WA h))))
     cases h;cases e0;rfl
  ·cases h
 |_=>cases h
theorem ZdQ{H:Heap}{v:AV}{e sz bytes:Nat}{ls:List (List AV)}{lo:Nat}(h:RBuf H v e sz ls lo)(hsz:1≤sz)(hby:1≤bytes)(hl:(ls.length+1)*bytes≤140737488355328)(hro:H.ro≤H.nx)(hlo:lo≤H.nx){x:List AV}(hx:x.length=sz):
  ∃v' H',UX e sz bytes v (.slice H.nx 0 1 none) (H.newRow e sz x true)= .val v' H'∧RBuf H' v' e sz (ls++[x]) lo∧Below lo H H'∧
   (∀c,c<H.nx→(∀b o l q,v= .slice b o l q→c≠b)→H'.t.get c=H.t.get c)∧ ∀b o l q,v'= .slice b o l q→H.nx≤b:=by
 obtain⟨v',H',ea,rb,w⟩:=Zda h hsz hby hl hro hlo hx
 generalize hH1:H.newRow e sz x true=H1 at ea
 have nx1:H1.nx=H.nx+1:=by rw[←hH1];rfl
 have gx:H1.t.get H.nx=some (.row ⟨e,sz,Yt x,T.ofList x, .unk,0,false,true,true⟩):=by rw[←hH1,Zc9,Zbb,if_pos rfl]
 have cx:=Cells.new e sz x 0 false true true
 have ap:UX e sz bytes v (.slice H.nx 0 1 none) H1=Zel v e sz bytes H1 1 x:=by
  show ZS (Nat.ble 1 sz) (ZS (Nat.ble 1 bytes) (Vs H1 sz (.slice H.nx 0 1 none) 1 fun new=>Zel v e sz bytes H1 1 new))=_
  rw[Zl hsz,Zl hby]
  show(Vs H1 sz (.slice H.nx 0 1 none) 1 fun new=>Zel v e sz bytes H1 1 new)=_
  generalize(⟨e,sz,Yt x,T.ofList x, .unk,0,false,true,true⟩:Row)=r0 at gx cx
  unfold Vs YH
  simp only[gx]
  show ZS (Nat.ble (0+1*sz) r0.size) (Zel v e sz bytes H1 1 (loadN r0 0 (1*sz)))=_
  rw[Nat.one_mul,cx.size,hx,Zl (show 0+sz≤sz by omega)]
  have:=cx.load (o:=0) (n:=sz) (by omega)
  rw[this,Yl,ZK (by omega)]
  rfl
 rw[ap] at ea
 refine⟨v',H',by rw[ap];exact ea,rb,w,fun c hc hv=>?_,fun b o l q e'=>?_⟩
 ·rw[Zvw ea (by omega) hv,←hH1,Zch hc]
 ·have:=Zyi ea (fun b o l q ev r hr=>by
   rcases h with⟨_,rfl⟩|⟨_,b2,r2,rfl,g,_⟩
   ·cases ev
   ·cases ev
    have hg:H1.t.get b=some (.row r2):=by rw[←hH1,Zch g.low];exact g.at_
    rw[hg] at hr
    cases hr
    have hcap:Uu r 0 none=ls.length:=by
     show cond (Nat.beq r.sz 1) (r.size - 0) ((r.size - 0)/r.sz)=_
     rw[g.szr,g.size,Nat.sub_zero]
     by_cases h1:sz=1
     ·subst h1;show ls.length*1=_;omega
     ·rw[Ye,Zc h1]
      exact Nat.mul_div_cancel _ (by omega)
    rw[hcap]
    cases h:Nat.ble (Nat.add ls.length 1) ls.length with
    |false=>rfl
    |true=>have:=ZO h;have:ls.length+1≤ls.length:=this;omega) b o l q e'
  omega
theorem Sl.move{X Y:Heap}{bb sz:Nat}{v:AV}{ls:List (List AV)}(h:Sl (NB X bb) sz v ls)(hg: ∀c,c<X.nx→c≠bb→Y.t.get c=X.t.get c)(hn:X.nx≤Y.nx):Sl Y sz v ls:=by
 refine⟨h.each,?_⟩
 rcases h.here with h1|⟨c,o,q,rfl,hb,h2⟩
 ·exact .inl h1
 ·have hb:c<X.nx:=hb
  refine .inr ⟨c,o,q,rfl,by omega,fun hne=>?_⟩
  obtain⟨r,h3,h4⟩:=h2 hne
  have h3:(X.put bb .loop).t.get c=some (.row r):=h3
  by_cases hc:bb=c
  ·subst hc
   rw[Yo] at h3;cases h3
  ·rw[Z3 hc] at h3
   exact⟨r,by rw[hg c hb (fun e=>hc e.symm)];exact h3,h4⟩
theorem VR.move{X Y:Heap}{bb:Nat}(hg: ∀c,c<X.nx→c≠bb→Y.t.get c=X.t.get c)(hn:X.nx≤Y.nx): ∀{h:Nat} {v:JV} {cs:List AV},VR (NB X bb) h v cs→VR Y h v cs
 |h+1, .mk _ _ _ _ l m,cs,⟨lv,mv,ls,ms,e,a1,a2,a3,a4,a5,sl,sm,e1,e2,hl,hm⟩=>
  ⟨lv,mv,ls,ms,e,a1,a2,a3,a4,a5,sl.move hg hn,sm.move hg hn,e1,e2,fun i hi=>(hl i hi).move hg hn,fun i hi=>by
   obtain⟨b,t,c,d⟩:=hm i hi
   exact⟨b,t,c,d.move hg hn⟩⟩
theorem VR.fresh{X:Heap}{bb:Nat}(hb:X.nx≤bb){h:Nat}{v:JV}{cs:List AV}(r:VR X h v cs):VR (NB X bb) h v cs:=
 r.keep (Keep.put fun h=>by omega)
end
end Go.AI
namespace Go.AI
open Go
noncomputable section
def Off(S:Nat→Prop)(v:AV):Prop:= ∀c o n q,v= .slice c o n q→ ¬S c
def VRs(H:Heap)(S:Nat→Prop):Nat→JV→List AV→Prop
 |0,_,_=>False
 |h+1, .mk k b n s l m,cs=> ∃lv mv ls ms,cs=[nI .i64 k, .bool b, .int .i64 n, .str s,lv,mv]∧ -9223372036854775808≤n∧n<9223372036854775808∧s.length≤9000∧l.length≤9000∧m.length≤9000∧(Sl H 6 lv ls∧Off S lv)∧(Sl H 7 mv ms∧Off S mv)∧ls.length=l.length∧ms.length=m.length∧
  (∀i,i<l.length→VRs H S h (l.getD i default) (ls.getD i []))∧ ∀i,i<m.length→(m.getD i default).1.length≤9000∧ ∃t,ms.getD i []= .str (m.getD i default).1::t∧VRs H S h (m.getD i default).2 t
theorem VRs.vr{H:Heap}{S:Nat→Prop}: ∀{h:Nat} {v:JV} {cs:List AV},VRs H S h v cs→VR H h v cs
 |h+1, .mk _ _ _ _ l m,cs,⟨lv,mv,ls,ms,e,a1,a2,a3,a4,a5,sl,sm,e1,e2,hl,hm⟩=>
  ⟨lv,mv,ls,ms,e,a1,a2,a3,a4,a5,sl.1,sm.1,e1,e2,fun i hi=>(hl i hi).vr,fun i hi=>by
   obtain⟨b,t,c,d⟩:=hm i hi
   exact⟨b,t,c,d.vr⟩⟩
theorem Sl.move2{X Y:Heap}{S S':Nat→Prop}{sz:Nat}{v:AV}{ls:List (List AV)}(hg: ∀c,c<X.nx→ ¬S c→Y.t.get c=X.t.get c)(hn:X.nx≤Y.nx)(hs: ∀c,c<X.nx→S' c→S c)(h:Sl X sz v ls∧Off S v):Sl Y sz v ls∧Off S' v:=by
 obtain⟨h,ho⟩:=h
 rcases h.here with⟨rfl,rfl⟩|⟨c,o,q,rfl,hb,h2⟩
 ·exact⟨Sl.nil ..,fun _ _ _ _ e=>by cases e⟩
 ·have hc:=ho _ _ _ _ rfl
  refine⟨⟨h.each, .inr ⟨c,o,q,rfl,by omega,fun hne=>?_⟩⟩,fun _ _ _ _ e hS=>?_⟩
  ·obtain⟨r,h3,h4⟩:=h2 hne
   exact⟨r,by rw[hg c hb hc];exact h3,h4⟩
  ·cases e;exact hc (hs _ hb hS)
theorem VRs.move{X Y:Heap}{S S':Nat→Prop}(hg: ∀c,c<X.nx→ ¬S c→Y.t.get c=X.t.get c)(hn:X.nx≤Y.nx)(hs: ∀c,c<X.nx→S' c→S c): ∀{h:Nat} {v:JV} {cs:List AV},VRs X S h v cs→VRs Y S' h v cs
 |h+1, .mk _ _ _ _ l m,cs,⟨lv,mv,ls,ms,e,a1,a2,a3,a4,a5,sl,sm,e1,e2,hl,hm⟩=>
  ⟨lv,mv,ls,ms,e,a1,a2,a3,a4,a5,Sl.move2 hg hn hs sl,Sl.move2 hg hn hs sm,e1,e2,fun i hi=>(hl i hi).move hg hn hs,fun i hi=>by
   obtain⟨b,t,c,d⟩:=hm i hi
   exact⟨b,t,c,d.move hg hn hs⟩⟩
end
end Go.AI
namespace Go.AI
namespace JV
def mx{α:Type}(f:α→Nat):Nat→List α→Nat
 |n,[]=>n
 |n,x::l=>mx f (if n<f x then f x else n) l
theorem Zyj{α:Type}(f:α→Nat)(d:Nat): ∀(n:Nat) (l:List α),d<mx f n l↔d<n∨ ∃x∈l,d<f x
 |n,[]=>by simp[mx]
 |n,x::l=>by
  show d<mx f (if n<f x then f x else n) l↔_
  rw[Zyj f d _ l]
  have e:d<(if n<f x then f x else n)↔d<n∨d<f x:=by split<;>omega
  rw[e,or_assoc]
  simp only[ZfX,exists_eq_or_imp]
theorem Zyk{α:Type}(f:α→Nat)(b:Nat): ∀(n:Nat) (l:List α),n≤b→(∀x∈l,f x≤b)→mx f n l≤b
 |n,[],h,_=>h
 |n,x::l,h,hl=>Zyk f b _ l (by split;exact hl x (Zy ..);exact h) fun y hy=>hl y (ZB _ hy)
def hgt:Nat→JV→Nat
 |0,_=>1
 |d+1, .mk _ _ _ _ l m=>mx (fun e=>hgt d e.2) (mx (hgt d) 0 l) m+1
theorem hgt_le: ∀(d:Nat) (v:JV),hgt d v≤d+1
 |0,_=>Zk _
 |d+1, .mk _ _ _ _ l m=>Nat.succ_le_succ (Zyk _ _ _ _ (Zyk _ _ _ _ (ZX _) fun x _=>hgt_le d x) fun e _=>hgt_le d e.2)
theorem deep_hgt: ∀(d:Nat) (v:JV),deep d v=decide (d<hgt d v)
 |0,_=>rfl
 |d+1, .mk k b n s l m=>by
  show(l.any (deep d)||m.any fun e=>deep d e.2)=decide (d+1<mx (fun e=>hgt d e.2) (mx (hgt d) 0 l) m+1)
  have h:(d+1<mx (fun e=>hgt d e.2) (mx (hgt d) 0 l) m+1)↔(∃x∈l,d<hgt d x)∨ ∃e∈m,d<hgt d e.2:=by
   rw[Nat.succ_lt_succ_iff,Zyj,Zyj];simp
  rw[Bool.eq_iff_iff,decide_eq_true_iff,h]
  simp only[Bool.or_eq_true,List.any_eq_true]
  simp only[deep_hgt d,decide_eq_true_eq]
theorem mx_drop{α:Type}[Inhabited α](f:α→Nat)(n:Nat){l:List α}{i:Nat}(h:i<l.length):mx f n (l.drop i)=mx f (if n<f (l.getD i default) then f (l.getD i default) else n) (l.drop (i+1)):=by
 rw[List.drop_eq_getElem_cons h,Zj,Zp h];rfl
end JV
end Go.AI
namespace Go.AI
theorem ZfM{α:Type}{A B:List α}{i:Nat}{d:α}(h:i<A.length):(A++B).getD i d=A.getD i d:=by
 rw[Zj,Ym h,←Zj]
section
variable {α:Type} [Inhabited α] (lt:α→α→Bool)
def gth(A:List α):List α→List α
 |[]=>A
 |x::l=>gth (ZaO lt A.length (A++[x])) l
theorem ZAF{A B:List α}{j:Nat}(h:j+1<A.length):swp (A++B) j=swp A j++B:=by
 unfold swp
 rw[ZfM (by omega),ZfM h,List.set_append_left _ _ h,List.set_append_left _ _ (by rw[List.length_set];omega)]
theorem ZqO: ∀(j:Nat) (A B:List α),j<A.length→ZaO lt j (A++B)=ZaO lt j A++B
 |0,_,_,_=>rfl
 |j+1,A,B,h=>by
  unfold ZaO
  rw[ZfM h,ZfM (by omega),ZAF h,ZqO j (swp A j) B (by rw[Zbe];omega)]
  split<;>rfl
theorem Ztt: ∀(l A:List α),1≤A.length→gth lt A l=Zka lt l.length A.length (A++l)
 |[],A,_=>by show A=A++[];rw[List.append_nil]
 |x::l,A,h=>by
  have hl:(ZaO lt A.length (A++[x])).length=A.length+1:=by rw[ZaJ,Zq];rfl
  show gth lt (ZaO lt A.length (A++[x])) l=Zka lt l.length (A.length+1) (ZaO lt A.length (A++x::l))
  rw[Ztt l _ (by omega),hl,show A++x::l=(A++[x])++l by simp,ZqO lt A.length (A++[x]) l (by rw[Zq,Zn,Zw];omega)]
theorem Zvx(l:List α):gth lt [] l=WQ lt l:=by
 cases l with
 |nil=>rfl
 |cons x l=>
  show gth lt [x] l=Zka lt ((x::l).length - 1) 1 (x::l)
  rw[Ztt lt l [x] (Zk _)];rfl
theorem Zyl(A:List α){l:List α}{i:Nat}(h:i<l.length):gth lt A (l.drop i)=gth lt (ZaO lt A.length (A++[l.getD i default])) (l.drop (i+1)):=by
 rw[List.drop_eq_getElem_cons h,Zj,Zp h];rfl
end
theorem ZlU{α:Type}[Inhabited α](f:α→List UInt8){l:List α}{i:Nat}(h:i<l.length):Wc ((l.take (i+1)).map f)=if i=0 then f (l.getD i default) else Wc ((l.take i).map f)++[44]++f (l.getD i default):=by
 rw[Zam h default,List.map_append]
 by_cases h0:i=0
 ·subst h0;rw[if_pos rfl];show f (l.getD 0 default)++[]=_;rw[List.append_nil]
 ·rw[if_neg h0,Zjl (by intro e;have:=congrArg List.length e;rw[ZA,Yb,Zw] at this;omega)]
  show _++((44::f (l.getD i default))++[])=_
  simp
theorem ZnG{α:Type}(f:α→List UInt8)(l:List α)(k:Nat):(Wc ((l.take k).map f)).length≤(Wc (l.map f)).length:=by
 by_cases hk:k=0
 ·subst hk;exact ZX _
 by_cases hl:l=[]
 ·subst hl;rw[List.take_nil];exact Zk _
 ·rw[List.map_take]
  exact ZlT (by omega) (by intro e;exact hl (List.map_eq_nil_iff.1 e))
end Go.AI
