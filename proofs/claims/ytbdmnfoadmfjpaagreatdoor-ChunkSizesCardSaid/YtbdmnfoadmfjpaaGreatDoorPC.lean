/- Bytes, blocks and their fields: walked: proved without conditions but those that each names. -/
import Derived.Test.YtbdmnfoadmfjpaaGreatDoorPA
import Derived.Test.YtbdmnfoadmfjpaaGreatDoorP8
import Derived.Test.YtbdmnfoadmfjpaaGreatDoorPE
import Derived.Test.YtbdmnfoadmfjpaaGreatDoorPB
set_option maxRecDepth 1000000
set_option maxHeartbeats 0
set_option linter.unusedVariables false
set_option linter.unusedSimpArgs false
namespace Go.AI
open Go
noncomputable section
theorem Sz.src{H:Heap}{sz:Nat}{v:AV}{ls:List (List AV)}(h:Sz H sz v ls)(hsz:1<=sz)(k:Nat->List AV->OR):(ve v λn=>Vb H sz v n λnew=>k n new)=k ls.length ls.flatten:=by
 rcases h with⟨rfl,rfl⟩|⟨he,⟨rfl,rfl⟩|⟨b,o,c,rfl,hb,h2⟩⟩
 ·rfl
 ·rfl
 ·show(Vb H sz (.slice b o ls.length c) ls.length λnew=>k ls.length new)=_
  unfold Vb
  rw[Y1]
  by_cases h0:ls.length=0
  ·have:ls=[]:=XM.1 h0
   subst this;rfl
  ·rw[Ze h0]
   have hne:ls≠[]:=λe=>h0 (by rw[e];rfl)
   obtain⟨r,h3,h4,h5⟩:=h2 hne
   have hf:=AI.flat_len he
   show Xv H b (λr=>Z3 (Nat.ble (o+ls.length*sz) r.size) (k ls.length (Vr r o (ls.length*sz))))=_
   unfold Xv
   rw[h3]
   show Z3 (Nat.ble (o+ls.length*sz) r.size) (k ls.length (Vr r o (ls.length*sz)))=_
   rw[Zg h4]
   have:Vr r o (ls.length*sz)=ls.flatten:=by
    refine WM λj=>?_
    by_cases hj:j<ls.length*sz
    ·rw[Rw r _ o j hj,h5 j hj,Zf,Zn (by omega)];rfl
    ·rw[Xh (by rw[Rf];omega),Xh (by omega)]
   rw[this];rfl
theorem qs{H:Heap}{e sz bytes:Nat}{a v:AV}{ls:List (List AV)}(h:Sz H sz v ls)(hsz:1<=sz)(hb:1<=bytes):U2 e sz bytes a v H=Ol a e sz bytes H ls.length ls.flatten:=by
 show Z3 (Nat.ble 1 sz) (Z3 (Nat.ble 1 bytes) _)=_
 rw[Zg hsz,Zg hb]
 exact h.src hsz λn new=>Ol a e sz bytes H n new
theorem nu{H:Heap}{e sz bytes:Nat}{v:AV}{ls:List (List AV)}(h:Sz H sz v ls)(hsz:1<=sz)(hb:1<=bytes)(hl:ls.length*bytes<=140737488355328):
  (U2 e sz bytes (.slice H.nx 0 0 none) v (H.new (rG e sz [] 0 false true true))=.val (.slice H.nx 0 0 none) (H.new (rG e sz [] 0 false true true))∧ls=[])∨
  (U2 e sz bytes (.slice H.nx 0 0 none) v (H.new (rG e sz [] 0 false true true))=.val (.slice (H.nx+1) 0 ls.length none) ((H.new (rG e sz [] 0 false true true)).new (rG e sz ls.flatten 0 false true false))∧ls≠[]):=by
 have hk:ZE H (H.new (rG e sz [] 0 false true true)) []:=ZE.new _ _ _
 rw[qs (h.keep0 hk) hsz hb]
 have gn:(H.new (rG e sz [] 0 false true true)).t.get H.nx=some (rG e sz [] 0 false true true):=YB rfl _
 by_cases h0:ls.length=0
 ·have:ls=[]:=XM.1 h0
  subst this
  refine .inl ⟨?_,rfl⟩
  show Xv _ H.nx _=_
  unfold Xv
  rw[gn]
  show Z3 (Nat.beq sz sz) (cond (Nat.ble (0+0) (W4 ⟨e,sz,Xc ([]:List AV),T.ofList [],.unk,0,false,true,true⟩ 0 none)) (Jl _ _ _ _ _ _ _ _ _ _) _)=_
  rw[Xd,Zb,Zg (ZB _)]
  rfl
 ·refine .inr ⟨?_,λe=>h0 (by rw[e];rfl)⟩
  show Xv _ H.nx _=_
  unfold Xv
  rw[gn]
  have hcap:W4 ⟨e,sz,Xc ([]:List AV),T.ofList [],.unk,0,false,true,true⟩ 0 none=0:=by
   show cond (Nat.beq sz 1) (0 - 0) ((0 - 0)/sz)=0
   cases Nat.beq sz 1
   ·exact Nat.zero_div _
   ·rfl
  show Z3 (Nat.beq sz sz) (cond (Nat.ble (0+ls.length) (W4 ⟨e,sz,Xc ([]:List AV),T.ofList [],.unk,0,false,true,true⟩ 0 none)) _ (Ni _ e H.nx 0 0 ls.length sz bytes none ⟨e,sz,Xc ([]:List AV),T.ofList [],.unk,0,false,true,true⟩ ls.flatten))=_
  rw[Xd,hcap,show Nat.ble (0+ls.length) 0=false by
   cases hq:Nat.ble (0+ls.length) 0 with
   |false=>rfl
   |true=>have:=Yh hq;omega]
  show Z3 (Nat.ble ((0+ls.length)*bytes) 140737488355328) (Z3 (Nat.ble (0+0*sz) 0) (Z3 (Nat.beq (0 % sz) 0) (OR.val (.slice (H.nx+1) 0 (0+ls.length) none) (Heap.newRow (H.new (rG e sz [] 0 false true true)) e sz (Vr _ 0 (0*sz)++ls.flatten) false))))=_
  rw[Zb,Zg hl,Va,Nat.zero_mod]
  rfl
theorem ay(k:IntKind)(a b:Int)(H:Heap):Te Wf Xo (.int k a) (.int k b) H=.val (.bool (decide (a<b))) H:=by
 show Z3 (Oz k k) (Rr (yT a b) H)=_
 rw[X4,T4,Mk];rfl
theorem Mh(k:IntKind)(a b:Int)(H:Heap):Te SQ VW (.int k a) (.int k b) H=.val (.bool (decide (b<a))) H:=by
 show Z3 (Oz k k) (Rr (yT b a) H)=_
 rw[X4,T4,Mk];rfl
theorem Zhk(k:IntKind)(a b:Int)(H:Heap):Te PR Sk (.int k a) (.int k b) H=.val (.bool (decide (a<=b))) H:=by
 show Z3 (Oz k k) (Rr (!yT b a) H)=_
 rw[X4,T4,Mk]
 show OR.val (.bool (!decide (b<a))) H=_
 congr 2
 by_cases h:b<a
 ·rw[Zj h,Ze (by omega)];rfl
 ·rw[Ze h,Zj (by omega)];rfl
theorem Xx(k:IntKind)(a:Int)(b:Nat)(H:Heap):Te Wf Xo (.int k a) (nI k b) H=.val (.bool (decide (a<(b:Int)))) H:=ay k a b H
theorem Xw(k:IntKind)(a:Int)(b:Nat)(H:Heap):Te SQ VW (.int k a) (nI k b) H=.val (.bool (decide ((b:Int)<a))) H:=Mh k a b H
theorem Ku(k:IntKind)(a:Int)(b:Nat)(H:Heap):Te PR Sk (.int k a) (nI k b) H=.val (.bool (decide (a<=(b:Int)))) H:=Zhk k a b H
theorem Kw(k:IntKind)(a:Nat)(b:Int)(H:Heap):Te Wf Xo (nI k a) (.int k b) H=.val (.bool (decide ((a:Int)<b))) H:=ay k a b H
theorem Kr(k:IntKind)(a:Nat)(b:Int)(H:Heap):Te SQ VW (nI k a) (.int k b) H=.val (.bool (decide (b<(a:Int)))) H:=Mh k a b H
theorem CQ(s:List UInt8)(k:Nat)(G:Heap):EP (.str s) none (some (nI .i64 (min s.length k))) G=.val (.str (s.take k)) G:=by
 rw[Yb (Nat.min_le_left _ _)];congr 2;rw[Nat.min_comm,<-SG,WO]
theorem TN{H:Heap}{w:AV}{e sz lo:Nat}{ls:List (List AV)}(h:Py H w e sz ls lo):(∀n,H.nx<=n->Wu n w=true)∧(∀n T,UR (.val w ⟨n,T,n⟩) w n=true)∧w.cells=[w]∧(∀b∈WK w,lo<=b∧b<H.nx):=by
 rcases h with⟨_,rfl⟩|⟨_,b0,r0,rfl,rc,hl⟩
 ·exact⟨λ_ _=>rfl,λn T=>O4 n T,rfl,λb hb=>by cases hb⟩
 ·exact⟨λn hn=>Yp (by have:=rc.low;omega) _ _ _,λn T=>Yj ..,rfl,λb hb=>by rw[ZG.1 hb];exact⟨hl,rc.low⟩⟩
theorem xk(l:List NP)(p:NP):QG (l++[p])=QG l++[[.str p.1,.str p.2]]:=by unfold QG;rw[Xe];rfl
theorem Sz.lt{H:Heap}{sz:Nat}{v:AV}{ls:List (List AV)}(h:Sz H sz v ls): ∀b∈WK v,b<H.nx:=by
 rcases h with⟨_,rfl⟩|⟨_,⟨_,rfl⟩|⟨b,o,c,rfl,hb,_⟩⟩
 ·intro b hb;cases hb
 ·intro b hb;cases hb
 ·intro b' hb';rw[ZG.1 hb'];exact hb
theorem Sz.move{H H':Heap}{sz:Nat}{v:AV}{ls:List (List AV)}{S:List Nat}(h:Sz H sz v ls)(k:ZE H H' S)(hS: ∀b∈WK v,b∉S):Sz H' sz v ls:=
 h.keep k λb o n c e=>hS b (by rw[e];exact ZG.2 rfl)
theorem ji(l:List UInt8)(k:Nat):(ND l).take k=ND (l.take k):=by unfold ND;rw[List.map_take]
theorem ZbP{α:Type}(l:List α)(k:Nat):l.take (min l.length k)=l.take k:=by
 rw[Nat.min_comm,<-SG,WO]
def GB(H:Heap)(v:AV)(l:List UInt8)(lo:Nat):Prop:=(v=.nils∧l=[])∨ ∃b sm,v=.slice b 0 l.length none∧lo<=b∧b<H.nx∧H.ro<=b∧H.t.get b=some (rG 5 1 (l.map X8) 0 sm true false)
theorem GB.nil(H:Heap)(lo:Nat):GB H .nils [] lo:=.inl ⟨rfl,rfl⟩
theorem GB.keep{H H':Heap}{v:AV}{l:List UInt8}{lo:Nat}{S:List Nat}(h:GB H v l lo)(k:ZE H H' S)(hS: ∀b∈WK v,b∉S):GB H' v l lo:=by
 rcases h with h|⟨b,sm,rfl,h1,h2,h3,h4⟩
 ·exact .inl h
 ·exact .inr ⟨b,sm,rfl,h1,ZZ h2 k.nx,by rw[k.ro];exact h3,by rw[k.get b h2 (hS b (ZF ..))];exact h4⟩
theorem GB.blk{H:Heap}{v:AV}{l:List UInt8}{lo:Nat}(h:GB H v l lo): ∀b∈WK v,lo<=b∧b<H.nx:=by
 rcases h with⟨rfl,_⟩|⟨b,sm,rfl,h1,h2,_⟩
 ·intro b hb;cases hb
 ·intro c hc
  obtain rfl:c=b:=by simpa [WK] using hc
  exact⟨h1,h2⟩
theorem GB.len{H:Heap}{v:AV}{l:List UInt8}{lo:Nat}(h:GB H v l lo)(G:Heap):lenV v G=.val (nI .i64 l.length) G:=by
 rcases h with⟨rfl,rfl⟩|⟨b,sm,rfl,_⟩
 ·rfl
 ·exact V8 ..
theorem GB.low{H:Heap}{v:AV}{l:List UInt8}{lo:Nat}(h:GB H v l lo){n:Nat}(hn:H.nx<=n):Wu n v=true:=by
 rcases h with⟨rfl,rfl⟩|⟨b,sm,rfl,_,h2,_⟩
 ·rfl
 ·exact Yp (by omega) ..
theorem GB.same{H:Heap}{v:AV}{l:List UInt8}{lo:Nat}(h:GB H v l lo)(n:Nat)(t:T Obj):UR (.val v ⟨n,t,n⟩) v n=true:=by
 rcases h with⟨rfl,rfl⟩|⟨b,sm,rfl,_⟩
 ·exact O4 ..
 ·exact Yj ..
theorem GB.cells{H:Heap}{v:AV}{l:List UInt8}{lo:Nat}(h:GB H v l lo):v.cells=[v]:=by
 rcases h with⟨rfl,rfl⟩|⟨b,sm,rfl,_⟩<;>rfl
theorem vm{l:List UInt8}{i:Nat}(hi:i<l.length):(l.map X8).getD i .unk=X8 (l.getD i 0):=by
 rw[Zf,YO,Zf,Zn hi];rfl
theorem Bh{H:Heap}{b e a n fz:Nat}{sm own ex:Bool}{c:Option Nat}{l:List UInt8}(g:H.t.get b=some (rG e 1 (l.map X8) fz sm own ex))(hb:b<H.nx)(h0:0<n)(ha:a+n<=l.length)(hc: ∀k,c=some k->n<=k∧a+k<=l.length):BV H (.slice b a n c) ((l.drop a).take n):=by
 have hl:((l.drop a).take n).length=n:=by rw[Z4,YW];omega
 have hs:Xc (l.map X8)=l.length:=by rw[Xb,Zt]
 refine .inr ⟨λh=>by rw[h] at hl;have:0=n:=hl;omega,b,a,c,_,by rw[hl],⟨g,rfl,?_,λi hi=>?_,λk hk=>?_⟩,hb⟩
 ·rw[hl];show a+n<=Xc (l.map X8);rw[hs];exact ha
 ·rw[hl] at hi
  rw[vM,vm (by omega),Zf,Zf,XT hi,XV]
 ·rw[hl]
  show n<=k∧a+k<=Xc (l.map X8)
  rw[hs];exact hc k hk
theorem GB.bv{H:Heap}{v:AV}{l:List UInt8}{lo:Nat}(h:GB H v l lo):BV H v l:=by
 rcases h with⟨rfl,rfl⟩|⟨b,sm,rfl,_,h2,_,h4⟩
 ·exact .inl ⟨rfl,.inl rfl⟩
 ·by_cases h0:l=[]
  ·exact .inl ⟨h0,.inr ⟨_,_,_,by subst h0;rfl⟩⟩
  ·have:=Bh (a:=0) (n:=l.length) (c:=none) h4 h2 (by rcases l with _|_;exact absurd rfl h0;exact S6 _) (by omega) (λk hk=>by cases hk)
   rwa [ZC,WO] at this
theorem wN{H:Heap}{v:AV}{l:List UInt8}{lo:Nat}(h:GB H v l lo)(hlo:lo<=H.nx)(hro:H.ro<=H.nx)(m:List UInt8)(hl:l.length+m.length<=140737488355328):
  ∃v' H',Ol v 5 1 1 H m.length (m.map X8)=.val v' H'∧GB H' v' (l++m) lo∧ZE H H' (WK v)∧(∀b∈WK v',b∈WK v∨H.nx<=b):=by
 rcases h with⟨rfl,rfl⟩|⟨b,sm,rfl,h1,h2,h3,h4⟩
 ·by_cases h0:m=[]
  ·subst h0
   exact⟨.nils,H,rfl,.inl ⟨rfl,rfl⟩,ZE.refl _ _,λb hb=>by cases hb⟩
  ·have hp:0<m.length:=by rcases m with _|_;exact absurd rfl h0;exact S6 _
   refine⟨.slice H.nx 0 m.length none,H.newRow 5 1 (m.map X8) false,?_,.inr ⟨H.nx,false,rfl,hlo,YK _,hro,?_⟩,by rw[YC];exact ZE.new _ _ _,λb hb=>.inr ?_⟩
   ·have:=Jm (e:=5) (H:=H) (l:=m.map X8) (by rw[Zt];exact hp) (by rw[Zt];simpa using hl)
    rwa [Zt] at this
   ·rw[YC];exact YB rfl _
   ·obtain rfl:b=H.nx:=by simpa [WK] using hb
    exact Zq _
 ·have hs:Xc (l.map X8)=l.length:=by rw[Xb,Zt]
  have hrow: ∀k:Row->OR,Xv H b k=k ⟨5,1,Xc (l.map X8),T.ofList (l.map X8),.unk,0,sm,true,false⟩:=λk=>by
   unfold Xv
   rw[h4];rfl
  have hcap:W4 ⟨5,1,Xc (l.map X8),T.ofList (l.map X8),.unk,0,sm,true,false⟩ 0 none=l.length:=by
   show cond (Nat.beq 1 1) (Xc (l.map X8) - 0) (Nat.div (Xc (l.map X8) - 0) 1)=_
   rw[hs];rfl
  by_cases h0:m=[]
  ·subst h0
   refine⟨.slice b 0 l.length none,H,?_,.inr ⟨b,sm,by rw[Zr],h1,h2,h3,by rw[Zr];exact h4⟩,ZE.refl _ _,λc hc=>.inl hc⟩
   show Xv H b (λr=>Z3 (L9 r 1 none) (cond (Nat.ble (Nat.add l.length 0) (W4 r 0 none)) (Jl H (.slice b 0 l.length none) b 0 l.length 0 1 none r []) (Ni H 5 b 0 l.length 0 1 1 none r [])))=_
   rw[hrow,hcap]
   show Z3 true (cond (Nat.ble (l.length+0) l.length) (OR.val (.slice b 0 l.length none) H) _)=_
   rw[Zd,Zg (Zq _)];rfl
  ·have hp:0<m.length:=by rcases m with _|_;exact absurd rfl h0;exact S6 _
   have Ox:H.may ⟨5,1,Xc (l.map X8),T.ofList (l.map X8),.unk,0,sm,true,false⟩ b=true:=by unfold Heap.may;rw[Zg h3];rfl
   refine⟨.slice H.nx 0 (l.length+m.length) none,⟨Nat.succ H.nx,(H.t.del b).set H.nx (rG 5 1 ((l++m).map X8) 0 sm true false),H.ro⟩,?_,.inr ⟨H.nx,sm,by rw[Zm],hlo,YK _,hro,by rw[T.get_set,if_pos rfl]⟩,⟨Ws _,rfl,λc hc hn=>?_⟩,λc hc=>.inr ?_⟩
   ·show Xv H b (λr=>Z3 (L9 r 1 none) (cond (Nat.ble (Nat.add l.length m.length) (W4 r 0 none)) (Jl H (.slice b 0 l.length none) b 0 l.length m.length 1 none r (m.map X8)) (Ni H 5 b 0 l.length m.length 1 1 none r (m.map X8))))=_
    rw[hrow,hcap]
    have h5:Nat.ble (Nat.add l.length m.length) l.length=false:=by
     cases h:Nat.ble (Nat.add l.length m.length) l.length with
     |false=>rfl
     |true=>have:=Yh h;have:l.length+m.length<=l.length:=this;omega
    rw[h5]
    show Z3 (Nat.ble ((l.length+m.length)*1) 140737488355328) (Z3 (Nat.ble (0+l.length*1) (Xc (l.map X8))) (Z3 (Nat.beq 5 5) (Z3 (H.may _ b) (Z3 (Nat.ble 0 (l.length*1)) (Z3 (Nat.beq (l.length*1) (Xc (l.map X8))) (Z3 (Nat.beq 0 0) _))))))=_
    rw[Ox,Xf,Xf,Zb,Zg hl,hs,Zg (Zq _),Zg (ZB _),show Nat.beq l.length l.length=true from Xd _]
    show OR.val (.slice H.nx 0 (l.length+m.length) none) ⟨Nat.succ H.nx,(H.t.del b).set H.nx (.row ⟨5,1,(l.length+m.length)*1,Xj (T.ofList (l.map X8)) (l.length*1) (m.map X8),.unk,0,sm,true,false⟩),H.ro⟩=_
    have hst:=D5 (l.map X8) (m.map X8)
    rw[Zt] at hst
    rw[Xf,Xf,hst,Xe]
    unfold rG
    rw[Xb,Zm,Zt,Zt]
   ·have hcb:c≠b:=λh=>hn (by rw[h];exact ZF ..)
    show((H.t.del b).set H.nx _).get c=_
    rw[T.get_set,if_neg (by omega),T.get_del,if_neg (λh=>hcb h.symm)]
   ·obtain rfl:c=H.nx:=by simpa [WK] using hc
    exact Zq _
theorem ZeH{H:Heap}(m:List UInt8):Src H (.str m) (m.map X8):=by
 intro k
 show(cond (Nat.beq (Xc m) 0) (k (Xc m) []) (Z3 (Nat.beq 1 1) (k (Xc m) (Ex (KZ (Xc m) m)))))=_
 rw[Xb,Zt,My,WO,CD]
 cases m with
 |nil=>rfl
 |cons a m=>rfl
theorem qV{H:Heap}{v:AV}{l:List UInt8}{lo:Nat}(h:GB H v l lo)(hlo:lo<=H.nx)(hro:H.ro<=H.nx)(m:List UInt8)(hl:l.length+m.length<=140737488355328):
  ∃v' H',U2 5 1 1 v (.str m) H=.val v' H'∧GB H' v' (l++m) lo∧ZE H H' (WK v)∧(∀b∈WK v',b∈WK v∨H.nx<=b):=by
 obtain⟨v',H',e,r⟩:=wN h hlo hro m hl
 refine⟨v',H',?_,r⟩
 rw[SV (by decide) (ZeH m),Zt];exact e
theorem uE{H:Heap}{v w:AV}{l m:List UInt8}{lo:Nat}(h:GB H v l lo)(hw:BV H w m)(hlo:lo<=H.nx)(hro:H.ro<=H.nx)(hl:l.length+m.length<=140737488355328):
  ∃v' H',U2 5 1 1 v w H=.val v' H'∧GB H' v' (l++m) lo∧ZE H H' (WK v)∧(∀b∈WK v',b∈WK v∨H.nx<=b):=by
 obtain⟨v',H',e,r⟩:=wN h hlo hro m hl
 refine⟨v',H',?_,r⟩
 rw[SV (by decide) hw.src,Zt];exact e
def Zf3(e sz bytes:Nat)(zs:List AV)(x y:AV)(H:Heap):OR:=Z3 (Nat.ble 1 sz)<|Z3 (Nat.ble 1 bytes)<|SX y λn=>Z3 (Nat.ble (Nat.mul n bytes) 140737488355328)<|Ol x e sz bytes H n (List.replicate n zs).flatten
theorem YA(x y:YG)(e sz bytes:Nat)(zs:List AV)(tm:TM)(H:Heap):LM x y e sz bytes zs tm H=Zf3 e sz bytes zs (x tm) (y tm) H:=rfl
theorem vO: ∀n:Nat,(List.replicate n [nI .u8 0]).flatten=(List.replicate n (0:UInt8)).map X8
 |0=>rfl
 |n+1=>by rw[Wl,Wl,Vy,vO n];rfl
theorem nG{H:Heap}{v:AV}{l:List UInt8}{lo:Nat}(h:GB H v l lo)(hlo:lo<=H.nx)(hro:H.ro<=H.nx)(n:Nat)(hl:l.length+n<=140737488355328):
  ∃v' H',Zf3 5 1 1 [nI .u8 0] v (nI .i64 n) H=.val v' H'∧GB H' v' (l++List.replicate n 0) lo∧ZE H H' (WK v)∧(∀b∈WK v',b∈WK v∨H.nx<=b):=by
 obtain⟨v',H',e,r⟩:=wN h hlo hro (List.replicate n 0) (by rw[Yu];exact hl)
 rw[Yu] at e
 refine⟨v',H',?_,r⟩
 show Z3 (Nat.ble (n*1) 140737488355328) (Ol v 5 1 1 H n (List.replicate n [nI .u8 0]).flatten)=_
 rw[Xf,Zg (by omega),vO];exact e
theorem dI{H:Heap}{s:List UInt8}(hro:H.ro<=H.nx){lo:Nat}(hlo:lo<=H.nx)(sm:Bool):GB (H.new (rG 5 1 (s.map X8) 0 sm true false)) (.slice H.nx 0 s.length none) s lo:=
 .inr ⟨H.nx,sm,rfl,hlo,YK _,hro,YB rfl _⟩
def oj(l:List UInt8)(a:Nat)(w:List UInt8):List UInt8:=l.take a++(w++l.drop (a+w.length))
theorem s7{l w:List UInt8}{a:Nat}(h:a+w.length<=l.length):(oj l a w).length=l.length:=by
 unfold oj
 rw[Zm,Zm,Z4,YW];omega
theorem Jp{r:Row}{l new:List AV}{o:Nat}(hc:Cells r l)(ho:o+new.length<=l.length):Cells (r.setCells (Xj r.cells o new)) (l.take o++(new++l.drop (o+new.length))):=by
 have hlen:(l.take o++(new++l.drop (o+new.length))).length=l.length:=by
  rw[Zm,Zm,Z4,YW];omega
 refine⟨by rw[hlen];exact hc.size,λi hi=>?_⟩
 rw[hlen] at hi
 have h1:=hc.get i hi
 rw[Row.get_eq] at h1 ⊢
 show((Xj r.cells o new).get i).getD r.dflt=_
 rw[Qg,Zf]
 by_cases hA:i<o
 ·rw[if_neg (by omega),h1,Zf,Yt (by rw[Z4];omega),XT hA]
 ·rw[Yz (by rw[Z4];omega),Z4,Wh (by omega)]
  by_cases hB:i<o+new.length
  ·rw[if_pos (by omega),Yt (by omega),Zn (by omega)];rfl
  ·rw[if_neg (by omega),h1,Zf,Yz (by omega),XV]
   congr 2;omega
theorem MQ{H:Heap}{b o c q n dn sn:Nat}{e1 e2:Option Nat}{r s:Row}{l m:List AV}(hr:H.t.get b=some (.row r))(hc:Cells r l)(how:r.own=true)(hro:H.ro<=b)(hfz:r.fz=0)
  (hs:H.t.get c=some (.row s))(hm:Cells s m)(hn:Ob dn sn=n)(h0:0<n)(ho:o+n<=l.length)(hq:q+n<=m.length):
  ∃r',z4 1 (.slice b o dn e1) (.slice c q sn e2) H=.val (nI .i64 n) (H.put b (.row r'))∧Cells r' (l.take o++((m.drop q).take n++l.drop (o+n)))∧r'.own=true∧r'.fz=0∧r'.sz=r.sz:=by
 have hl:((m.drop q).take n).length=n:=by rw[Z4,YW];omega
 have hcs:=Jp (o:=o) (new:=(m.drop q).take n) hc (by rw[hl];exact ho)
 rw[hl] at hcs
 refine⟨_,?_,hcs,how,hfz,rfl⟩
 show SN (Ob dn sn) (λn=>Vb H 1 (.slice c q _ e2) n λnew=>cond (Nat.beq n 0) (.val (.int .i64 0) H) (Xv H b λr=>Z3 (H.may r b) (Z3 (Nat.ble r.fz o) (Z3 (Nat.ble (o+n*1) r.size) (.val (.int .i64 (.ofNat n)) (H.put b (.row (r.setCells (Xj r.cells o new)))))))))=_
 have e2:Nat.beq n 0=false:=by rw[Y1];exact Ze (by omega)
 have h1:H.may r b=true:=by unfold Heap.may;rw[how,Zg hro];rfl
 rw[Qo,hn]
 unfold Vb
 rw[e2]
 simp only[cond_false]
 unfold Xv
 rw[hs,hr]
 simp only[Xf]
 show Z3 (Nat.ble (q+n*1) s.size) _=_
 rw[Xf,hm.size,Zg hq,show Nat.mul n 1=n from Xf n,hm.load hq,h1,hfz,Zg (ZB _),hc.size,Zg ho]
 rfl
theorem eP{H:Heap}{b a n:Nat}{e1:Option Nat}{l w:List UInt8}{v:AV}{r:Row}(hr:H.t.get b=some (.row r))(hc:Cells r (l.map X8))(how:r.own=true)(hfz:r.fz=0)(hro:H.ro<=b)(hw:BV H v w)(hn:w.length=n)(h0:0<n)(ha:a+n<=l.length):
  ∃r',z4 1 (.slice b a n e1) v H=.val (nI .i64 n) (H.put b (.row r'))∧Cells r' ((oj l a w).map X8)∧r'.own=true∧r'.fz=0∧r'.sz=r.sz:=by
 have hne:w≠[]:=λh=>by rw[h] at hn;have:0=n:=hn;omega
 rcases hw with⟨h,_⟩|⟨_,q,o,c,s,rfl,hB,hlt⟩
 ·exact absurd h hne
 have hcs:=Jp (o:=a) (new:=w.map X8) hc (by rw[Zt,Zt];omega)
 have hm:(l.map X8).take a++(w.map X8++(l.map X8).drop (a+(w.map X8).length))=(oj l a w).map X8:=by
  unfold oj
  rw[Zt,Xe,Xe,List.map_take,List.map_drop]
 rw[hm] at hcs
 refine⟨_,?_,hcs,how,hfz,rfl⟩
 rw[hn]
 show SN (Ob n n) (λn=>Vb H 1 (.slice q o _ c) n λnew=>cond (Nat.beq n 0) (.val (.int .i64 0) H) (Xv H b λr=>Z3 (H.may r b) (Z3 (Nat.ble r.fz a) (Z3 (Nat.ble (a+n*1) r.size) (.val (.int .i64 (.ofNat n)) (H.put b (.row (r.setCells (Xj r.cells a new)))))))))=_
 have e':Ob n n=n:=by unfold Ob;rw[Zg (Zq _)];rfl
 have e2:Nat.beq n 0=false:=by rw[Y1];exact Ze (by omega)
 have h1:H.may r b=true:=by unfold Heap.may;rw[how,Zg hro];rfl
 have hnew:Vr s o n=w.map X8:=by
  refine WM λj=>?_
  by_cases hj:j<n
  ·rw[Rw s _ o j hj,hB.get j (by omega),YO,Zf,Zn (by omega)];rfl
  ·rw[Xh (by rw[Rf];omega),Xh (by rw[Zt];omega)]
 rw[Qo,e']
 unfold Vb
 rw[e2]
 simp only[cond_false]
 unfold Xv
 rw[hB.at_,hr]
 simp only[Xf]
 show Z3 (Nat.ble (o+n*1) s.size) (Z3 (H.may r b) (Z3 (Nat.ble r.fz a) (Z3 (Nat.ble (a+n) r.size) (.val (.int .i64 (.ofNat n)) (H.put b (.row (r.setCells (Xj r.cells a (Vr s o (n*1))))))))))=_
 rw[Xf,hnew,Zg (by have:=hB.fits;omega),h1,hfz,Zg (ZB _),hc.size,Zt,Zg ha]
 rfl
structure HR(H:Heap)(b:Nat)(l:List UInt8):Prop where
 row: ∃r,H.t.get b=some (.row r)∧Cells r (l.map X8)∧r.own=true∧r.fz=0∧r.sz=1
 len:l.length=512
 lt:b<H.nx
 ro:H.ro<=b
theorem HR.keep{H H':Heap}{b:Nat}{l:List UInt8}{S:List Nat}(h:HR H b l)(k:ZE H H' S)(hS:b∉S):HR H' b l:=by
 obtain⟨⟨r,h1,h2⟩,h3,h4,h5⟩:=h
 exact⟨⟨r,by rw[k.get b h4 hS];exact h1,h2⟩,h3,ZZ h4 k.nx,by rw[k.ro];exact h5⟩
theorem HR.keep0{H H':Heap}{b:Nat}{l:List UInt8}(h:HR H b l)(k:ZE H H' []):HR H' b l:=h.keep k (by simp)
theorem Zf7{H:Heap}{b a n:Nat}{c:Option Nat}{r:Row}{l:List UInt8}(g:H.t.get b=some (.row r))(hc:Cells r (l.map X8))(hz:r.sz=1)(hb:b<H.nx)(h0:0<n)(ha:a+n<=l.length)(hk: ∀k,c=some k->n<=k∧a+k<=l.length):BV H (.slice b a n c) ((l.drop a).take n):=by
 have hl:((l.drop a).take n).length=n:=by rw[Z4,YW];omega
 refine .inr ⟨λh=>by rw[h] at hl;have:0=n:=hl;omega,b,a,c,r,by rw[hl],⟨g,hz,by rw[hl,hc.size,Zt];exact ha,λi hi=>?_,λk hh=>?_⟩,hb⟩
 ·rw[hl] at hi
  rw[hc.get _ (by rw[Zt];omega),vm (by omega),Zf,Zf,XT hi,XV]
 ·rw[hl,hc.size,Zt];exact hk k hh
def lP(a y z:AV)(H:Heap):OR:=RC 1 (λ_=>a) none (some λ_=>y) (some λ_=>z) OM H
theorem YL(x y z:YG)(tm:TM)(H:Heap):RC 1 x none (some y) (some z) tm H=lP (x tm) (y tm) (z tm) H:=rfl
theorem oh(e N:Nat):Cells ⟨e,1,N,.leaf,.unk,0,false,true,false⟩ (List.replicate N .unk):=by
 refine⟨by rw[Yu],λi hi=>?_⟩
 rw[Yu] at hi
 rw[Row.get_eq,Zf,Wp,if_pos hi]
 show(T.leaf.get i).getD AV.unk=AV.unk
 rw[T.get_leaf];rfl
theorem um{H:Heap}{b n:Nat}{c:Option Nat}{r:Row}{l:List UInt8}(g:H.t.get b=some (.row r))(hc:Cells r (l.map X8))(hz:r.sz=1)(hb:b<H.nx)(hn:n=l.length)(hk: ∀k,c=some k->n<=k∧k<=l.length):BV H (.slice b 0 n c) l:=by
 subst hn
 by_cases h0:l=[]
 ·subst h0;exact .inl ⟨rfl,.inr ⟨_,_,_,rfl⟩⟩
 ·refine .inr ⟨h0,b,0,c,r,rfl,⟨g,hz,by rw[hc.size,Zt];omega,λi hi=>?_,λk h=>?_⟩,hb⟩
  ·rw[Zb,hc.get i (by rw[Zt];exact hi),vm hi]
  ·rw[hc.size,Zt];have:=hk k h;omega
theorem kA{H:Heap}{sz:Nat}{v:AV}{ls:List (List AV)}(h:Sz H sz v ls):(∀G,MU jn false v .nils G=.val (.bool false) G)∨(v=.nils∧ls=[]):=by
 rcases h with⟨_,rfl⟩|⟨_,⟨e,rfl⟩|⟨b,o,c,rfl,hb,_⟩⟩
 ·exact .inl λ_=>rfl
 ·exact .inr ⟨rfl,e⟩
 ·exact .inl λ_=>rfl
theorem ZcI(G:Heap):MU jn false .nils .nils G=.val (.bool true) G:=rfl
theorem If(l:List UInt8):(ND l).flatten=l.map X8:=by
 induction l with
 |nil=>rfl
 |cons a l ih=>
  show [X8 a]++(ND l).flatten=_
  rw[ih];rfl
theorem Zf6{H:Heap}{e:Nat}{l:List UInt8}(h:l≠[])(ex:Bool):BV (H.new (rG e 1 (l.map X8) 0 false true ex)) (.slice H.nx 0 l.length none) l:=by
 refine .inr ⟨h,H.nx,0,none,⟨e,1,Xc (l.map X8),T.ofList (l.map X8),.unk,0,false,true,ex⟩,rfl,⟨YB rfl _,rfl,?_,λi hi=>?_,λk hk=>by cases hk⟩,YK _⟩
 ·show 0+l.length<=Xc (l.map X8)
  rw[Xb,Zt];omega
 ·rw[Zb,vM,Zf,YO,Zf,Zn hi];rfl
theorem fM{Zo:Lib}{fs:T CF}{fuel:Nat}(E:Env Zo fs fuel){k n:Nat}{H:Heap}{v:AV}{l:List UInt8}(h:Sz H 1 v (ND l))(hl:l.length<=90000):
  ∃v' H',Z8 (LK Zo fs fuel k) fs fuel (n+1) 10 [v] H=.ret v' H'∧BV H' v' l∧ZE H H' []∧ ∀b o m c,v'=.slice b o m c->H.nx<=b∧b<H'.nx:=by
 rw[Z7 (Z2 E.n10 (.inr rfl) _ _) E.f10]
 rcases kA h with en|⟨rfl,e0⟩
 ·have bs:UL 5 1 0 (List.replicate 0 [nI .u8 0]).flatten [] H=.val (.slice H.nx 0 0 none) (H.new (rG 5 1 [] 0 false true true)):=rfl
  have hk:ZE H (H.new (rG 5 1 [] 0 false true true)) []:=ZE.new _ _ _
  rcases nu (e:=5) (bytes:=1) h (by decide) (by decide) (by rw[SK];omega) with⟨ea,e0⟩|⟨ea,e0⟩
  ·have hz:l=[]:=by
    cases l with
    |nil=>rfl
    |cons a l=>cases e0
   simp only[en,bs,ea,ZX,ZW,ZH,ZX,ZW,ZH,c10,Yf,Xr,ZV,Xq]
   exact⟨_,_,rfl,.inl ⟨hz,.inr ⟨_,_,_,rfl⟩⟩,hk,λb o m c e=>by cases e;exact⟨Zq _,YK _⟩⟩
  ·rw[If,SK] at ea
   have hne:l≠[]:=λe=>e0 (by rw[e];rfl)
   simp only[en,bs,ea,ZX,ZW,ZH,ZX,ZW,ZH,c10,Yf,Xr,ZV,Xq]
   exact⟨_,_,rfl,Zf6 (H:=H.new (rG 5 1 [] 0 false true true)) hne false,hk.then_new _,λb o m c e=>by cases e;exact⟨Ws _,YK _⟩⟩
 ·have hz:l=[]:=by
   cases l with
   |nil=>rfl
   |cons a l=>cases e0
  simp only[ZcI,c10,Yf,Xr,ZV,Xq]
  exact⟨_,_,rfl,.inl ⟨hz,.inl rfl⟩,ZE.refl _ _,λb o m c e=>by cases e⟩
theorem ZbM{H:Heap}{v:AV}{l:List UInt8}(h:Sz H 1 v (ND l)):oE v H=.val (.str l) H:=by
 rcases h with⟨e0,rfl⟩|⟨_,⟨e0,rfl⟩|⟨b,o,c,rfl,hb,h2⟩⟩
 ·have hz:l=[]:=by
   cases l with
   |nil=>rfl
   |cons a l=>cases e0
  subst hz;rfl
 ·have hz:l=[]:=by
   cases l with
   |nil=>rfl
   |cons a l=>cases e0
  subst hz;rfl
 ·rw[SK]
  by_cases h0:l=[]
  ·subst h0;rfl
  ·obtain⟨r,h3,h4,h5⟩:=h2 (λe=>h0 (by
    cases l with
    |nil=>rfl
    |cons a l=>cases e))
   rw[SK,Xf] at h4 h5
   refine FP h3 rfl h4 λi hi=>?_
   rw[h5 i hi,If,Zf,YO,Zf,Zn hi];rfl
theorem Gt{H:Heap}{v:AV}{l:List UInt8}(h:BV H v l)(hb: ∀b o n c,v=.slice b o n c->b<H.nx):Sz H 1 v (ND l):=by
 refine .inr ⟨λx hx=>?_,?_⟩
 ·unfold ND at hx
  obtain⟨a,_,rfl⟩:=Xu.1 hx
  rfl
 ·rcases h with⟨rfl,rfl|⟨b,o,c,rfl⟩⟩|⟨hne,b,o,c,r,rfl,hB,hlt⟩
  ·exact .inl ⟨rfl,rfl⟩
  ·exact .inr ⟨b,o,c,rfl,hb _ _ _ _ rfl,λh=>absurd rfl h⟩
  ·refine .inr ⟨b,o,c,by rw[SK],hlt,λ_=>⟨r,hB.at_,by rw[SK,Xf];exact hB.fits,λi hi=>?_⟩⟩
   rw[SK,Xf] at hi
   rw[hB.get i hi,If,Zf,Zf,YO,Zn hi];rfl
theorem qz{Zo:Lib}{fs:T CF}{fuel:Nat}(E:Env Zo fs fuel){n:Nat}{v w:AV}{l m:List UInt8}{H:Heap}(hv:Sz H 1 v (ND l))(hw:Sz H 1 w (ND m)):
  ∃H',Z8 (LK Zo fs fuel 0) fs fuel (n+2) 8 [v,w] H=.ret (.bool (decide (l=m))) H'∧ZE H H' []:=by
 rw[Z7 (Z2 E.n8 (.inl (by decide)) _ _) E.f8]
 have e1:=ZbM hv
 have e2:=ZbM hw
 simp only[e1,e2,YE,c8,Yf,Xr,ZV,Xq]
 refine⟨_,rfl,?_⟩
 exact ZE.refl _ _
theorem fN{Zo:Lib}{fs:T CF}{fuel:Nat}(E:Env Zo fs fuel){k n:Nat}(hk:1<=k){v w:AV}{l m:List UInt8}{H:Heap}(hv:Sz H 1 v (ND l))(hw:Sz H 1 w (ND m)):
  Z8 (LK Zo fs fuel k) fs fuel (n+1) 8 [v,w] H=.ret (.bool (decide (l=m))) H:=by
 obtain⟨H',e,g⟩:=qz E (n:=898) (H:=H) hv hw
 exact Xp (r:=0) rfl rfl e g (rfl) hk
structure Rd(H:Heap)(v:AV)(l:List UInt8):Prop where
 len: ∀G,lenV v G=.val (nI .i64 l.length) G
 at_: ∀i,i<l.length-> ∃b o r,(∀(k:IntKind) (G:Heap),IZ 1 v (nI k i) G=.val (.ptr b o) G)∧b<H.nx∧H.t.get b=some (.row r)∧ ∀G,ld1 (some (.row r)) o G=.val (X8 (l.getD i 0)) G
def fEs:List RF:=[⟨.str [99,104,107,115,117,109],.agg [nI .i64 148,nI .i64 8],0⟩,⟨.str [100,101,118,109,97,106,111,114],.agg [nI .i64 329,nI .i64 8],0⟩,⟨.str [100,101,118,109,105,110,111,114],.agg [nI .i64 337,nI .i64 8],0⟩,⟨.str [103,105,100],.agg [nI .i64 116,nI .i64 8],0⟩,⟨.str [103,110,97,109,101],.agg [nI .i64 297,nI .i64 32],0⟩,⟨.str [108,105,110,107,110,97,109,101],.agg [nI .i64 157,nI .i64 100],0⟩,⟨.str [109,97,103,105,99],.agg [nI .i64 257,nI .i64 6],0⟩,⟨.str [109,111,100,101],.agg [nI .i64 100,nI .i64 8],0⟩,⟨.str [109,116,105,109,101],.agg [nI .i64 136,nI .i64 12],0⟩,⟨.str [110,97,109,101],.agg [nI .i64 0,nI .i64 100],0⟩,⟨.str [112,114,101,102,105,120],.agg [nI .i64 345,nI .i64 155],0⟩,⟨.str [115,105,122,101],.agg [nI .i64 124,nI .i64 12],0⟩,⟨.str [116,121,112,101],.agg [nI .i64 156,nI .i64 1],0⟩,⟨.str [117,105,100],.agg [nI .i64 108,nI .i64 8],0⟩,⟨.str [117,110,97,109,101],.agg [nI .i64 265,nI .i64 32],0⟩,⟨.str [118,101,114,115,105,111,110],.agg [nI .i64 263,nI .i64 2],0⟩]
structure Su(H:Heap):Prop where
 p:N3 H
 g:P8 H
 f: ∃r,H.t.get 2=some (.row r)∧0<r.size∧r.get 0=.map 13
 fm:H.t.get 13=some (.cmap fEs)
theorem Su.keep{H H':Heap}{S:List Nat}(g:Su H)(k:ZE H H' S)(hS: ∀x∈S,100<=x):Su H':=by
 obtain⟨a,b,⟨r,c1,c2,c3⟩,d⟩:=g
 have kk:=λx (hx:x<100)=>k.get x (by have:=a.nx;omega) (λh=>by have:=hS x h;omega)
 exact⟨a.keep k hS,b.keep k hS,⟨r,by rw[kk _ (by decide)];exact c1,c2,c3⟩,by rw[kk _ (by decide)];exact d⟩
theorem Su.keep0{H H':Heap}(g:Su H)(k:ZE H H' []):Su H':=g.keep k (by simp)
theorem ZE.more{H H':Heap}{S:List Nat}(k:ZE H H' []):ZE H H' S:=⟨k.nx,k.ro,λc hc _=>k.get c hc (by simp)⟩
structure zK(nm:List UInt8)(a l:Nat):Prop where
 lk: ∀G,lkO Js (.agg [nI .i64 0,nI .i64 0]) true (some (.cmap fEs)) (.str nm) G=.val (.tup [.agg [nI .i64 a,nI .i64 l],.bool true]) G
 pos:1<=l
 le:a+l<=512
theorem uA:zK [99,104,107,115,117,109] 148 8:=⟨λG=>by kernel_rfl,by decide,by decide⟩
theorem Ze7:zK [103,105,100] 116 8:=⟨λG=>by kernel_rfl,by decide,by decide⟩
theorem qP:zK [108,105,110,107,110,97,109,101] 157 100:=⟨λG=>by kernel_rfl,by decide,by decide⟩
theorem ZcM:zK [109,97,103,105,99] 257 6:=⟨λG=>by kernel_rfl,by decide,by decide⟩
theorem dt:zK [109,111,100,101] 100 8:=⟨λG=>by kernel_rfl,by decide,by decide⟩
theorem nC:zK [109,116,105,109,101] 136 12:=⟨λG=>by kernel_rfl,by decide,by decide⟩
theorem du:zK [110,97,109,101] 0 100:=⟨λG=>by kernel_rfl,by decide,by decide⟩
theorem dw:zK [112,114,101,102,105,120] 345 155:=⟨λG=>by kernel_rfl,by decide,by decide⟩
theorem dy:zK [115,105,122,101] 124 12:=⟨λG=>by kernel_rfl,by decide,by decide⟩
theorem Zgx:zK [116,121,112,101] 156 1:=⟨λG=>by kernel_rfl,by decide,by decide⟩
theorem Ze8:zK [117,105,100] 108 8:=⟨λG=>by kernel_rfl,by decide,by decide⟩
theorem jo:zK [118,101,114,115,105,111,110] 263 2:=⟨λG=>by kernel_rfl,by decide,by decide⟩
theorem Zh2{n l h:Nat}(hlh:l<h)(hh:h<=n)(b o:Nat)(k j:IntKind)(H:Heap):KG n 1 (.ptr b o) (some (nI k l)) (some (nI j h)) H=.val (.slice b (o+l) (h - l) (some (n - l))) H:=vS (by omega) (by omega) hh b o k j H
theorem sy{Zo:Lib}{fs:T CF}{fuel:Nat}(E:Env Zo fs fuel){k n:Nat}{H:Heap}{nm:List UInt8}{a l b:Nat}(gH:Su H)(F:zK nm a l)(hb:b<H.nx):
  ∃H',Z8 (LK Zo fs fuel k) fs fuel (n+1) 64 [.ptr b 0,.str nm] H=.ret (.slice b a l (some (512 - a))) H'∧ZE H H' []:=by
 rw[Z7 (Z2 E.n64 (.inr rfl) _ _) E.f64]
 obtain⟨r,g1,g2,g3⟩:=gH.f
 have g4:=gH.fm
 have hlk:=F.lk;have h1:=F.pos;have h2:=F.le;have h3:=gH.p.nx;have h4:=gH.p.ro
 have ld: ∀G,ld1 (some (.row r)) 0 G=.val (.map 13) G:=λG=>by rw[Y8 g2,g3]
 have eqp: ∀(o:Nat) G,MU qN false (.ptr b o) .nilp G=.val (.bool false) G:=λ_ _=>rfl
 have stS: ∀(G:Heap),G.ro<=H.nx->oA 2 (some (rG 126 1 [nI .i64 0,nI .i64 0] 0 false true true)) H.nx 0 (.agg [nI .i64 a,nI .i64 l]) G=.val XE (G.put H.nx (rG 126 1 [nI .i64 a,nI .i64 l] 0 false true true)):=λG hG=>SB (l:=[nI .i64 0,nI .i64 0]) (vs:=[nI .i64 a,nI .i64 l]) rfl rfl (by decide) hG _ _ _ _
 have i0: ∀G:Heap,yS 2 1 (.ptr H.nx 0) (nI .i64 0) G=.val (.ptr H.nx 0) G:=λG=>rfl
 have i1: ∀G:Heap,yS 2 1 (.ptr H.nx 0) (nI .i64 1) G=.val (.ptr H.nx 1) G:=λG=>rfl
 have l0: ∀G,ld1 (some (rG 126 1 [nI .i64 a,nI .i64 l] 0 false true true)) 0 G=.val (nI .i64 a) G:=λG=>rfl
 have l1: ∀G,ld1 (some (rG 126 1 [nI .i64 a,nI .i64 l] 0 false true true)) 1 G=.val (nI .i64 l) G:=λG=>rfl
 have sa: ∀G:Heap,KG 512 1 (.ptr b 0) (some (nI .i64 a)) (some (nI .i64 (a+l))) G=.val (.slice b a l (some (512 - a))) G:=λG=>by
  rw[Zh2 (by omega) h2,Zb,WG]
 simp(disch:=first|assumption|omega|(simp -implicitDefEqProofs only[Xl,Xm]<;>first|assumption|omega)|decide) only[g1,g4,ld,hlk,eqp,stS,i0,i1,l0,l1,sa,Sy,Yy,decide_true,ZD,ZR,ZN,Zz,ZH,ZD,ZR,ZN,c64,Yf,Xr,ZV,Yv,Z0,Z1,Nat.reducePow,Nat.reduceDiv,Nat.reduceMod,Xq]
 refine⟨_,rfl,?_⟩
 exact ZE.new _ _ _
def Sj(l:List UInt8)(a n:Nat)(w:List UInt8):List UInt8:=if w.length=n then oj l a w else l
theorem s6{l w:List UInt8}{a n:Nat}(h:a+n<=l.length):(Sj l a n w).length=l.length:=by
 unfold Sj
 split
 ·rename_i h2;exact s7 (by omega)
 ·rfl
theorem ww{H:Heap}{b a n:Nat}{l:List UInt8}(h:HR H b l)(h0:1<=n)(ha:a+n<=512):BV H (.slice b a n (some (512 - a))) ((l.drop a).take n):=by
 obtain⟨⟨r,g,hc,_,_,hz⟩,hl,hb,_⟩:=h
 exact Zf7 g hc hz hb h0 (by omega) λk hk=>by cases hk;omega
theorem yd{Zo:Lib}{fs:T CF}{fuel:Nat}(E:Env Zo fs fuel){k n:Nat}{H:Heap}{nm l:List UInt8}{a m b:Nat}(gH:Su H)(F:zK nm a m)(g:HR H b l):
  ∃v H',Z8 (LK Zo fs fuel k) fs fuel (n+3) 46 [.ptr b 0,.str nm] H=.ret (.tup [v,.bool true]) H'∧BV H' v ((l.drop a).take m)∧ZE H H' []∧ ∀b o m c,v=.slice b o m c->H.nx<=b∧b<H'.nx:=by
 rw[Z7 (Z2 E.n46 (.inr rfl) _ _) E.f46]
 obtain⟨H0,e1,k0⟩:=sy E (k:=k) (n:=n+1) gH F g.lt
 have h1:=F.pos;have h2:=F.le
 have bv:=ww (g.keep0 k0) h1 h2
 have hb:=g.lt;have hl:=g.len
 obtain⟨v,H1,e2,bv2,k1,far⟩:=fM E (k:=k) (n:=n+1) (Gt bv λb' o n' c h=>by cases h;exact ZZ hb k0.nx) (by rw[Z4];omega)
 have eqn: ∀G,MU jn true (.slice b a m (some (512 - a))) .nils G=.val (.bool true) G:=λ_=>rfl
 simp only[e1,e2,eqn,c46,Yf,Xr,ZV,Xq]
 exact⟨_,_,rfl,bv2,k0.trans' k1,λb' o m' c h=>⟨Yl k0.nx (far b' o m' c h).1,(far b' o m' c h).2⟩⟩
theorem IB{Zo:Lib}{fs:T CF}{fuel:Nat}(E:Env Zo fs fuel){k n:Nat}{H:Heap}{nm l w:List UInt8}{a m b:Nat}{v:AV}(gH:Su H)(F:zK nm a m)(g:HR H b l)(hv:BV H v w):
  ∃z H',Z8 (LK Zo fs fuel k) fs fuel (n+2) 45 [.ptr b 0,.str nm,v] H=.ret z H'∧ZE H H' [b]∧HR H' b (Sj l a m w):=by
 rw[Z7 (Z2 E.n45 (.inr rfl) _ _) E.f45]
 obtain⟨H0,e1,k0⟩:=sy E (k:=k) (n:=n) gH F g.lt
 have h1:=F.pos;have h2:=F.le
 have g0:=g.keep0 k0
 obtain⟨⟨r,r1,r2,r3,r4,r5⟩,hl,hb,hro⟩:=g0
 have hv0:=hv.keep k0 (λ_ _ _ _ _=>by simp)
 have eqn: ∀G,MU jn false (.slice b a m (some (512 - a))) .nils G=.val (.bool false) G:=λ_=>rfl
 have ln:=hv.len
 by_cases hw:w.length=m
 ·have d1:decide (w.length≠m)=false:=Ze (λh=>h hw)
  obtain⟨r',cp,q1,q2,q3,q4⟩:=eP (l:=l) (n:=m) (a:=a) (e1:=some (512 - a)) r1 r2 r3 r4 hro hv0 hw h1 (by omega)
  rw[show Sj l a m w=oj l a w by unfold Sj;rw[if_pos hw]]
  simp only[e1,eqn,ln,d1,cp,It,Y7,c45,Yf,Xr,ZV,Xq]
  exact⟨_,_,rfl,(k0.more).then_put (λ_=>by simp),⟨⟨r',XY _ _ _,q1,q2,q3,by rw[q4,r5]⟩,by rw[s7 (by omega)];exact hl,hb,hro⟩⟩
 ·have d1:decide (w.length≠m)=true:=Zj hw
  rw[show Sj l a m w=l by unfold Sj;rw[if_neg hw]]
  simp only[e1,eqn,ln,d1,Y7,c45,Yf,Xr,ZV,Xq]
  exact⟨_,_,rfl,k0.more,⟨⟨r,r1,r2,r3,r4,r5⟩,hl,hb,hro⟩⟩
def Zfy(a:AV)(H:Heap):OR:=y5 (λ_=>a) OM H
theorem tW(x:YG)(tm:TM)(H:Heap):y5 x tm H=Zfy (x tm) H:=rfl
theorem tJ{H:Heap}{b o n e:Nat}{c:Option Nat}{l:List AV}{ex:Bool}(g:H.t.get b=some (rG e 1 l 0 false true ex))(hro:H.ro<=b):Zfy (.slice b o n c) H=.val (.slice b o n c) (H.put b (rG e 1 l 0 true true ex)):=by
 show Xv H b (λr=>Z3 (cond r.sm false (H.may r b)) (Z3 (Nat.beq r.fz 0) (.val (.slice b o n c) (H.put b (.row ⟨r.elem,r.sz,r.size,r.cells,r.dflt,r.fz,true,r.own,r.exact⟩)))))=_
 unfold Xv
 rw[g]
 show Z3 (Nat.ble H.ro b) _=_
 rw[Zg hro];rfl
theorem p9{Zo:Lib}{fs:T CF}{fuel:Nat}(E:Env Zo fs fuel){k n:Nat}{H:Heap}{b:Nat}{sm ex:Bool}(GY:100<=H.nx)(hb:b<H.nx)(hro:H.ro<=H.nx)(g:H.t.get b=some (rG 5 1 [nI .u8 32] 0 sm true ex)):
  ∃q H',Z8 (LK Zo fs fuel k) fs fuel (n+2) 68 [.slice b 0 1 none,nI .i64 8] H=.ret (.slice q 0 8 (some 8)) H'∧BV H' (.slice q 0 8 (some 8)) (List.replicate 8 32)∧ZE H H' []∧H.nx<=q∧q<H'.nx:=by
 rw[Z7 (Z2 E.n68 (.inr rfl) _ _) E.f68]
 have em:=λ{j}=>OW (fs:=fs) (fuel:=fuel) (k:=k) (n:=j) (SR:=SR) (Qv:=Qv) (f:=83) rfl (E.ml H GY)
 have ez:=λ{j}=>OW (fs:=fs) (fuel:=fuel) (k:=k) (n:=j) (SR:=SR) (Qv:=Qv) (f:=88) rfl (E.mz 8 H (by decide))
 obtain⟨H1,hH1⟩: ∃G,H.new (.row ⟨5,1,8,.leaf,.unk,0,false,true,false⟩)=G:=⟨_,rfl⟩
 have Jh:H1.nx=H.nx+1:=by rw[<-hH1];rfl
 have FX:H1.ro=H.ro:=by rw[<-hH1];rfl
 have k1:ZE H H1 []:=by rw[<-hH1];exact ZE.new H _ []
 have g1:H1.t.get H.nx=some (.row ⟨5,1,8,.leaf,.unk,0,false,true,false⟩):=by rw[<-hH1];exact YB rfl _
 have gb1:H1.t.get b=some (rG 5 1 [nI .u8 32] 0 sm true ex):=by rw[k1.get b hb (by simp)];exact g
 obtain⟨r2,c2,C2,o2,f2,s2⟩:=MQ (b:=H.nx) (o:=0) (c:=b) (q:=0) (dn:=8) (sn:=1) (n:=1) (e1:=some 8) (e2:=none) g1 (oh 5 8) rfl (by rw[FX];exact hro) rfl gb1 (Fs 5 1 [nI .u8 32] 0 sm true ex) rfl (by decide) (by decide) (by decide)
 obtain⟨H2,hH2⟩: ∃G,H1.put H.nx (.row r2)=G:=⟨_,rfl⟩
 have g2:H2.t.get H.nx=some (.row r2):=by rw[<-hH2];exact XY _ _ _
 have nx2:H2.nx=H1.nx:=by rw[<-hH2];rfl
 have gj:H2.ro=H1.ro:=by rw[<-hH2];rfl
 rw[hH2] at c2
 obtain⟨r3,c3,C3,o3,f3,s3⟩:=MQ (b:=H.nx) (o:=1) (c:=H.nx) (q:=0) (dn:=7) (sn:=1) (n:=1) (e1:=some 7) (e2:=some 8) g2 C2 o2 (by rw[gj,FX];exact hro) f2 g2 C2 rfl (by decide) (by decide) (by decide)
 obtain⟨H3,hH3⟩: ∃G,H2.put H.nx (.row r3)=G:=⟨_,rfl⟩
 have g3:H3.t.get H.nx=some (.row r3):=by rw[<-hH3];exact XY _ _ _
 have nx3:H3.nx=H2.nx:=by rw[<-hH3];rfl
 have ro3:H3.ro=H2.ro:=by rw[<-hH3];rfl
 rw[hH3] at c3
 obtain⟨r4,c4,C4,o4,f4,s4⟩:=MQ (b:=H.nx) (o:=2) (c:=H.nx) (q:=0) (dn:=6) (sn:=2) (n:=2) (e1:=some 6) (e2:=some 8) g3 C3 o3 (by rw[ro3,gj,FX];exact hro) f3 g3 C3 rfl (by decide) (by decide) (by decide)
 obtain⟨H4,GZ⟩: ∃G,H3.put H.nx (.row r4)=G:=⟨_,rfl⟩
 have g4:H4.t.get H.nx=some (.row r4):=by rw[<-GZ];exact XY _ _ _
 have nx4:H4.nx=H3.nx:=by rw[<-GZ];rfl
 have ro4:H4.ro=H3.ro:=by rw[<-GZ];rfl
 rw[GZ] at c4
 obtain⟨r5,c5,C5,o5,f5,s5⟩:=MQ (b:=H.nx) (o:=4) (c:=H.nx) (q:=0) (dn:=4) (sn:=4) (n:=4) (e1:=some 4) (e2:=some 8) g4 C4 o4 (by rw[ro4,ro3,gj,FX];exact hro) f4 g4 C4 rfl (by decide) (by decide) (by decide)
 obtain⟨H5,hH5⟩: ∃G,H4.put H.nx (.row r5)=G:=⟨_,rfl⟩
 have g5:H5.t.get H.nx=some (.row r5):=by rw[<-hH5];exact XY _ _ _
 have nx5:H5.nx=H4.nx:=by rw[<-hH5];rfl
 rw[hH5] at c5
 have k5:ZE H H5 []:=by
  rw[<-hH5,<-GZ,<-hH3,<-hH2]
  exact(((k1.then_put (by omega)).then_put (by omega)).then_put (by omega)).then_put (by omega)
 have s30:lP (.slice H.nx 0 8 none) (nI .i64 8) (nI .i64 8) H1=.val (.slice H.nx 0 8 (some 8)) H1:=by
  show Xv H1 H.nx _=_
  unfold Xv
  rw[g1];rfl
 have sa2:Ss 1 (.slice H.nx 0 8 (some 8)) (some (nI .i64 1)) none ⟨H2.nx,H2.t,H2.nx⟩=.val (.slice H.nx 1 7 (some 7)) ⟨H2.nx,H2.t,H2.nx⟩:=by
  show Xv _ H.nx _=_
  unfold Xv
  rw[show(Heap.mk H2.nx H2.t H2.nx).t.get H.nx=_ from g2];rfl
 have sb2:Ss 1 (.slice H.nx 0 8 (some 8)) none (some (nI .i64 1)) ⟨H2.nx,H2.t,H2.nx⟩=.val (.slice H.nx 0 1 (some 8)) ⟨H2.nx,H2.t,H2.nx⟩:=by
  show Xv _ H.nx _=_
  unfold Xv
  rw[show(Heap.mk H2.nx H2.t H2.nx).t.get H.nx=_ from g2];rfl
 have sa3:Ss 1 (.slice H.nx 0 8 (some 8)) (some (nI .i64 2)) none ⟨H3.nx,H3.t,H3.nx⟩=.val (.slice H.nx 2 6 (some 6)) ⟨H3.nx,H3.t,H3.nx⟩:=by
  show Xv _ H.nx _=_
  unfold Xv
  rw[show(Heap.mk H3.nx H3.t H3.nx).t.get H.nx=_ from g3];rfl
 have sb3:Ss 1 (.slice H.nx 0 8 (some 8)) none (some (nI .i64 2)) ⟨H3.nx,H3.t,H3.nx⟩=.val (.slice H.nx 0 2 (some 8)) ⟨H3.nx,H3.t,H3.nx⟩:=by
  show Xv _ H.nx _=_
  unfold Xv
  rw[show(Heap.mk H3.nx H3.t H3.nx).t.get H.nx=_ from g3];rfl
 have sa4:Ss 1 (.slice H.nx 0 8 (some 8)) (some (nI .i64 4)) none ⟨H4.nx,H4.t,H4.nx⟩=.val (.slice H.nx 4 4 (some 4)) ⟨H4.nx,H4.t,H4.nx⟩:=by
  show Xv _ H.nx _=_
  unfold Xv
  rw[show(Heap.mk H4.nx H4.t H4.nx).t.get H.nx=_ from g4];rfl
 have sb4:Ss 1 (.slice H.nx 0 8 (some 8)) none (some (nI .i64 4)) ⟨H4.nx,H4.t,H4.nx⟩=.val (.slice H.nx 0 4 (some 8)) ⟨H4.nx,H4.t,H4.nx⟩:=by
  show Xv _ H.nx _=_
  unfold Xv
  rw[show(Heap.mk H4.nx H4.t H4.nx).t.get H.nx=_ from g4];rfl
 have hf:=E.big
 obtain⟨fu,rfl⟩: ∃fu,fuel=fu+4:=⟨fuel - 4,by omega⟩
 have b1: ∀G:Heap,MU UB false (nI .i64 8) (nI .i64 0) G=.val (.bool false) G:=λG=>rfl
 have b2: ∀G:Heap,Te Wf Xo (nI .i64 8) (nI .i64 0) G=.val (.bool false) G:=λG=>rfl
 have b3: ∀G:Heap,PS .u64 (nI .i64 1) G=.val (nI .u64 1) G:=λG=>rfl
 have b4: ∀G:Heap,PS .u64 (nI .i64 8) G=.val (nI .u64 8) G:=λG=>rfl
 have b5: ∀G:Heap,Te SQ VW (nI .u64 0) (nI .u64 0) G=.val (.bool false) G:=λG=>rfl
 have b6: ∀G:Heap,Te SQ VW (nI .u64 8) (nI .u64 9223372036854775807) G=.val (.bool false) G:=λG=>rfl
 have b7: ∀G:Heap,PS .i64 (nI .u64 8) G=.val (nI .i64 8) G:=λG=>rfl
 have b8: ∀G:Heap,MU UB false (nI .i64 1) (nI .i64 0) G=.val (.bool false) G:=λG=>rfl
 have b9: ∀G:Heap,Te SQ VW (nI .i64 8) (nI .i64 8192) G=.val (.bool false) G:=λG=>rfl
 have m1: ∀G:Heap,zu false [nI .i64 1,nI .i64 8] G=.val (nI .i64 1) G:=λG=>rfl
 have m2: ∀G:Heap,zu false [nI .i64 2,nI .i64 8] G=.val (nI .i64 2) G:=λG=>rfl
 have m4: ∀G:Heap,zu false [nI .i64 4,nI .i64 8] G=.val (nI .i64 4) G:=λG=>rfl
 have l1: ∀G:Heap,Te Wf Xo (nI .i64 1) (nI .i64 8) G=.val (.bool true) G:=λG=>rfl
 have l2: ∀G:Heap,Te Wf Xo (nI .i64 2) (nI .i64 8) G=.val (.bool true) G:=λG=>rfl
 have l4: ∀G:Heap,Te Wf Xo (nI .i64 4) (nI .i64 8) G=.val (.bool true) G:=λG=>rfl
 have l8: ∀G:Heap,Te Wf Xo (nI .i64 8) (nI .i64 8) G=.val (.bool false) G:=λG=>rfl
 have a1: ∀G:Heap,RI (nI .i64 1) (nI .i64 1) G=.val (nI .i64 2) G:=λG=>rfl
 have a2: ∀G:Heap,RI (nI .i64 2) (nI .i64 2) G=.val (nI .i64 4) G:=λG=>rfl
 have a4: ∀G:Heap,RI (nI .i64 4) (nI .i64 4) G=.val (nI .i64 8) G:=λG=>rfl
 simp(maxSteps:=4000000) (disch:=first|assumption|omega|(simp -implicitDefEqProofs only[Xl,Xm]<;>first|assumption|omega)|decide) only[em,ez,hH1,s30,c2,c3,c4,c5,sa2,sb2,sa3,sb3,sa4,sb4,b1,b2,b3,b4,b5,b6,b7,b8,b9,m1,m2,m4,l1,l2,l4,l8,a1,a2,a4,Ml,Po,It,RZ,Zz,ZH,XG,VI,YL,Yp,Yj,Yx,Ye,ZM,ZK,Zy,ZJ,YN,Y7,YE,Xa,YR,Yy,ZP,Ya,Yb,YV,Nat.reduceSub,Nat.reduceAdd,Nat.reduceLeDiff,ZB,ZL,Nat.reduceEqDiff,decide_true,decide_false,c68,ed,Yf,Xr,ZV,Yv,Z0,Z1,Yc,Nat.reducePow,Nat.reduceDiv,Nat.reduceMod,Nat.reduceEqDiff,reduceCtorEq,Xq,TB,K1]
 refine⟨H.nx,_,rfl,um g5 C5 (by rw[s5,s4,s3,s2]) (by omega) rfl (λk h=>by cases h;decide),k5,Zq _,by omega⟩
theorem th{Zo:Lib}{fs:T CF}{fuel:Nat}(E:Env Zo fs fuel){n:Nat}{s:List UInt8}{H:Heap}:
  ∃H',Z8 (LK Zo fs fuel 1) fs fuel (n+2) 102 [.str s,.str [0]] H=.ret (mI (Tg 0 s)) H'∧ZE H H' []:=by
 rw[Z7 (Z2 E.n102 (.inl (by decide)) _ _) E.f102]
 have e1:=λ{j}=>bK E (k:=1) (n:=j) (by decide) (s:=s) (x:=0) (H:=H) (by decide)
 have wl:([0]:List UInt8).length=1:=rfl
 have w0:([0]:List UInt8).getD 0 0=0:=rfl
 have w1:(0:UInt8).toNat=0:=rfl
 by_cases h:([0]:List UInt8)=s
 ·have d_h:decide (([0]:List UInt8)=s)=true:=Zj h
  simp only[wl,d_h,YN,YE,ZP,decide_false,qA,Yf,Xr,ZV,reduceCtorEq,Xq]
  subst h
  refine⟨_,rfl,?_⟩
  exact ZE.refl _ _
 ·have d_h:decide (([0]:List UInt8)=s)=false:=Ze h
  simp(disch:=omega) only[wl,w0,w1,e1,d_h,Ye,YN,YE,ZP,decide_true,decide_false,qA,Yf,Xr,ZV,reduceCtorEq,Xq]
  refine⟨_,rfl,?_⟩
  exact ZE.refl _ _
theorem Zde{Zo:Lib}{fs:T CF}{fuel:Nat}(E:Env Zo fs fuel){k n:Nat}(hk:2<=k){s:List UInt8}{H:Heap}:
  Z8 (LK Zo fs fuel k) fs fuel (n+1) 102 [.str s,.str [0]] H=.ret (mI (Tg 0 s)) H:=by
 obtain⟨H',e,g⟩:=th E (n:=898) (H:=H)
 exact Xp (r:=1) rfl rfl e g (Mm _ _) hk
theorem q9{Zo:Lib}{fs:T CF}{fuel:Nat}(E:Env Zo fs fuel){n:Nat}{s:List UInt8}{H:Heap}:
  ∃H',Z8 (LK Zo fs fuel 2) fs fuel (n+2) 82 [.str s,.str [0]] H=.ret (mI (Tg 0 s)) H'∧ZE H H' []:=by
 rw[Z7 (Z2 E.n82 (.inl (by decide)) _ _) E.f82]
 have e1:=λ{j}=>Zde E (k:=2) (n:=j) (by decide) (s:=s) (H:=H)
 simp only[e1,c82,Yf,Xr,ZV,Xq]
 refine⟨_,rfl,?_⟩
 exact ZE.refl _ _
theorem Zg8{Zo:Lib}{fs:T CF}{fuel:Nat}(E:Env Zo fs fuel){k n:Nat}(hk:3<=k){s:List UInt8}{H:Heap}:
  Z8 (LK Zo fs fuel k) fs fuel (n+1) 82 [.str s,.str [0]] H=.ret (mI (Tg 0 s)) H:=by
 obtain⟨H',e,g⟩:=q9 E (n:=898) (H:=H)
 exact Xp (r:=2) rfl rfl e g (Mm _ _) hk
theorem bp{Zo:Lib}{fs:T CF}{fuel:Nat}(E:Env Zo fs fuel){n:Nat}{s:List UInt8}{H:Heap}:
  ∃H',Z8 (LK Zo fs fuel 3) fs fuel (n+2) 65 [.str s,.str [0]] H=.ret (.bool (decide (0<Tg 0 s))) H'∧ZE H H' []:=by
 rw[Z7 (Z2 E.n65 (.inl (by decide)) _ _) E.f65]
 have e1:=λ{j}=>Zg8 E (k:=3) (n:=j) (by decide) (s:=s) (H:=H)
 simp only[e1,X7,c65,Yf,Xr,ZV,Xq]
 refine⟨_,rfl,?_⟩
 exact ZE.refl _ _
theorem Zn7{Zo:Lib}{fs:T CF}{fuel:Nat}(E:Env Zo fs fuel){k n:Nat}(hk:4<=k){s:List UInt8}{H:Heap}:
  Z8 (LK Zo fs fuel k) fs fuel (n+1) 65 [.str s,.str [0]] H=.ret (.bool (decide (0<Tg 0 s))) H:=by
 obtain⟨H',e,g⟩:=bp E (n:=898) (H:=H)
 exact Xp (r:=3) rfl rfl e g (rfl) hk
def Oj(s:List UInt8)(n:Nat):List UInt8:=if 0<Tg 0 s then [] else if n<s.length then [] else s++List.replicate (n - s.length) 0
def Nu(u n:Nat):List UInt8:=if n - 1<(QF u).length then [] else List.replicate (n - 1 - (QF u).length) 48++QF u++[0]
theorem Zii{Zo:Lib}{fs:T CF}{fuel:Nat}(E:Env Zo fs fuel){k n:Nat}(hk:4<=k){H:Heap}{s:List UInt8}{m:Nat}(hro:H.ro<=H.nx)(hs:s.length<=90000)(h1:1<=m)(h2:m<=512):
  ∃v z H',Z8 (LK Zo fs fuel k) fs fuel (n+2) 47 [.str s,nI .i64 m] H=.ret (.tup [v,z]) H'∧BV H' v (Oj s m)∧ZE H H' []∧ ∀b o q c,v=.slice b o q c->b<H'.nx:=by
 rw[Z7 (Z2 E.n47 (.inr rfl) _ _) E.f47]
 have ec:=λ{j}=>Zn7 E (k:=k) (n:=j) hk (s:=s) (H:=H)
 have d1:decide (m<1)=false:=Ze (by omega)
 have d2:decide (512<m)=false:=Ze (by omega)
 by_cases hz:0<Tg 0 s
 ·have d3:decide (0<Tg 0 s)=true:=Zj hz
  rw[show Oj s m=[] by unfold Oj;rw[if_pos hz]]
  simp only[ec,d1,d2,d3,Zy,ZJ,Zy,ZJ,c47,Yf,Xr,ZV,Xq]
  refine⟨_,_,_,rfl,?_⟩
  exact⟨.inl ⟨rfl,.inl rfl⟩,ZE.refl _ _,λb o q c h=>by cases h⟩
 have d3:decide (0<Tg 0 s)=false:=Ze hz
 by_cases hl:m<s.length
 ·have d4:decide (m<s.length)=true:=Zj hl
  rw[show Oj s m=[] by unfold Oj;rw[if_neg hz,if_pos hl]]
  simp only[ec,d1,d2,d3,d4,Zy,ZJ,ZP,Zy,ZJ,c47,Yf,Xr,ZV,Xq]
  refine⟨_,_,_,rfl,?_⟩
  exact⟨.inl ⟨rfl,.inl rfl⟩,ZE.refl _ _,λb o q c h=>by cases h⟩
 have d4:decide (m<s.length)=false:=Ze hl
 have gb:=dI (H:=H) (s:=s) hro (Zq _) true
 obtain⟨H1,hH1⟩: ∃G,H.new (rG 5 1 (s.map X8) 0 true true false)=G:=⟨_,rfl⟩
 have k1:ZE H H1 []:=by rw[<-hH1];exact ZE.new _ _ _
 have Jh:H1.nx=H.nx+1:=by rw[<-hH1];rfl
 have FX:H1.ro=H.ro:=by rw[<-hH1];rfl
 rw[hH1] at gb
 obtain⟨v,H2,e2,Gj,k2,_⟩:=nG gb (by omega) (by omega) (m - s.length) (by omega)
 have sb: ∀G,J8 (nI .i64 m) (nI .i64 s.length) G=.val (nI .i64 (m - s.length)) G:=λG=>YR (by omega) (by omega) G
 rw[show Oj s m=s++List.replicate (m - s.length) 0 by unfold Oj;rw[if_neg hz,if_neg hl]]
 simp only[ec,d1,d2,d3,d4,hH1,e2,sb,Zy,ZJ,ZP,Zy,ZJ,YA,YH,YZ,c47,Yf,Xr,ZV,Xq]
 refine⟨_,_,_,rfl,Gj.bv,k1.trans k2 (λc hc hlt=>?_),λb o q c h=>?_⟩
 ·have:=(gb.blk c hc).1;omega
 ·subst h;exact(Gj.blk b (by simp[WK])).2
theorem lB{Zo:Lib}{fs:T CF}{fuel:Nat}(E:Env Zo fs fuel){k n:Nat}(hk:4<=k){H:Heap}{u m:Nat}(g:P8 H)(hro:H.ro<=H.nx)(hu:u<9223372036854775808)(h1:2<=m)(h2:m<=20):
  ∃v H',Z8 (LK Zo fs fuel k) fs fuel (n+2) 48 [nI .i64 u,nI .i64 m] H=.ret (.tup [v,nI .i64 (if m - 1<(QF u).length then 3 else 0)]) H'∧BV H' v (Nu u m)∧ZE H H' []∧(∀b o q c,v=.slice b o q c->b<H'.nx)∧(¬m - 1<(QF u).length->GB H' v (Nu u m) H.nx):=by
 rw[Z7 (Z2 E.n48 (.inr rfl) _ _) E.f48]
 have ef:=λ{j}=>Zla E (k:=k) (n:=j) (by omega) (u:=u) (H:=H) g hro hu
 have e0: ∀{j},Z8 (LK Zo fs fuel k) fs fuel (j+1) 66 [nI .i64 m] H=.ret (.bool true) H:=λ{j}=>by
  rw[Z7 (Z2 E.n66 (.inr rfl) _ _) E.f66]
  have d1:decide (2<=m)=true:=Zj h1
  have d2:decide (m<=20)=true:=Zj h2
  simp only[d1,d2,ZM,ZK,ZK,ZM,c66,Yf,Xr,ZV,Xq]
 have d3:decide (u<0)=false:=Ze (SH _)
 have sb: ∀G,J8 (nI .i64 m) (nI .i64 1) G=.val (nI .i64 (m - 1)) G:=λG=>YR (by omega) (by omega) G
 by_cases hl:m - 1<(QF u).length
 ·have d4:decide (m - 1<(QF u).length)=true:=Zj hl
  rw[show Nu u m=[] by unfold Nu;rw[if_pos hl],if_pos hl]
  simp only[ef,e0,d3,d4,sb,Zy,ZJ,ZP,Zy,ZJ,c48,Yf,Xr,ZV,Yv,Xq]
  refine⟨_,_,rfl,?_⟩
  exact⟨.inl ⟨rfl,.inl rfl⟩,ZE.refl _ _,λb o q c h=>by(cases h),λh=>absurd hl h⟩
 have d4:decide (m - 1<(QF u).length)=false:=Ze hl
 have sb2: ∀G,J8 (nI .i64 (m - 1)) (nI .i64 (QF u).length) G=.val (nI .i64 (m - 1 - (QF u).length)) G:=λG=>YR (by omega) (by omega) G
 have er:=λ{j}=>OW (fs:=fs) (fuel:=fuel) (k:=k) (n:=j) (SR:=SR) (Qv:=Qv) (f:=67) rfl (E.rz (m - 1 - (QF u).length) H g.1 (by omega))
 have a1:=λG=>Lu (a:=List.replicate (m - 1 - (QF u).length) 48) (b:=QF u) (by rw[Yu];omega) G
 have a2:=λG=>Lu (a:=List.replicate (m - 1 - (QF u).length) 48++QF u) (b:=[0]) (by rw[Zm,Yu];show _+1<=_;omega) G
 have gb:=dI (H:=H) (s:=Nu u m) hro (Zq _) true
 rw[show Nu u m=List.replicate (m - 1 - (QF u).length) 48++QF u++[0] by unfold Nu;rw[if_neg hl]] at gb ⊢
 rw[if_neg hl]
 simp only[ef,e0,d3,d4,sb,sb2,er,a1,a2,Zy,ZJ,ZP,Zy,ZJ,YH,YZ,c48,Yf,Xr,ZV,Yv,Xq]
 refine⟨_,_,rfl,?_⟩
 exact⟨gb.bv,ZE.new _ _ _,λb o q c h=>by cases h;exact YK _,λ_=>gb⟩
theorem A4{Zo:Lib}{fs:T CF}{fuel:Nat}(E:Env Zo fs fuel){k n:Nat}(hk:4<=k){H:Heap}{nm l:List UInt8}{a m b:Nat}{s:List UInt8}(gH:Su H)(F:zK nm a m)(g:HR H b l)(hs:s.length<=90000):
  ∃H',Z8 (LK Zo fs fuel k) fs fuel (n+4) 23 [.ptr b 0,.str nm,.str s] H=.ret (.tup []) H'∧ZE H H' [b]∧HR H' b (Sj l a m (Oj s m)):=by
 rw[Z7 (Z2 E.n23 (.inr rfl) _ _) E.f23]
 have h1:=F.pos;have h2:=F.le
 obtain⟨v0,H1,e1,bv1,k1,_⟩:=yd E (k:=k) (n:=n) gH F g
 have hl:=g.len;have hb:=g.lt;have hro:=g.ro
 have ln:=bv1.len
 rw[show((l.drop a).take m).length=m by rw[Z4,YW];omega] at ln
 have hx1:=k1.nx
 obtain⟨v,z,H2,e2,bv2,k2,_⟩:=Zii E (k:=k) (n:=n+1) hk (H:=H1) (s:=s) (m:=m) (by rw[k1.ro];omega) hs h1 (by omega)
 have k12:ZE H H2 []:=k1.trans' k2
 obtain⟨z2,H3,e3,k3,g3⟩:=IB E (k:=k) (n:=n+1) (b:=b) (l:=l) (gH.keep0 k12) F (g.keep0 k12) bv2
 simp only[e1,ln,e2,e3,Us,Vk,Zd,Zd,Zd,c23,Yf,Xr,ZV,Xq]
 refine⟨_,rfl,?_⟩
 exact⟨k12.trans' k3,g3⟩
theorem Is{Zo:Lib}{fs:T CF}{fuel:Nat}(E:Env Zo fs fuel){k n:Nat}(hk:4<=k){H:Heap}{nm l:List UInt8}{a m b:Nat}{u:Nat}(gH:Su H)(F:zK nm a m)(g:HR H b l)(hu:u<9223372036854775808)(h3:2<=m)(h4:m<=20):
  ∃H',Z8 (LK Zo fs fuel k) fs fuel (n+4) 24 [.ptr b 0,.str nm,nI .i64 u] H=.ret (.tup []) H'∧ZE H H' [b]∧HR H' b (Sj l a m (Nu u m)):=by
 rw[Z7 (Z2 E.n24 (.inr rfl) _ _) E.f24]
 have h1:=F.pos;have h2:=F.le
 obtain⟨v0,H1,e1,bv1,k1,_⟩:=yd E (k:=k) (n:=n) gH F g
 have hl:=g.len;have hb:=g.lt;have hro:=g.ro
 have ln:=bv1.len
 rw[show((l.drop a).take m).length=m by rw[Z4,YW];omega] at ln
 have hx1:=k1.nx
 obtain⟨v,H2,e2,bv2,k2,_⟩:=lB E (k:=k) (n:=n+1) hk (H:=H1) (u:=u) (m:=m) (gH.keep0 k1).g (by rw[k1.ro];omega) hu h3 h4
 have k12:ZE H H2 []:=k1.trans' k2
 obtain⟨z2,H3,e3,k3,g3⟩:=IB E (k:=k) (n:=n+1) (b:=b) (l:=l) (gH.keep0 k12) F (g.keep0 k12) bv2
 simp only[e1,ln,e2,e3,Us,Vk,Zd,Zd,Zd,c24,Yf,Xr,ZV,Xq]
 refine⟨_,rfl,?_⟩
 exact⟨k12.trans' k3,g3⟩
theorem gQ{n b:Nat}{l vs:List AV}{r:Row}{H:Heap}(hc:Cells r l)(hl:l.length=n)(hv:vs.length=n)(hn:1<=n)(how:r.own=true)(hfz:r.fz=0)(hro:H.ro<=b):
  ∃r',oA n (some (.row r)) b 0 (.agg vs) H=.val XE (H.put b (.row r'))∧Cells r' vs∧r'.own=true∧r'.fz=0∧r'.sz=r.sz:=by
 have hcs:=Jp (o:=0) (new:=vs) hc (by omega)
 rw[ZI,Zx,Vt (by omega),Zr] at hcs
 refine⟨_,?_,hcs,how,hfz,rfl⟩
 show Z3 (Nat.ble 1 n) (Z3 (H.may r b) (Z3 (Nat.ble (0+n) r.size) (Z3 (Nat.ble r.fz 0) (Z3 (Nat.beq (Xc vs) n) _))))=_
 have h1:H.may r b=true:=by unfold Heap.may;rw[how,Zg hro];rfl
 rw[Zg hn,h1,hc.size,Zg (by omega),hfz,Xb,hv,Xd];rfl
theorem yW{n:Nat}{l:List AV}{r:Row}(hc:Cells r l)(hl:l.length=n)(G:Heap):wZ n (some (.row r)) 0 G=.val (.agg l) G:=by
 show Z3 (Nat.ble (Nat.add 0 n) r.size) (.val (.agg (Vr r 0 n)) G)=_
 rw[hc.size,Zg (by show 0+n<=_;omega),hc.load (by omega),ZC,YS (by omega)];rfl
def Hi:List UInt8:=List.replicate 512 0
theorem Kb:Hi.length=512:=by unfold Hi;rw[Yu]
theorem oi(e:Nat):Cells ⟨e,1,512,.leaf,nI .u8 0,0,false,true,true⟩ (Hi.map X8):=by
 have h:Hi.map X8=List.replicate 512 (nI .u8 0):=by unfold Hi;rw[VM];rfl
 refine⟨by rw[Zt,Kb],λi hi=>?_⟩
 rw[Zt,Kb] at hi
 rw[h,Row.get_eq,Zf,Wp,if_pos hi]
 show(T.leaf.get i).getD (nI .u8 0)=nI .u8 0
 rw[T.get_leaf];rfl
def Er(n:Nat)(a i:AV)(H:Heap):OR:=SX i λi=>DJ a λcs=>Z3 (Nat.ble (Nat.succ i) n) (Sr (Fa cs i) λv=>.val v H)
theorem DH(x y:YG)(n:Nat)(tm:TM)(H:Heap):Fd x y n tm H=Er n (x tm) (y tm) H:=rfl
theorem jL{n i:Nat}{l:List UInt8}(hl:l.length=n)(hi:i<n)(k:IntKind)(H:Heap):Er n (.agg (l.map X8)) (nI k i) H=.val (X8 (l.getD i 0)) H:=by
 show Z3 (Nat.ble (Nat.succ i) n) (Sr (Fa (l.map X8) i) λv=>.val v H)=_
 rw[Zg hi]
 have:Fa (l.map X8) i=some (X8 (l.getD i 0)):=by
  rw[Ir,YO,Zf,Zn (by omega)];rfl
 rw[this];rfl
def Cr(l:List UInt8):Nat:=(l.map (·.toNat)).sum
theorem kz(l:List UInt8):Cr l<=255*l.length:=by
 unfold Cr
 induction l with
 |nil=>exact Zq _
 |cons a l ih=>
  rw[Zz,List.sum_cons,Zl]
  have:a.toNat<256:=a.toNat_lt
  omega
theorem gV{l:List UInt8}{i:Nat}(h:i<l.length):Cr (l.take (i+1))=Cr (l.take i)+(l.getD i 0).toNat:=by
 unfold Cr
 rw[UA,Zf,Zn h,Xe,List.sum_append];simp
def Bg(l:List UInt8):Nat:=Cr (Sj l 148 8 (List.replicate 8 32))
theorem fT{l:List UInt8}(hl:l.length=512):Bg l<=130560:=by
 have h:=kz (Sj l 148 8 (List.replicate 8 32))
 rw[s6 (by omega),hl] at h
 exact h
structure SMI(Hs:Heap)(l:List UInt8)(m:Nat)(tm:TM)(H:Heap):Prop where
 h:H=Hs
 t16:Ww tm=.agg (l.map X8)
 i: ∃i,WW tm=nI .i64 i∧i+m=512∧XQ tm=nI .i64 (Cr (l.take i))
def SMQ(Hs:Heap)(l:List UInt8)(o:Out)(tm:TM)(H:Heap):Prop:=o=.exit 0∧H=Hs∧XQ tm=nI .i64 (Cr l)
theorem ZeG{l:List UInt8}(hl:l.length=512){Hs:Heap}(cx:Ctx)(X0:X)(m:Nat)(tm:TM)(H:Heap)(hI:SMI Hs l m tm H):
  ∃o tm' H',Bn cx tm H X0=.ok o tm' H' X0∧((o=.normal∧ ∃k,k<m∧SMI Hs l k tm' H')∨(o≠.normal∧SMQ Hs l o tm' H')):=by
 obtain⟨rfl,t16,i,t17,him,t4⟩:=hI
 have ZeK:=t16;have x7:=t4
 simp only[TG] at t4
 simp only[Dv] at t16
 simp only[yL] at t17
 cases m with
 |zero=>
  have d1:decide (i<512)=false:=Ze (by omega)
  simp only[t17,d1,Zy,Zy,Bn,Yf,Xr,Xq]
  refine⟨_,_,_,rfl,.inr ⟨by simp,rfl,rfl,?_⟩⟩
  rw[show Cr l=Cr (l.take i) by rw[YS (by omega)]]
  simp only[Xq,Xr];exact t4
 |succ m=>
  have d1:decide (i<512)=true:=Zj (by omega)
  have ia:=λG=>jL (l:=l) (i:=i) hl (by omega) .i64 G
  have iv: ∀G,PS .i64 (X8 (l.getD i 0)) G=.val (nI .i64 (l.getD i 0).toNat) G:=λG=>Sb (by have:=(l.getD i 0).toNat_lt;omega) G
  have hsm:=kz (l.take i)
  rw[Z4] at hsm
  have hx:=(l.getD i 0).toNat_lt
  have ad: ∀G,RI (nI .i64 (Cr (l.take i))) (nI .i64 (l.getD i 0).toNat) G=.val (nI .i64 (Cr (l.take i)+(l.getD i 0).toNat)) G:=λG=>Yy (by omega) G
  simp(disch:=omega) only[t4,t16,t17,d1,ia,iv,ad,DH,Zy,Yy,Zy,Bn,Yf,Xr,Xq]
  refine⟨_,_,_,rfl,?_⟩
  exact .inl ⟨rfl,m,by omega,rfl,ZeK,i+1,rfl,by omega,by rw[gV (by omega)];rfl⟩
theorem fU{Zo:Lib}{fs:T CF}{fuel:Nat}(E:Env Zo fs fuel){k n:Nat}{H:Heap}{b:Nat}{l:List UInt8}(gH:Su H)(g:HR H b l):
  ∃H',Z8 (LK Zo fs fuel k) fs fuel (n+4) 49 [.ptr b 0] H=.ret (nI .i64 (Bg l)) H'∧ZE H H' []:=by
 rw[Z7 (Z2 E.n49 (.inr rfl) _ _) E.f49]
 have GY:=gH.p.nx
 obtain⟨⟨r,r1,r2,r3,r4,r5⟩,hl,hb,hro⟩:=g
 have lm:(l.map X8).length=512:=by rw[Zt];exact hl
 have eqp: ∀(o:Nat) G,MU qN false (.ptr b o) .nilp G=.val (.bool false) G:=λ_ _=>rfl
 have ld:=λG=>yW (n:=512) r2 lm G
 obtain⟨H1,hH1⟩: ∃G,H.new (.row ⟨65,1,512,.leaf,nI .u8 0,0,false,true,true⟩)=G:=⟨_,rfl⟩
 have k1:ZE H H1 []:=by rw[<-hH1];exact ZE.new _ _ _
 have Jh:H1.nx=H.nx+1:=by rw[<-hH1];rfl
 have FX:H1.ro=H.ro:=by rw[<-hH1];rfl
 have g1:H1.t.get H.nx=some (.row ⟨65,1,512,.leaf,nI .u8 0,0,false,true,true⟩):=by rw[<-hH1];exact YB rfl _
 obtain⟨q,e2,q1,q2,q3,q4⟩:=gQ (n:=512) (b:=H.nx) (H:=H1) (oi 65) (by rw[Zt,Kb]) lm (by decide) rfl rfl (by omega)
 obtain⟨H2,hH2⟩: ∃G,H1.put H.nx (.row q)=G:=⟨_,rfl⟩
 rw[hH2] at e2
 have k2:ZE H H2 []:=by rw[<-hH2];exact k1.then_put (by omega)
 have nx2:H2.nx=H.nx+1:=by rw[<-hH2];exact Jh
 have gj:H2.ro=H.ro:=by rw[<-hH2];exact FX
 have R2:HR H2 H.nx l:=⟨⟨q,by rw[<-hH2];exact XY _ _ _,q1,q2,q3,q4⟩,hl,by omega,by omega⟩
 obtain⟨H3,hH3⟩: ∃G,H2.new (rG 5 1 [nI .u8 32] 0 false true true)=G:=⟨_,rfl⟩
 have k23:ZE H2 H3 []:=by rw[<-hH3];exact ZE.new _ _ _
 have nx3:H3.nx=H2.nx+1:=by rw[<-hH3];rfl
 have ro3:H3.ro=H2.ro:=by rw[<-hH3];rfl
 have g3:H3.t.get H2.nx=some (rG 5 1 [nI .u8 32] 0 false true true):=by rw[<-hH3];exact YB rfl _
 have mk:=tJ (o:=0) (n:=1) (c:=none) g3 (by omega)
 obtain⟨H4,GZ⟩: ∃G,H3.put H2.nx (rG 5 1 [nI .u8 32] 0 true true true)=G:=⟨_,rfl⟩
 rw[GZ] at mk
 have k24:ZE H2 H4 []:=by rw[<-GZ];exact k23.then_put (by omega)
 have nx4:H4.nx=H3.nx:=by rw[<-GZ];rfl
 have ro4:H4.ro=H3.ro:=by rw[<-GZ];rfl
 obtain⟨q5,H5,e5,bv5,tu,f5,f5'⟩:=p9 E (k:=k) (n:=n+1) (H:=H4) (b:=H2.nx) (sm:=true) (ex:=true) (by omega) (by omega) (by omega) (by rw[<-GZ];exact XY _ _ _)
 have k25:ZE H2 H5 []:=k24.trans' tu
 have k05:ZE H H5 []:=k2.trans' k25
 obtain⟨z6,H6,e6,qj,R6⟩:=IB E (k:=k) (n:=n+1) (b:=H.nx) (l:=l) (gH.keep0 k05) uA (R2.keep0 k25) bv5
 have k06:ZE H H6 []:=k05.trans qj (λx hx hlt=>by have:=ZG.1 hx;omega)
 obtain⟨⟨s,s1,s2,s3,s4,s5⟩,jI,hb6,hro6⟩:=R6
 have lm6:((Sj l 148 8 (List.replicate 8 32)).map X8).length=512:=by rw[Zt];exact jI
 have ld6:=λG=>yW (n:=512) s2 lm6 G
 have bs: ∀G:Heap,UL 5 1 1 [nI .u8 0] [(0,1,nI .u8 32)] G=.val (.slice G.nx 0 1 none) (G.new (rG 5 1 [nI .u8 32] 0 false true true)):=λG=>rfl
 have hf:=E.big
 simp only[eqp,r1,ld,hH1,g1,e2,bs,hH3,mk,e5,e6,s1,ld6,tW,ZX,Us,ZX,Zz,ZH,c49,Yf,Xr,Xq]
 generalize hL:WP (Bn _) fuel _ _ _=L
 obtain⟨o,KO,H7,rfl,_,rfl,rfl,t4⟩:=Wd (P:=λT=>SMI H6 (Sj l 148 8 (List.replicate 8 32)) 512 T H6) (Q:=SMQ H6 (Sj l 148 8 (List.replicate 8 32)))
  (λT hi=>Wo (SMI H6 (Sj l 148 8 (List.replicate 8 32))) (SMQ H6 (Sj l 148 8 (List.replicate 8 32))) (λm tm H' h=>ZeG jI _ _ m tm H' h) fuel 512 T H6 (by omega) hi) hL
  (by exact⟨rfl,rfl,0,rfl,rfl,rfl⟩)
 simp only[TG] at t4
 simp only[t4,Yf,Xr,ZV,Xq]
 refine⟨_,rfl,?_⟩
 exact k06
def DQ(l:List UInt8):List UInt8:=Sj l 148 8 (Nu (Bg l) 7++[32])
theorem sY{Zo:Lib}{fs:T CF}{fuel:Nat}(E:Env Zo fs fuel){k n:Nat}(hk:4<=k){H:Heap}{b:Nat}{l:List UInt8}(gH:Su H)(g:HR H b l):
  ∃H',Z8 (LK Zo fs fuel k) fs fuel (n+5) 25 [.ptr b 0] H=.ret (.tup []) H'∧ZE H H' [b]∧HR H' b (DQ l):=by
 rw[Z7 (Z2 E.n25 (.inr rfl) _ _) E.f25]
 have hb:=g.lt;have hro:=g.ro;have hl:=g.len
 obtain⟨H1,e1,k1⟩:=fU E (k:=k) (n:=n) gH g
 have hx1:=k1.nx
 have hs:=fT hl
 have hlen: ¬7 - 1<(QF (Bg l)).length:=by
  have:=sk 6 (Bg l) (by decide) (TZ hs (by decide))
  omega
 obtain⟨v,H2,e2,bv2,k12,_,Gj⟩:=lB E (k:=k) (n:=n+2) hk (H:=H1) (u:=Bg l) (m:=7) (gH.keep0 k1).g (by rw[k1.ro];omega) (by omega) (by decide) (by decide)
 rw[if_neg hlen] at e2
 have Gj:=Gj hlen
 have k2:ZE H H2 []:=k1.trans' k12
 have hxx:=k12.nx
 obtain⟨H3,hH3⟩: ∃G,H2.new (rG 5 1 [nI .u8 32] 0 false true true)=G:=⟨_,rfl⟩
 have k23:ZE H2 H3 []:=by rw[<-hH3];exact ZE.new _ _ _
 have nx3:H3.nx=H2.nx+1:=by rw[<-hH3];rfl
 have ro3:H3.ro=H.ro:=by rw[<-hH3];exact k2.ro
 have g3:H3.t.get H2.nx=some (rG 5 1 [nI .u8 32] 0 false true true):=by rw[<-hH3];exact YB rfl _
 have bv3:=Bh (H:=H3) (b:=H2.nx) (a:=0) (n:=1) (c:=none) (l:=[32]) g3 (by omega) (by decide) (by decide) (λk h=>by cases h)
 have lo7:(Nu (Bg l) 7).length<=100:=by
  unfold Nu
  rw[if_neg hlen,Zm,Zm,Yu];show _+1<=_;omega
 obtain⟨v4,H4,e4,gb4,v7,bk4⟩:=uE (Gj.keep k23 (λ_ _=>by simp)) bv3 (by omega) (by omega) (by show _+1<=_;omega)
 have k14:ZE H1 H4 []:=(k12.trans' k23).trans v7 (λx hx hlt=>by have:=(Gj.blk x hx).1;omega)
 have k4:ZE H H4 []:=k1.trans' k14
 obtain⟨z5,H5,e5,tu,R5⟩:=IB E (k:=k) (n:=n+2) (b:=b) (l:=l) (gH.keep0 k4) uA (g.keep0 k4) gb4.bv
 have bs: ∀G:Heap,UL 5 1 1 [nI .u8 0] [(0,1,nI .u8 32)] G=.val (.slice G.nx 0 1 none) (G.new (rG 5 1 [nI .u8 32] 0 false true true)):=λG=>rfl
 simp only[e1,e2,bs,hH3,e4,e5,ZX,ZW,YN,decide_true,ZX,ZW,Zz,ZH,c25,Yf,Xr,ZV,Xq]
 refine⟨_,rfl,?_⟩
 exact⟨k4.trans' tu,R5⟩
def F3(t:Nat):List UInt8:=Sj (Sj (Sj Hi 257 6 (Oj [117,115,116,97,114] 6)) 263 2 [48,48]) 156 1 [UInt8.ofNat t]
theorem ZeU:zf=Hi.map X8:=by unfold zf Hi;rw[VM];rfl
theorem zR{Zo:Lib}{fs:T CF}{fuel:Nat}(E:Env Zo fs fuel){k n:Nat}(hk:4<=k){H:Heap}{t:Nat}(ht:t<256)(gH:Su H):
  ∃H',Z8 (LK Zo fs fuel k) fs fuel (n+5) 22 [nI .u8 t] H=.ret (.ptr H.nx 0) H'∧ZE H H' []∧HR H' H.nx (F3 t):=by
 rw[Z7 (Z2 E.n22 (.inr rfl) _ _) E.f22]
 have hro:=gH.p.ro;have GY:=gH.p.nx
 have bd: ∀G:Heap,Rz zf [] G=.val (.agg zf) G:=λG=>by unfold zf;rw[Wl,MP];rfl
 have bx: ∀G:Heap,II 67 (.agg zf) G=.val (.ptr G.nx 0) (G.new (rG 67 1 zf 0 false true true)):=λG=>V7 (l:=zf) (by unfold zf;rw[Yu];decide) 67 G
 obtain⟨H1,hH1⟩: ∃G,H.new (rG 67 1 zf 0 false true true)=G:=⟨_,rfl⟩
 have k1:ZE H H1 []:=by rw[<-hH1];exact ZE.new _ _ _
 have Jh:H1.nx=H.nx+1:=by rw[<-hH1];rfl
 have FX:H1.ro=H.ro:=by rw[<-hH1];rfl
 have R1:HR H1 H.nx Hi:=⟨⟨_,by rw[<-hH1];exact YB rfl _,by rw[ZeU];exact Fs _ _ _ _ _ _ _,rfl,rfl,rfl⟩,Kb,by omega,by omega⟩
 obtain⟨H2,e2,k12,R2⟩:=A4 E (k:=k) (n:=n) hk (b:=H.nx) (l:=Hi) (s:=[117,115,116,97,114]) (gH.keep0 k1) ZcM R1 (by decide)
 have k2:ZE H H2 []:=k1.trans k12 (λx hx hlt=>by have:=ZG.1 hx;omega)
 have hx2:=k12.nx
 have gj:=k2.ro
 have bs2: ∀G:Heap,UL 5 1 2 (List.replicate 2 [nI .u8 0]).flatten [(0,1,nI .u8 48),(1,1,nI .u8 48)] G=.val (.slice G.nx 0 2 none) (G.new (rG 5 1 [nI .u8 48,nI .u8 48] 0 false true true)):=λG=>rfl
 obtain⟨H3,hH3⟩: ∃G,H2.new (rG 5 1 [nI .u8 48,nI .u8 48] 0 false true true)=G:=⟨_,rfl⟩
 have k23:ZE H2 H3 []:=by rw[<-hH3];exact ZE.new _ _ _
 have nx3:H3.nx=H2.nx+1:=by rw[<-hH3];rfl
 have ro3:H3.ro=H2.ro:=by rw[<-hH3];rfl
 have g3:H3.t.get H2.nx=some (rG 5 1 [nI .u8 48,nI .u8 48] 0 false true true):=by rw[<-hH3];exact YB rfl _
 have mk:=tJ (o:=0) (n:=2) (c:=none) g3 (by omega)
 obtain⟨H4,GZ⟩: ∃G,H3.put H2.nx (rG 5 1 [nI .u8 48,nI .u8 48] 0 true true true)=G:=⟨_,rfl⟩
 rw[GZ] at mk
 have k24:ZE H2 H4 []:=by rw[<-GZ];exact k23.then_put (by omega)
 have nx4:H4.nx=H3.nx:=by rw[<-GZ];rfl
 have k4:ZE H H4 []:=k2.trans' k24
 have bv4:=Bh (H:=H4) (b:=H2.nx) (a:=0) (n:=2) (c:=none) (l:=[48,48]) (by rw[<-GZ];exact XY _ _ _) (by omega) (by decide) (by decide) (λk h=>by cases h)
 obtain⟨z5,H5,e5,tu,R5⟩:=IB E (k:=k) (n:=n+2) (b:=H.nx) (gH.keep0 k4) jo (R2.keep0 k24) bv4
 have k5:ZE H H5 []:=k4.trans tu (λx hx hlt=>by have:=ZG.1 hx;omega)
 have bs1: ∀G:Heap,UL 5 1 1 [nI .u8 0] [(0,1,nI .u8 t)] G=.val (.slice G.nx 0 1 none) (G.new (rG 5 1 [nI .u8 t] 0 false true true)):=λG=>by rw[Pk _ _ _ rfl];rfl
 obtain⟨H6,hH6⟩: ∃G,H5.new (rG 5 1 [nI .u8 t] 0 false true true)=G:=⟨_,rfl⟩
 have qj:ZE H5 H6 []:=by rw[<-hH6];exact ZE.new _ _ _
 have nx6:H6.nx=H5.nx+1:=by rw[<-hH6];rfl
 have k6:ZE H H6 []:=k5.trans' qj
 have tv:[nI .u8 t]=[UInt8.ofNat t].map X8:=by
  show [nI .u8 t]=[nI .u8 (UInt8.ofNat t).toNat]
  rw[S7,YD (show t<2^8 from ht)]
 have bv6:=Bh (H:=H6) (b:=H5.nx) (a:=0) (n:=1) (c:=none) (l:=[UInt8.ofNat t]) (by rw[<-hH6,<-tv];exact YB rfl _) (by omega) (by decide) (Zq 1) (λk h=>by cases h)
 obtain⟨z7,H7,e7,mL,R7⟩:=IB E (k:=k) (n:=n+2) (b:=H.nx) (gH.keep0 k6) Zgx (R5.keep0 qj) bv6
 simp only[bd,bx,hH1,e2,bs2,hH3,mk,e5,bs1,hH6,e7,tW,ZX,TK,Us,Vk,ZH,Zd,Zd,ZX,Zz,ZH,Zd,c22,Yf,Xr,ZV,Xq]
 refine⟨_,rfl,?_⟩
 exact⟨k6.trans mL (λx hx hlt=>by have:=ZG.1 hx;omega),R7⟩
end
end Go.AI
