/- Bytes, blocks and their fields: walked: proved without conditions but those that each names. -/
import Derived.Test.YtbmdhpdcgbgcnaaGreatDoorPA
import Derived.Test.YtbmdhpdcgbgcnaaGreatDoorP7
import Derived.Test.YtbmdhpdcgbgcnaaGreatDoorP8
import Derived.Test.YtbmdhpdcgbgcnaaGreatDoorPB
set_option maxRecDepth 1000000
set_option maxHeartbeats 0
set_option linter.unusedVariables false
set_option linter.unusedSimpArgs false
namespace Go.AI
open Go
noncomputable section
theorem Bytes.keep{H H':Heap}{bk o:Nat}{cap:Option Nat}{bl:List UInt8}{rb:Row}{S:List Nat}(h:Bytes H bk o cap bl rb)(k:ZK H H' S)(hlt:bk<H.nx)(hS:bk∉S):Bytes H' bk o cap bl rb:=
 ⟨(k.get bk hlt hS).trans h.at_,h.sz,h.fits,h.get,h.cap⟩
def BV(H:Heap)(v:AV)(l:List UInt8):Prop:=
 (l=[]∧(v=.nils∨ ∃b o c,v=.slice b o 0 c))∨(l≠[]∧ ∃b o c r,v=.slice b o l.length c∧Bytes H b o c l r∧b<H.nx)
theorem BV.len{H:Heap}{v:AV}{l:List UInt8}(h:BV H v l)(H':Heap):Ll v H'=.val (nI .i64 l.length) H':=by
 rcases h with⟨rfl,rfl|⟨b,o,c,rfl⟩⟩|⟨_,b,o,c,r,rfl,_⟩
 ·exact Db H'
 ·exact SU ..
 ·exact SU ..
theorem Bytes.take{H:Heap}{b o n:Nat}{c:Option Nat}{l:List UInt8}{r:Row}(h:Bytes H b o c l r)(hn:n<=l.length):Bytes H b o (KT c 0) (l.take n) r:=by
 have hl:(l.take n).length=n:=by rw[Z2,WR hn]
 refine⟨h.at_,h.sz,by have:=h.fits;omega,λi hi=>?_,λk hk=>?_⟩
 ·rw[h.get i (by omega),Zh,Zh,XE (by omega)]
 ·cases c with
  |none=>cases hk
  |some c=>
   cases hk
   have:=h.cap c rfl
   show(l.take n).length<=c - 0∧o+(c - 0)<=r.size
   omega
theorem Bytes.drop{H:Heap}{b o n:Nat}{c:Option Nat}{l:List UInt8}{r:Row}(h:Bytes H b o c l r)(hn:n<=l.length):Bytes H b (o+n) (KT c n) (l.drop n) r:=by
 have hl:(l.drop n).length=l.length - n:=Xt ..
 have hf:=h.fits
 refine⟨h.at_,h.sz,by omega,λi hi=>?_,λk hk=>?_⟩
 ·rw[X9,h.get (n+i) (by omega),Zh,Zh,XN]
 ·cases c with
  |none=>cases hk
  |some c=>
   cases hk
   have:=h.cap c rfl
   show(l.drop n).length<=c - n∧o+n+(c - n)<=r.size
   omega
theorem BV.keep{H H':Heap}{S:List Nat}{v:AV}{l:List UInt8}(h:BV H v l)(k:ZK H H' S)(hS: ∀b o n c,v=.slice b o n c->b∉S):BV H' v l:=by
 rcases h with h|⟨hne,b,o,c,r,rfl,hb,hlt⟩
 ·exact .inl h
 ·exact .inr ⟨hne,b,o,c,r,rfl,hb.keep k hlt (hS _ _ _ _ rfl),Yk hlt k.nx⟩
theorem BV.src{H:Heap}{v:AV}{l:List UInt8}(h:BV H v l):Src H v (l.map Vf):=by
 rcases h with⟨rfl,rfl|⟨b,o,c,rfl⟩⟩|⟨_,b,o,c,r,rfl,hb,_⟩
 ·exact Src.nils H
 ·exact Src.none H b o c
 ·have:=Src.row (c:=c) (l:=l.map Vf) hb.at_ (by rw[ZW];exact hb.fits) (λi hi=>by
   rw[ZW] at hi
   rw[hb.get i hi,Zh,Zh,Xb,Zp hi];rfl)
  rw[ZW] at this
  exact this
theorem Cells.bytes{H:Heap}{b:Nat}{r:Row}{l:List UInt8}(hr:H.t.get b=some (.row r))(hs:r.sz=1)(hc:Cells r (l.map Vf)):Bytes H b 0 none l r:=by
 have hz:=hc.size
 rw[ZW] at hz
 refine⟨hr,hs,by omega,λi hi=>?_,λc hc=>by cases hc⟩
 rw[Zb,hc.get i (by rw[ZW];exact hi),Zh,Xb,Zh,Zp hi];rfl
theorem bL{x y:UInt8}(h:Vf x=Vf y):x=y:=by
 unfold Vf at h
 injection h with _ h
 injection h with h
 exact UJ.1 h
theorem Bytes.uniq{H:Heap}{b o:Nat}{c:Option Nat}{l l':List UInt8}{r r':Row}(h:Bytes H b o c l r)(h':Bytes H b o c l' r')(e:l.length=l'.length):l=l':=by
 have hr:r=r':=by
  have:=h.at_.symm.trans h'.at_
  injection this with this
  injection this
 subst hr
 refine List.ext_getElem e λi h1 h2=>?_
 have a:=h.get i h1
 have b:=h'.get i h2
 rw[a] at b
 have:=bL b
 rwa [Zh,Zh,Zp h1,Zp h2] at this
theorem BV.uniq{H:Heap}{v:AV}{l l':List UInt8}(h:BV H v l)(h':BV H v l'):l=l':=by
 have e:l.length=l'.length:=by
  have a:=h.len H
  rw[h'.len H] at a
  injection a with a _
  injection a with _ a
  injection a with a
  exact a.symm
 rcases h with⟨rfl,_⟩|⟨hne,b,o,c,r,rfl,hb,_⟩
 ·exact(XH.1 e.symm).symm
 ·rcases h' with⟨rfl,_⟩|⟨hne',b',o',c',r',e',hb',_⟩
  ·exact XH.1 e
  ·injection e' with e1 e2 e3 e4
   subst e1;subst e2;subst e4
   exact hb.uniq hb' e
theorem BV.far{H:Heap}{v:AV}{l:List UInt8}(h:BV H v l)(hne:l≠[]): ∀b o n c,v=.slice b o n c->b<H.nx:=by
 rcases h with⟨rfl,_⟩|⟨_,b,o,c,r,rfl,_,hlt⟩
 ·exact absurd rfl hne
 ·intro b o n c e;cases e;exact hlt
theorem Sz.src{H:Heap}{sz:Nat}{v:AV}{ls:List (List AV)}(h:Sz H sz v ls)(hsz:1<=sz)(k:Nat->List AV->OR):(zt v λn=>WY H sz v n λnew=>k n new)=k ls.length ls.flatten:=by
 rcases h with⟨rfl,rfl⟩|⟨he,⟨rfl,rfl⟩|⟨b,o,c,rfl,hb,h2⟩⟩
 ·rfl
 ·rfl
 ·show(WY H sz (.slice b o ls.length c) ls.length λnew=>k ls.length new)=_
  unfold WY
  rw[YZ]
  by_cases h0:ls.length=0
  ·have:ls=[]:=XH.1 h0
   subst this;rfl
  ·rw[Ze h0]
   have hne:ls≠[]:=λe=>h0 (by rw[e];rfl)
   obtain⟨r,h3,h4,h5⟩:=h2 hne
   have hf:=AI.flat_len he
   show XA H b (λr=>Yb (Nat.ble (o+ls.length*sz) r.size) (k ls.length (W9 r o (ls.length*sz))))=_
   unfold XA
   rw[h3]
   show Yb (Nat.ble (o+ls.length*sz) r.size) (k ls.length (W9 r o (ls.length*sz)))=_
   rw[Zj h4]
   have:W9 r o (ls.length*sz)=ls.flatten:=by
    refine XP λj=>?_
    by_cases hj:j<ls.length*sz
    ·rw[TZ r _ o j hj,h5 j hj,Zh,Zp (by omega)];rfl
    ·rw[Y5 (by rw[TB];omega),Y5 (by omega)]
   rw[this];rfl
theorem Eg{H:Heap}{e sz bytes:Nat}{a v:AV}{ls:List (List AV)}(h:Sz H sz v ls)(hsz:1<=sz)(hb:1<=bytes):TP e sz bytes a v H=PS a e sz bytes H ls.length ls.flatten:=by
 show Yb (Nat.ble 1 sz) (Yb (Nat.ble 1 bytes) _)=_
 rw[Zj hsz,Zj hb]
 exact h.src hsz λn new=>PS a e sz bytes H n new
theorem fR{H:Heap}{e sz bytes:Nat}{v:AV}{ls:List (List AV)}(h:Sz H sz v ls)(hsz:1<=sz)(hb:1<=bytes)(hl:ls.length*bytes<=140737488355328):
  (TP e sz bytes (.slice H.nx 0 0 none) v (H.new (rG e sz [] 0 false true true))=.val (.slice H.nx 0 0 none) (H.new (rG e sz [] 0 false true true))∧ls=[])∨
  (TP e sz bytes (.slice H.nx 0 0 none) v (H.new (rG e sz [] 0 false true true))=.val (.slice (H.nx+1) 0 ls.length none) ((H.new (rG e sz [] 0 false true true)).new (rG e sz ls.flatten 0 false true false))∧ls≠[]):=by
 have hk:ZK H (H.new (rG e sz [] 0 false true true)) []:=ZK.new _ _ _
 rw[Eg (h.keep0 hk) hsz hb]
 have gn:(H.new (rG e sz [] 0 false true true)).t.get H.nx=some (rG e sz [] 0 false true true):=YD rfl _
 by_cases h0:ls.length=0
 ·have:ls=[]:=XH.1 h0
  subst this
  refine .inl ⟨?_,rfl⟩
  show XA _ H.nx _=_
  unfold XA
  rw[gn]
  show Yb (Nat.beq sz sz) (cond (Nat.ble (0+0) (VO ⟨e,sz,Xa ([]:List AV),T.ofList [],.unk,0,false,true,true⟩ 0 none)) (Kq _ _ _ _ _ _ _ _ _ _) _)=_
  rw[Xu,Zb,Zj (ZA _)]
  rfl
 ·refine .inr ⟨?_,λe=>h0 (by rw[e];rfl)⟩
  show XA _ H.nx _=_
  unfold XA
  rw[gn]
  have hcap:VO ⟨e,sz,Xa ([]:List AV),T.ofList [],.unk,0,false,true,true⟩ 0 none=0:=by
   show cond (Nat.beq sz 1) (0 - 0) ((0 - 0)/sz)=0
   cases Nat.beq sz 1
   ·exact Qs _
   ·rfl
  show Yb (Nat.beq sz sz) (cond (Nat.ble (0+ls.length) (VO ⟨e,sz,Xa ([]:List AV),T.ofList [],.unk,0,false,true,true⟩ 0 none)) _ (Ow _ e H.nx 0 0 ls.length sz bytes none ⟨e,sz,Xa ([]:List AV),T.ofList [],.unk,0,false,true,true⟩ ls.flatten))=_
  rw[Xu,hcap,show Nat.ble (0+ls.length) 0=false by
   cases hq:Nat.ble (0+ls.length) 0 with
   |false=>rfl
   |true=>have:=Yn hq;omega]
  show Yb (Nat.ble ((0+ls.length)*bytes) 140737488355328) (Yb (Nat.ble (0+0*sz) 0) (Yb (Nat.beq (0 % sz) 0) (OR.val (.slice (H.nx+1) 0 (0+ls.length) none) (Heap.newRow (H.new (rG e sz [] 0 false true true)) e sz (W9 _ 0 (0*sz)++ls.flatten) false))))=_
  rw[Zb,Zj hl,Vi,Nat.zero_mod]
  rfl
theorem Zcb(k:IntKind)(a b:Int)(H:Heap):Tl Wd Xl (.int k a) (.int k b) H=.val (.bool (decide (a<b))) H:=by
 show Yb (PR k k) (SF (xk a b) H)=_
 rw[Wb,T3,Nt];rfl
theorem ZbD(k:IntKind)(a b:Int)(H:Heap):Tl Tq Vn (.int k a) (.int k b) H=.val (.bool (decide (b<a))) H:=by
 show Yb (PR k k) (SF (xk b a) H)=_
 rw[Wb,T3,Nt];rfl
theorem Xz(k:IntKind)(a:Int)(b:Nat)(H:Heap):Tl Wd Xl (.int k a) (nI k b) H=.val (.bool (decide (a<(b:Int)))) H:=Zcb k a b H
theorem Xy(k:IntKind)(a:Int)(b:Nat)(H:Heap):Tl Tq Vn (.int k a) (nI k b) H=.val (.bool (decide ((b:Int)<a))) H:=ZbD k a b H
theorem F7(s:List UInt8)(k:Nat)(G:Heap):Ji (.str s) none (some (nI .i64 (min s.length k))) G=.val (.str (s.take k)) G:=by
 rw[Yd (Nat.min_le_left _ _)];congr 2;rw[Nat.min_comm,<-List.take_take,Vh]
theorem Tf{H:Heap}{w:AV}{e sz lo:Nat}{ls:List (List AV)}(h:RP H w e sz ls lo):(∀n,H.nx<=n->WC n w=true)∧(∀n T,Um (.val w ⟨n,T,n⟩) w n=true)∧w.cells=[w]∧(∀b∈Wo w,lo<=b∧b<H.nx):=by
 rcases h with⟨_,rfl⟩|⟨_,b0,r0,rfl,rc,hl⟩
 ·exact⟨λ_ _=>rfl,λn T=>Qg n T,rfl,λb hb=>by cases hb⟩
 ·exact⟨λn hn=>Yg (by have:=rc.low;omega) _ _ _,λn T=>Z8 ..,rfl,λb hb=>by rw[Zv.1 hb];exact⟨hl,rc.low⟩⟩
theorem HX(l:List NP)(p:NP):S2 (l++[p])=S2 l++[[.str p.1,.str p.2]]:=by unfold S2;rw[Wn];rfl
theorem Sz.lt{H:Heap}{sz:Nat}{v:AV}{ls:List (List AV)}(h:Sz H sz v ls): ∀b∈Wo v,b<H.nx:=by
 rcases h with⟨_,rfl⟩|⟨_,⟨_,rfl⟩|⟨b,o,c,rfl,hb,_⟩⟩
 ·intro b hb;cases hb
 ·intro b hb;cases hb
 ·intro b' hb';rw[Zv.1 hb'];exact hb
theorem Sz.move{H H':Heap}{sz:Nat}{v:AV}{ls:List (List AV)}{S:List Nat}(h:Sz H sz v ls)(k:ZK H H' S)(hS: ∀b∈Wo v,b∉S):Sz H' sz v ls:=
 h.keep k λb o n c e=>hS b (by rw[e];exact Zv.2 rfl)
theorem qB(l:List UInt8)(k:Nat):(MI l).take k=MI (l.take k):=by unfold MI;rw[List.map_take]
theorem hZ{α:Type}(l:List α)(k:Nat):l.take (min l.length k)=l.take k:=by
 rw[Nat.min_comm,<-List.take_take,Vh]
def GB(H:Heap)(v:AV)(l:List UInt8)(lo:Nat):Prop:=(v=.nils∧l=[])∨ ∃b sm,v=.slice b 0 l.length none∧lo<=b∧b<H.nx∧H.ro<=b∧H.t.get b=some (rG 5 1 (l.map Vf) 0 sm true false)
theorem GB.nil(H:Heap)(lo:Nat):GB H .nils [] lo:=.inl ⟨rfl,rfl⟩
theorem GB.keep{H H':Heap}{v:AV}{l:List UInt8}{lo:Nat}{S:List Nat}(h:GB H v l lo)(k:ZK H H' S)(hS: ∀b∈Wo v,b∉S):GB H' v l lo:=by
 rcases h with h|⟨b,sm,rfl,h1,h2,h3,h4⟩
 ·exact .inl h
 ·exact .inr ⟨b,sm,rfl,h1,Yk h2 k.nx,by rw[k.ro];exact h3,by rw[k.get b h2 (hS b (ZE ..))];exact h4⟩
theorem GB.blk{H:Heap}{v:AV}{l:List UInt8}{lo:Nat}(h:GB H v l lo): ∀b∈Wo v,lo<=b∧b<H.nx:=by
 rcases h with⟨rfl,_⟩|⟨b,sm,rfl,h1,h2,_⟩
 ·intro b hb;cases hb
 ·intro c hc
  obtain rfl:c=b:=by simpa [Wo] using hc
  exact⟨h1,h2⟩
theorem GB.len{H:Heap}{v:AV}{l:List UInt8}{lo:Nat}(h:GB H v l lo)(G:Heap):Ll v G=.val (nI .i64 l.length) G:=by
 rcases h with⟨rfl,rfl⟩|⟨b,sm,rfl,_⟩
 ·rfl
 ·exact SU ..
theorem GB.low{H:Heap}{v:AV}{l:List UInt8}{lo:Nat}(h:GB H v l lo){n:Nat}(hn:H.nx<=n):WC n v=true:=by
 rcases h with⟨rfl,rfl⟩|⟨b,sm,rfl,_,h2,_⟩
 ·rfl
 ·exact Yg (by omega) ..
theorem GB.same{H:Heap}{v:AV}{l:List UInt8}{lo:Nat}(h:GB H v l lo)(n:Nat)(t:T Obj):Um (.val v ⟨n,t,n⟩) v n=true:=by
 rcases h with⟨rfl,rfl⟩|⟨b,sm,rfl,_⟩
 ·exact Qg ..
 ·exact Z8 ..
theorem GB.cells{H:Heap}{v:AV}{l:List UInt8}{lo:Nat}(h:GB H v l lo):v.cells=[v]:=by
 rcases h with⟨rfl,rfl⟩|⟨b,sm,rfl,_⟩<;>rfl
theorem zC{l:List UInt8}{i:Nat}(hi:i<l.length):(l.map Vf).getD i .unk=Vf (l.getD i 0):=by
 rw[Zh,Xb,Zh,Zp hi];rfl
theorem Eo{H:Heap}{b e a n fz:Nat}{sm own ex:Bool}{c:Option Nat}{l:List UInt8}(g:H.t.get b=some (rG e 1 (l.map Vf) fz sm own ex))(hb:b<H.nx)(h0:0<n)(ha:a+n<=l.length)(hc: ∀k,c=some k->n<=k∧a+k<=l.length):BV H (.slice b a n c) ((l.drop a).take n):=by
 have hl:((l.drop a).take n).length=n:=by rw[Z2,Xt];omega
 have hs:Xa (l.map Vf)=l.length:=by rw[Y6,ZW]
 refine .inr ⟨λh=>by rw[h] at hl;have:0=n:=hl;omega,b,a,c,_,by rw[hl],⟨g,rfl,?_,λi hi=>?_,λk hk=>?_⟩,hb⟩
 ·rw[hl];show a+n<=Xa (l.map Vf);rw[hs];exact ha
 ·rw[hl] at hi
  rw[DD,zC (by omega),Zh,Zh,XE hi,XN]
 ·rw[hl]
  show n<=k∧a+k<=Xa (l.map Vf)
  rw[hs];exact hc k hk
theorem GB.bv{H:Heap}{v:AV}{l:List UInt8}{lo:Nat}(h:GB H v l lo):BV H v l:=by
 rcases h with⟨rfl,rfl⟩|⟨b,sm,rfl,_,h2,_,h4⟩
 ·exact .inl ⟨rfl,.inl rfl⟩
 ·by_cases h0:l=[]
  ·exact .inl ⟨h0,.inr ⟨_,_,_,by subst h0;rfl⟩⟩
  ·have:=Eo (a:=0) (n:=l.length) (c:=none) h4 h2 (by rcases l with _|_;exact absurd rfl h0;exact Qr _) (by omega) (λk hk=>by cases hk)
   rwa [ZC,Vh] at this
theorem EQ{H:Heap}{v:AV}{l:List UInt8}{lo:Nat}(h:GB H v l lo)(hlo:lo<=H.nx)(hro:H.ro<=H.nx)(m:List UInt8)(hl:l.length+m.length<=140737488355328):
  ∃v' H',PS v 5 1 1 H m.length (m.map Vf)=.val v' H'∧GB H' v' (l++m) lo∧ZK H H' (Wo v)∧(∀b∈Wo v',b∈Wo v∨H.nx<=b):=by
 rcases h with⟨rfl,rfl⟩|⟨b,sm,rfl,h1,h2,h3,h4⟩
 ·by_cases h0:m=[]
  ·subst h0
   exact⟨.nils,H,rfl,.inl ⟨rfl,rfl⟩,ZK.refl _ _,λb hb=>by cases hb⟩
  ·have hp:0<m.length:=by rcases m with _|_;exact absurd rfl h0;exact Qr _
   refine⟨.slice H.nx 0 m.length none,H.newRow 5 1 (m.map Vf) false,?_,.inr ⟨H.nx,false,rfl,hlo,YP _,hro,?_⟩,by rw[Yw];exact ZK.new _ _ _,λb hb=>.inr ?_⟩
   ·have:=yu (e:=5) (H:=H) (l:=m.map Vf) (by rw[ZW];exact hp) (by rw[ZW];simpa using hl)
    rwa [ZW] at this
   ·rw[Yw];exact YD rfl _
   ·obtain rfl:b=H.nx:=by simpa [Wo] using hb
    exact Zz _
 ·have hs:Xa (l.map Vf)=l.length:=by rw[Y6,ZW]
  have hrow: ∀k:Row->OR,XA H b k=k ⟨5,1,Xa (l.map Vf),T.ofList (l.map Vf),.unk,0,sm,true,false⟩:=λk=>by
   unfold XA
   rw[h4];rfl
  have hcap:VO ⟨5,1,Xa (l.map Vf),T.ofList (l.map Vf),.unk,0,sm,true,false⟩ 0 none=l.length:=by
   show cond (Nat.beq 1 1) (Xa (l.map Vf) - 0) (Nat.div (Xa (l.map Vf) - 0) 1)=_
   rw[hs];rfl
  by_cases h0:m=[]
  ·subst h0
   refine⟨.slice b 0 l.length none,H,?_,.inr ⟨b,sm,by rw[Zo],h1,h2,h3,by rw[Zo];exact h4⟩,ZK.refl _ _,λc hc=>.inl hc⟩
   show XA H b (λr=>Yb (MU r 1 none) (cond (Nat.ble (Nat.add l.length 0) (VO r 0 none)) (Kq H (.slice b 0 l.length none) b 0 l.length 0 1 none r []) (Ow H 5 b 0 l.length 0 1 1 none r [])))=_
   rw[hrow,hcap]
   show Yb true (cond (Nat.ble (l.length+0) l.length) (OR.val (.slice b 0 l.length none) H) _)=_
   rw[Zd,Zj (Zz _)];rfl
  ·have hp:0<m.length:=by rcases m with _|_;exact absurd rfl h0;exact Qr _
   have Pe:H.may ⟨5,1,Xa (l.map Vf),T.ofList (l.map Vf),.unk,0,sm,true,false⟩ b=true:=by unfold Heap.may;rw[Zj h3];rfl
   refine⟨.slice H.nx 0 (l.length+m.length) none,⟨Nat.succ H.nx,(H.t.del b).set H.nx (rG 5 1 ((l++m).map Vf) 0 sm true false),H.ro⟩,?_,.inr ⟨H.nx,sm,by rw[Zk],hlo,YP _,hro,by rw[T.get_set,if_pos rfl]⟩,⟨Vr _,rfl,λc hc hn=>?_⟩,λc hc=>.inr ?_⟩
   ·show XA H b (λr=>Yb (MU r 1 none) (cond (Nat.ble (Nat.add l.length m.length) (VO r 0 none)) (Kq H (.slice b 0 l.length none) b 0 l.length m.length 1 none r (m.map Vf)) (Ow H 5 b 0 l.length m.length 1 1 none r (m.map Vf))))=_
    rw[hrow,hcap]
    have h5:Nat.ble (Nat.add l.length m.length) l.length=false:=by
     cases h:Nat.ble (Nat.add l.length m.length) l.length with
     |false=>rfl
     |true=>have:=Yn h;have:l.length+m.length<=l.length:=this;omega
    rw[h5]
    show Yb (Nat.ble ((l.length+m.length)*1) 140737488355328) (Yb (Nat.ble (0+l.length*1) (Xa (l.map Vf))) (Yb (Nat.beq 5 5) (Yb (H.may _ b) (Yb (Nat.ble 0 (l.length*1)) (Yb (Nat.beq (l.length*1) (Xa (l.map Vf))) (Yb (Nat.beq 0 0) _))))))=_
    rw[Pe,XM,XM,Zb,Zj hl,hs,Zj (Zz _),Zj (ZA _),show Nat.beq l.length l.length=true from Xu _]
    show OR.val (.slice H.nx 0 (l.length+m.length) none) ⟨Nat.succ H.nx,(H.t.del b).set H.nx (.row ⟨5,1,(l.length+m.length)*1,WO (T.ofList (l.map Vf)) (l.length*1) (m.map Vf),.unk,0,sm,true,false⟩),H.ro⟩=_
    have hst:=Ft (l.map Vf) (m.map Vf)
    rw[ZW] at hst
    rw[XM,XM,hst,Wn]
    unfold rG
    rw[Y6,Zk,ZW,ZW]
   ·have hcb:c≠b:=λh=>hn (by rw[h];exact ZE ..)
    show((H.t.del b).set H.nx _).get c=_
    rw[T.get_set,if_neg (by omega),T.get_del,if_neg (λh=>hcb h.symm)]
   ·obtain rfl:c=H.nx:=by simpa [Wo] using hc
    exact Zz _
theorem bA{H:Heap}(m:List UInt8):Src H (.str m) (m.map Vf):=by
 intro k
 show(cond (Nat.beq (Xa m) 0) (k (Xa m) []) (Yb (Nat.beq 1 1) (k (Xa m) (HF (ME (Xa m) m)))))=_
 rw[Y6,ZW,OP,Vh,FY]
 cases m with
 |nil=>rfl
 |cons a m=>rfl
theorem vX{H:Heap}{v:AV}{l:List UInt8}{lo:Nat}(h:GB H v l lo)(hlo:lo<=H.nx)(hro:H.ro<=H.nx)(m:List UInt8)(hl:l.length+m.length<=140737488355328):
  ∃v' H',TP 5 1 1 v (.str m) H=.val v' H'∧GB H' v' (l++m) lo∧ZK H H' (Wo v)∧(∀b∈Wo v',b∈Wo v∨H.nx<=b):=by
 obtain⟨v',H',e,r⟩:=EQ h hlo hro m hl
 refine⟨v',H',?_,r⟩
 rw[O6 (by decide) (bA m),ZW];exact e
theorem JO{H:Heap}{v w:AV}{l m:List UInt8}{lo:Nat}(h:GB H v l lo)(hw:BV H w m)(hlo:lo<=H.nx)(hro:H.ro<=H.nx)(hl:l.length+m.length<=140737488355328):
  ∃v' H',TP 5 1 1 v w H=.val v' H'∧GB H' v' (l++m) lo∧ZK H H' (Wo v)∧(∀b∈Wo v',b∈Wo v∨H.nx<=b):=by
 obtain⟨v',H',e,r⟩:=EQ h hlo hro m hl
 refine⟨v',H',?_,r⟩
 rw[O6 (by decide) hw.src,ZW];exact e
def ZaN(e sz bytes:Nat)(zs:List AV)(x y:AV)(H:Heap):OR:=Yb (Nat.ble 1 sz)<|Yb (Nat.ble 1 bytes)<|T8 y λn=>Yb (Nat.ble (Nat.mul n bytes) 140737488355328)<|PS x e sz bytes H n (List.replicate n zs).flatten
theorem Yp(x y:YF)(e sz bytes:Nat)(zs:List AV)(tm:TM)(H:Heap):NQ x y e sz bytes zs tm H=ZaN e sz bytes zs (x tm) (y tm) H:=rfl
theorem z4: ∀n:Nat,(List.replicate n [nI .u8 0]).flatten=(List.replicate n (0:UInt8)).map Vf
 |0=>rfl
 |n+1=>by rw[Ww,Ww,WD,z4 n];rfl
theorem sK{H:Heap}{v:AV}{l:List UInt8}{lo:Nat}(h:GB H v l lo)(hlo:lo<=H.nx)(hro:H.ro<=H.nx)(n:Nat)(hl:l.length+n<=140737488355328):
  ∃v' H',ZaN 5 1 1 [nI .u8 0] v (nI .i64 n) H=.val v' H'∧GB H' v' (l++List.replicate n 0) lo∧ZK H H' (Wo v)∧(∀b∈Wo v',b∈Wo v∨H.nx<=b):=by
 obtain⟨v',H',e,r⟩:=EQ h hlo hro (List.replicate n 0) (by rw[Z5];exact hl)
 rw[Z5] at e
 refine⟨v',H',?_,r⟩
 show Yb (Nat.ble (n*1) 140737488355328) (PS v 5 1 1 H n (List.replicate n [nI .u8 0]).flatten)=_
 rw[XM,Zj (by omega),z4];exact e
theorem lD{H:Heap}{s:List UInt8}(hro:H.ro<=H.nx){lo:Nat}(hlo:lo<=H.nx)(sm:Bool):GB (H.new (rG 5 1 (s.map Vf) 0 sm true false)) (.slice H.nx 0 s.length none) s lo:=
 .inr ⟨H.nx,sm,rfl,hlo,YP _,hro,YD rfl _⟩
def Iz(l:List UInt8)(a:Nat)(w:List UInt8):List UInt8:=l.take a++(w++l.drop (a+w.length))
theorem IA{l w:List UInt8}{a:Nat}(h:a+w.length<=l.length):(Iz l a w).length=l.length:=by
 unfold Iz
 rw[Zk,Zk,Z2,Xt];omega
theorem O8{r:Row}{l new:List AV}{o:Nat}(hc:Cells r l)(ho:o+new.length<=l.length):Cells (r.setCells (WO r.cells o new)) (l.take o++(new++l.drop (o+new.length))):=by
 have hlen:(l.take o++(new++l.drop (o+new.length))).length=l.length:=by
  rw[Zk,Zk,Z2,Xt];omega
 refine⟨by rw[hlen];exact hc.size,λi hi=>?_⟩
 rw[hlen] at hi
 have h1:=hc.get i hi
 rw[Row.get_eq] at h1 ⊢
 show((WO r.cells o new).get i).getD r.dflt=_
 rw[Qa,Zh]
 by_cases hA:i<o
 ·rw[if_neg (by omega),h1,Zh,YN (by rw[Z2];omega),XE hA]
 ·rw[YY (by rw[Z2];omega),Z2,WR (by omega)]
  by_cases hB:i<o+new.length
  ·rw[if_pos (by omega),YN (by omega),Zp (by omega)];rfl
  ·rw[if_neg (by omega),h1,Zh,YY (by omega),XN]
   congr 2;omega
theorem O9{H:Heap}{b o c q n dn sn:Nat}{e1 e2:Option Nat}{r s:Row}{l m:List AV}(hr:H.t.get b=some (.row r))(hc:Cells r l)(how:r.own=true)(hro:H.ro<=b)(hfz:r.fz=0)
  (hs:H.t.get c=some (.row s))(hm:Cells s m)(hn:OZ dn sn=n)(h0:0<n)(ho:o+n<=l.length)(hq:q+n<=m.length):
  ∃r',yO 1 (.slice b o dn e1) (.slice c q sn e2) H=.val (nI .i64 n) (H.put b (.row r'))∧Cells r' (l.take o++((m.drop q).take n++l.drop (o+n)))∧r'.own=true∧r'.fz=0∧r'.sz=r.sz:=by
 have hl:((m.drop q).take n).length=n:=by rw[Z2,Xt];omega
 have hcs:=O8 (o:=o) (new:=(m.drop q).take n) hc (by rw[hl];exact ho)
 rw[hl] at hcs
 refine⟨_,?_,hcs,how,hfz,rfl⟩
 show TX (OZ dn sn) (λn=>WY H 1 (.slice c q _ e2) n λnew=>cond (Nat.beq n 0) (.val (.int .i64 0) H) (XA H b λr=>Yb (H.may r b) (Yb (Nat.ble r.fz o) (Yb (Nat.ble (o+n*1) r.size) (.val (.int .i64 (.ofNat n)) (H.put b (.row (r.setCells (WO r.cells o new)))))))))=_
 have e2:Nat.beq n 0=false:=by rw[YZ];exact Ze (by omega)
 have h1:H.may r b=true:=by unfold Heap.may;rw[how,Zj hro];rfl
 rw[Rf,hn]
 unfold WY
 rw[e2]
 simp only[cond_false]
 unfold XA
 rw[hs,hr]
 simp only[XM]
 show Yb (Nat.ble (q+n*1) s.size) _=_
 rw[XM,hm.size,Zj hq,show Nat.mul n 1=n from XM n,hm.load hq,h1,hfz,Zj (ZA _),hc.size,Zj ho]
 rfl
theorem mK{H:Heap}{b a n:Nat}{e1:Option Nat}{l w:List UInt8}{v:AV}{r:Row}(hr:H.t.get b=some (.row r))(hc:Cells r (l.map Vf))(how:r.own=true)(hfz:r.fz=0)(hro:H.ro<=b)(hw:BV H v w)(hn:w.length=n)(h0:0<n)(ha:a+n<=l.length):
  ∃r',yO 1 (.slice b a n e1) v H=.val (nI .i64 n) (H.put b (.row r'))∧Cells r' ((Iz l a w).map Vf)∧r'.own=true∧r'.fz=0∧r'.sz=r.sz:=by
 have hne:w≠[]:=λh=>by rw[h] at hn;have:0=n:=hn;omega
 rcases hw with⟨h,_⟩|⟨_,q,o,c,s,rfl,hB,hlt⟩
 ·exact absurd h hne
 have hcs:=O8 (o:=a) (new:=w.map Vf) hc (by rw[ZW,ZW];omega)
 have hm:(l.map Vf).take a++(w.map Vf++(l.map Vf).drop (a+(w.map Vf).length))=(Iz l a w).map Vf:=by
  unfold Iz
  rw[ZW,Wn,Wn,List.map_take,List.map_drop]
 rw[hm] at hcs
 refine⟨_,?_,hcs,how,hfz,rfl⟩
 rw[hn]
 show TX (OZ n n) (λn=>WY H 1 (.slice q o _ c) n λnew=>cond (Nat.beq n 0) (.val (.int .i64 0) H) (XA H b λr=>Yb (H.may r b) (Yb (Nat.ble r.fz a) (Yb (Nat.ble (a+n*1) r.size) (.val (.int .i64 (.ofNat n)) (H.put b (.row (r.setCells (WO r.cells a new)))))))))=_
 have e':OZ n n=n:=by unfold OZ;rw[Zj (Zz _)];rfl
 have e2:Nat.beq n 0=false:=by rw[YZ];exact Ze (by omega)
 have h1:H.may r b=true:=by unfold Heap.may;rw[how,Zj hro];rfl
 have hnew:W9 s o n=w.map Vf:=by
  refine XP λj=>?_
  by_cases hj:j<n
  ·rw[TZ s _ o j hj,hB.get j (by omega),Xb,Zh,Zp (by omega)];rfl
  ·rw[Y5 (by rw[TB];omega),Y5 (by rw[ZW];omega)]
 rw[Rf,e']
 unfold WY
 rw[e2]
 simp only[cond_false]
 unfold XA
 rw[hB.at_,hr]
 simp only[XM]
 show Yb (Nat.ble (o+n*1) s.size) (Yb (H.may r b) (Yb (Nat.ble r.fz a) (Yb (Nat.ble (a+n) r.size) (.val (.int .i64 (.ofNat n)) (H.put b (.row (r.setCells (WO r.cells a (W9 s o (n*1))))))))))=_
 rw[XM,hnew,Zj (by have:=hB.fits;omega),h1,hfz,Zj (ZA _),hc.size,ZW,Zj ha]
 rfl
structure HR(H:Heap)(b:Nat)(l:List UInt8):Prop where
 row: ∃r,H.t.get b=some (.row r)∧Cells r (l.map Vf)∧r.own=true∧r.fz=0∧r.sz=1
 len:l.length=512
 lt:b<H.nx
 ro:H.ro<=b
theorem HR.keep{H H':Heap}{b:Nat}{l:List UInt8}{S:List Nat}(h:HR H b l)(k:ZK H H' S)(hS:b∉S):HR H' b l:=by
 obtain⟨⟨r,h1,h2⟩,h3,h4,h5⟩:=h
 exact⟨⟨r,by rw[k.get b h4 hS];exact h1,h2⟩,h3,Yk h4 k.nx,by rw[k.ro];exact h5⟩
theorem HR.keep0{H H':Heap}{b:Nat}{l:List UInt8}(h:HR H b l)(k:ZK H H' []):HR H' b l:=h.keep k (by simp)
theorem md{H:Heap}{b a n:Nat}{c:Option Nat}{r:Row}{l:List UInt8}(g:H.t.get b=some (.row r))(hc:Cells r (l.map Vf))(hz:r.sz=1)(hb:b<H.nx)(h0:0<n)(ha:a+n<=l.length)(hk: ∀k,c=some k->n<=k∧a+k<=l.length):BV H (.slice b a n c) ((l.drop a).take n):=by
 have hl:((l.drop a).take n).length=n:=by rw[Z2,Xt];omega
 refine .inr ⟨λh=>by rw[h] at hl;have:0=n:=hl;omega,b,a,c,r,by rw[hl],⟨g,hz,by rw[hl,hc.size,ZW];exact ha,λi hi=>?_,λk hh=>?_⟩,hb⟩
 ·rw[hl] at hi
  rw[hc.get _ (by rw[ZW];omega),zC (by omega),Zh,Zh,XE hi,XN]
 ·rw[hl,hc.size,ZW];exact hk k hh
def rZ(a y z:AV)(H:Heap):OR:=T0 1 (λ_=>a) none (some λ_=>y) (some λ_=>z) NZ H
theorem Yx(x y z:YF)(tm:TM)(H:Heap):T0 1 x none (some y) (some z) tm H=rZ (x tm) (y tm) (z tm) H:=rfl
theorem tp(e N:Nat):Cells ⟨e,1,N,.leaf,.unk,0,false,true,false⟩ (List.replicate N .unk):=by
 refine⟨by rw[Z5],λi hi=>?_⟩
 rw[Z5] at hi
 rw[Row.get_eq,Zh,Wp,if_pos hi]
 show(T.leaf.get i).getD AV.unk=AV.unk
 rw[T.get_leaf];rfl
theorem yE{H:Heap}{b n:Nat}{c:Option Nat}{r:Row}{l:List UInt8}(g:H.t.get b=some (.row r))(hc:Cells r (l.map Vf))(hz:r.sz=1)(hb:b<H.nx)(hn:n=l.length)(hk: ∀k,c=some k->n<=k∧k<=l.length):BV H (.slice b 0 n c) l:=by
 subst hn
 by_cases h0:l=[]
 ·subst h0;exact .inl ⟨rfl,.inr ⟨_,_,_,rfl⟩⟩
 ·refine .inr ⟨h0,b,0,c,r,rfl,⟨g,hz,by rw[hc.size,ZW];omega,λi hi=>?_,λk h=>?_⟩,hb⟩
  ·rw[Zb,hc.get i (by rw[ZW];exact hi),zC hi]
  ·rw[hc.size,ZW];have:=hk k h;omega
section
variable {Zx:Lib} {fs:T CF} {fuel k n i h b:Nat} {H H0:Heap} {s:List UInt8} {cs:List AV}
theorem bB{sz:Nat}{v:AV}{ls:List (List AV)}(h:Sz H sz v ls):(∀G,ND qG false v .nils G=.val (.bool false) G)∨(v=.nils∧ls=[]):=by
 rcases h with⟨_,rfl⟩|⟨_,⟨e,rfl⟩|⟨b,o,c,rfl,hb,_⟩⟩
 ·exact .inl λ_=>rfl
 ·exact .inr ⟨rfl,e⟩
 ·exact .inl λ_=>rfl
theorem fW(G:Heap):ND qG false .nils .nils G=.val (.bool true) G:=rfl
theorem Hg(l:List UInt8):(MI l).flatten=l.map Vf:=by
 induction l with
 |nil=>rfl
 |cons a l ih=>
  show [Vf a]++(MI l).flatten=_
  rw[ih];rfl
theorem ZaR{e:Nat}{l:List UInt8}(h:l≠[])(ex:Bool):BV (H.new (rG e 1 (l.map Vf) 0 false true ex)) (.slice H.nx 0 l.length none) l:=by
 refine .inr ⟨h,H.nx,0,none,⟨e,1,Xa (l.map Vf),T.ofList (l.map Vf),.unk,0,false,true,ex⟩,rfl,⟨YD rfl _,rfl,?_,λi hi=>?_,λk hk=>by cases hk⟩,YP _⟩
 ·show 0+l.length<=Xa (l.map Vf)
  rw[Y6,ZW];omega
 ·rw[Zb,DD,Zh,Xb,Zh,Zp hi];rfl
theorem ZaO(E:Env Zx fs fuel){v:AV}{l:List UInt8}(h:Sz H 1 v (MI l))(hl:l.length<=90000):
  ∃v' H',Z7 (LK Zx fs fuel k) fs fuel (n+1) 62 [v] H=.ret v' H'∧BV H' v' l∧ZK H H' []∧ ∀b o m c,v'=.slice b o m c->H.nx<=b∧b<H'.nx:=by
 rw[Z1 (ZU E.n62 (.inr rfl) _ _) E.f62]
 rcases bB h with en|⟨rfl,e0⟩
 ·have bs:TQ 5 1 0 (List.replicate 0 [nI .u8 0]).flatten [] H=.val (.slice H.nx 0 0 none) (H.new (rH 5 [])):=rfl
  have hk:ZK H (H.new (rH 5 [])) []:=ZK.new _ _ _
  rcases fR (e:=5) (bytes:=1) h (by decide) (by decide) (by rw[Sq];omega) with⟨ea,e0⟩|⟨ea,e0⟩
  ·have hz:l=[]:=by
    cases l with
    |nil=>rfl
    |cons a l=>cases e0
   simp(maxSteps:=4000000) (disch:=first|assumption|omega|(simp -implicitDefEqProofs only[Xh,Xi]<;>first|assumption|omega)|decide) only[en,bs,ea,ZZ,ZV,ZG,YA,Yl,ZR,ZO,Zu,ZM,YL,Y9,YM,Y7,YQ,YB,ZP,Yc,Yd,YT,Nat.reduceSub,Nat.reduceAdd,Nat.reduceLeDiff,ZA,ZT,Nat.reduceEqDiff,decide_true,decide_false,Yt,Zd,Zb,XV,X1,YO,Yq,Yj,YK,YJ,ZX,Zn,Zo,Y0,Z0,Zb,Zd,YV,Zr,ZL,Rg,ZJ,Zs,ZC,Zt,ZF,Zq,Zy,Zl,ZH,Xs,XC,Xz,Xy,ZN,ZI,ZZ,ZV,ZB,ZG,Yw,Yy,Zu,ZM,ZO,ZR,Zb,Zd,c62,Z9,Xg,ZY,Yu,Z3,Z6,Yf,Nat.reduceEqDiff,reduceCtorEq,Xe]
   exact⟨_,_,rfl,.inl ⟨hz,.inr ⟨_,_,_,rfl⟩⟩,hk,λb o m c e=>by cases e;exact⟨Zz _,YP _⟩⟩
  ·rw[Hg,Sq] at ea
   have hne:l≠[]:=λe=>e0 (by rw[e];rfl)
   simp(maxSteps:=4000000) (disch:=first|assumption|omega|(simp -implicitDefEqProofs only[Xh,Xi]<;>first|assumption|omega)|decide) only[en,bs,ea,ZZ,ZV,ZG,YA,Yl,ZR,ZO,Zu,ZM,YL,Y9,YM,Y7,YQ,YB,ZP,Yc,Yd,YT,Nat.reduceSub,Nat.reduceAdd,Nat.reduceLeDiff,ZA,ZT,Nat.reduceEqDiff,decide_true,decide_false,Yt,Zd,Zb,XV,X1,YO,Yq,Yj,YK,YJ,ZX,Zn,Zo,Y0,Z0,Zb,Zd,YV,Zr,ZL,Rg,ZJ,Zs,ZC,Zt,ZF,Zq,Zy,Zl,ZH,Xs,XC,Xz,Xy,ZN,ZI,ZZ,ZV,ZB,ZG,Yw,Yy,Zu,ZM,ZO,ZR,Zb,Zd,c62,Z9,Xg,ZY,Yu,Z3,Z6,Yf,Nat.reduceEqDiff,reduceCtorEq,Xe]
   exact⟨_,_,rfl,ZaR (H:=H.new (rH 5 [])) hne false,hk.then_new _,λb o m c e=>by cases e;exact⟨Vr _,YP _⟩⟩
 ·have hz:l=[]:=by
   cases l with
   |nil=>rfl
   |cons a l=>cases e0
  simp(maxSteps:=4000000) (disch:=first|assumption|omega|(simp -implicitDefEqProofs only[Xh,Xi]<;>first|assumption|omega)|decide) only[fW,YA,Yl,ZR,ZO,Zu,ZM,YL,Y9,YM,Y7,YQ,YB,ZP,Yc,Yd,YT,Nat.reduceSub,Nat.reduceAdd,Nat.reduceLeDiff,ZA,ZT,Nat.reduceEqDiff,decide_true,decide_false,Yt,Zd,Zb,XV,X1,YO,Yq,Yj,YK,YJ,ZX,Zn,Zo,Y0,Z0,Zb,Zd,YV,Zr,ZL,Rg,ZJ,Zs,ZC,Zt,ZF,Zq,Zy,Zl,ZH,Xs,XC,Xz,Xy,ZN,ZI,ZZ,ZV,ZB,ZG,Yw,Yy,Zu,ZM,ZO,ZR,Zb,Zd,c62,Z9,Xg,ZY,Yu,Z3,Z6,Yf,Nat.reduceEqDiff,reduceCtorEq,Xe]
  exact⟨_,_,rfl,.inl ⟨hz,.inl rfl⟩,ZK.refl _ _,λb o m c e=>by cases e⟩
theorem su{v:AV}{l:List UInt8}(h:BV H v l)(hb: ∀b o n c,v=.slice b o n c->b<H.nx):Sz H 1 v (MI l):=by
 refine .inr ⟨λx hx=>?_,?_⟩
 ·unfold MI at hx
  obtain⟨a,_,rfl⟩:=Xq.1 hx
  rfl
 ·rcases h with⟨rfl,rfl|⟨b,o,c,rfl⟩⟩|⟨hne,b,o,c,r,rfl,hB,hlt⟩
  ·exact .inl ⟨rfl,rfl⟩
  ·exact .inr ⟨b,o,c,rfl,hb _ _ _ _ rfl,λh=>absurd rfl h⟩
  ·refine .inr ⟨b,o,c,by rw[Sq],hlt,λ_=>⟨r,hB.at_,by rw[Sq,XM];exact hB.fits,λi hi=>?_⟩⟩
   rw[Sq,XM] at hi
   rw[hB.get i hi,Hg,Zh,Zh,Xb,Zp hi];rfl
structure Rd(H:Heap)(v:AV)(l:List UInt8):Prop where
 len: ∀G,Ll v G=.val (nI .i64 l.length) G
 at_: ∀i,i<l.length-> ∃b o r,(∀(k:IntKind) (G:Heap),KA 1 v (nI k i) G=.val (.ptr b o) G)∧b<H.nx∧H.t.get b=some (.row r)∧ ∀G,ld1 (some (.row r)) o G=.val (Vf (l.getD i 0)) G
theorem fT{l:List UInt8}(h:i<l.length):(MI l).getD i []=[Vf (l.getD i 0)]:=by
 unfold MI
 rw[Zh,Xb,Zh,Zp h];rfl
theorem Rd.of_sz{v:AV}{l:List UInt8}(h:Sz H 1 v (MI l)):Rd H v l:=by
 have ln:=h.len
 rw[Sq] at ln
 refine⟨ln,λi hi=>?_⟩
 obtain⟨b,o,r,eI,hb,gb,_,eE⟩:=h.at_ (i:=i) (by rw[Sq];omega)
 exact⟨b,o,r,eI,hb,gb,λG=>by
  have:=eE 0 G (by decide)
  rw[fT hi] at this;exact this⟩
theorem Rd.of_bv{v:AV}{l:List UInt8}(h:BV H v l):Rd H v l:=by
 by_cases h0:l=[]
 ·subst h0
  exact⟨h.len,λi hi=>by cases hi⟩
 ·refine Rd.of_sz (su h λb o n c e=>?_)
  rcases h with⟨e2,_⟩|⟨_,b',o',c',r',e2,_,hlt⟩
  ·exact absurd e2 h0
  ·rw[e] at e2;cases e2;exact hlt
def fEs:List Sy:=[⟨.str [99,104,107,115,117,109],.agg [nI .i64 148,nI .i64 8],0⟩,⟨.str [100,101,118,109,97,106,111,114],.agg [nI .i64 329,nI .i64 8],0⟩,⟨.str [100,101,118,109,105,110,111,114],.agg [nI .i64 337,nI .i64 8],0⟩,⟨.str [103,105,100],.agg [nI .i64 116,nI .i64 8],0⟩,⟨.str [103,110,97,109,101],.agg [nI .i64 297,nI .i64 32],0⟩,⟨.str [108,105,110,107,110,97,109,101],.agg [nI .i64 157,nI .i64 100],0⟩,⟨.str [109,97,103,105,99],.agg [nI .i64 257,nI .i64 6],0⟩,⟨.str [109,111,100,101],.agg [nI .i64 100,nI .i64 8],0⟩,⟨.str [109,116,105,109,101],.agg [nI .i64 136,nI .i64 12],0⟩,⟨.str [110,97,109,101],.agg [nI .i64 0,nI .i64 100],0⟩,⟨.str [112,114,101,102,105,120],.agg [nI .i64 345,nI .i64 155],0⟩,⟨.str [115,105,122,101],.agg [nI .i64 124,nI .i64 12],0⟩,⟨.str [116,121,112,101],.agg [nI .i64 156,nI .i64 1],0⟩,⟨.str [117,105,100],.agg [nI .i64 108,nI .i64 8],0⟩,⟨.str [117,110,97,109,101],.agg [nI .i64 265,nI .i64 32],0⟩,⟨.str [118,101,114,115,105,111,110],.agg [nI .i64 263,nI .i64 2],0⟩]
structure TL(H:Heap):Prop where
 p:Ot H
 g:QT H
 f: ∃r,H.t.get 3=some (.row r)∧0<r.size∧r.get 0=.map 15
 fm:H.t.get 15=some (.cmap fEs)
theorem TL.keep{H H':Heap}{S:List Nat}(g:TL H)(k:ZK H H' S)(hS: ∀x∈S,100<=x):TL H':=by
 obtain⟨a,b,⟨r,c1,c2,c3⟩,d⟩:=g
 have kk:=λx (hx:x<100)=>k.get x (by have:=a.nx;omega) (λh=>by have:=hS x h;omega)
 exact⟨a.keep k hS,b.keep k hS,⟨r,by rw[kk _ (by decide)];exact c1,c2,c3⟩,by rw[kk _ (by decide)];exact d⟩
theorem TL.keep0{H H':Heap}(g:TL H)(k:ZK H H' []):TL H':=g.keep k (by simp)
theorem ZK.more{H H':Heap}{S:List Nat}(k:ZK H H' []):ZK H H' S:=⟨k.nx,k.ro,λc hc _=>k.get c hc (by simp)⟩
structure Cc(nm:List UInt8)(a l:Nat):Prop where
 lk: ∀G,lkO Mw (.agg [nI .i64 0,nI .i64 0]) true (some (.cmap fEs)) (.str nm) G=.val (.tup [.agg [nI .i64 a,nI .i64 l],.bool true]) G
 pos:1<=l
 le:a+l<=512
theorem EH:Cc [99,104,107,115,117,109] 148 8:=⟨λG=>by kernel_rfl,by decide,by decide⟩
theorem ae:Cc [103,105,100] 116 8:=⟨λG=>by kernel_rfl,by decide,by decide⟩
theorem vQ:Cc [108,105,110,107,110,97,109,101] 157 100:=⟨λG=>by kernel_rfl,by decide,by decide⟩
theorem sG:Cc [109,97,103,105,99] 257 6:=⟨λG=>by kernel_rfl,by decide,by decide⟩
theorem m8:Cc [109,111,100,101] 100 8:=⟨λG=>by kernel_rfl,by decide,by decide⟩
theorem sH:Cc [109,116,105,109,101] 136 12:=⟨λG=>by kernel_rfl,by decide,by decide⟩
theorem m9:Cc [110,97,109,101] 0 100:=⟨λG=>by kernel_rfl,by decide,by decide⟩
theorem lc:Cc [112,114,101,102,105,120] 345 155:=⟨λG=>by kernel_rfl,by decide,by decide⟩
theorem vR:Cc [115,105,122,101] 124 12:=⟨λG=>by kernel_rfl,by decide,by decide⟩
theorem lf:Cc [116,121,112,101] 156 1:=⟨λG=>by kernel_rfl,by decide,by decide⟩
theorem af:Cc [117,105,100] 108 8:=⟨λG=>by kernel_rfl,by decide,by decide⟩
theorem qI:Cc [118,101,114,115,105,111,110] 263 2:=⟨λG=>by kernel_rfl,by decide,by decide⟩
theorem ZcQ{l:Nat}(hlh:l<h)(hh:h<=n)(b o:Nat)(k j:IntKind)(H:Heap):OM n 1 (.ptr b o) (some (nI k l)) (some (nI j h)) H=.val (.slice b (o+l) (h - l) (some (n - l))) H:=yc (by omega) (by omega) hh b o k j H
theorem Im(E:Env Zx fs fuel){nm:List UInt8}{a l:Nat}(gH:TL H)(F:Cc nm a l)(hb:b<H.nx):
  ∃H',Z7 (LK Zx fs fuel k) fs fuel (n+1) 61 [.ptr b 0,.str nm] H=.ret (.slice b a l (some (512 - a))) H'∧ZK H H' []:=by
 rw[Z1 (ZU E.n61 (.inr rfl) _ _) E.f61]
 obtain⟨r,g1,g2,g3⟩:=gH.f
 have g4:=gH.fm
 have hlk:=F.lk;have h1:=F.pos;have h2:=F.le;have h3:=gH.p.nx;have h4:=gH.p.ro
 have ld: ∀G,ld1 (some (.row r)) 0 G=.val (.map 15) G:=λG=>by rw[Y0 g2,g3]
 have eqp: ∀(o:Nat) G,ND yS false (.ptr b o) .nilp G=.val (.bool false) G:=λ_ _=>rfl
 have stS: ∀(G:Heap),G.ro<=H.nx->CC 2 (some (rH 131 [nI .i64 0,nI .i64 0])) H.nx 0 (.agg [nI .i64 a,nI .i64 l]) G=.val XL (G.put H.nx (rH 131 [nI .i64 a,nI .i64 l])):=λG hG=>SD (l:=[nI .i64 0,nI .i64 0]) (vs:=[nI .i64 a,nI .i64 l]) rfl rfl (by decide) hG _ _ _ _
 have i0: ∀G:Heap,BJ 2 1 (.ptr H.nx 0) (nI .i64 0) G=.val (.ptr H.nx 0) G:=λG=>rfl
 have i1: ∀G:Heap,BJ 2 1 (.ptr H.nx 0) (nI .i64 1) G=.val (.ptr H.nx 1) G:=λG=>rfl
 have l0: ∀G,ld1 (some (rH 131 [nI .i64 a,nI .i64 l])) 0 G=.val (nI .i64 a) G:=λG=>rfl
 have l1: ∀G,ld1 (some (rH 131 [nI .i64 a,nI .i64 l])) 1 G=.val (nI .i64 l) G:=λG=>rfl
 have sa: ∀G:Heap,OM 512 1 (.ptr b 0) (some (nI .i64 a)) (some (nI .i64 (a+l))) G=.val (.slice b a l (some (512 - a))) G:=λG=>by
  rw[ZcQ (by omega) h2,Zb,XU]
 simp(maxSteps:=4000000) (disch:=first|assumption|omega|(simp -implicitDefEqProofs only[Xh,Xi]<;>first|assumption|omega)|decide) only[g1,g4,ld,hlk,eqp,stS,i0,i1,l0,l1,sa,SC,YA,Yl,ZR,ZO,Zu,ZM,YL,Y9,YM,Y7,YQ,YB,ZP,Yc,Yd,YT,Nat.reduceSub,Nat.reduceAdd,Nat.reduceLeDiff,ZA,ZT,Nat.reduceEqDiff,decide_true,decide_false,Yt,Zd,Zb,XV,X1,YO,Yq,Yj,YK,YJ,ZX,Zn,Zo,Y0,Z0,Zb,Zd,YV,Zr,ZL,Rg,ZJ,Zs,ZC,Zt,ZF,Zq,Zy,Zl,ZH,Xs,XC,Xz,Xy,ZN,ZI,ZZ,ZV,ZB,ZG,Yw,Yy,Zu,ZM,ZO,ZR,Zb,Zd,Zr,ZL,ZJ,c61,Z9,Xg,ZY,Yu,Z3,Z6,Yf,Nat.reducePow,Nat.reduceDiv,Nat.reduceMod,Nat.reduceEqDiff,reduceCtorEq,Xe]
 refine⟨_,rfl,?_⟩
 exact ZK.new _ _ _
def UV(l:List UInt8)(a n:Nat)(w:List UInt8):List UInt8:=if w.length=n then Iz l a w else l
theorem DM{l w:List UInt8}{a:Nat}(h:a+n<=l.length):(UV l a n w).length=l.length:=by
 unfold UV
 split
 ·rename_i h2;exact IA (by omega)
 ·rfl
theorem KR{a:Nat}{l:List UInt8}(h:HR H b l)(h0:1<=n)(ha:a+n<=512):BV H (.slice b a n (some (512 - a))) ((l.drop a).take n):=by
 obtain⟨⟨r,g,hc,_,_,hz⟩,hl,hb,_⟩:=h
 exact md g hc hz hb h0 (by omega) λk hk=>by cases hk;omega
theorem L0(E:Env Zx fs fuel){nm l:List UInt8}{a m:Nat}(gH:TL H)(F:Cc nm a m)(g:HR H b l):
  ∃v H',Z7 (LK Zx fs fuel k) fs fuel (n+3) 38 [.ptr b 0,.str nm] H=.ret (.tup [v,.bool true]) H'∧BV H' v ((l.drop a).take m)∧ZK H H' []∧ ∀b o m c,v=.slice b o m c->H.nx<=b∧b<H'.nx:=by
 rw[Z1 (ZU E.n38 (.inr rfl) _ _) E.f38]
 obtain⟨H0,e1,k0⟩:=Im (Zx:=Zx) (fs:=fs) (fuel:=fuel) E (k:=k) (n:=n+1) gH F g.lt
 have h1:=F.pos;have h2:=F.le
 have bv:=KR (g.keep0 k0) h1 h2
 have hb:=g.lt;have hl:=g.len
 obtain⟨v,H1,e2,IW,k1,far⟩:=ZaO E (k:=k) (n:=n+1) (su bv λb' o n' c h=>by cases h;exact Yk hb k0.nx) (by rw[Z2];omega)
 have eqn: ∀G,ND qG true (.slice b a m (some (512 - a))) .nils G=.val (.bool true) G:=λ_=>rfl
 simp(maxSteps:=4000000) (disch:=first|assumption|omega|(simp -implicitDefEqProofs only[Xh,Xi]<;>first|assumption|omega)|decide) only[e1,e2,eqn,YA,Yl,ZR,ZO,Zu,ZM,YL,Y9,YM,Y7,YQ,YB,ZP,Yc,Yd,YT,Nat.reduceSub,Nat.reduceAdd,Nat.reduceLeDiff,ZA,ZT,Nat.reduceEqDiff,decide_true,decide_false,Yt,Zd,Zb,XV,X1,YO,Yq,Yj,YK,YJ,ZX,Zn,Zo,Y0,Z0,Zb,Zd,YV,Zr,ZL,Rg,ZJ,Zs,ZC,Zt,ZF,Zq,Zy,Zl,ZH,Xs,XC,Xz,Xy,ZN,ZI,ZZ,ZV,ZB,ZG,Yw,Yy,Zu,ZM,ZO,ZR,Zb,Zd,Zr,ZL,ZJ,c38,Z9,Xg,ZY,Yu,Z3,Z6,Yf,Nat.reduceEqDiff,reduceCtorEq,Xe]
 exact⟨_,_,rfl,IW,k0.trans' k1,λb' o m' c h=>⟨YR k0.nx (far b' o m' c h).1,(far b' o m' c h).2⟩⟩
theorem Kf(E:Env Zx fs fuel){nm l w:List UInt8}{a m:Nat}{v:AV}(gH:TL H)(F:Cc nm a m)(g:HR H b l)(hv:BV H v w):
  ∃z H',Z7 (LK Zx fs fuel k) fs fuel (n+2) 37 [.ptr b 0,.str nm,v] H=.ret z H'∧ZK H H' [b]∧HR H' b (UV l a m w):=by
 rw[Z1 (ZU E.n37 (.inr rfl) _ _) E.f37]
 obtain⟨H0,e1,k0⟩:=Im (Zx:=Zx) (fs:=fs) (fuel:=fuel) E (k:=k) (n:=n) gH F g.lt
 have h1:=F.pos;have h2:=F.le
 have g0:=g.keep0 k0
 obtain⟨⟨r,r1,r2,r3,r4,r5⟩,hl,hb,hro⟩:=g0
 have hv0:=hv.keep k0 (λ_ _ _ _ _=>by simp)
 have eqn: ∀G,ND qG false (.slice b a m (some (512 - a))) .nils G=.val (.bool false) G:=λ_=>rfl
 have ln:=hv.len
 by_cases hw:w.length=m
 ·have d1:decide (w.length≠m)=false:=Ze (λh=>h hw)
  obtain⟨r',cp,q1,q2,q3,q4⟩:=mK (l:=l) (n:=m) (a:=a) (e1:=some (512 - a)) r1 r2 r3 r4 hro hv0 hw h1 (by omega)
  rw[show UV l a m w=Iz l a w by unfold UV;rw[if_pos hw]]
  simp(maxSteps:=4000000) (disch:=first|assumption|omega|(simp -implicitDefEqProofs only[Xh,Xi]<;>first|assumption|omega)|decide) only[e1,eqn,ln,d1,cp,L8,YA,Yl,ZR,ZO,Zu,ZM,YL,Y9,YM,Y7,YQ,YB,ZP,Yc,Yd,YT,Nat.reduceSub,Nat.reduceAdd,Nat.reduceLeDiff,ZA,ZT,Nat.reduceEqDiff,decide_true,decide_false,Yt,Zd,Zb,XV,X1,YO,Yq,Yj,YK,YJ,ZX,Zn,Zo,Y0,Z0,Zb,Zd,YV,Zr,ZL,Rg,ZJ,Zs,ZC,Zt,ZF,Zq,Zy,Zl,ZH,Xs,XC,Xz,Xy,ZN,ZI,ZZ,ZV,ZB,ZG,Yw,Yy,Zu,ZM,ZO,ZR,Zb,Zd,Zr,ZL,ZJ,c37,Z9,Xg,ZY,Yu,Z3,Z6,Yf,Nat.reduceEqDiff,reduceCtorEq,Xe]
  exact⟨_,_,rfl,(k0.more).then_put (λ_=>by simp),⟨⟨r',Xv _ _ _,q1,q2,q3,by rw[q4,r5]⟩,by rw[IA (by omega)];exact hl,hb,hro⟩⟩
 ·have d1:decide (w.length≠m)=true:=Zi hw
  rw[show UV l a m w=l by unfold UV;rw[if_neg hw]]
  simp(maxSteps:=4000000) (disch:=first|assumption|omega|(simp -implicitDefEqProofs only[Xh,Xi]<;>first|assumption|omega)|decide) only[e1,eqn,ln,d1,YA,Yl,ZR,ZO,Zu,ZM,YL,Y9,YM,Y7,YQ,YB,ZP,Yc,Yd,YT,Nat.reduceSub,Nat.reduceAdd,Nat.reduceLeDiff,ZA,ZT,Nat.reduceEqDiff,decide_true,decide_false,Yt,Zd,Zb,XV,X1,YO,Yq,Yj,YK,YJ,ZX,Zn,Zo,Y0,Z0,Zb,Zd,YV,Zr,ZL,Rg,ZJ,Zs,ZC,Zt,ZF,Zq,Zy,Zl,ZH,Xs,XC,Xz,Xy,ZN,ZI,ZZ,ZV,ZB,ZG,Yw,Yy,Zu,ZM,ZO,ZR,Zb,Zd,Zr,ZL,ZJ,c37,Z9,Xg,ZY,Yu,Z3,Z6,Yf,Nat.reduceEqDiff,reduceCtorEq,Xe]
  exact⟨_,_,rfl,k0.more,⟨⟨r,r1,r2,r3,r4,r5⟩,hl,hb,hro⟩⟩
def aX(a:AV)(H:Heap):OR:=BW (λ_=>a) NZ H
theorem xQ(x:YF)(tm:TM)(H:Heap):BW x tm H=aX (x tm) H:=rfl
theorem xD{o e:Nat}{c:Option Nat}{l:List AV}{ex:Bool}(g:H.t.get b=some (rG e 1 l 0 false true ex))(hro:H.ro<=b):aX (.slice b o n c) H=.val (.slice b o n c) (H.put b (rG e 1 l 0 true true ex)):=by
 show XA H b (λr=>Yb (cond r.sm false (H.may r b)) (Yb (Nat.beq r.fz 0) (.val (.slice b o n c) (H.put b (.row ⟨r.elem,r.sz,r.size,r.cells,r.dflt,r.fz,true,r.own,r.exact⟩)))))=_
 unfold XA
 rw[g]
 show Yb (Nat.ble H.ro b) _=_
 rw[Zj hro];rfl
theorem tg(E:Env Zx fs fuel){sm ex:Bool}(zb:100<=H.nx)(hb:b<H.nx)(hro:H.ro<=H.nx)(g:H.t.get b=some (rG 5 1 [nI .u8 32] 0 sm true ex)):
  ∃q H',Z7 (LK Zx fs fuel k) fs fuel (n+2) 66 [.slice b 0 1 none,nI .i64 8] H=.ret (.slice q 0 8 (some 8)) H'∧BV H' (.slice q 0 8 (some 8)) (List.replicate 8 32)∧ZK H H' []∧H.nx<=q∧q<H'.nx:=by
 rw[Z1 (ZU E.n66 (.inr rfl) _ _) E.f66]
 have em:=λ{j}=>NA (fs:=fs) (fuel:=fuel) (k:=k) (n:=j) (Sj:=Sj) (RK:=RK) (f:=92) rfl (E.ml H zb)
 have ez:=λ{j}=>NA (fs:=fs) (fuel:=fuel) (k:=k) (n:=j) (Sj:=Sj) (RK:=RK) (f:=97) rfl (E.mz 8 H (by decide))
 obtain⟨H1,hH1⟩:=SK (H.new (.row ⟨5,1,8,.leaf,.unk,0,false,true,false⟩))
 have Kn:H1.nx=H.nx+1:=by rw[<-hH1];rfl
 have FF:H1.ro=H.ro:=by rw[<-hH1];rfl
 have k1:ZK H H1 []:=by rw[<-hH1];exact ZK.new H _ []
 have g1:H1.t.get H.nx=some (.row ⟨5,1,8,.leaf,.unk,0,false,true,false⟩):=by rw[<-hH1];exact YD rfl _
 have gb1:H1.t.get b=some (rG 5 1 [nI .u8 32] 0 sm true ex):=by rw[k1.get b hb (by simp)];exact g
 obtain⟨r2,c2,C2,o2,f2,s2⟩:=O9 (b:=H.nx) (o:=0) (c:=b) (q:=0) (dn:=8) (sn:=1) (n:=1) (e1:=some 8) (e2:=none) g1 (tp 5 8) rfl (by rw[FF];exact hro) rfl gb1 (LG 5 1 [nI .u8 32] 0 sm true ex) rfl (by decide) (by decide) (by decide)
 obtain⟨H2,hH2⟩:=SK (H1.put H.nx (.row r2))
 have g2:H2.t.get H.nx=some (.row r2):=by rw[<-hH2];exact Xv _ _ _
 have nx2:H2.nx=H1.nx:=by rw[<-hH2];rfl
 have ir:H2.ro=H1.ro:=by rw[<-hH2];rfl
 rw[hH2] at c2
 obtain⟨r3,c3,C3,o3,f3,s3⟩:=O9 (b:=H.nx) (o:=1) (c:=H.nx) (q:=0) (dn:=7) (sn:=1) (n:=1) (e1:=some 7) (e2:=some 8) g2 C2 o2 (by rw[ir,FF];exact hro) f2 g2 C2 rfl (by decide) (by decide) (by decide)
 obtain⟨H3,hH3⟩:=SK (H2.put H.nx (.row r3))
 have g3:H3.t.get H.nx=some (.row r3):=by rw[<-hH3];exact Xv _ _ _
 have nx3:H3.nx=H2.nx:=by rw[<-hH3];rfl
 have ro3:H3.ro=H2.ro:=by rw[<-hH3];rfl
 rw[hH3] at c3
 obtain⟨r4,c4,C4,o4,f4,s4⟩:=O9 (b:=H.nx) (o:=2) (c:=H.nx) (q:=0) (dn:=6) (sn:=2) (n:=2) (e1:=some 6) (e2:=some 8) g3 C3 o3 (by rw[ro3,ir,FF];exact hro) f3 g3 C3 rfl (by decide) (by decide) (by decide)
 obtain⟨H4,Kz⟩:=SK (H3.put H.nx (.row r4))
 have g4:H4.t.get H.nx=some (.row r4):=by rw[<-Kz];exact Xv _ _ _
 have nx4:H4.nx=H3.nx:=by rw[<-Kz];rfl
 have ro4:H4.ro=H3.ro:=by rw[<-Kz];rfl
 rw[Kz] at c4
 obtain⟨r5,c5,C5,o5,f5,s5⟩:=O9 (b:=H.nx) (o:=4) (c:=H.nx) (q:=0) (dn:=4) (sn:=4) (n:=4) (e1:=some 4) (e2:=some 8) g4 C4 o4 (by rw[ro4,ro3,ir,FF];exact hro) f4 g4 C4 rfl (by decide) (by decide) (by decide)
 obtain⟨H5,hH5⟩:=SK (H4.put H.nx (.row r5))
 have g5:H5.t.get H.nx=some (.row r5):=by rw[<-hH5];exact Xv _ _ _
 have nx5:H5.nx=H4.nx:=by rw[<-hH5];rfl
 rw[hH5] at c5
 have k5:ZK H H5 []:=by
  rw[<-hH5,<-Kz,<-hH3,<-hH2]
  exact(((k1.then_put (by omega)).then_put (by omega)).then_put (by omega)).then_put (by omega)
 have s30:rZ (.slice H.nx 0 8 none) (nI .i64 8) (nI .i64 8) H1=.val (.slice H.nx 0 8 (some 8)) H1:=by
  show XA H1 H.nx _=_
  unfold XA
  rw[g1];rfl
 have sa2:Th 1 (.slice H.nx 0 8 (some 8)) (some (nI .i64 1)) none ⟨H2.nx,H2.t,H2.nx⟩=.val (.slice H.nx 1 7 (some 7)) ⟨H2.nx,H2.t,H2.nx⟩:=by
  show XA _ H.nx _=_
  unfold XA
  rw[show(Heap.mk H2.nx H2.t H2.nx).t.get H.nx=_ from g2];rfl
 have sb2:Th 1 (.slice H.nx 0 8 (some 8)) none (some (nI .i64 1)) ⟨H2.nx,H2.t,H2.nx⟩=.val (.slice H.nx 0 1 (some 8)) ⟨H2.nx,H2.t,H2.nx⟩:=by
  show XA _ H.nx _=_
  unfold XA
  rw[show(Heap.mk H2.nx H2.t H2.nx).t.get H.nx=_ from g2];rfl
 have sa3:Th 1 (.slice H.nx 0 8 (some 8)) (some (nI .i64 2)) none ⟨H3.nx,H3.t,H3.nx⟩=.val (.slice H.nx 2 6 (some 6)) ⟨H3.nx,H3.t,H3.nx⟩:=by
  show XA _ H.nx _=_
  unfold XA
  rw[show(Heap.mk H3.nx H3.t H3.nx).t.get H.nx=_ from g3];rfl
 have sb3:Th 1 (.slice H.nx 0 8 (some 8)) none (some (nI .i64 2)) ⟨H3.nx,H3.t,H3.nx⟩=.val (.slice H.nx 0 2 (some 8)) ⟨H3.nx,H3.t,H3.nx⟩:=by
  show XA _ H.nx _=_
  unfold XA
  rw[show(Heap.mk H3.nx H3.t H3.nx).t.get H.nx=_ from g3];rfl
 have sa4:Th 1 (.slice H.nx 0 8 (some 8)) (some (nI .i64 4)) none ⟨H4.nx,H4.t,H4.nx⟩=.val (.slice H.nx 4 4 (some 4)) ⟨H4.nx,H4.t,H4.nx⟩:=by
  show XA _ H.nx _=_
  unfold XA
  rw[show(Heap.mk H4.nx H4.t H4.nx).t.get H.nx=_ from g4];rfl
 have sb4:Th 1 (.slice H.nx 0 8 (some 8)) none (some (nI .i64 4)) ⟨H4.nx,H4.t,H4.nx⟩=.val (.slice H.nx 0 4 (some 8)) ⟨H4.nx,H4.t,H4.nx⟩:=by
  show XA _ H.nx _=_
  unfold XA
  rw[show(Heap.mk H4.nx H4.t H4.nx).t.get H.nx=_ from g4];rfl
 have hf:=E.big
 obtain⟨fu,rfl⟩: ∃fu,fuel=fu+4:=⟨fuel - 4,by omega⟩
 have b1: ∀G:Heap,ND VU false (nI .i64 8) (nI .i64 0) G=.val (.bool false) G:=λG=>rfl
 have b2: ∀G:Heap,Tl Wd Xl (nI .i64 8) (nI .i64 0) G=.val (.bool false) G:=λG=>rfl
 have b3: ∀G:Heap,OY .u64 (nI .i64 1) G=.val (nI .u64 1) G:=λG=>rfl
 have b4: ∀G:Heap,OY .u64 (nI .i64 8) G=.val (nI .u64 8) G:=λG=>rfl
 have b5: ∀G:Heap,Tl Tq Vn (nI .u64 0) (nI .u64 0) G=.val (.bool false) G:=λG=>rfl
 have b6: ∀G:Heap,Tl Tq Vn (nI .u64 8) (nI .u64 9223372036854775807) G=.val (.bool false) G:=λG=>rfl
 have b7: ∀G:Heap,OY .i64 (nI .u64 8) G=.val (nI .i64 8) G:=λG=>rfl
 have b8: ∀G:Heap,ND VU false (nI .i64 1) (nI .i64 0) G=.val (.bool false) G:=λG=>rfl
 have b9: ∀G:Heap,Tl Tq Vn (nI .i64 8) (nI .i64 8192) G=.val (.bool false) G:=λG=>rfl
 have m1: ∀G:Heap,pO false [nI .i64 1,nI .i64 8] G=.val (nI .i64 1) G:=λG=>rfl
 have m2: ∀G:Heap,pO false [nI .i64 2,nI .i64 8] G=.val (nI .i64 2) G:=λG=>rfl
 have m4: ∀G:Heap,pO false [nI .i64 4,nI .i64 8] G=.val (nI .i64 4) G:=λG=>rfl
 have l1: ∀G:Heap,Tl Wd Xl (nI .i64 1) (nI .i64 8) G=.val (.bool true) G:=λG=>rfl
 have l2: ∀G:Heap,Tl Wd Xl (nI .i64 2) (nI .i64 8) G=.val (.bool true) G:=λG=>rfl
 have l4: ∀G:Heap,Tl Wd Xl (nI .i64 4) (nI .i64 8) G=.val (.bool true) G:=λG=>rfl
 have l8: ∀G:Heap,Tl Wd Xl (nI .i64 8) (nI .i64 8) G=.val (.bool false) G:=λG=>rfl
 have a1: ∀G:Heap,SG (nI .i64 1) (nI .i64 1) G=.val (nI .i64 2) G:=λG=>rfl
 have a2: ∀G:Heap,SG (nI .i64 2) (nI .i64 2) G=.val (nI .i64 4) G:=λG=>rfl
 have a4: ∀G:Heap,SG (nI .i64 4) (nI .i64 4) G=.val (nI .i64 8) G:=λG=>rfl
 simp(maxSteps:=4000000) (disch:=first|assumption|omega|(simp -implicitDefEqProofs only[Xh,Xi]<;>first|assumption|omega)|decide) only[em,ez,hH1,s30,c2,c3,c4,c5,sa2,sb2,sa3,sb3,sa4,sb4,b1,b2,b3,b4,b5,b6,b7,b8,b9,m1,m2,m4,l1,l2,l4,l8,a1,a2,a4,Pk,SY,L8,SZ,ZB,ZG,XI,Wy,Yx,Yg,Z8,YA,Yl,ZR,ZO,Zu,ZM,YL,Y9,YM,Y7,YQ,YB,ZP,Yc,Yd,YT,Nat.reduceSub,Nat.reduceAdd,Nat.reduceLeDiff,ZA,ZT,Nat.reduceEqDiff,decide_true,decide_false,c66,mq,Z9,Xg,ZY,Yu,Z3,Z6,Yf,Nat.reducePow,Nat.reduceDiv,Nat.reduceMod,Nat.reduceEqDiff,reduceCtorEq,Xe,U4,CK]
 refine⟨H.nx,_,rfl,yE g5 C5 (by rw[s5,s4,s3,s2]) (by omega) rfl (λk h=>by cases h;decide),k5,Zz _,by omega⟩
theorem xl(E:Env Zx fs fuel):
  ∃H',Z7 (LK Zx fs fuel 1) fs fuel (n+2) 122 [.str s,.str [0]] H=.ret (mI (Vk 0 s)) H'∧ZK H H' []:=by
 rw[Z1 (ZU E.n122 (.inl (by decide)) _ _) E.f122]
 have e1:=λ{j}=>sZ E (k:=1) (n:=j) (by decide) (s:=s) (x:=0) (H:=H) (by decide)
 have wl:([0]:List UInt8).length=1:=rfl
 have w0:([0]:List UInt8).getD 0 0=0:=rfl
 have w1:(0:UInt8).toNat=0:=rfl
 by_cases h:([0]:List UInt8)=s
 ·have d_h:decide (([0]:List UInt8)=s)=true:=Zi h
  simp only[wl,d_h,YL,YM,ZP,decide_false,yG,Z9,Xg,ZY,reduceCtorEq,Xe]
  subst h
  refine⟨_,rfl,?_⟩
  exact ZK.refl _ _
 ·have d_h:decide (([0]:List UInt8)=s)=false:=Ze h
  simp(disch:=omega) only[wl,w0,w1,e1,d_h,Yl,YL,YM,ZP,decide_true,decide_false,yG,Z9,Xg,ZY,reduceCtorEq,Xe]
  refine⟨_,rfl,?_⟩
  exact ZK.refl _ _
theorem dm(E:Env Zx fs fuel)(hk:2<=k):
  Z7 (LK Zx fs fuel k) fs fuel (n+1) 122 [.str s,.str [0]] H=.ret (mI (Vk 0 s)) H:=by
 obtain⟨H',e,g⟩:=xl E (n:=898) (H:=H)
 exact Xc (r:=1) rfl rfl e g (PZ _ _) hk
theorem ua(E:Env Zx fs fuel):
  ∃H',Z7 (LK Zx fs fuel 2) fs fuel (n+2) 91 [.str s,.str [0]] H=.ret (mI (Vk 0 s)) H'∧ZK H H' []:=by
 rw[Z1 (ZU E.n91 (.inl (by decide)) _ _) E.f91]
 have e1:=λ{j}=>dm E (k:=2) (n:=j) (by decide) (s:=s) (H:=H)
 simp only[e1,c91,Z9,Xg,ZY,Xe]
 refine⟨_,rfl,?_⟩
 exact ZK.refl _ _
theorem ZbZ(E:Env Zx fs fuel)(hk:3<=k):
  Z7 (LK Zx fs fuel k) fs fuel (n+1) 91 [.str s,.str [0]] H=.ret (mI (Vk 0 s)) H:=by
 obtain⟨H',e,g⟩:=ua E (n:=898) (H:=H)
 exact Xc (r:=2) rfl rfl e g (PZ _ _) hk
theorem ke(E:Env Zx fs fuel):
  ∃H',Z7 (LK Zx fs fuel 3) fs fuel (n+2) 63 [.str s,.str [0]] H=.ret (.bool (decide (0<Vk 0 s))) H'∧ZK H H' []:=by
 rw[Z1 (ZU E.n63 (.inl (by decide)) _ _) E.f63]
 have e1:=λ{j}=>ZbZ E (k:=3) (n:=j) (by decide) (s:=s) (H:=H)
 simp only[e1,XV,c63,Z9,Xg,ZY,Xe]
 refine⟨_,rfl,?_⟩
 exact ZK.refl _ _
theorem ZhV(E:Env Zx fs fuel)(hk:4<=k):
  Z7 (LK Zx fs fuel k) fs fuel (n+1) 63 [.str s,.str [0]] H=.ret (.bool (decide (0<Vk 0 s))) H:=by
 obtain⟨H',e,g⟩:=ke E (n:=898) (H:=H)
 exact Xc (r:=3) rfl rfl e g (rfl) hk
def QP(s:List UInt8)(n:Nat):List UInt8:=if 0<Vk 0 s then [] else if n<s.length then [] else s++List.replicate (n - s.length) 0
def SJ(u n:Nat):List UInt8:=if n - 1<(T1 u).length then [] else List.replicate (n - 1 - (T1 u).length) 48++T1 u++[0]
theorem ZcX(E:Env Zx fs fuel)(hk:4<=k){m:Nat}(hro:H.ro<=H.nx)(hs:s.length<=90000)(h1:1<=m)(h2:m<=512):
  ∃v z H',Z7 (LK Zx fs fuel k) fs fuel (n+2) 39 [.str s,nI .i64 m] H=.ret (.tup [v,z]) H'∧BV H' v (QP s m)∧ZK H H' []∧ ∀b o q c,v=.slice b o q c->b<H'.nx:=by
 rw[Z1 (ZU E.n39 (.inr rfl) _ _) E.f39]
 have ec:=λ{j}=>ZhV E (k:=k) (n:=j) hk (s:=s) (H:=H)
 have d1:decide (m<1)=false:=Ze (by omega)
 have d2:decide (512<m)=false:=Ze (by omega)
 by_cases hz:0<Vk 0 s
 ·have d3:decide (0<Vk 0 s)=true:=Zi hz
  rw[show QP s m=[] by unfold QP;rw[if_pos hz]]
  simp only[ec,d1,d2,d3,Zu,ZM,Zu,ZM,c39,Z9,Xg,ZY,Xe]
  refine⟨_,_,_,rfl,?_⟩
  exact⟨.inl ⟨rfl,.inl rfl⟩,ZK.refl _ _,λb o q c h=>by cases h⟩
 have d3:decide (0<Vk 0 s)=false:=Ze hz
 by_cases hl:m<s.length
 ·have d4:decide (m<s.length)=true:=Zi hl
  rw[show QP s m=[] by unfold QP;rw[if_neg hz,if_pos hl]]
  simp only[ec,d1,d2,d3,d4,Zu,ZM,ZP,Zu,ZM,c39,Z9,Xg,ZY,Xe]
  refine⟨_,_,_,rfl,?_⟩
  exact⟨.inl ⟨rfl,.inl rfl⟩,ZK.refl _ _,λb o q c h=>by cases h⟩
 have d4:decide (m<s.length)=false:=Ze hl
 have gb:=lD (H:=H) (s:=s) hro (Zz _) true
 obtain⟨H1,hH1⟩:=SK (H.new (rG 5 1 (s.map Vf) 0 true true false))
 have k1:ZK H H1 []:=by rw[<-hH1];exact ZK.new _ _ _
 have Kn:H1.nx=H.nx+1:=by rw[<-hH1];rfl
 have FF:H1.ro=H.ro:=by rw[<-hH1];rfl
 rw[hH1] at gb
 obtain⟨v,H2,e2,qQ,k2,_⟩:=sK gb (by omega) (by omega) (m - s.length) (by omega)
 have sb: ∀G,O3 (nI .i64 m) (nI .i64 s.length) G=.val (nI .i64 (m - s.length)) G:=λG=>YQ (by omega) (by omega) G
 rw[show QP s m=s++List.replicate (m - s.length) 0 by unfold QP;rw[if_neg hz,if_neg hl]]
 simp only[ec,d1,d2,d3,d4,hH1,e2,sb,Zu,ZM,ZP,Zu,ZM,Yp,Yv,YG,c39,Z9,Xg,ZY,Xe]
 refine⟨_,_,_,rfl,qQ.bv,k1.trans k2 (λc hc hlt=>?_),λb o q c h=>?_⟩
 ·have:=(gb.blk c hc).1;omega
 ·subst h;exact(qQ.blk b (by simp[Wo])).2
theorem rN(E:Env Zx fs fuel)(hk:4<=k){u m:Nat}(g:QT H)(hro:H.ro<=H.nx)(hu:u<9223372036854775808)(h1:2<=m)(h2:m<=20):
  ∃v H',Z7 (LK Zx fs fuel k) fs fuel (n+2) 40 [nI .i64 u,nI .i64 m] H=.ret (.tup [v,nI .i64 (if m - 1<(T1 u).length then 3 else 0)]) H'∧BV H' v (SJ u m)∧ZK H H' []∧(∀b o q c,v=.slice b o q c->b<H'.nx)∧(¬m - 1<(T1 u).length->GB H' v (SJ u m) H.nx):=by
 rw[Z1 (ZU E.n40 (.inr rfl) _ _) E.f40]
 have ef:=λ{j}=>Zff E (k:=k) (n:=j) (by omega) (u:=u) (H:=H) g hro hu
 have e0: ∀{j},Z7 (LK Zx fs fuel k) fs fuel (j+1) 64 [nI .i64 m] H=.ret (.bool true) H:=λ{j}=>by
  rw[Z1 (ZU E.n64 (.inr rfl) _ _) E.f64]
  have d1:decide (2<=m)=true:=Zi h1
  have d2:decide (m<=20)=true:=Zi h2
  simp only[d1,d2,ZR,ZO,ZO,ZR,c64,Z9,Xg,ZY,Xe]
 have d3:decide (u<0)=false:=Ze (TV _)
 have sb: ∀G,O3 (nI .i64 m) (nI .i64 1) G=.val (nI .i64 (m - 1)) G:=λG=>YQ (by omega) (by omega) G
 by_cases hl:m - 1<(T1 u).length
 ·have d4:decide (m - 1<(T1 u).length)=true:=Zi hl
  rw[show SJ u m=[] by unfold SJ;rw[if_pos hl],if_pos hl]
  simp only[ef,e0,d3,d4,sb,Zu,ZM,ZP,Zu,ZM,c40,Z9,Xg,ZY,Yu,Xe]
  refine⟨_,_,rfl,?_⟩
  exact⟨.inl ⟨rfl,.inl rfl⟩,ZK.refl _ _,λb o q c h=>by(cases h),λh=>absurd hl h⟩
 have d4:decide (m - 1<(T1 u).length)=false:=Ze hl
 have sb2: ∀G,O3 (nI .i64 (m - 1)) (nI .i64 (T1 u).length) G=.val (nI .i64 (m - 1 - (T1 u).length)) G:=λG=>YQ (by omega) (by omega) G
 have er:=λ{j}=>NA (fs:=fs) (fuel:=fuel) (k:=k) (n:=j) (Sj:=Sj) (RK:=RK) (f:=65) rfl (E.rz (m - 1 - (T1 u).length) H g.1 (by omega))
 have a1:=λG=>Nz (a:=List.replicate (m - 1 - (T1 u).length) 48) (b:=T1 u) (by rw[Z5];omega) G
 have a2:=λG=>Nz (a:=List.replicate (m - 1 - (T1 u).length) 48++T1 u) (b:=[0]) (by rw[Zk,Z5];show _+1<=_;omega) G
 have gb:=lD (H:=H) (s:=SJ u m) hro (Zz _) true
 rw[show SJ u m=List.replicate (m - 1 - (T1 u).length) 48++T1 u++[0] by unfold SJ;rw[if_neg hl]] at gb ⊢
 rw[if_neg hl]
 simp only[ef,e0,d3,d4,sb,sb2,er,a1,a2,Zu,ZM,ZP,Zu,ZM,Yv,YG,c40,Z9,Xg,ZY,Yu,Xe]
 refine⟨_,_,rfl,?_⟩
 exact⟨gb.bv,ZK.new _ _ _,λb o q c h=>by cases h;exact YP _,λ_=>gb⟩
theorem DX(E:Env Zx fs fuel)(hk:4<=k){nm l:List UInt8}{a m:Nat}(gH:TL H)(F:Cc nm a m)(g:HR H b l)(hs:s.length<=90000):
  ∃H',Z7 (LK Zx fs fuel k) fs fuel (n+4) 18 [.ptr b 0,.str nm,.str s] H=.ret (.tup []) H'∧ZK H H' [b]∧HR H' b (UV l a m (QP s m)):=by
 rw[Z1 (ZU E.n18 (.inr rfl) _ _) E.f18]
 have h1:=F.pos;have h2:=F.le
 obtain⟨v0,H1,e1,yD,k1,_⟩:=L0 E (k:=k) (n:=n) gH F g
 have hl:=g.len;have hb:=g.lt;have hro:=g.ro
 have ln:=yD.len
 rw[show((l.drop a).take m).length=m by rw[Z2,Xt];omega] at ln
 have hx1:=k1.nx
 obtain⟨v,z,H2,e2,IW,k2,_⟩:=ZcX E (k:=k) (n:=n+1) hk (H:=H1) (s:=s) (m:=m) (by rw[k1.ro];omega) hs h1 (by omega)
 have k12:ZK H H2 []:=k1.trans' k2
 obtain⟨z2,H3,e3,k3,g3⟩:=Kf E (k:=k) (n:=n+1) (b:=b) (l:=l) (gH.keep0 k12) F (g.keep0 k12) IW
 simp only[e1,ln,e2,e3,Uf,UD,Zd,Zd,Zd,c18,Z9,Xg,ZY,Xe]
 refine⟨_,rfl,?_⟩
 exact⟨k12.trans' k3,g3⟩
theorem L7(E:Env Zx fs fuel)(hk:4<=k){nm l:List UInt8}{a m:Nat}{u:Nat}(gH:TL H)(F:Cc nm a m)(g:HR H b l)(hu:u<9223372036854775808)(h3:2<=m)(h4:m<=20):
  ∃H',Z7 (LK Zx fs fuel k) fs fuel (n+4) 19 [.ptr b 0,.str nm,nI .i64 u] H=.ret (.tup []) H'∧ZK H H' [b]∧HR H' b (UV l a m (SJ u m)):=by
 rw[Z1 (ZU E.n19 (.inr rfl) _ _) E.f19]
 have h1:=F.pos;have h2:=F.le
 obtain⟨v0,H1,e1,yD,k1,_⟩:=L0 E (k:=k) (n:=n) gH F g
 have hl:=g.len;have hb:=g.lt;have hro:=g.ro
 have ln:=yD.len
 rw[show((l.drop a).take m).length=m by rw[Z2,Xt];omega] at ln
 have hx1:=k1.nx
 obtain⟨v,H2,e2,IW,k2,_⟩:=rN E (k:=k) (n:=n+1) hk (H:=H1) (u:=u) (m:=m) (gH.keep0 k1).g (by rw[k1.ro];omega) hu h3 h4
 have k12:ZK H H2 []:=k1.trans' k2
 obtain⟨z2,H3,e3,k3,g3⟩:=Kf E (k:=k) (n:=n+1) (b:=b) (l:=l) (gH.keep0 k12) F (g.keep0 k12) IW
 simp only[e1,ln,e2,e3,Uf,UD,Zd,Zd,Zd,c19,Z9,Xg,ZY,Xe]
 refine⟨_,rfl,?_⟩
 exact⟨k12.trans' k3,g3⟩
theorem nf{l vs:List AV}{r:Row}(hc:Cells r l)(hl:l.length=n)(hv:vs.length=n)(hn:1<=n)(how:r.own=true)(hfz:r.fz=0)(hro:H.ro<=b):
  ∃r',CC n (some (.row r)) b 0 (.agg vs) H=.val XL (H.put b (.row r'))∧Cells r' vs∧r'.own=true∧r'.fz=0∧r'.sz=r.sz:=by
 have hcs:=O8 (o:=0) (new:=vs) hc (by omega)
 rw[ZF,Zn,UP (by omega),Zo] at hcs
 refine⟨_,?_,hcs,how,hfz,rfl⟩
 show Yb (Nat.ble 1 n) (Yb (H.may r b) (Yb (Nat.ble (0+n) r.size) (Yb (Nat.ble r.fz 0) (Yb (Nat.beq (Xa vs) n) _))))=_
 have h1:H.may r b=true:=by unfold Heap.may;rw[how,Zj hro];rfl
 rw[Zj hn,h1,hc.size,Zj (by omega),hfz,Y6,hv,Xu];rfl
theorem BL{l:List AV}{r:Row}(hc:Cells r l)(hl:l.length=n)(G:Heap):zq n (some (.row r)) 0 G=.val (.agg l) G:=by
 show Yb (Nat.ble (Nat.add 0 n) r.size) (.val (.agg (W9 r 0 n)) G)=_
 rw[hc.size,Zj (by show 0+n<=_;omega),hc.load (by omega),ZC,Y1 (by omega)];rfl
def MF:List UInt8:=List.replicate 512 0
theorem NY:MF.length=512:=by unfold MF;rw[Z5]
theorem tq(e:Nat):Cells ⟨e,1,512,.leaf,nI .u8 0,0,false,true,true⟩ (MF.map Vf):=by
 have h:MF.map Vf=List.replicate 512 (nI .u8 0):=by unfold MF;rw[U9];rfl
 refine⟨by rw[ZW,NY],λi hi=>?_⟩
 rw[ZW,NY] at hi
 rw[h,Row.get_eq,Zh,Wp,if_pos hi]
 show(T.leaf.get i).getD (nI .u8 0)=nI .u8 0
 rw[T.get_leaf];rfl
def Hz(n:Nat)(a i:AV)(H:Heap):OR:=T8 i λi=>G4 a λcs=>Yb (Nat.ble (Nat.succ i) n) (TK (Ib cs i) λv=>.val v H)
theorem G3(x y:YF)(n:Nat)(tm:TM)(H:Heap):Ie x y n tm H=Hz n (x tm) (y tm) H:=rfl
theorem ph{l:List UInt8}(hl:l.length=n)(hi:i<n)(k:IntKind)(H:Heap):Hz n (.agg (l.map Vf)) (nI k i) H=.val (Vf (l.getD i 0)) H:=by
 show Yb (Nat.ble (Nat.succ i) n) (TK (Ib (l.map Vf) i) λv=>.val v H)=_
 rw[Zj hi]
 have:Ib (l.map Vf) i=some (Vf (l.getD i 0)):=by
  rw[L6,Xb,Zh,Zp (by omega)];rfl
 rw[this];rfl
def O4(l:List UInt8):Nat:=(l.map (·.toNat)).sum
theorem r9(l:List UInt8):O4 l<=255*l.length:=by
 unfold O4
 induction l with
 |nil=>exact Zz _
 |cons a l ih=>
  rw[ZB,List.sum_cons,Zl]
  have:a.toNat<256:=a.toNat_lt
  omega
theorem nk{l:List UInt8}(h:i<l.length):O4 (l.take (i+1))=O4 (l.take i)+(l.getD i 0).toNat:=by
 unfold O4
 rw[Uj,Zh,Zp h,Wn,List.sum_append];simp
def TW(l:List UInt8):Nat:=O4 (UV l 148 8 (List.replicate 8 32))
theorem yB{l:List UInt8}(hl:l.length=512):TW l<=130560:=by
 have h:=r9 (UV l 148 8 (List.replicate 8 32))
 rw[DM (by omega),hl] at h
 exact h
structure SMI(Hs:Heap)(l:List UInt8)(m:Nat)(tm:TM)(H:Heap):Prop where
 h:H=Hs
 t16:X8 tm=.agg (l.map Vf)
 i: ∃i,WI tm=nI .i64 i∧i+m=512∧XY tm=nI .i64 (O4 (l.take i))
def SMQ(Hs:Heap)(l:List UInt8)(o:Out)(tm:TM)(H:Heap):Prop:=o=.exit 0∧H=Hs∧XY tm=nI .i64 (O4 l)
theorem bz{l:List UInt8}(hl:l.length=512){Hs:Heap}(cx:Ctx)(X0:X)(m:Nat)(tm:TM)(H:Heap)(hI:SMI Hs l m tm H):
  ∃o tm' H',Eu cx tm H X0=.ok o tm' H' X0∧((o=.normal∧ ∃k,k<m∧SMI Hs l k tm' H')∨(o≠.normal∧SMQ Hs l o tm' H')):=by
 obtain⟨rfl,t16,i,t17,him,t4⟩:=hI
 have nq:=t16;have Jp:=t4
 simp only[PD,lW,aJ] at t4 t16 t17
 cases m with
 |zero=>
  have d1:decide (i<512)=false:=Ze (by omega)
  simp only[t17,d1,Zu,Zu,Eu,Z9,Xg,Xe]
  refine⟨_,_,_,rfl,.inr ⟨by simp,rfl,rfl,?_⟩⟩
  rw[show O4 l=O4 (l.take i) by rw[Y1 (by omega)]]
  simp only[Xe,Xg];exact t4
 |succ m=>
  have d1:decide (i<512)=true:=Zi (by omega)
  have ia:=λG=>ph (l:=l) (i:=i) hl (by omega) .i64 G
  have iv: ∀G,OY .i64 (Vf (l.getD i 0)) G=.val (nI .i64 (l.getD i 0).toNat) G:=λG=>UT (by have:=(l.getD i 0).toNat_lt;omega) G
  have hsm:=r9 (l.take i)
  rw[Z2] at hsm
  have hx:=(l.getD i 0).toNat_lt
  have ad: ∀G,SG (nI .i64 (O4 (l.take i))) (nI .i64 (l.getD i 0).toNat) G=.val (nI .i64 (O4 (l.take i)+(l.getD i 0).toNat)) G:=λG=>YB (by omega) G
  simp(disch:=omega) only[t4,t16,t17,d1,ia,iv,ad,G3,Zu,YB,Zu,Eu,Z9,Xg,Xe]
  refine⟨_,_,_,rfl,?_⟩
  exact .inl ⟨rfl,m,by omega,rfl,nq,i+1,rfl,by omega,by rw[nk (by omega)];rfl⟩
theorem yC(E:Env Zx fs fuel){l:List UInt8}(gH:TL H)(g:HR H b l):
  ∃H',Z7 (LK Zx fs fuel k) fs fuel (n+4) 41 [.ptr b 0] H=.ret (nI .i64 (TW l)) H'∧ZK H H' []:=by
 rw[Z1 (ZU E.n41 (.inr rfl) _ _) E.f41]
 have zb:=gH.p.nx
 obtain⟨⟨r,r1,r2,r3,r4,r5⟩,hl,hb,hro⟩:=g
 have lm:(l.map Vf).length=512:=by rw[ZW];exact hl
 have eqp: ∀(o:Nat) G,ND yS false (.ptr b o) .nilp G=.val (.bool false) G:=λ_ _=>rfl
 have ld:=λG=>BL (n:=512) r2 lm G
 obtain⟨H1,hH1⟩:=SK (H.new (.row ⟨52,1,512,.leaf,nI .u8 0,0,false,true,true⟩))
 have k1:ZK H H1 []:=by rw[<-hH1];exact ZK.new _ _ _
 have Kn:H1.nx=H.nx+1:=by rw[<-hH1];rfl
 have FF:H1.ro=H.ro:=by rw[<-hH1];rfl
 have g1:H1.t.get H.nx=some (.row ⟨52,1,512,.leaf,nI .u8 0,0,false,true,true⟩):=by rw[<-hH1];exact YD rfl _
 obtain⟨q,e2,q1,q2,q3,q4⟩:=nf (n:=512) (b:=H.nx) (H:=H1) (tq 52) (by rw[ZW,NY]) lm (by decide) rfl rfl (by omega)
 obtain⟨H2,hH2⟩:=SK (H1.put H.nx (.row q))
 rw[hH2] at e2
 have k2:ZK H H2 []:=by rw[<-hH2];exact k1.then_put (by omega)
 have nx2:H2.nx=H.nx+1:=by rw[<-hH2];exact Kn
 have ir:H2.ro=H.ro:=by rw[<-hH2];exact FF
 have R2:HR H2 H.nx l:=⟨⟨q,by rw[<-hH2];exact Xv _ _ _,q1,q2,q3,q4⟩,hl,by omega,by omega⟩
 obtain⟨H3,hH3⟩:=SK (H2.new (rH 5 [nI .u8 32]))
 have k23:ZK H2 H3 []:=by rw[<-hH3];exact ZK.new _ _ _
 have nx3:H3.nx=H2.nx+1:=by rw[<-hH3];rfl
 have ro3:H3.ro=H2.ro:=by rw[<-hH3];rfl
 have g3:H3.t.get H2.nx=some (rH 5 [nI .u8 32]):=by rw[<-hH3];exact YD rfl _
 have mk:=xD (o:=0) (n:=1) (c:=none) g3 (by omega)
 obtain⟨H4,Kz⟩:=SK (H3.put H2.nx (rG 5 1 [nI .u8 32] 0 true true true))
 rw[Kz] at mk
 have k24:ZK H2 H4 []:=by rw[<-Kz];exact k23.then_put (by omega)
 have nx4:H4.nx=H3.nx:=by rw[<-Kz];rfl
 have ro4:H4.ro=H3.ro:=by rw[<-Kz];rfl
 obtain⟨q5,H5,e5,bv5,xq,f5,f5'⟩:=tg E (k:=k) (n:=n+1) (H:=H4) (b:=H2.nx) (sm:=true) (ex:=true) (by omega) (by omega) (by omega) (by rw[<-Kz];exact Xv _ _ _)
 have k25:ZK H2 H5 []:=k24.trans' xq
 have k05:ZK H H5 []:=k2.trans' k25
 obtain⟨z6,H6,e6,yl,R6⟩:=Kf E (k:=k) (n:=n+1) (b:=H.nx) (l:=l) (gH.keep0 k05) EH (R2.keep0 k25) bv5
 have k06:ZK H H6 []:=k05.trans yl (λx hx hlt=>by have:=Zv.1 hx;omega)
 obtain⟨⟨s,s1,s2,s3,s4,s5⟩,hl6,hb6,hro6⟩:=R6
 have lm6:((UV l 148 8 (List.replicate 8 32)).map Vf).length=512:=by rw[ZW];exact hl6
 have ld6:=λG=>BL (n:=512) s2 lm6 G
 have bs: ∀G:Heap,TQ 5 1 1 [nI .u8 0] [(0,1,nI .u8 32)] G=.val (.slice G.nx 0 1 none) (G.new (rH 5 [nI .u8 32])):=λG=>rfl
 have hf:=E.big
 simp only[eqp,r1,ld,hH1,g1,e2,bs,hH3,mk,e5,e6,s1,ld6,xQ,ZZ,Uf,ZZ,ZB,ZG,c41,Z9,Xg,Xe]
 generalize hL:Ue (Eu _) fuel _ _ _=L
 obtain⟨o,Ny,H7,rfl,_,rfl,rfl,t4⟩:=XZ (P:=λT=>SMI H6 (UV l 148 8 (List.replicate 8 32)) 512 T H6) (Q:=SMQ H6 (UV l 148 8 (List.replicate 8 32)))
  (λT hi=>We (SMI H6 (UV l 148 8 (List.replicate 8 32))) (SMQ H6 (UV l 148 8 (List.replicate 8 32))) (λm tm H' h=>bz hl6 _ _ m tm H' h) fuel 512 T H6 (by omega) hi) hL
  (by exact⟨rfl,rfl,0,rfl,rfl,rfl⟩)
 simp only[PD] at t4
 simp only[t4,Z9,Xg,ZY,Xe]
 refine⟨_,rfl,?_⟩
 exact k06
def S6(l:List UInt8):List UInt8:=UV l 148 8 (SJ (TW l) 7++[32])
theorem wq(E:Env Zx fs fuel)(hk:4<=k){l:List UInt8}(gH:TL H)(g:HR H b l):
  ∃H',Z7 (LK Zx fs fuel k) fs fuel (n+5) 20 [.ptr b 0] H=.ret (.tup []) H'∧ZK H H' [b]∧HR H' b (S6 l):=by
 rw[Z1 (ZU E.n20 (.inr rfl) _ _) E.f20]
 have hb:=g.lt;have hro:=g.ro;have hl:=g.len
 obtain⟨H1,e1,k1⟩:=yC E (k:=k) (n:=n) gH g
 have hx1:=k1.nx
 have hs:=yB hl
 have hlen: ¬7 - 1<(T1 (TW l)).length:=by
  have:=Dq 6 (TW l) (by decide) (Tu hs (by decide))
  omega
 obtain⟨v,H2,e2,IW,k12,_,qQ⟩:=rN E (k:=k) (n:=n+2) hk (H:=H1) (u:=TW l) (m:=7) (gH.keep0 k1).g (by rw[k1.ro];omega) (by omega) (by decide) (by decide)
 rw[if_neg hlen] at e2
 have qQ:=qQ hlen
 have k2:ZK H H2 []:=k1.trans' k12
 have hxx:=k12.nx
 obtain⟨H3,hH3⟩:=SK (H2.new (rH 5 [nI .u8 32]))
 have k23:ZK H2 H3 []:=by rw[<-hH3];exact ZK.new _ _ _
 have nx3:H3.nx=H2.nx+1:=by rw[<-hH3];rfl
 have ro3:H3.ro=H.ro:=by rw[<-hH3];exact k2.ro
 have g3:H3.t.get H2.nx=some (rH 5 [nI .u8 32]):=by rw[<-hH3];exact YD rfl _
 have bv3:=Eo (H:=H3) (b:=H2.nx) (a:=0) (n:=1) (c:=none) (l:=[32]) g3 (by omega) (by decide) (by decide) (λk h=>by cases h)
 have lo7:(SJ (TW l) 7).length<=100:=by
  unfold SJ
  rw[if_neg hlen,Zk,Zk,Z5];show _+1<=_;omega
 obtain⟨v4,H4,e4,gb4,zk,bk4⟩:=JO (qQ.keep k23 (λ_ _=>by simp)) bv3 (by omega) (by omega) (by show _+1<=_;omega)
 have k14:ZK H1 H4 []:=(k12.trans' k23).trans zk (λx hx hlt=>by have:=(qQ.blk x hx).1;omega)
 have k4:ZK H H4 []:=k1.trans' k14
 obtain⟨z5,H5,e5,xq,R5⟩:=Kf E (k:=k) (n:=n+2) (b:=b) (l:=l) (gH.keep0 k4) EH (g.keep0 k4) gb4.bv
 have bs: ∀G:Heap,TQ 5 1 1 [nI .u8 0] [(0,1,nI .u8 32)] G=.val (.slice G.nx 0 1 none) (G.new (rH 5 [nI .u8 32])):=λG=>rfl
 simp only[e1,e2,bs,hH3,e4,e5,ZZ,ZV,YL,decide_true,ZZ,ZV,ZB,ZG,c20,Z9,Xg,ZY,Xe]
 refine⟨_,rfl,?_⟩
 exact⟨k4.trans' xq,R5⟩
def KO(t:Nat):List UInt8:=UV (UV (UV MF 257 6 (QP [117,115,116,97,114] 6)) 263 2 [48,48]) 156 1 [UInt8.ofNat t]
theorem bP:QS=MF.map Vf:=by unfold QS MF;rw[U9];rfl
theorem CN(E:Env Zx fs fuel)(hk:4<=k){t:Nat}(ht:t<256)(gH:TL H):
  ∃H',Z7 (LK Zx fs fuel k) fs fuel (n+5) 17 [nI .u8 t] H=.ret (.ptr H.nx 0) H'∧ZK H H' []∧HR H' H.nx (KO t):=by
 rw[Z1 (ZU E.n17 (.inr rfl) _ _) E.f17]
 have hro:=gH.p.ro;have zb:=gH.p.nx
 have bd: ∀G:Heap,SA QS [] G=.val (.agg QS) G:=λG=>by unfold QS;rw[Ww,MY];rfl
 have bx: ∀G:Heap,N2 54 (.agg QS) G=.val (.ptr G.nx 0) (G.new (rH 54 QS)):=λG=>Vx (l:=QS) (by unfold QS;rw[Z5];decide) 54 G
 obtain⟨H1,hH1⟩:=SK (H.new (rH 54 QS))
 have k1:ZK H H1 []:=by rw[<-hH1];exact ZK.new _ _ _
 have Kn:H1.nx=H.nx+1:=by rw[<-hH1];rfl
 have FF:H1.ro=H.ro:=by rw[<-hH1];rfl
 have R1:HR H1 H.nx MF:=⟨⟨_,by rw[<-hH1];exact YD rfl _,by rw[bP];exact LG _ _ _ _ _ _ _,rfl,rfl,rfl⟩,NY,by omega,by omega⟩
 obtain⟨H2,e2,k12,R2⟩:=DX E (k:=k) (n:=n) hk (b:=H.nx) (l:=MF) (s:=[117,115,116,97,114]) (gH.keep0 k1) sG R1 (by decide)
 have k2:ZK H H2 []:=k1.trans k12 (λx hx hlt=>by have:=Zv.1 hx;omega)
 have hx2:=k12.nx
 have ir:=k2.ro
 have bs2: ∀G:Heap,TQ 5 1 2 (List.replicate 2 [nI .u8 0]).flatten [(0,1,nI .u8 48),(1,1,nI .u8 48)] G=.val (.slice G.nx 0 2 none) (G.new (rH 5 [nI .u8 48,nI .u8 48])):=λG=>rfl
 obtain⟨H3,hH3⟩:=SK (H2.new (rH 5 [nI .u8 48,nI .u8 48]))
 have k23:ZK H2 H3 []:=by rw[<-hH3];exact ZK.new _ _ _
 have nx3:H3.nx=H2.nx+1:=by rw[<-hH3];rfl
 have ro3:H3.ro=H2.ro:=by rw[<-hH3];rfl
 have g3:H3.t.get H2.nx=some (rH 5 [nI .u8 48,nI .u8 48]):=by rw[<-hH3];exact YD rfl _
 have mk:=xD (o:=0) (n:=2) (c:=none) g3 (by omega)
 obtain⟨H4,Kz⟩:=SK (H3.put H2.nx (rG 5 1 [nI .u8 48,nI .u8 48] 0 true true true))
 rw[Kz] at mk
 have k24:ZK H2 H4 []:=by rw[<-Kz];exact k23.then_put (by omega)
 have nx4:H4.nx=H3.nx:=by rw[<-Kz];rfl
 have k4:ZK H H4 []:=k2.trans' k24
 have mc:=Eo (H:=H4) (b:=H2.nx) (a:=0) (n:=2) (c:=none) (l:=[48,48]) (by rw[<-Kz];exact Xv _ _ _) (by omega) (by decide) (by decide) (λk h=>by cases h)
 obtain⟨z5,H5,e5,xq,R5⟩:=Kf E (k:=k) (n:=n+2) (b:=H.nx) (gH.keep0 k4) qI (R2.keep0 k24) mc
 have k5:ZK H H5 []:=k4.trans xq (λx hx hlt=>by have:=Zv.1 hx;omega)
 have bs1: ∀G:Heap,TQ 5 1 1 [nI .u8 0] [(0,1,nI .u8 t)] G=.val (.slice G.nx 0 1 none) (G.new (rH 5 [nI .u8 t])):=λG=>by rw[Gv _ _ _ rfl];rfl
 obtain⟨H6,hH6⟩:=SK (H5.new (rH 5 [nI .u8 t]))
 have yl:ZK H5 H6 []:=by rw[<-hH6];exact ZK.new _ _ _
 have nx6:H6.nx=H5.nx+1:=by rw[<-hH6];rfl
 have k6:ZK H H6 []:=k5.trans' yl
 have tv:[nI .u8 t]=[UInt8.ofNat t].map Vf:=by
  show [nI .u8 t]=[nI .u8 (UInt8.ofNat t).toNat]
  rw[Uk,YH (show t<2^8 from ht)]
 have bv6:=Eo (H:=H6) (b:=H5.nx) (a:=0) (n:=1) (c:=none) (l:=[UInt8.ofNat t]) (by rw[<-hH6,<-tv];exact YD rfl _) (by omega) (by decide) (Zz 1) (λk h=>by cases h)
 obtain⟨z7,H7,e7,kC,R7⟩:=Kf E (k:=k) (n:=n+2) (b:=H.nx) (gH.keep0 k6) lf (R5.keep0 yl) bv6
 simp only[bd,bx,hH1,e2,bs2,hH3,mk,e5,bs1,hH6,e7,xQ,ZZ,Te,Uf,UD,ZG,Zd,Zd,ZZ,ZB,ZG,Zd,c17,Z9,Xg,ZY,Xe]
 refine⟨_,rfl,?_⟩
 exact⟨k6.trans kC (λx hx hlt=>by have:=Zv.1 hx;omega),R7⟩
end
end
end Go.AI
