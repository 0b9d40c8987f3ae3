/- Bytes, blocks and their fields: walked: proved without conditions but those that each names. -/
import Derived.Test.YtdogcjobgcckbaaGreatDoorPA
import Derived.Test.YtdogcjobgcckbaaGreatDoorP7
import Derived.Test.YtdogcjobgcckbaaGreatDoorP8
import Derived.Test.YtdogcjobgcckbaaGreatDoorPB
set_option maxRecDepth 1000000
set_option maxHeartbeats 0
set_option linter.unusedVariables false
set_option linter.unusedSimpArgs false
namespace Go.AI
open Go
noncomputable section
theorem Bytes.keep{H H':Heap}{bk o:Nat}{cap:Option Nat}{bl:List UInt8}{rb:Row}{S:List Nat}(h:Bytes H bk o cap bl rb)(k:Zs H H' S)(hlt:bk<H.nx)(hS:bk∉S):Bytes H' bk o cap bl rb:=
 ⟨(k.get bk hlt hS).trans h.at_,h.sz,h.fits,h.get,h.cap⟩
def BV(H:Heap)(v:AV)(l:List UInt8):Prop:=
 (l=[]∧(v=.nils∨ ∃b o c,v=.slice b o 0 c))∨(l≠[]∧ ∃b o c r,v=.slice b o l.length c∧Bytes H b o c l r∧b<H.nx)
theorem BV.len{H:Heap}{v:AV}{l:List UInt8}(h:BV H v l)(H':Heap):NV v H'=.val (nI .i64 l.length) H':=by
 rcases h with⟨rfl,rfl|⟨b,o,c,rfl⟩⟩|⟨_,b,o,c,r,rfl,_⟩
 ·exact CO H'
 ·exact Sr ..
 ·exact Sr ..
theorem Bytes.take{H:Heap}{b o n:Nat}{c:Option Nat}{l:List UInt8}{r:Row}(h:Bytes H b o c l r)(hn:n<=l.length):Bytes H b o (ic c 0) (l.take n) r:=by
 have hl:(l.take n).length=n:=by rw[ZC,Wl hn]
 refine⟨h.at_,h.sz,by have:=h.fits;omega,λi hi=>?_,λk hk=>?_⟩
 ·rw[h.get i (by omega),Zf,Zf,Xe (by omega)]
 ·cases c with
  |none=>cases hk
  |some c=>
   cases hk
   have:=h.cap c rfl
   show(l.take n).length<=c - 0∧o+(c - 0)<=r.size
   omega
theorem Bytes.drop{H:Heap}{b o n:Nat}{c:Option Nat}{l:List UInt8}{r:Row}(h:Bytes H b o c l r)(hn:n<=l.length):Bytes H b (o+n) (ic c n) (l.drop n) r:=by
 have hl:(l.drop n).length=l.length - n:=Ym ..
 have hf:=h.fits
 refine⟨h.at_,h.sz,by omega,λi hi=>?_,λk hk=>?_⟩
 ·rw[XR,h.get (n+i) (by omega),Zf,Zf,Xa]
 ·cases c with
  |none=>cases hk
  |some c=>
   cases hk
   have:=h.cap c rfl
   show(l.drop n).length<=c - n∧o+n+(c - n)<=r.size
   omega
theorem BV.keep{H H':Heap}{S:List Nat}{v:AV}{l:List UInt8}(h:BV H v l)(k:Zs H H' S)(hS: ∀b o n c,v=.slice b o n c->b∉S):BV H' v l:=by
 rcases h with h|⟨hne,b,o,c,r,rfl,hb,hlt⟩
 ·exact .inl h
 ·exact .inr ⟨hne,b,o,c,r,rfl,hb.keep k hlt (hS _ _ _ _ rfl),ZT hlt k.nx⟩
theorem BV.src{H:Heap}{v:AV}{l:List UInt8}(h:BV H v l):Src H v (l.map Vd):=by
 rcases h with⟨rfl,rfl|⟨b,o,c,rfl⟩⟩|⟨_,b,o,c,r,rfl,hb,_⟩
 ·exact Src.nils H
 ·exact Src.none H b o c
 ·have:=Src.row (c:=c) (l:=l.map Vd) hb.at_ (by rw[Zx];exact hb.fits) (λi hi=>by
   rw[Zx] at hi
   rw[hb.get i hi,Zf,Zf,YE,Zl hi];rfl)
  rw[Zx] at this
  exact this
theorem Cells.bytes{H:Heap}{b:Nat}{r:Row}{l:List UInt8}(hr:H.t.get b=some (.row r))(hs:r.sz=1)(hc:Cells r (l.map Vd)):Bytes H b 0 none l r:=by
 have hz:=hc.size
 rw[Zx] at hz
 refine⟨hr,hs,by omega,λi hi=>?_,λc hc=>by cases hc⟩
 rw[Zd,hc.get i (by rw[Zx];exact hi),Zf,YE,Zf,Zl hi];rfl
theorem ZcJ{x y:UInt8}(h:Vd x=Vd y):x=y:=by
 unfold Vd at h
 injection h with _ h
 injection h with h
 exact UN.1 h
theorem Bytes.uniq{H:Heap}{b o:Nat}{c:Option Nat}{l l':List UInt8}{r r':Row}(h:Bytes H b o c l r)(h':Bytes H b o c l' r')(e:l.length=l'.length):l=l':=by
 have hr:r=r':=by
  have:=h.at_.symm.trans h'.at_
  injection this with this
  injection this
 subst hr
 refine List.ext_getElem e λi h1 h2=>?_
 have a:=h.get i h1
 have b:=h'.get i h2
 rw[a] at b
 have:=ZcJ b
 rwa [Zf,Zf,Zl h1,Zl h2] at this
theorem BV.uniq{H:Heap}{v:AV}{l l':List UInt8}(h:BV H v l)(h':BV H v l'):l=l':=by
 have e:l.length=l'.length:=by
  have a:=h.len H
  rw[h'.len H] at a
  injection a with a _
  injection a with _ a
  injection a with a
  exact a.symm
 rcases h with⟨rfl,_⟩|⟨hne,b,o,c,r,rfl,hb,_⟩
 ·exact(YO.1 e.symm).symm
 ·rcases h' with⟨rfl,_⟩|⟨hne',b',o',c',r',e',hb',_⟩
  ·exact YO.1 e
  ·injection e' with e1 e2 e3 e4
   subst e1;subst e2;subst e4
   exact hb.uniq hb' e
theorem BV.far{H:Heap}{v:AV}{l:List UInt8}(h:BV H v l)(hne:l≠[]): ∀b o n c,v=.slice b o n c->b<H.nx:=by
 rcases h with⟨rfl,_⟩|⟨_,b,o,c,r,rfl,_,hlt⟩
 ·exact absurd rfl hne
 ·intro b o n c e;cases e;exact hlt
theorem Sz.src{H:Heap}{sz:Nat}{v:AV}{ls:List (List AV)}(h:Sz H sz v ls)(hsz:1<=sz)(k:Nat->List AV->OR):(xh v λn=>Vm H sz v n λnew=>k n new)=k ls.length ls.flatten:=by
 rcases h with⟨rfl,rfl⟩|⟨he,⟨rfl,rfl⟩|⟨b,o,c,rfl,hb,h2⟩⟩
 ·rfl
 ·rfl
 ·show(Vm H sz (.slice b o ls.length c) ls.length λnew=>k ls.length new)=_
  unfold Vm
  rw[Yy]
  by_cases h0:ls.length=0
  ·have:ls=[]:=YO.1 h0
   subst this;rfl
  ·rw[Zb h0]
   have hne:ls≠[]:=λe=>h0 (by rw[e];rfl)
   obtain⟨r,h3,h4,h5⟩:=h2 hne
   have hf:=AI.flat_len he
   show Xg H b (λr=>ZP (Nat.ble (o+ls.length*sz) r.size) (k ls.length (Vf r o (ls.length*sz))))=_
   unfold Xg
   rw[h3]
   show ZP (Nat.ble (o+ls.length*sz) r.size) (k ls.length (Vf r o (ls.length*sz)))=_
   rw[Zk h4]
   have:Vf r o (ls.length*sz)=ls.flatten:=by
    refine WQ λj=>?_
    by_cases hj:j<ls.length*sz
    ·rw[SO r _ o j hj,h5 j hj,Zf,Zl (by omega)];rfl
    ·rw[Y1 (by rw[Ss];omega),Y1 (by omega)]
   rw[this];rfl
theorem DD{H:Heap}{e sz bytes:Nat}{a v:AV}{ls:List (List AV)}(h:Sz H sz v ls)(hsz:1<=sz)(hb:1<=bytes):UT e sz bytes a v H=Oz a e sz bytes H ls.length ls.flatten:=by
 show ZP (Nat.ble 1 sz) (ZP (Nat.ble 1 bytes) _)=_
 rw[Zk hsz,Zk hb]
 exact h.src hsz λn new=>Oz a e sz bytes H n new
theorem Zae{H:Heap}{e sz bytes:Nat}{v:AV}{ls:List (List AV)}(h:Sz H sz v ls)(hsz:1<=sz)(hb:1<=bytes)(hl:ls.length*bytes<=140737488355328):
  (UT e sz bytes (.slice H.nx 0 0 none) v (H.new (rG e sz [] 0 false true true))=.val (.slice H.nx 0 0 none) (H.new (rG e sz [] 0 false true true))∧ls=[])∨
  (UT e sz bytes (.slice H.nx 0 0 none) v (H.new (rG e sz [] 0 false true true))=.val (.slice (H.nx+1) 0 ls.length none) ((H.new (rG e sz [] 0 false true true)).new (rG e sz ls.flatten 0 false true false))∧ls≠[]):=by
 have hk:Zs H (H.new (rG e sz [] 0 false true true)) []:=Zs.new _ _ _
 rw[DD (h.keep0 hk) hsz hb]
 have gn:(H.new (rG e sz [] 0 false true true)).t.get H.nx=some (rG e sz [] 0 false true true):=ZW rfl _
 by_cases h0:ls.length=0
 ·have:ls=[]:=YO.1 h0
  subst this
  refine .inl ⟨?_,rfl⟩
  show Xg _ H.nx _=_
  unfold Xg
  rw[gn]
  show ZP (Nat.beq sz sz) (cond (Nat.ble (0+0) (Te ⟨e,sz,YK ([]:List AV),T.ofList [],.unk,0,false,true,true⟩ 0 none)) (L4 _ _ _ _ _ _ _ _ _ _) _)=_
  rw[Y0,Zd,Zk (ZZ _)]
  rfl
 ·refine .inr ⟨?_,λe=>h0 (by rw[e];rfl)⟩
  show Xg _ H.nx _=_
  unfold Xg
  rw[gn]
  have hcap:Te ⟨e,sz,YK ([]:List AV),T.ofList [],.unk,0,false,true,true⟩ 0 none=0:=by
   show cond (Nat.beq sz 1) (0 - 0) ((0 - 0)/sz)=0
   cases Nat.beq sz 1
   ·exact QY _
   ·rfl
  show ZP (Nat.beq sz sz) (cond (Nat.ble (0+ls.length) (Te ⟨e,sz,YK ([]:List AV),T.ofList [],.unk,0,false,true,true⟩ 0 none)) _ (Oy _ e H.nx 0 0 ls.length sz bytes none ⟨e,sz,YK ([]:List AV),T.ofList [],.unk,0,false,true,true⟩ ls.flatten))=_
  rw[Y0,hcap,show Nat.ble (0+ls.length) 0=false by
   cases hq:Nat.ble (0+ls.length) 0 with
   |false=>rfl
   |true=>have:=ZR hq;omega]
  show ZP (Nat.ble ((0+ls.length)*bytes) 140737488355328) (ZP (Nat.ble (0+0*sz) 0) (ZP (Nat.beq (0 % sz) 0) (OR.val (.slice (H.nx+1) 0 (0+ls.length) none) (Heap.newRow (H.new (rG e sz [] 0 false true true)) e sz (Vf _ 0 (0*sz)++ls.flatten) false))))=_
  rw[Zd,Zk hl,Vh,Nat.zero_mod]
  rfl
theorem ZfL(k:IntKind)(a b:Int)(H:Heap):Tf XE YH (.int k a) (.int k b) H=.val (.bool (decide (a<b))) H:=by
 show ZP (P3 k k) (SU (vB a b) H)=_
 rw[XG,Tb,Mq];rfl
theorem Ze7(k:IntKind)(a b:Int)(H:Heap):Tf UG WJ (.int k a) (.int k b) H=.val (.bool (decide (b<a))) H:=by
 show ZP (P3 k k) (SU (vB b a) H)=_
 rw[XG,Tb,Mq];rfl
theorem Lo(k:IntKind)(a:Int)(b:Nat)(H:Heap):Tf XE YH (.int k a) (nI k b) H=.val (.bool (decide (a<(b:Int)))) H:=ZfL k a b H
theorem IM(k:IntKind)(a:Int)(b:Nat)(H:Heap):Tf UG WJ (.int k a) (nI k b) H=.val (.bool (decide ((b:Int)<a))) H:=Ze7 k a b H
theorem Ds(s:List UInt8)(k:Nat)(G:Heap):F5 (.str s) none (some (nI .i64 (min s.length k))) G=.val (.str (s.take k)) G:=by
 rw[Us (Nat.min_le_left _ _)];congr 2;rw[Nat.min_comm,<-List.take_take,XV]
theorem Sx{H:Heap}{w:AV}{e sz lo:Nat}{ls:List (List AV)}(h:RM H w e sz ls lo):(∀n,H.nx<=n->Wx n w=true)∧(∀n T,Ud (.val w ⟨n,T,n⟩) w n=true)∧w.cells=[w]∧(∀b∈XP w,lo<=b∧b<H.nx):=by
 rcases h with⟨_,rfl⟩|⟨_,b0,r0,rfl,rc,hl⟩
 ·exact⟨λ_ _=>rfl,λn T=>QE n T,rfl,λb hb=>by cases hb⟩
 ·exact⟨λn hn=>WV (by have:=rc.low;omega) _ _ _,λn T=>TD ..,rfl,λb hb=>by rw[Zq.1 hb];exact⟨hl,rc.low⟩⟩
theorem FZ(l:List NP)(p:NP):V8 (l++[p])=V8 l++[[.str p.1,.str p.2]]:=by unfold V8;rw[Xv];rfl
theorem Sz.lt{H:Heap}{sz:Nat}{v:AV}{ls:List (List AV)}(h:Sz H sz v ls): ∀b∈XP v,b<H.nx:=by
 rcases h with⟨_,rfl⟩|⟨_,⟨_,rfl⟩|⟨b,o,c,rfl,hb,_⟩⟩
 ·intro b hb;cases hb
 ·intro b hb;cases hb
 ·intro b' hb';rw[Zq.1 hb'];exact hb
theorem Sz.move{H H':Heap}{sz:Nat}{v:AV}{ls:List (List AV)}{S:List Nat}(h:Sz H sz v ls)(k:Zs H H' S)(hS: ∀b∈XP v,b∉S):Sz H' sz v ls:=
 h.keep k λb o n c e=>hS b (by rw[e];exact Zq.2 rfl)
theorem nK(l:List UInt8)(k:Nat):(OX l).take k=OX (l.take k):=by unfold OX;rw[List.map_take]
theorem bX{α:Type}(l:List α)(k:Nat):l.take (min l.length k)=l.take k:=by
 rw[Nat.min_comm,<-List.take_take,XV]
def GB(H:Heap)(v:AV)(l:List UInt8)(lo:Nat):Prop:=(v=.nils∧l=[])∨ ∃b sm,v=.slice b 0 l.length none∧lo<=b∧b<H.nx∧H.ro<=b∧H.t.get b=some (rG 5 1 (l.map Vd) 0 sm true false)
theorem GB.nil(H:Heap)(lo:Nat):GB H .nils [] lo:=.inl ⟨rfl,rfl⟩
theorem GB.keep{H H':Heap}{v:AV}{l:List UInt8}{lo:Nat}{S:List Nat}(h:GB H v l lo)(k:Zs H H' S)(hS: ∀b∈XP v,b∉S):GB H' v l lo:=by
 rcases h with h|⟨b,sm,rfl,h1,h2,h3,h4⟩
 ·exact .inl h
 ·exact .inr ⟨b,sm,rfl,h1,ZT h2 k.nx,by rw[k.ro];exact h3,by rw[k.get b h2 (hS b (Zt ..))];exact h4⟩
theorem GB.blk{H:Heap}{v:AV}{l:List UInt8}{lo:Nat}(h:GB H v l lo): ∀b∈XP v,lo<=b∧b<H.nx:=by
 rcases h with⟨rfl,_⟩|⟨b,sm,rfl,h1,h2,_⟩
 ·intro b hb;cases hb
 ·intro c hc
  obtain rfl:c=b:=by simpa [XP] using hc
  exact⟨h1,h2⟩
theorem GB.len{H:Heap}{v:AV}{l:List UInt8}{lo:Nat}(h:GB H v l lo)(G:Heap):NV v G=.val (nI .i64 l.length) G:=by
 rcases h with⟨rfl,rfl⟩|⟨b,sm,rfl,_⟩
 ·rfl
 ·exact Sr ..
theorem GB.low{H:Heap}{v:AV}{l:List UInt8}{lo:Nat}(h:GB H v l lo){n:Nat}(hn:H.nx<=n):Wx n v=true:=by
 rcases h with⟨rfl,rfl⟩|⟨b,sm,rfl,_,h2,_⟩
 ·rfl
 ·exact WV (by omega) ..
theorem GB.same{H:Heap}{v:AV}{l:List UInt8}{lo:Nat}(h:GB H v l lo)(n:Nat)(t:T Obj):Ud (.val v ⟨n,t,n⟩) v n=true:=by
 rcases h with⟨rfl,rfl⟩|⟨b,sm,rfl,_⟩
 ·exact QE ..
 ·exact TD ..
theorem GB.cells{H:Heap}{v:AV}{l:List UInt8}{lo:Nat}(h:GB H v l lo):v.cells=[v]:=by
 rcases h with⟨rfl,rfl⟩|⟨b,sm,rfl,_⟩<;>rfl
theorem IU{l:List UInt8}{i:Nat}(hi:i<l.length):(l.map Vd).getD i .unk=Vd (l.getD i 0):=by
 rw[Zf,YE,Zf,Zl hi];rfl
theorem Ee{H:Heap}{b e a n fz:Nat}{sm own ex:Bool}{c:Option Nat}{l:List UInt8}(g:H.t.get b=some (rG e 1 (l.map Vd) fz sm own ex))(hb:b<H.nx)(h0:0<n)(ha:a+n<=l.length)(hc: ∀k,c=some k->n<=k∧a+k<=l.length):BV H (.slice b a n c) ((l.drop a).take n):=by
 have hl:((l.drop a).take n).length=n:=by rw[ZC,Ym];omega
 have hs:YK (l.map Vd)=l.length:=by rw[YF,Zx]
 refine .inr ⟨λh=>by rw[h] at hl;have:0=n:=hl;omega,b,a,c,_,by rw[hl],⟨g,rfl,?_,λi hi=>?_,λk hk=>?_⟩,hb⟩
 ·rw[hl];show a+n<=YK (l.map Vd);rw[hs];exact ha
 ·rw[hl] at hi
  rw[xQ,IU (by omega),Zf,Zf,Xe hi,Xa]
 ·rw[hl]
  show n<=k∧a+k<=YK (l.map Vd)
  rw[hs];exact hc k hk
theorem GB.bv{H:Heap}{v:AV}{l:List UInt8}{lo:Nat}(h:GB H v l lo):BV H v l:=by
 rcases h with⟨rfl,rfl⟩|⟨b,sm,rfl,_,h2,_,h4⟩
 ·exact .inl ⟨rfl,.inl rfl⟩
 ·by_cases h0:l=[]
  ·exact .inl ⟨h0,.inr ⟨_,_,_,by subst h0;rfl⟩⟩
  ·have:=Ee (a:=0) (n:=l.length) (c:=none) h4 h2 (by rcases l with _|_;exact absurd rfl h0;exact So _) (by omega) (λk hk=>by cases hk)
   rwa [Yk,XV] at this
theorem Cp{H:Heap}{v:AV}{l:List UInt8}{lo:Nat}(h:GB H v l lo)(hlo:lo<=H.nx)(hro:H.ro<=H.nx)(m:List UInt8)(hl:l.length+m.length<=140737488355328):
  ∃v' H',Oz v 5 1 1 H m.length (m.map Vd)=.val v' H'∧GB H' v' (l++m) lo∧Zs H H' (XP v)∧(∀b∈XP v',b∈XP v∨H.nx<=b):=by
 rcases h with⟨rfl,rfl⟩|⟨b,sm,rfl,h1,h2,h3,h4⟩
 ·by_cases h0:m=[]
  ·subst h0
   exact⟨.nils,H,rfl,.inl ⟨rfl,rfl⟩,Zs.refl _ _,λb hb=>by cases hb⟩
  ·have hp:0<m.length:=by rcases m with _|_;exact absurd rfl h0;exact So _
   refine⟨.slice H.nx 0 m.length none,H.newRow 5 1 (m.map Vd) false,?_,.inr ⟨H.nx,false,rfl,hlo,YM _,hro,?_⟩,by rw[QF];exact Zs.new _ _ _,λb hb=>.inr ?_⟩
   ·have:=wu (e:=5) (H:=H) (l:=m.map Vd) (by rw[Zx];exact hp) (by rw[Zx];simpa using hl)
    rwa [Zx] at this
   ·rw[QF];exact ZW rfl _
   ·obtain rfl:b=H.nx:=by simpa [XP] using hb
    exact Zp _
 ·have hs:YK (l.map Vd)=l.length:=by rw[YF,Zx]
  have hrow: ∀k:Row->OR,Xg H b k=k ⟨5,1,YK (l.map Vd),T.ofList (l.map Vd),.unk,0,sm,true,false⟩:=λk=>by
   unfold Xg
   rw[h4];rfl
  have hcap:Te ⟨5,1,YK (l.map Vd),T.ofList (l.map Vd),.unk,0,sm,true,false⟩ 0 none=l.length:=by
   show cond (Nat.beq 1 1) (YK (l.map Vd) - 0) (Nat.div (YK (l.map Vd) - 0) 1)=_
   rw[hs];rfl
  by_cases h0:m=[]
  ·subst h0
   refine⟨.slice b 0 l.length none,H,?_,.inr ⟨b,sm,by rw[Yd],h1,h2,h3,by rw[Yd];exact h4⟩,Zs.refl _ _,λc hc=>.inl hc⟩
   show Xg H b (λr=>ZP (GX r 1 none) (cond (Nat.ble (Nat.add l.length 0) (Te r 0 none)) (L4 H (.slice b 0 l.length none) b 0 l.length 0 1 none r []) (Oy H 5 b 0 l.length 0 1 1 none r [])))=_
   rw[hrow,hcap]
   show ZP true (cond (Nat.ble (l.length+0) l.length) (OR.val (.slice b 0 l.length none) H) _)=_
   rw[Zg,Zk (Zp _)];rfl
  ·have hp:0<m.length:=by rcases m with _|_;exact absurd rfl h0;exact So _
   have OI:H.may ⟨5,1,YK (l.map Vd),T.ofList (l.map Vd),.unk,0,sm,true,false⟩ b=true:=by unfold Heap.may;rw[Zk h3];rfl
   refine⟨.slice H.nx 0 (l.length+m.length) none,⟨Nat.succ H.nx,(H.t.del b).set H.nx (rG 5 1 ((l++m).map Vd) 0 sm true false),H.ro⟩,?_,.inr ⟨H.nx,sm,by rw[Zj],hlo,YM _,hro,by rw[T.get_set,if_pos rfl]⟩,⟨VL _,rfl,λc hc hn=>?_⟩,λc hc=>.inr ?_⟩
   ·show Xg H b (λr=>ZP (GX r 1 none) (cond (Nat.ble (Nat.add l.length m.length) (Te r 0 none)) (L4 H (.slice b 0 l.length none) b 0 l.length m.length 1 none r (m.map Vd)) (Oy H 5 b 0 l.length m.length 1 1 none r (m.map Vd))))=_
    rw[hrow,hcap]
    have h5:Nat.ble (Nat.add l.length m.length) l.length=false:=by
     cases h:Nat.ble (Nat.add l.length m.length) l.length with
     |false=>rfl
     |true=>have:=ZR h;have:l.length+m.length<=l.length:=this;omega
    rw[h5]
    show ZP (Nat.ble ((l.length+m.length)*1) 140737488355328) (ZP (Nat.ble (0+l.length*1) (YK (l.map Vd))) (ZP (Nat.beq 5 5) (ZP (H.may _ b) (ZP (Nat.ble 0 (l.length*1)) (ZP (Nat.beq (l.length*1) (YK (l.map Vd))) (ZP (Nat.beq 0 0) _))))))=_
    rw[OI,Xl,Xl,Zd,Zk hl,hs,Zk (Zp _),Zk (ZZ _),show Nat.beq l.length l.length=true from Y0 _]
    show OR.val (.slice H.nx 0 (l.length+m.length) none) ⟨Nat.succ H.nx,(H.t.del b).set H.nx (.row ⟨5,1,(l.length+m.length)*1,WY (T.ofList (l.map Vd)) (l.length*1) (m.map Vd),.unk,0,sm,true,false⟩),H.ro⟩=_
    have hst:=EP (l.map Vd) (m.map Vd)
    rw[Zx] at hst
    rw[Xl,Xl,hst,Xv]
    unfold rG
    rw[YF,Zj,Zx,Zx]
   ·have hcb:c≠b:=λh=>hn (by rw[h];exact Zt ..)
    show((H.t.del b).set H.nx _).get c=_
    rw[T.get_set,if_neg (by omega),T.get_del,if_neg (λh=>hcb h.symm)]
   ·obtain rfl:c=H.nx:=by simpa [XP] using hc
    exact Zp _
theorem Zcy{H:Heap}(m:List UInt8):Src H (.str m) (m.map Vd):=by
 intro k
 show(cond (Nat.beq (YK m) 0) (k (YK m) []) (ZP (Nat.beq 1 1) (k (YK m) (FH (LQ (YK m) m)))))=_
 rw[YF,Zx,NN,XV,De]
 cases m with
 |nil=>rfl
 |cons a m=>rfl
theorem yW{H:Heap}{v:AV}{l:List UInt8}{lo:Nat}(h:GB H v l lo)(hlo:lo<=H.nx)(hro:H.ro<=H.nx)(m:List UInt8)(hl:l.length+m.length<=140737488355328):
  ∃v' H',UT 5 1 1 v (.str m) H=.val v' H'∧GB H' v' (l++m) lo∧Zs H H' (XP v)∧(∀b∈XP v',b∈XP v∨H.nx<=b):=by
 obtain⟨v',H',e,r⟩:=Cp h hlo hro m hl
 refine⟨v',H',?_,r⟩
 rw[P9 (by decide) (Zcy m),Zx];exact e
theorem Kd{H:Heap}{v w:AV}{l m:List UInt8}{lo:Nat}(h:GB H v l lo)(hw:BV H w m)(hlo:lo<=H.nx)(hro:H.ro<=H.nx)(hl:l.length+m.length<=140737488355328):
  ∃v' H',UT 5 1 1 v w H=.val v' H'∧GB H' v' (l++m) lo∧Zs H H' (XP v)∧(∀b∈XP v',b∈XP v∨H.nx<=b):=by
 obtain⟨v',H',e,r⟩:=Cp h hlo hro m hl
 refine⟨v',H',?_,r⟩
 rw[P9 (by decide) hw.src,Zx];exact e
def Zel(e sz bytes:Nat)(zs:List AV)(x y:AV)(H:Heap):OR:=ZP (Nat.ble 1 sz)<|ZP (Nat.ble 1 bytes)<|Sf y λn=>ZP (Nat.ble (Nat.mul n bytes) 140737488355328)<|Oz x e sz bytes H n (List.replicate n zs).flatten
theorem Me(x y:Z1)(e sz bytes:Nat)(zs:List AV)(tm:TM)(H:Heap):Ny x y e sz bytes zs tm H=Zel e sz bytes zs (x tm) (y tm) H:=rfl
theorem xS: ∀n:Nat,(List.replicate n [nI .u8 0]).flatten=(List.replicate n (0:UInt8)).map Vd
 |0=>rfl
 |n+1=>by rw[Wa,Wa,XY,xS n];rfl
theorem yX{H:Heap}{v:AV}{l:List UInt8}{lo:Nat}(h:GB H v l lo)(hlo:lo<=H.nx)(hro:H.ro<=H.nx)(n:Nat)(hl:l.length+n<=140737488355328):
  ∃v' H',Zel 5 1 1 [nI .u8 0] v (nI .i64 n) H=.val v' H'∧GB H' v' (l++List.replicate n 0) lo∧Zs H H' (XP v)∧(∀b∈XP v',b∈XP v∨H.nx<=b):=by
 obtain⟨v',H',e,r⟩:=Cp h hlo hro (List.replicate n 0) (by rw[ZH];exact hl)
 rw[ZH] at e
 refine⟨v',H',?_,r⟩
 show ZP (Nat.ble (n*1) 140737488355328) (Oz v 5 1 1 H n (List.replicate n [nI .u8 0]).flatten)=_
 rw[Xl,Zk (by omega),xS];exact e
theorem sU{H:Heap}{s:List UInt8}(hro:H.ro<=H.nx){lo:Nat}(hlo:lo<=H.nx)(sm:Bool):GB (H.new (rG 5 1 (s.map Vd) 0 sm true false)) (.slice H.nx 0 s.length none) s lo:=
 .inr ⟨H.nx,sm,rfl,hlo,YM _,hro,ZW rfl _⟩
def Xp(l:List UInt8)(a:Nat)(w:List UInt8):List UInt8:=l.take a++(w++l.drop (a+w.length))
theorem Rh{l w:List UInt8}{a:Nat}(h:a+w.length<=l.length):(Xp l a w).length=l.length:=by
 unfold Xp
 rw[Zj,Zj,ZC,Ym];omega
theorem L8{r:Row}{l new:List AV}{o:Nat}(hc:Cells r l)(ho:o+new.length<=l.length):Cells (r.setCells (WY r.cells o new)) (l.take o++(new++l.drop (o+new.length))):=by
 have hlen:(l.take o++(new++l.drop (o+new.length))).length=l.length:=by
  rw[Zj,Zj,ZC,Ym];omega
 refine⟨by rw[hlen];exact hc.size,λi hi=>?_⟩
 rw[hlen] at hi
 have h1:=hc.get i hi
 rw[Row.get_eq] at h1 ⊢
 show((WY r.cells o new).get i).getD r.dflt=_
 rw[Qy,Zf]
 by_cases hA:i<o
 ·rw[if_neg (by omega),h1,Zf,Yh (by rw[ZC];omega),Xe hA]
 ·rw[Yi (by rw[ZC];omega),ZC,Wl (by omega)]
  by_cases hB:i<o+new.length
  ·rw[if_pos (by omega),Yh (by omega),Zl (by omega)];rfl
  ·rw[if_neg (by omega),h1,Zf,Yi (by omega),Xa]
   congr 2;omega
theorem N4{H:Heap}{b o c q n dn sn:Nat}{e1 e2:Option Nat}{r s:Row}{l m:List AV}(hr:H.t.get b=some (.row r))(hc:Cells r l)(how:r.own=true)(hro:H.ro<=b)(hfz:r.fz=0)
  (hs:H.t.get c=some (.row s))(hm:Cells s m)(hn:Lq dn sn=n)(h0:0<n)(ho:o+n<=l.length)(hq:q+n<=m.length):
  ∃r',po 1 (.slice b o dn e1) (.slice c q sn e2) H=.val (nI .i64 n) (H.put b (.row r'))∧Cells r' (l.take o++((m.drop q).take n++l.drop (o+n)))∧r'.own=true∧r'.fz=0∧r'.sz=r.sz:=by
 have hl:((m.drop q).take n).length=n:=by rw[ZC,Ym];omega
 have hcs:=L8 (o:=o) (new:=(m.drop q).take n) hc (by rw[hl];exact ho)
 rw[hl] at hcs
 refine⟨_,?_,hcs,how,hfz,rfl⟩
 show Sp (Lq dn sn) (λn=>Vm H 1 (.slice c q _ e2) n λnew=>cond (Nat.beq n 0) (.val (.int .i64 0) H) (Xg H b λr=>ZP (H.may r b) (ZP (Nat.ble r.fz o) (ZP (Nat.ble (o+n*1) r.size) (.val (.int .i64 (.ofNat n)) (H.put b (.row (r.setCells (WY r.cells o new)))))))))=_
 have e2:Nat.beq n 0=false:=by rw[Yy];exact Zb (by omega)
 have h1:H.may r b=true:=by unfold Heap.may;rw[how,Zk hro];rfl
 rw[QC,hn]
 unfold Vm
 rw[e2]
 simp only[cond_false]
 unfold Xg
 rw[hs,hr]
 simp only[Xl]
 show ZP (Nat.ble (q+n*1) s.size) _=_
 rw[Xl,hm.size,Zk hq,show Nat.mul n 1=n from Xl n,hm.load hq,h1,hfz,Zk (ZZ _),hc.size,Zk ho]
 rfl
theorem iy{H:Heap}{b a n:Nat}{e1:Option Nat}{l w:List UInt8}{v:AV}{r:Row}(hr:H.t.get b=some (.row r))(hc:Cells r (l.map Vd))(how:r.own=true)(hfz:r.fz=0)(hro:H.ro<=b)(hw:BV H v w)(hn:w.length=n)(h0:0<n)(ha:a+n<=l.length):
  ∃r',po 1 (.slice b a n e1) v H=.val (nI .i64 n) (H.put b (.row r'))∧Cells r' ((Xp l a w).map Vd)∧r'.own=true∧r'.fz=0∧r'.sz=r.sz:=by
 have hne:w≠[]:=λh=>by rw[h] at hn;have:0=n:=hn;omega
 rcases hw with⟨h,_⟩|⟨_,q,o,c,s,rfl,hB,hlt⟩
 ·exact absurd h hne
 have hcs:=L8 (o:=a) (new:=w.map Vd) hc (by rw[Zx,Zx];omega)
 have hm:(l.map Vd).take a++(w.map Vd++(l.map Vd).drop (a+(w.map Vd).length))=(Xp l a w).map Vd:=by
  unfold Xp
  rw[Zx,Xv,Xv,List.map_take,List.map_drop]
 rw[hm] at hcs
 refine⟨_,?_,hcs,how,hfz,rfl⟩
 rw[hn]
 show Sp (Lq n n) (λn=>Vm H 1 (.slice q o _ c) n λnew=>cond (Nat.beq n 0) (.val (.int .i64 0) H) (Xg H b λr=>ZP (H.may r b) (ZP (Nat.ble r.fz a) (ZP (Nat.ble (a+n*1) r.size) (.val (.int .i64 (.ofNat n)) (H.put b (.row (r.setCells (WY r.cells a new)))))))))=_
 have e':Lq n n=n:=by unfold Lq;rw[Zk (Zp _)];rfl
 have e2:Nat.beq n 0=false:=by rw[Yy];exact Zb (by omega)
 have h1:H.may r b=true:=by unfold Heap.may;rw[how,Zk hro];rfl
 have hnew:Vf s o n=w.map Vd:=by
  refine WQ λj=>?_
  by_cases hj:j<n
  ·rw[SO s _ o j hj,hB.get j (by omega),YE,Zf,Zl (by omega)];rfl
  ·rw[Y1 (by rw[Ss];omega),Y1 (by rw[Zx];omega)]
 rw[QC,e']
 unfold Vm
 rw[e2]
 simp only[cond_false]
 unfold Xg
 rw[hB.at_,hr]
 simp only[Xl]
 show ZP (Nat.ble (o+n*1) s.size) (ZP (H.may r b) (ZP (Nat.ble r.fz a) (ZP (Nat.ble (a+n) r.size) (.val (.int .i64 (.ofNat n)) (H.put b (.row (r.setCells (WY r.cells a (Vf s o (n*1))))))))))=_
 rw[Xl,hnew,Zk (by have:=hB.fits;omega),h1,hfz,Zk (ZZ _),hc.size,Zx,Zk ha]
 rfl
structure HR(H:Heap)(b:Nat)(l:List UInt8):Prop where
 row: ∃r,H.t.get b=some (.row r)∧Cells r (l.map Vd)∧r.own=true∧r.fz=0∧r.sz=1
 len:l.length=512
 lt:b<H.nx
 ro:H.ro<=b
theorem HR.keep{H H':Heap}{b:Nat}{l:List UInt8}{S:List Nat}(h:HR H b l)(k:Zs H H' S)(hS:b∉S):HR H' b l:=by
 obtain⟨⟨r,h1,h2⟩,h3,h4,h5⟩:=h
 exact⟨⟨r,by rw[k.get b h4 hS];exact h1,h2⟩,h3,ZT h4 k.nx,by rw[k.ro];exact h5⟩
theorem HR.keep0{H H':Heap}{b:Nat}{l:List UInt8}(h:HR H b l)(k:Zs H H' []):HR H' b l:=h.keep k (by simp)
theorem tX{H:Heap}{b a n:Nat}{c:Option Nat}{r:Row}{l:List UInt8}(g:H.t.get b=some (.row r))(hc:Cells r (l.map Vd))(hz:r.sz=1)(hb:b<H.nx)(h0:0<n)(ha:a+n<=l.length)(hk: ∀k,c=some k->n<=k∧a+k<=l.length):BV H (.slice b a n c) ((l.drop a).take n):=by
 have hl:((l.drop a).take n).length=n:=by rw[ZC,Ym];omega
 refine .inr ⟨λh=>by rw[h] at hl;have:0=n:=hl;omega,b,a,c,r,by rw[hl],⟨g,hz,by rw[hl,hc.size,Zx];exact ha,λi hi=>?_,λk hh=>?_⟩,hb⟩
 ·rw[hl] at hi
  rw[hc.get _ (by rw[Zx];omega),IU (by omega),Zf,Zf,Xe hi,Xa]
 ·rw[hl,hc.size,Zx];exact hk k hh
def oQ(a y z:AV)(H:Heap):OR:=Ph 1 (λ_=>a) none (some λ_=>y) (some λ_=>z) M9 H
theorem rY(x y z:Z1)(tm:TM)(H:Heap):Ph 1 x none (some y) (some z) tm H=oQ (x tm) (y tm) (z tm) H:=rfl
theorem qw(e N:Nat):Cells ⟨e,1,N,.leaf,.unk,0,false,true,false⟩ (List.replicate N .unk):=by
 refine⟨by rw[ZH],λi hi=>?_⟩
 rw[ZH] at hi
 rw[Row.get_eq,Zf,XO,if_pos hi]
 show(T.leaf.get i).getD AV.unk=AV.unk
 rw[T.get_leaf];rfl
theorem wB{H:Heap}{b n:Nat}{c:Option Nat}{r:Row}{l:List UInt8}(g:H.t.get b=some (.row r))(hc:Cells r (l.map Vd))(hz:r.sz=1)(hb:b<H.nx)(hn:n=l.length)(hk: ∀k,c=some k->n<=k∧k<=l.length):BV H (.slice b 0 n c) l:=by
 subst hn
 by_cases h0:l=[]
 ·subst h0;exact .inl ⟨rfl,.inr ⟨_,_,_,rfl⟩⟩
 ·refine .inr ⟨h0,b,0,c,r,rfl,⟨g,hz,by rw[hc.size,Zx];omega,λi hi=>?_,λk h=>?_⟩,hb⟩
  ·rw[Zd,hc.get i (by rw[Zx];exact hi),IU hi]
  ·rw[hc.size,Zx];have:=hk k h;omega
section
variable {Zn:Lib} {fs:T CF} {fuel k n i h b:Nat} {H H0:Heap} {s:List UInt8} {cs:List AV}
theorem ZcA{sz:Nat}{v:AV}{ls:List (List AV)}(h:Sz H sz v ls):(∀G,N6 nU false v .nils G=.val (.bool false) G)∨(v=.nils∧ls=[]):=by
 rcases h with⟨_,rfl⟩|⟨_,⟨e,rfl⟩|⟨b,o,c,rfl,hb,_⟩⟩
 ·exact .inl λ_=>rfl
 ·exact .inr ⟨rfl,e⟩
 ·exact .inl λ_=>rfl
theorem Zam(G:Heap):N6 nU false .nils .nils G=.val (.bool true) G:=rfl
theorem K4(l:List UInt8):(OX l).flatten=l.map Vd:=by
 induction l with
 |nil=>rfl
 |cons a l ih=>
  show [Vd a]++(OX l).flatten=_
  rw[ih];rfl
theorem Zeo{e:Nat}{l:List UInt8}(h:l≠[])(ex:Bool):BV (H.new (rG e 1 (l.map Vd) 0 false true ex)) (.slice H.nx 0 l.length none) l:=by
 refine .inr ⟨h,H.nx,0,none,⟨e,1,YK (l.map Vd),T.ofList (l.map Vd),.unk,0,false,true,ex⟩,rfl,⟨ZW rfl _,rfl,?_,λi hi=>?_,λk hk=>by cases hk⟩,YM _⟩
 ·show 0+l.length<=YK (l.map Vd)
  rw[YF,Zx];omega
 ·rw[Zd,xQ,Zf,YE,Zf,Zl hi];rfl
theorem Zem(E:Env Zn fs fuel){v:AV}{l:List UInt8}(h:Sz H 1 v (OX l))(hl:l.length<=90000):
  ∃v' H',ZE (LK Zn fs fuel k) fs fuel (n+1) 76 [v] H=.ret v' H'∧BV H' v' l∧Zs H H' []∧ ∀b o m c,v'=.slice b o m c->H.nx<=b∧b<H'.nx:=by
 rw[ZI (ZA E.n76 (.inr rfl) _ _) E.f76]
 rcases ZcA h with en|⟨rfl,e0⟩
 ·have bs:UU 5 1 0 (List.replicate 0 [nI .u8 0]).flatten [] H=.val (.slice H.nx 0 0 none) (H.new (rH 5 [])):=rfl
  have hk:Zs H (H.new (rH 5 [])) []:=Zs.new _ _ _
  rcases Zae (e:=5) (bytes:=1) h (by decide) (by decide) (by rw[TB];omega) with⟨ea,e0⟩|⟨ea,e0⟩
  ·have hz:l=[]:=by
    cases l with
    |nil=>rfl
    |cons a l=>cases e0
   simp only[en,bs,ea,Ys,Ya,ZM,Ys,Ya,ZM,c76,Zu,Ye,Zw,Z6]
   exact⟨_,_,rfl,.inl ⟨hz,.inr ⟨_,_,_,rfl⟩⟩,hk,λb o m c e=>by cases e;exact⟨Zp _,YM _⟩⟩
  ·rw[K4,TB] at ea
   have hne:l≠[]:=λe=>e0 (by rw[e];rfl)
   simp only[en,bs,ea,Ys,Ya,ZM,Ys,Ya,ZM,c76,Zu,Ye,Zw,Z6]
   exact⟨_,_,rfl,Zeo (H:=H.new (rH 5 [])) hne false,hk.then_new _,λb o m c e=>by cases e;exact⟨VL _,YM _⟩⟩
 ·have hz:l=[]:=by
   cases l with
   |nil=>rfl
   |cons a l=>cases e0
  simp only[Zam,c76,Zu,Ye,Zw,Z6]
  exact⟨_,_,rfl,.inl ⟨hz,.inl rfl⟩,Zs.refl _ _,λb o m c e=>by cases e⟩
theorem x7{v:AV}{l:List UInt8}(h:Sz H 1 v (OX l)):BR v H=.val (.str l) H:=by
 rcases h with⟨e0,rfl⟩|⟨_,⟨e0,rfl⟩|⟨b,o,c,rfl,hb,h2⟩⟩
 ·have hz:l=[]:=by
   cases l with
   |nil=>rfl
   |cons a l=>cases e0
  subst hz;rfl
 ·have hz:l=[]:=by
   cases l with
   |nil=>rfl
   |cons a l=>cases e0
  subst hz;rfl
 ·rw[TB]
  by_cases h0:l=[]
  ·subst h0;rfl
  ·obtain⟨r,h3,h4,h5⟩:=h2 (λe=>h0 (by
    cases l with
    |nil=>rfl
    |cons a l=>cases e))
   rw[TB,Xl] at h4 h5
   refine M5 h3 rfl h4 λi hi=>?_
   rw[h5 i hi,K4,Zf,YE,Zf,Zl hi];rfl
theorem jS{v:AV}{l:List UInt8}(h:BV H v l)(hb: ∀b o n c,v=.slice b o n c->b<H.nx):Sz H 1 v (OX l):=by
 refine .inr ⟨λx hx=>?_,?_⟩
 ·unfold OX at hx
  obtain⟨a,_,rfl⟩:=YQ.1 hx
  rfl
 ·rcases h with⟨rfl,rfl|⟨b,o,c,rfl⟩⟩|⟨hne,b,o,c,r,rfl,hB,hlt⟩
  ·exact .inl ⟨rfl,rfl⟩
  ·exact .inr ⟨b,o,c,rfl,hb _ _ _ _ rfl,λh=>absurd rfl h⟩
  ·refine .inr ⟨b,o,c,by rw[TB],hlt,λ_=>⟨r,hB.at_,by rw[TB,Xl];exact hB.fits,λi hi=>?_⟩⟩
   rw[TB,Xl] at hi
   rw[hB.get i hi,K4,Zf,Zf,YE,Zl hi];rfl
theorem tU(E:Env Zn fs fuel){v w:AV}{l m:List UInt8}(hv:Sz H 1 v (OX l))(hw:Sz H 1 w (OX m)):
  ∃H',ZE (LK Zn fs fuel 0) fs fuel (n+2) 37 [v,w] H=.ret (.bool (decide (l=m))) H'∧Zs H H' []:=by
 rw[ZI (ZA E.n37 (.inl (by decide)) _ _) E.f37]
 have e1:=x7 hv
 have e2:=x7 hw
 simp only[e1,e2,YT,c37,Zu,Ye,Zw,Z6]
 refine⟨_,rfl,?_⟩
 exact Zs.refl _ _
theorem Zen(E:Env Zn fs fuel)(hk:1<=k){v w:AV}{l m:List UInt8}(hv:Sz H 1 v (OX l))(hw:Sz H 1 w (OX m)):
  ZE (LK Zn fs fuel k) fs fuel (n+1) 37 [v,w] H=.ret (.bool (decide (l=m))) H:=by
 obtain⟨H',e,g⟩:=tU E (n:=898) (H:=H) hv hw
 exact Yl (r:=0) rfl rfl e g (rfl) hk
structure Rd(H:Heap)(v:AV)(l:List UInt8):Prop where
 len: ∀G,NV v G=.val (nI .i64 l.length) G
 at_: ∀i,i<l.length-> ∃b o r,(∀(k:IntKind) (G:Heap),Gd 1 v (nI k i) G=.val (.ptr b o) G)∧b<H.nx∧H.t.get b=some (.row r)∧ ∀G,ld1 (some (.row r)) o G=.val (Vd (l.getD i 0)) G
def fEs:List SR:=[⟨.str [99,104,107,115,117,109],.agg [nI .i64 148,nI .i64 8],0⟩,⟨.str [100,101,118,109,97,106,111,114],.agg [nI .i64 329,nI .i64 8],0⟩,⟨.str [100,101,118,109,105,110,111,114],.agg [nI .i64 337,nI .i64 8],0⟩,⟨.str [103,105,100],.agg [nI .i64 116,nI .i64 8],0⟩,⟨.str [103,110,97,109,101],.agg [nI .i64 297,nI .i64 32],0⟩,⟨.str [108,105,110,107,110,97,109,101],.agg [nI .i64 157,nI .i64 100],0⟩,⟨.str [109,97,103,105,99],.agg [nI .i64 257,nI .i64 6],0⟩,⟨.str [109,111,100,101],.agg [nI .i64 100,nI .i64 8],0⟩,⟨.str [109,116,105,109,101],.agg [nI .i64 136,nI .i64 12],0⟩,⟨.str [110,97,109,101],.agg [nI .i64 0,nI .i64 100],0⟩,⟨.str [112,114,101,102,105,120],.agg [nI .i64 345,nI .i64 155],0⟩,⟨.str [115,105,122,101],.agg [nI .i64 124,nI .i64 12],0⟩,⟨.str [116,121,112,101],.agg [nI .i64 156,nI .i64 1],0⟩,⟨.str [117,105,100],.agg [nI .i64 108,nI .i64 8],0⟩,⟨.str [117,110,97,109,101],.agg [nI .i64 265,nI .i64 32],0⟩,⟨.str [118,101,114,115,105,111,110],.agg [nI .i64 263,nI .i64 2],0⟩]
structure Sd(H:Heap):Prop where
 p:Nd H
 g:Pv H
 f: ∃r,H.t.get 2=some (.row r)∧0<r.size∧r.get 0=.map 11
 fm:H.t.get 11=some (.cmap fEs)
theorem Sd.keep{H H':Heap}{S:List Nat}(g:Sd H)(k:Zs H H' S)(hS: ∀x∈S,100<=x):Sd H':=by
 obtain⟨a,b,⟨r,c1,c2,c3⟩,d⟩:=g
 have kk:=λx (hx:x<100)=>k.get x (by have:=a.nx;omega) (λh=>by have:=hS x h;omega)
 exact⟨a.keep k hS,b.keep k hS,⟨r,by rw[kk _ (by decide)];exact c1,c2,c3⟩,by rw[kk _ (by decide)];exact d⟩
theorem Sd.keep0{H H':Heap}(g:Sd H)(k:Zs H H' []):Sd H':=g.keep k (by simp)
theorem Zs.more{H H':Heap}{S:List Nat}(k:Zs H H' []):Zs H H' S:=⟨k.nx,k.ro,λc hc _=>k.get c hc (by simp)⟩
structure Av(nm:List UInt8)(a l:Nat):Prop where
 lk: ∀G,lkO PM (.agg [nI .i64 0,nI .i64 0]) true (some (.cmap fEs)) (.str nm) G=.val (.tup [.agg [nI .i64 a,nI .i64 l],.bool true]) G
 pos:1<=l
 le:a+l<=512
theorem wU:Av [99,104,107,115,117,109] 148 8:=⟨λG=>by kernel_rfl,by decide,by decide⟩
theorem Zc2:Av [103,105,100] 116 8:=⟨λG=>by kernel_rfl,by decide,by decide⟩
theorem sM:Av [108,105,110,107,110,97,109,101] 157 100:=⟨λG=>by kernel_rfl,by decide,by decide⟩
theorem Zat:Av [109,97,103,105,99] 257 6:=⟨λG=>by kernel_rfl,by decide,by decide⟩
theorem iW:Av [109,111,100,101] 100 8:=⟨λG=>by kernel_rfl,by decide,by decide⟩
theorem pC:Av [109,116,105,109,101] 136 12:=⟨λG=>by kernel_rfl,by decide,by decide⟩
theorem iX:Av [110,97,109,101] 0 100:=⟨λG=>by kernel_rfl,by decide,by decide⟩
theorem iY:Av [112,114,101,102,105,120] 345 155:=⟨λG=>by kernel_rfl,by decide,by decide⟩
theorem iZ:Av [115,105,122,101] 124 12:=⟨λG=>by kernel_rfl,by decide,by decide⟩
theorem Ze0:Av [116,121,112,101] 156 1:=⟨λG=>by kernel_rfl,by decide,by decide⟩
theorem Zc3:Av [117,105,100] 108 8:=⟨λG=>by kernel_rfl,by decide,by decide⟩
theorem nX:Av [118,101,114,115,105,111,110] 263 2:=⟨λG=>by kernel_rfl,by decide,by decide⟩
theorem Zgr{l:Nat}(hlh:l<h)(hh:h<=n)(b o:Nat)(k j:IntKind)(H:Heap):LG n 1 (.ptr b o) (some (nI k l)) (some (nI j h)) H=.val (.slice b (o+l) (h - l) (some (n - l))) H:=xX (by omega) (by omega) hh b o k j H
theorem um(E:Env Zn fs fuel){nm:List UInt8}{a l:Nat}(gH:Sd H)(F:Av nm a l)(hb:b<H.nx):
  ∃H',ZE (LK Zn fs fuel k) fs fuel (n+1) 75 [.ptr b 0,.str nm] H=.ret (.slice b a l (some (512 - a))) H'∧Zs H H' []:=by
 rw[ZI (ZA E.n75 (.inr rfl) _ _) E.f75]
 obtain⟨r,g1,g2,g3⟩:=gH.f
 have g4:=gH.fm
 have hlk:=F.lk;have h1:=F.pos;have h2:=F.le;have h3:=gH.p.nx;have h4:=gH.p.ro
 have ld: ∀G,ld1 (some (.row r)) 0 G=.val (.map 11) G:=λG=>by rw[O1 g2,g3]
 have eqp: ∀(o:Nat) G,N6 nV false (.ptr b o) .nilp G=.val (.bool false) G:=λ_ _=>rfl
 have stS: ∀(G:Heap),G.ro<=H.nx->tp 2 (some (rH 119 [nI .i64 0,nI .i64 0])) H.nx 0 (.agg [nI .i64 a,nI .i64 l]) G=.val Xz (G.put H.nx (rH 119 [nI .i64 a,nI .i64 l])):=λG hG=>Tn (l:=[nI .i64 0,nI .i64 0]) (vs:=[nI .i64 a,nI .i64 l]) rfl rfl (by decide) hG _ _ _ _
 have i0: ∀G:Heap,zr 2 1 (.ptr H.nx 0) (nI .i64 0) G=.val (.ptr H.nx 0) G:=λG=>rfl
 have i1: ∀G:Heap,zr 2 1 (.ptr H.nx 0) (nI .i64 1) G=.val (.ptr H.nx 1) G:=λG=>rfl
 have l0: ∀G,ld1 (some (rH 119 [nI .i64 a,nI .i64 l])) 0 G=.val (nI .i64 a) G:=λG=>rfl
 have l1: ∀G,ld1 (some (rH 119 [nI .i64 a,nI .i64 l])) 1 G=.val (nI .i64 l) G:=λG=>rfl
 have sa: ∀G:Heap,LG 512 1 (.ptr b 0) (some (nI .i64 a)) (some (nI .i64 (a+l))) G=.val (.slice b a l (some (512 - a))) G:=λG=>by
  rw[Zgr (by omega) h2,Zd,Uj]
 simp(disch:=first|assumption|omega|(simp -implicitDefEqProofs only[X3,X4]<;>first|assumption|omega)|decide) only[g1,g4,ld,hlk,eqp,stS,i0,i1,l0,l1,sa,Tm,YI,decide_true,Xx,Wq,YD,ZD,ZM,Xx,Wq,YD,c75,Zu,Ye,Zw,Z8,Yp,Yv,Nat.reducePow,Nat.reduceDiv,Nat.reduceMod,Z6]
 refine⟨_,rfl,?_⟩
 exact Zs.new _ _ _
def Ti(l:List UInt8)(a n:Nat)(w:List UInt8):List UInt8:=if w.length=n then Xp l a w else l
theorem uI{l w:List UInt8}{a:Nat}(h:a+n<=l.length):(Ti l a n w).length=l.length:=by
 unfold Ti
 split
 ·rename_i h2;exact Rh (by omega)
 ·rfl
theorem yG{a:Nat}{l:List UInt8}(h:HR H b l)(h0:1<=n)(ha:a+n<=512):BV H (.slice b a n (some (512 - a))) ((l.drop a).take n):=by
 obtain⟨⟨r,g,hc,_,_,hz⟩,hl,hb,_⟩:=h
 exact tX g hc hz hb h0 (by omega) λk hk=>by cases hk;omega
theorem AT(E:Env Zn fs fuel){nm l:List UInt8}{a m:Nat}(gH:Sd H)(F:Av nm a m)(g:HR H b l):
  ∃v H',ZE (LK Zn fs fuel k) fs fuel (n+3) 51 [.ptr b 0,.str nm] H=.ret (.tup [v,.bool true]) H'∧BV H' v ((l.drop a).take m)∧Zs H H' []∧ ∀b o m c,v=.slice b o m c->H.nx<=b∧b<H'.nx:=by
 rw[ZI (ZA E.n51 (.inr rfl) _ _) E.f51]
 obtain⟨H0,e1,k0⟩:=um E (k:=k) (n:=n+1) gH F g.lt
 have h1:=F.pos;have h2:=F.le
 have bv:=yG (g.keep0 k0) h1 h2
 have hb:=g.lt;have hl:=g.len
 obtain⟨v,H1,e2,Ae,k1,far⟩:=Zem E (k:=k) (n:=n+1) (jS bv λb' o n' c h=>by cases h;exact ZT hb k0.nx) (by rw[ZC];omega)
 have eqn: ∀G,N6 nU true (.slice b a m (some (512 - a))) .nils G=.val (.bool true) G:=λ_=>rfl
 simp only[e1,e2,eqn,c51,Zu,Ye,Zw,Z6]
 exact⟨_,_,rfl,Ae,k0.trans' k1,λb' o m' c h=>⟨Z5 k0.nx (far b' o m' c h).1,(far b' o m' c h).2⟩⟩
theorem Jl(E:Env Zn fs fuel){nm l w:List UInt8}{a m:Nat}{v:AV}(gH:Sd H)(F:Av nm a m)(g:HR H b l)(hv:BV H v w):
  ∃z H',ZE (LK Zn fs fuel k) fs fuel (n+2) 50 [.ptr b 0,.str nm,v] H=.ret z H'∧Zs H H' [b]∧HR H' b (Ti l a m w):=by
 rw[ZI (ZA E.n50 (.inr rfl) _ _) E.f50]
 obtain⟨H0,e1,k0⟩:=um E (k:=k) (n:=n) gH F g.lt
 have h1:=F.pos;have h2:=F.le
 have g0:=g.keep0 k0
 obtain⟨⟨r,r1,r2,r3,r4,r5⟩,hl,hb,hro⟩:=g0
 have hv0:=hv.keep k0 (λ_ _ _ _ _=>by simp)
 have eqn: ∀G,N6 nU false (.slice b a m (some (512 - a))) .nils G=.val (.bool false) G:=λ_=>rfl
 have ln:=hv.len
 by_cases hw:w.length=m
 ·have d1:decide (w.length≠m)=false:=Zb (λh=>h hw)
  obtain⟨r',cp,q1,q2,q3,q4⟩:=iy (l:=l) (n:=m) (a:=a) (e1:=some (512 - a)) r1 r2 r3 r4 hro hv0 hw h1 (by omega)
  rw[show Ti l a m w=Xp l a w by unfold Ti;rw[if_pos hw]]
  simp only[e1,eqn,ln,d1,cp,FR,Vi,c50,Zu,Ye,Zw,Z6]
  exact⟨_,_,rfl,(k0.more).then_put (λ_=>by simp),⟨⟨r',Xw _ _ _,q1,q2,q3,by rw[q4,r5]⟩,by rw[Rh (by omega)];exact hl,hb,hro⟩⟩
 ·have d1:decide (w.length≠m)=true:=Ze hw
  rw[show Ti l a m w=l by unfold Ti;rw[if_neg hw]]
  simp only[e1,eqn,ln,d1,Vi,c50,Zu,Ye,Zw,Z6]
  exact⟨_,_,rfl,k0.more,⟨⟨r,r1,r2,r3,r4,r5⟩,hl,hb,hro⟩⟩
def ZdI(a:AV)(H:Heap):OR:=zB (λ_=>a) M9 H
theorem ub(x:Z1)(tm:TM)(H:Heap):zB x tm H=ZdI (x tm) H:=rfl
theorem vU{o e:Nat}{c:Option Nat}{l:List AV}{ex:Bool}(g:H.t.get b=some (rG e 1 l 0 false true ex))(hro:H.ro<=b):ZdI (.slice b o n c) H=.val (.slice b o n c) (H.put b (rG e 1 l 0 true true ex)):=by
 show Xg H b (λr=>ZP (cond r.sm false (H.may r b)) (ZP (Nat.beq r.fz 0) (.val (.slice b o n c) (H.put b (.row ⟨r.elem,r.sz,r.size,r.cells,r.dflt,r.fz,true,r.own,r.exact⟩)))))=_
 unfold Xg
 rw[g]
 show ZP (Nat.ble H.ro b) _=_
 rw[Zk hro];rfl
theorem qr(E:Env Zn fs fuel){sm ex:Bool}(vy:100<=H.nx)(hb:b<H.nx)(hro:H.ro<=H.nx)(g:H.t.get b=some (rG 5 1 [nI .u8 32] 0 sm true ex)):
  ∃q H',ZE (LK Zn fs fuel k) fs fuel (n+2) 80 [.slice b 0 1 none,nI .i64 8] H=.ret (.slice q 0 8 (some 8)) H'∧BV H' (.slice q 0 8 (some 8)) (List.replicate 8 32)∧Zs H H' []∧H.nx<=q∧q<H'.nx:=by
 rw[ZI (ZA E.n80 (.inr rfl) _ _) E.f80]
 have em:=λ{j}=>MA (fs:=fs) (fuel:=fuel) (k:=k) (n:=j) (Sw:=Sw) (Qe:=Qe) (f:=95) rfl (E.ml H vy)
 have ez:=λ{j}=>MA (fs:=fs) (fuel:=fuel) (k:=k) (n:=j) (Sw:=Sw) (Qe:=Qe) (f:=100) rfl (E.mz 8 H (by decide))
 obtain⟨H1,hH1⟩:=Sa (H.new (.row ⟨5,1,8,.leaf,.unk,0,false,true,false⟩))
 have IY:H1.nx=H.nx+1:=by rw[<-hH1];rfl
 have MX:H1.ro=H.ro:=by rw[<-hH1];rfl
 have k1:Zs H H1 []:=by rw[<-hH1];exact Zs.new H _ []
 have g1:H1.t.get H.nx=some (.row ⟨5,1,8,.leaf,.unk,0,false,true,false⟩):=by rw[<-hH1];exact ZW rfl _
 have gb1:H1.t.get b=some (rG 5 1 [nI .u8 32] 0 sm true ex):=by rw[k1.get b hb (by simp)];exact g
 obtain⟨r2,c2,C2,o2,f2,s2⟩:=N4 (b:=H.nx) (o:=0) (c:=b) (q:=0) (dn:=8) (sn:=1) (n:=1) (e1:=some 8) (e2:=none) g1 (qw 5 8) rfl (by rw[MX];exact hro) rfl gb1 (GC 5 1 [nI .u8 32] 0 sm true ex) rfl (by decide) (by decide) (by decide)
 obtain⟨H2,hH2⟩:=Sa (H1.put H.nx (.row r2))
 have g2:H2.t.get H.nx=some (.row r2):=by rw[<-hH2];exact Xw _ _ _
 have nx2:H2.nx=H1.nx:=by rw[<-hH2];rfl
 have au:H2.ro=H1.ro:=by rw[<-hH2];rfl
 rw[hH2] at c2
 obtain⟨r3,c3,C3,o3,f3,s3⟩:=N4 (b:=H.nx) (o:=1) (c:=H.nx) (q:=0) (dn:=7) (sn:=1) (n:=1) (e1:=some 7) (e2:=some 8) g2 C2 o2 (by rw[au,MX];exact hro) f2 g2 C2 rfl (by decide) (by decide) (by decide)
 obtain⟨H3,hH3⟩:=Sa (H2.put H.nx (.row r3))
 have g3:H3.t.get H.nx=some (.row r3):=by rw[<-hH3];exact Xw _ _ _
 have nx3:H3.nx=H2.nx:=by rw[<-hH3];rfl
 have ro3:H3.ro=H2.ro:=by rw[<-hH3];rfl
 rw[hH3] at c3
 obtain⟨r4,c4,C4,o4,f4,s4⟩:=N4 (b:=H.nx) (o:=2) (c:=H.nx) (q:=0) (dn:=6) (sn:=2) (n:=2) (e1:=some 6) (e2:=some 8) g3 C3 o3 (by rw[ro3,au,MX];exact hro) f3 g3 C3 rfl (by decide) (by decide) (by decide)
 obtain⟨H4,Nu⟩:=Sa (H3.put H.nx (.row r4))
 have g4:H4.t.get H.nx=some (.row r4):=by rw[<-Nu];exact Xw _ _ _
 have nx4:H4.nx=H3.nx:=by rw[<-Nu];rfl
 have ro4:H4.ro=H3.ro:=by rw[<-Nu];rfl
 rw[Nu] at c4
 obtain⟨r5,c5,C5,o5,f5,s5⟩:=N4 (b:=H.nx) (o:=4) (c:=H.nx) (q:=0) (dn:=4) (sn:=4) (n:=4) (e1:=some 4) (e2:=some 8) g4 C4 o4 (by rw[ro4,ro3,au,MX];exact hro) f4 g4 C4 rfl (by decide) (by decide) (by decide)
 obtain⟨H5,hH5⟩:=Sa (H4.put H.nx (.row r5))
 have g5:H5.t.get H.nx=some (.row r5):=by rw[<-hH5];exact Xw _ _ _
 have nx5:H5.nx=H4.nx:=by rw[<-hH5];rfl
 rw[hH5] at c5
 have k5:Zs H H5 []:=by
  rw[<-hH5,<-Nu,<-hH3,<-hH2]
  exact(((k1.then_put (by omega)).then_put (by omega)).then_put (by omega)).then_put (by omega)
 have s30:oQ (.slice H.nx 0 8 none) (nI .i64 8) (nI .i64 8) H1=.val (.slice H.nx 0 8 (some 8)) H1:=by
  show Xg H1 H.nx _=_
  unfold Xg
  rw[g1];rfl
 have sa2:Pq 1 (.slice H.nx 0 8 (some 8)) (some (nI .i64 1)) none ⟨H2.nx,H2.t,H2.nx⟩=.val (.slice H.nx 1 7 (some 7)) ⟨H2.nx,H2.t,H2.nx⟩:=by
  show Xg _ H.nx _=_
  unfold Xg
  rw[show(Heap.mk H2.nx H2.t H2.nx).t.get H.nx=_ from g2];rfl
 have sb2:Pq 1 (.slice H.nx 0 8 (some 8)) none (some (nI .i64 1)) ⟨H2.nx,H2.t,H2.nx⟩=.val (.slice H.nx 0 1 (some 8)) ⟨H2.nx,H2.t,H2.nx⟩:=by
  show Xg _ H.nx _=_
  unfold Xg
  rw[show(Heap.mk H2.nx H2.t H2.nx).t.get H.nx=_ from g2];rfl
 have sa3:Pq 1 (.slice H.nx 0 8 (some 8)) (some (nI .i64 2)) none ⟨H3.nx,H3.t,H3.nx⟩=.val (.slice H.nx 2 6 (some 6)) ⟨H3.nx,H3.t,H3.nx⟩:=by
  show Xg _ H.nx _=_
  unfold Xg
  rw[show(Heap.mk H3.nx H3.t H3.nx).t.get H.nx=_ from g3];rfl
 have sb3:Pq 1 (.slice H.nx 0 8 (some 8)) none (some (nI .i64 2)) ⟨H3.nx,H3.t,H3.nx⟩=.val (.slice H.nx 0 2 (some 8)) ⟨H3.nx,H3.t,H3.nx⟩:=by
  show Xg _ H.nx _=_
  unfold Xg
  rw[show(Heap.mk H3.nx H3.t H3.nx).t.get H.nx=_ from g3];rfl
 have sa4:Pq 1 (.slice H.nx 0 8 (some 8)) (some (nI .i64 4)) none ⟨H4.nx,H4.t,H4.nx⟩=.val (.slice H.nx 4 4 (some 4)) ⟨H4.nx,H4.t,H4.nx⟩:=by
  show Xg _ H.nx _=_
  unfold Xg
  rw[show(Heap.mk H4.nx H4.t H4.nx).t.get H.nx=_ from g4];rfl
 have sb4:Pq 1 (.slice H.nx 0 8 (some 8)) none (some (nI .i64 4)) ⟨H4.nx,H4.t,H4.nx⟩=.val (.slice H.nx 0 4 (some 8)) ⟨H4.nx,H4.t,H4.nx⟩:=by
  show Xg _ H.nx _=_
  unfold Xg
  rw[show(Heap.mk H4.nx H4.t H4.nx).t.get H.nx=_ from g4];rfl
 have hf:=E.big
 obtain⟨fu,rfl⟩: ∃fu,fuel=fu+4:=⟨fuel - 4,by omega⟩
 have b1: ∀G:Heap,N6 Vp false (nI .i64 8) (nI .i64 0) G=.val (.bool false) G:=λG=>rfl
 have b2: ∀G:Heap,Tf XE YH (nI .i64 8) (nI .i64 0) G=.val (.bool false) G:=λG=>rfl
 have b3: ∀G:Heap,Ol .u64 (nI .i64 1) G=.val (nI .u64 1) G:=λG=>rfl
 have b4: ∀G:Heap,Ol .u64 (nI .i64 8) G=.val (nI .u64 8) G:=λG=>rfl
 have b5: ∀G:Heap,Tf UG WJ (nI .u64 0) (nI .u64 0) G=.val (.bool false) G:=λG=>rfl
 have b6: ∀G:Heap,Tf UG WJ (nI .u64 8) (nI .u64 9223372036854775807) G=.val (.bool false) G:=λG=>rfl
 have b7: ∀G:Heap,Ol .i64 (nI .u64 8) G=.val (nI .i64 8) G:=λG=>rfl
 have b8: ∀G:Heap,N6 Vp false (nI .i64 1) (nI .i64 0) G=.val (.bool false) G:=λG=>rfl
 have b9: ∀G:Heap,Tf UG WJ (nI .i64 8) (nI .i64 8192) G=.val (.bool false) G:=λG=>rfl
 have m1: ∀G:Heap,lF false [nI .i64 1,nI .i64 8] G=.val (nI .i64 1) G:=λG=>rfl
 have m2: ∀G:Heap,lF false [nI .i64 2,nI .i64 8] G=.val (nI .i64 2) G:=λG=>rfl
 have m4: ∀G:Heap,lF false [nI .i64 4,nI .i64 8] G=.val (nI .i64 4) G:=λG=>rfl
 have l1: ∀G:Heap,Tf XE YH (nI .i64 1) (nI .i64 8) G=.val (.bool true) G:=λG=>rfl
 have l2: ∀G:Heap,Tf XE YH (nI .i64 2) (nI .i64 8) G=.val (.bool true) G:=λG=>rfl
 have l4: ∀G:Heap,Tf XE YH (nI .i64 4) (nI .i64 8) G=.val (.bool true) G:=λG=>rfl
 have l8: ∀G:Heap,Tf XE YH (nI .i64 8) (nI .i64 8) G=.val (.bool false) G:=λG=>rfl
 have a1: ∀G:Heap,Ty (nI .i64 1) (nI .i64 1) G=.val (nI .i64 2) G:=λG=>rfl
 have a2: ∀G:Heap,Ty (nI .i64 2) (nI .i64 2) G=.val (nI .i64 4) G:=λG=>rfl
 have a4: ∀G:Heap,Ty (nI .i64 4) (nI .i64 4) G=.val (nI .i64 8) G:=λG=>rfl
 simp(maxSteps:=4000000) (disch:=first|assumption|omega|(simp -implicitDefEqProofs only[X3,X4]<;>first|assumption|omega)|decide) only[em,ez,hH1,s30,c2,c3,c4,c5,sa2,sb2,sa3,sb3,sa4,sb4,b1,b2,b3,b4,b5,b6,b7,b8,b9,m1,m2,m4,l1,l2,l4,l8,a1,a2,a4,Nw,S7,FR,Lv,ZD,ZM,XZ,UM,rY,WV,TD,Uk,XD,Xu,Yt,Zy,Z3,YL,Vi,YT,Wu,XL,YI,ZG,Ur,Us,RA,Nat.reduceSub,Nat.reduceAdd,Nat.reduceLeDiff,ZZ,U5,Nat.reduceEqDiff,decide_true,decide_false,c80,jX,Zu,Ye,Zw,Z8,Yp,Yv,Y6,Nat.reducePow,Nat.reduceDiv,Nat.reduceMod,Nat.reduceEqDiff,reduceCtorEq,Z6,Vk,QS]
 refine⟨H.nx,_,rfl,wB g5 C5 (by rw[s5,s4,s3,s2]) (by omega) rfl (λk h=>by cases h;decide),k5,Zp _,by omega⟩
theorem vE(E:Env Zn fs fuel):
  ∃H',ZE (LK Zn fs fuel 1) fs fuel (n+2) 114 [.str s,.str [0]] H=.ret (mI (V6 0 s)) H'∧Zs H H' []:=by
 rw[ZI (ZA E.n114 (.inl (by decide)) _ _) E.f114]
 have e1:=λ{j}=>fM E (k:=1) (n:=j) (by decide) (s:=s) (x:=0) (H:=H) (by decide)
 have wl:([0]:List UInt8).length=1:=rfl
 have w0:([0]:List UInt8).getD 0 0=0:=rfl
 have w1:(0:UInt8).toNat=0:=rfl
 by_cases h:([0]:List UInt8)=s
 ·have d_h:decide (([0]:List UInt8)=s)=true:=Ze h
  simp only[wl,d_h,YL,YT,ZG,decide_false,nz,Zu,Ye,Zw,reduceCtorEq,Z6]
  subst h
  refine⟨_,rfl,?_⟩
  exact Zs.refl _ _
 ·have d_h:decide (([0]:List UInt8)=s)=false:=Zb h
  simp(disch:=omega) only[wl,w0,w1,e1,d_h,XD,YL,YT,ZG,decide_true,decide_false,nz,Zu,Ye,Zw,reduceCtorEq,Z6]
  refine⟨_,rfl,?_⟩
  exact Zs.refl _ _
theorem ZaW(E:Env Zn fs fuel)(hk:2<=k):
  ZE (LK Zn fs fuel k) fs fuel (n+1) 114 [.str s,.str [0]] H=.ret (mI (V6 0 s)) H:=by
 obtain⟨H',e,g⟩:=vE E (n:=898) (H:=H)
 exact Yl (r:=1) rfl rfl e g (Nx _ _) hk
theorem s8(E:Env Zn fs fuel):
  ∃H',ZE (LK Zn fs fuel 2) fs fuel (n+2) 94 [.str s,.str [0]] H=.ret (mI (V6 0 s)) H'∧Zs H H' []:=by
 rw[ZI (ZA E.n94 (.inl (by decide)) _ _) E.f94]
 have e1:=λ{j}=>ZaW E (k:=2) (n:=j) (by decide) (s:=s) (H:=H)
 simp only[e1,c94,Zu,Ye,Zw,Z6]
 refine⟨_,rfl,?_⟩
 exact Zs.refl _ _
theorem Zfw(E:Env Zn fs fuel)(hk:3<=k):
  ZE (LK Zn fs fuel k) fs fuel (n+1) 94 [.str s,.str [0]] H=.ret (mI (V6 0 s)) H:=by
 obtain⟨H',e,g⟩:=s8 E (n:=898) (H:=H)
 exact Yl (r:=2) rfl rfl e g (Nx _ _) hk
theorem ft(E:Env Zn fs fuel):
  ∃H',ZE (LK Zn fs fuel 3) fs fuel (n+2) 77 [.str s,.str [0]] H=.ret (.bool (decide (0<V6 0 s))) H'∧Zs H H' []:=by
 rw[ZI (ZA E.n77 (.inl (by decide)) _ _) E.f77]
 have e1:=λ{j}=>Zfw E (k:=3) (n:=j) (by decide) (s:=s) (H:=H)
 simp only[e1,CU,c77,Zu,Ye,Zw,Z6]
 refine⟨_,rfl,?_⟩
 exact Zs.refl _ _
theorem Zmr(E:Env Zn fs fuel)(hk:4<=k):
  ZE (LK Zn fs fuel k) fs fuel (n+1) 77 [.str s,.str [0]] H=.ret (.bool (decide (0<V6 0 s))) H:=by
 obtain⟨H',e,g⟩:=ft E (n:=898) (H:=H)
 exact Yl (r:=3) rfl rfl e g (rfl) hk
def Qg(s:List UInt8)(n:Nat):List UInt8:=if 0<V6 0 s then [] else if n<s.length then [] else s++List.replicate (n - s.length) 0
def Py(u n:Nat):List UInt8:=if n - 1<(TT u).length then [] else List.replicate (n - 1 - (TT u).length) 48++TT u++[0]
theorem Zgx(E:Env Zn fs fuel)(hk:4<=k){m:Nat}(hro:H.ro<=H.nx)(hs:s.length<=90000)(h1:1<=m)(h2:m<=512):
  ∃v z H',ZE (LK Zn fs fuel k) fs fuel (n+2) 52 [.str s,nI .i64 m] H=.ret (.tup [v,z]) H'∧BV H' v (Qg s m)∧Zs H H' []∧ ∀b o q c,v=.slice b o q c->b<H'.nx:=by
 rw[ZI (ZA E.n52 (.inr rfl) _ _) E.f52]
 have ec:=λ{j}=>Zmr E (k:=k) (n:=j) hk (s:=s) (H:=H)
 have d1:decide (m<1)=false:=Zb (by omega)
 have d2:decide (512<m)=false:=Zb (by omega)
 by_cases hz:0<V6 0 s
 ·have d3:decide (0<V6 0 s)=true:=Ze hz
  rw[show Qg s m=[] by unfold Qg;rw[if_pos hz]]
  simp only[ec,d1,d2,d3,Zy,Z3,Zy,Z3,c52,Zu,Ye,Zw,Z6]
  refine⟨_,_,_,rfl,?_⟩
  exact⟨.inl ⟨rfl,.inl rfl⟩,Zs.refl _ _,λb o q c h=>by cases h⟩
 have d3:decide (0<V6 0 s)=false:=Zb hz
 by_cases hl:m<s.length
 ·have d4:decide (m<s.length)=true:=Ze hl
  rw[show Qg s m=[] by unfold Qg;rw[if_neg hz,if_pos hl]]
  simp only[ec,d1,d2,d3,d4,Zy,Z3,ZG,Zy,Z3,c52,Zu,Ye,Zw,Z6]
  refine⟨_,_,_,rfl,?_⟩
  exact⟨.inl ⟨rfl,.inl rfl⟩,Zs.refl _ _,λb o q c h=>by cases h⟩
 have d4:decide (m<s.length)=false:=Zb hl
 have gb:=sU (H:=H) (s:=s) hro (Zp _) true
 obtain⟨H1,hH1⟩:=Sa (H.new (rG 5 1 (s.map Vd) 0 true true false))
 have k1:Zs H H1 []:=by rw[<-hH1];exact Zs.new _ _ _
 have IY:H1.nx=H.nx+1:=by rw[<-hH1];rfl
 have MX:H1.ro=H.ro:=by rw[<-hH1];rfl
 rw[hH1] at gb
 obtain⟨v,H2,e2,ID,k2,_⟩:=yX gb (by omega) (by omega) (m - s.length) (by omega)
 have sb: ∀G,M6 (nI .i64 m) (nI .i64 s.length) G=.val (nI .i64 (m - s.length)) G:=λG=>XL (by omega) (by omega) G
 rw[show Qg s m=s++List.replicate (m - s.length) 0 by unfold Qg;rw[if_neg hz,if_neg hl]]
 simp only[ec,d1,d2,d3,d4,hH1,e2,sb,Zy,Z3,ZG,Zy,Z3,Me,Iv,FQ,c52,Zu,Ye,Zw,Z6]
 refine⟨_,_,_,rfl,ID.bv,k1.trans k2 (λc hc hlt=>?_),λb o q c h=>?_⟩
 ·have:=(gb.blk c hc).1;omega
 ·subst h;exact(ID.blk b (by simp[XP])).2
theorem oC(E:Env Zn fs fuel)(hk:4<=k){u m:Nat}(g:Pv H)(hro:H.ro<=H.nx)(hu:u<9223372036854775808)(h1:2<=m)(h2:m<=20):
  ∃v H',ZE (LK Zn fs fuel k) fs fuel (n+2) 53 [nI .i64 u,nI .i64 m] H=.ret (.tup [v,nI .i64 (if m - 1<(TT u).length then 3 else 0)]) H'∧BV H' v (Py u m)∧Zs H H' []∧(∀b o q c,v=.slice b o q c->b<H'.nx)∧(¬m - 1<(TT u).length->GB H' v (Py u m) H.nx):=by
 rw[ZI (ZA E.n53 (.inr rfl) _ _) E.f53]
 have ef:=λ{j}=>Zi0 E (k:=k) (n:=j) (by omega) (u:=u) (H:=H) g hro hu
 have e0: ∀{j},ZE (LK Zn fs fuel k) fs fuel (j+1) 78 [nI .i64 m] H=.ret (.bool true) H:=λ{j}=>by
  rw[ZI (ZA E.n78 (.inr rfl) _ _) E.f78]
  have d1:decide (2<=m)=true:=Ze h1
  have d2:decide (m<=20)=true:=Ze h2
  simp only[d1,d2,Xu,Yt,Yt,Xu,c78,Zu,Ye,Zw,Z6]
 have d3:decide (u<0)=false:=Zb (T4 _)
 have sb: ∀G,M6 (nI .i64 m) (nI .i64 1) G=.val (nI .i64 (m - 1)) G:=λG=>XL (by omega) (by omega) G
 by_cases hl:m - 1<(TT u).length
 ·have d4:decide (m - 1<(TT u).length)=true:=Ze hl
  rw[show Py u m=[] by unfold Py;rw[if_pos hl],if_pos hl]
  simp only[ef,e0,d3,d4,sb,Zy,Z3,ZG,Zy,Z3,c53,Zu,Ye,Zw,Z8,Z6]
  refine⟨_,_,rfl,?_⟩
  exact⟨.inl ⟨rfl,.inl rfl⟩,Zs.refl _ _,λb o q c h=>by(cases h),λh=>absurd hl h⟩
 have d4:decide (m - 1<(TT u).length)=false:=Zb hl
 have sb2: ∀G,M6 (nI .i64 (m - 1)) (nI .i64 (TT u).length) G=.val (nI .i64 (m - 1 - (TT u).length)) G:=λG=>XL (by omega) (by omega) G
 have er:=λ{j}=>MA (fs:=fs) (fuel:=fuel) (k:=k) (n:=j) (Sw:=Sw) (Qe:=Qe) (f:=79) rfl (E.rz (m - 1 - (TT u).length) H g.1 (by omega))
 have a1:=λG=>VU (a:=List.replicate (m - 1 - (TT u).length) 48) (b:=TT u) (by rw[ZH];omega) G
 have a2:=λG=>VU (a:=List.replicate (m - 1 - (TT u).length) 48++TT u) (b:=[0]) (by rw[Zj,ZH];show _+1<=_;omega) G
 have gb:=sU (H:=H) (s:=Py u m) hro (Zp _) true
 rw[show Py u m=List.replicate (m - 1 - (TT u).length) 48++TT u++[0] by unfold Py;rw[if_neg hl]] at gb ⊢
 rw[if_neg hl]
 simp only[ef,e0,d3,d4,sb,sb2,er,a1,a2,Zy,Z3,ZG,Zy,Z3,Iv,FQ,c53,Zu,Ye,Zw,Z8,Z6]
 refine⟨_,_,rfl,?_⟩
 exact⟨gb.bv,Zs.new _ _ _,λb o q c h=>by cases h;exact YM _,λ_=>gb⟩
theorem BW(E:Env Zn fs fuel)(hk:4<=k){nm l:List UInt8}{a m:Nat}(gH:Sd H)(F:Av nm a m)(g:HR H b l)(hs:s.length<=90000):
  ∃H',ZE (LK Zn fs fuel k) fs fuel (n+4) 22 [.ptr b 0,.str nm,.str s] H=.ret (.tup []) H'∧Zs H H' [b]∧HR H' b (Ti l a m (Qg s m)):=by
 rw[ZI (ZA E.n22 (.inr rfl) _ _) E.f22]
 have h1:=F.pos;have h2:=F.le
 obtain⟨v0,H1,e1,bv1,k1,_⟩:=AT E (k:=k) (n:=n) gH F g
 have hl:=g.len;have hb:=g.lt;have hro:=g.ro
 have ln:=bv1.len
 rw[show((l.drop a).take m).length=m by rw[ZC,Ym];omega] at ln
 have hx1:=k1.nx
 obtain⟨v,z,H2,e2,Ae,k2,_⟩:=Zgx E (k:=k) (n:=n+1) hk (H:=H1) (s:=s) (m:=m) (by rw[k1.ro];omega) hs h1 (by omega)
 have k12:Zs H H2 []:=k1.trans' k2
 obtain⟨z2,H3,e3,k3,g3⟩:=Jl E (k:=k) (n:=n+1) (b:=b) (l:=l) (gH.keep0 k12) F (g.keep0 k12) Ae
 simp only[e1,ln,e2,e3,Om,NB,Zg,Zg,Zg,c22,Zu,Ye,Zw,Z6]
 refine⟨_,rfl,?_⟩
 exact⟨k12.trans' k3,g3⟩
theorem Jf(E:Env Zn fs fuel)(hk:4<=k){nm l:List UInt8}{a m:Nat}{u:Nat}(gH:Sd H)(F:Av nm a m)(g:HR H b l)(hu:u<9223372036854775808)(h3:2<=m)(h4:m<=20):
  ∃H',ZE (LK Zn fs fuel k) fs fuel (n+4) 23 [.ptr b 0,.str nm,nI .i64 u] H=.ret (.tup []) H'∧Zs H H' [b]∧HR H' b (Ti l a m (Py u m)):=by
 rw[ZI (ZA E.n23 (.inr rfl) _ _) E.f23]
 have h1:=F.pos;have h2:=F.le
 obtain⟨v0,H1,e1,bv1,k1,_⟩:=AT E (k:=k) (n:=n) gH F g
 have hl:=g.len;have hb:=g.lt;have hro:=g.ro
 have ln:=bv1.len
 rw[show((l.drop a).take m).length=m by rw[ZC,Ym];omega] at ln
 have hx1:=k1.nx
 obtain⟨v,H2,e2,Ae,k2,_⟩:=oC E (k:=k) (n:=n+1) hk (H:=H1) (u:=u) (m:=m) (gH.keep0 k1).g (by rw[k1.ro];omega) hu h3 h4
 have k12:Zs H H2 []:=k1.trans' k2
 obtain⟨z2,H3,e3,k3,g3⟩:=Jl E (k:=k) (n:=n+1) (b:=b) (l:=l) (gH.keep0 k12) F (g.keep0 k12) Ae
 simp only[e1,ln,e2,e3,Om,NB,Zg,Zg,Zg,c23,Zu,Ye,Zw,Z6]
 refine⟨_,rfl,?_⟩
 exact⟨k12.trans' k3,g3⟩
theorem jd{l vs:List AV}{r:Row}(hc:Cells r l)(hl:l.length=n)(hv:vs.length=n)(hn:1<=n)(how:r.own=true)(hfz:r.fz=0)(hro:H.ro<=b):
  ∃r',tp n (some (.row r)) b 0 (.agg vs) H=.val Xz (H.put b (.row r'))∧Cells r' vs∧r'.own=true∧r'.fz=0∧r'.sz=r.sz:=by
 have hcs:=L8 (o:=0) (new:=vs) hc (by omega)
 rw[YN,ZY,TV (by omega),Yd] at hcs
 refine⟨_,?_,hcs,how,hfz,rfl⟩
 show ZP (Nat.ble 1 n) (ZP (H.may r b) (ZP (Nat.ble (0+n) r.size) (ZP (Nat.ble r.fz 0) (ZP (Nat.beq (YK vs) n) _))))=_
 have h1:H.may r b=true:=by unfold Heap.may;rw[how,Zk hro];rfl
 rw[Zk hn,h1,hc.size,Zk (by omega),hfz,YF,hv,Y0];rfl
theorem zu{l:List AV}{r:Row}(hc:Cells r l)(hl:l.length=n)(G:Heap):EW n (some (.row r)) 0 G=.val (.agg l) G:=by
 show ZP (Nat.ble (Nat.add 0 n) r.size) (.val (.agg (Vf r 0 n)) G)=_
 rw[hc.size,Zk (by show 0+n<=_;omega),hc.load (by omega),Yk,Z9 (by omega)];rfl
def QM:List UInt8:=List.replicate 512 0
theorem P2:QM.length=512:=by unfold QM;rw[ZH]
theorem Bv(e:Nat):Cells ⟨e,1,512,.leaf,nI .u8 0,0,false,true,true⟩ (QM.map Vd):=by
 have h:QM.map Vd=List.replicate 512 (nI .u8 0):=by unfold QM;rw[Sk];rfl
 refine⟨by rw[Zx,P2],λi hi=>?_⟩
 rw[Zx,P2] at hi
 rw[h,Row.get_eq,Zf,XO,if_pos hi]
 show(T.leaf.get i).getD (nI .u8 0)=nI .u8 0
 rw[T.get_leaf];rfl
def Fy(n:Nat)(a i:AV)(H:Heap):OR:=Sf i λi=>EI a λcs=>ZP (Nat.ble (Nat.succ i) n) (U3 (Gn cs i) λv=>.val v H)
theorem EH(x y:Z1)(n:Nat)(tm:TM)(H:Heap):Gp x y n tm H=Fy n (x tm) (y tm) H:=rfl
theorem mK{l:List UInt8}(hl:l.length=n)(hi:i<n)(k:IntKind)(H:Heap):Fy n (.agg (l.map Vd)) (nI k i) H=.val (Vd (l.getD i 0)) H:=by
 show ZP (Nat.ble (Nat.succ i) n) (U3 (Gn (l.map Vd) i) λv=>.val v H)=_
 rw[Zk hi]
 have:Gn (l.map Vd) i=some (Vd (l.getD i 0)):=by
  rw[Je,YE,Zf,Zl (by omega)];rfl
 rw[this];rfl
def My(l:List UInt8):Nat:=(l.map (·.toNat)).sum
theorem Dp(l:List UInt8):My l<=255*l.length:=by
 unfold My
 induction l with
 |nil=>exact Zp _
 |cons a l ih=>
  rw[ZD,List.sum_cons,ZS]
  have:a.toNat<256:=a.toNat_lt
  omega
theorem yr{l:List UInt8}(h:i<l.length):My (l.take (i+1))=My (l.take i)+(l.getD i 0).toNat:=by
 unfold My
 rw[WR,Zf,Zl h,Xv,List.sum_append];simp
def Nj(l:List UInt8):Nat:=My (Ti l 148 8 (List.replicate 8 32))
theorem wA{l:List UInt8}(hl:l.length=512):Nj l<=130560:=by
 have h:=Dp (Ti l 148 8 (List.replicate 8 32))
 rw[uI (by omega),hl] at h
 exact h
structure SMI(Hs:Heap)(l:List UInt8)(m:Nat)(tm:TM)(H:Heap):Prop where
 h:H=Hs
 t16:XF tm=.agg (l.map Vd)
 i: ∃i,Wh tm=nI .i64 i∧i+m=512∧Y4 tm=nI .i64 (My (l.take i))
def SMQ(Hs:Heap)(l:List UInt8)(o:Out)(tm:TM)(H:Heap):Prop:=o=.exit 0∧H=Hs∧Y4 tm=nI .i64 (My l)
theorem Zcx{l:List UInt8}(hl:l.length=512){Hs:Heap}(cx:Ctx)(X0:X)(m:Nat)(tm:TM)(H:Heap)(hI:SMI Hs l m tm H):
  ∃o tm' H',DY cx tm H X0=.ok o tm' H' X0∧((o=.normal∧ ∃k,k<m∧SMI Hs l k tm' H')∨(o≠.normal∧SMQ Hs l o tm' H')):=by
 obtain⟨rfl,t16,i,t17,him,t4⟩:=hI
 have ji:=t16;have Qk:=t4
 simp only[Tp,fi,Zdo] at t4 t16 t17
 cases m with
 |zero=>
  have d1:decide (i<512)=false:=Zb (by omega)
  simp only[t17,d1,Zy,Zy,DY,Zu,Ye,Z6]
  refine⟨_,_,_,rfl,.inr ⟨by simp,rfl,rfl,?_⟩⟩
  rw[show My l=My (l.take i) by rw[Z9 (by omega)]]
  simp only[Z6,Ye];exact t4
 |succ m=>
  have d1:decide (i<512)=true:=Ze (by omega)
  have ia:=λG=>mK (l:=l) (i:=i) hl (by omega) .i64 G
  have iv: ∀G,Ol .i64 (Vd (l.getD i 0)) G=.val (nI .i64 (l.getD i 0).toNat) G:=λG=>UB (by have:=(l.getD i 0).toNat_lt;omega) G
  have hsm:=Dp (l.take i)
  rw[ZC] at hsm
  have hx:=(l.getD i 0).toNat_lt
  have ad: ∀G,Ty (nI .i64 (My (l.take i))) (nI .i64 (l.getD i 0).toNat) G=.val (nI .i64 (My (l.take i)+(l.getD i 0).toNat)) G:=λG=>YI (by omega) G
  simp(disch:=omega) only[t4,t16,t17,d1,ia,iv,ad,EH,Zy,YI,Zy,DY,Zu,Ye,Z6]
  refine⟨_,_,_,rfl,?_⟩
  exact .inl ⟨rfl,m,by omega,rfl,ji,i+1,rfl,by omega,by rw[yr (by omega)];rfl⟩
theorem jR(E:Env Zn fs fuel){l:List UInt8}(gH:Sd H)(g:HR H b l):
  ∃H',ZE (LK Zn fs fuel k) fs fuel (n+4) 54 [.ptr b 0] H=.ret (nI .i64 (Nj l)) H'∧Zs H H' []:=by
 rw[ZI (ZA E.n54 (.inr rfl) _ _) E.f54]
 have vy:=gH.p.nx
 obtain⟨⟨r,r1,r2,r3,r4,r5⟩,hl,hb,hro⟩:=g
 have lm:(l.map Vd).length=512:=by rw[Zx];exact hl
 have eqp: ∀(o:Nat) G,N6 nV false (.ptr b o) .nilp G=.val (.bool false) G:=λ_ _=>rfl
 have ld:=λG=>zu (n:=512) r2 lm G
 obtain⟨H1,hH1⟩:=Sa (H.new (.row ⟨53,1,512,.leaf,nI .u8 0,0,false,true,true⟩))
 have k1:Zs H H1 []:=by rw[<-hH1];exact Zs.new _ _ _
 have IY:H1.nx=H.nx+1:=by rw[<-hH1];rfl
 have MX:H1.ro=H.ro:=by rw[<-hH1];rfl
 have g1:H1.t.get H.nx=some (.row ⟨53,1,512,.leaf,nI .u8 0,0,false,true,true⟩):=by rw[<-hH1];exact ZW rfl _
 obtain⟨q,e2,q1,q2,q3,q4⟩:=jd (n:=512) (b:=H.nx) (H:=H1) (Bv 53) (by rw[Zx,P2]) lm (by decide) rfl rfl (by omega)
 obtain⟨H2,hH2⟩:=Sa (H1.put H.nx (.row q))
 rw[hH2] at e2
 have k2:Zs H H2 []:=by rw[<-hH2];exact k1.then_put (by omega)
 have nx2:H2.nx=H.nx+1:=by rw[<-hH2];exact IY
 have au:H2.ro=H.ro:=by rw[<-hH2];exact MX
 have R2:HR H2 H.nx l:=⟨⟨q,by rw[<-hH2];exact Xw _ _ _,q1,q2,q3,q4⟩,hl,by omega,by omega⟩
 obtain⟨H3,hH3⟩:=Sa (H2.new (rH 5 [nI .u8 32]))
 have k23:Zs H2 H3 []:=by rw[<-hH3];exact Zs.new _ _ _
 have nx3:H3.nx=H2.nx+1:=by rw[<-hH3];rfl
 have ro3:H3.ro=H2.ro:=by rw[<-hH3];rfl
 have g3:H3.t.get H2.nx=some (rH 5 [nI .u8 32]):=by rw[<-hH3];exact ZW rfl _
 have mk:=vU (o:=0) (n:=1) (c:=none) g3 (by omega)
 obtain⟨H4,Nu⟩:=Sa (H3.put H2.nx (rG 5 1 [nI .u8 32] 0 true true true))
 rw[Nu] at mk
 have k24:Zs H2 H4 []:=by rw[<-Nu];exact k23.then_put (by omega)
 have nx4:H4.nx=H3.nx:=by rw[<-Nu];rfl
 have ro4:H4.ro=H3.ro:=by rw[<-Nu];rfl
 obtain⟨q5,H5,e5,bv5,EA,f5,f5'⟩:=qr E (k:=k) (n:=n+1) (H:=H4) (b:=H2.nx) (sm:=true) (ex:=true) (by omega) (by omega) (by omega) (by rw[<-Nu];exact Xw _ _ _)
 have k25:Zs H2 H5 []:=k24.trans' EA
 have k05:Zs H H5 []:=k2.trans' k25
 obtain⟨z6,H6,e6,CM,R6⟩:=Jl E (k:=k) (n:=n+1) (b:=H.nx) (l:=l) (gH.keep0 k05) wU (R2.keep0 k25) bv5
 have k06:Zs H H6 []:=k05.trans CM (λx hx hlt=>by have:=Zq.1 hx;omega)
 obtain⟨⟨s,s1,s2,s3,s4,s5⟩,hl6,hb6,hro6⟩:=R6
 have lm6:((Ti l 148 8 (List.replicate 8 32)).map Vd).length=512:=by rw[Zx];exact hl6
 have ld6:=λG=>zu (n:=512) s2 lm6 G
 have bs: ∀G:Heap,UU 5 1 1 [nI .u8 0] [(0,1,nI .u8 32)] G=.val (.slice G.nx 0 1 none) (G.new (rH 5 [nI .u8 32])):=λG=>rfl
 have hf:=E.big
 simp only[eqp,r1,ld,hH1,g1,e2,bs,hH3,mk,e5,e6,s1,ld6,ub,Ys,Om,Ys,ZD,ZM,c54,Zu,Ye,Z6]
 generalize hL:Wv (DY _) fuel _ _ _=L
 obtain⟨o,Pu,H7,rfl,_,rfl,rfl,t4⟩:=YA (P:=λT=>SMI H6 (Ti l 148 8 (List.replicate 8 32)) 512 T H6) (Q:=SMQ H6 (Ti l 148 8 (List.replicate 8 32)))
  (λT hi=>YP (SMI H6 (Ti l 148 8 (List.replicate 8 32))) (SMQ H6 (Ti l 148 8 (List.replicate 8 32))) (λm tm H' h=>Zcx hl6 _ _ m tm H' h) fuel 512 T H6 (by omega) hi) hL
  (by exact⟨rfl,rfl,0,rfl,rfl,rfl⟩)
 simp only[Tp] at t4
 simp only[t4,Zu,Ye,Zw,Z6]
 refine⟨_,rfl,?_⟩
 exact k06
def J6(l:List UInt8):List UInt8:=Ti l 148 8 (Py (Nj l) 7++[32])
theorem uH(E:Env Zn fs fuel)(hk:4<=k){l:List UInt8}(gH:Sd H)(g:HR H b l):
  ∃H',ZE (LK Zn fs fuel k) fs fuel (n+5) 24 [.ptr b 0] H=.ret (.tup []) H'∧Zs H H' [b]∧HR H' b (J6 l):=by
 rw[ZI (ZA E.n24 (.inr rfl) _ _) E.f24]
 have hb:=g.lt;have hro:=g.ro;have hl:=g.len
 obtain⟨H1,e1,k1⟩:=jR E (k:=k) (n:=n) gH g
 have hx1:=k1.nx
 have hs:=wA hl
 have hlen: ¬7 - 1<(TT (Nj l)).length:=by
  have:=Gr 6 (Nj l) (by decide) (Ub hs (by decide))
  omega
 obtain⟨v,H2,e2,Ae,k12,_,ID⟩:=oC E (k:=k) (n:=n+2) hk (H:=H1) (u:=Nj l) (m:=7) (gH.keep0 k1).g (by rw[k1.ro];omega) (by omega) (by decide) (by decide)
 rw[if_neg hlen] at e2
 have ID:=ID hlen
 have k2:Zs H H2 []:=k1.trans' k12
 have hxx:=k12.nx
 obtain⟨H3,hH3⟩:=Sa (H2.new (rH 5 [nI .u8 32]))
 have k23:Zs H2 H3 []:=by rw[<-hH3];exact Zs.new _ _ _
 have nx3:H3.nx=H2.nx+1:=by rw[<-hH3];rfl
 have ro3:H3.ro=H.ro:=by rw[<-hH3];exact k2.ro
 have g3:H3.t.get H2.nx=some (rH 5 [nI .u8 32]):=by rw[<-hH3];exact ZW rfl _
 have bv3:=Ee (H:=H3) (b:=H2.nx) (a:=0) (n:=1) (c:=none) (l:=[32]) g3 (by omega) (by decide) (by decide) (λk h=>by cases h)
 have lo7:(Py (Nj l) 7).length<=100:=by
  unfold Py
  rw[if_neg hlen,Zj,Zj,ZH];show _+1<=_;omega
 obtain⟨v4,H4,e4,Et,Hj,bk4⟩:=Kd (ID.keep k23 (λ_ _=>by simp)) bv3 (by omega) (by omega) (by show _+1<=_;omega)
 have k14:Zs H1 H4 []:=(k12.trans' k23).trans Hj (λx hx hlt=>by have:=(ID.blk x hx).1;omega)
 have k4:Zs H H4 []:=k1.trans' k14
 obtain⟨z5,H5,e5,EA,R5⟩:=Jl E (k:=k) (n:=n+2) (b:=b) (l:=l) (gH.keep0 k4) wU (g.keep0 k4) Et.bv
 have bs: ∀G:Heap,UU 5 1 1 [nI .u8 0] [(0,1,nI .u8 32)] G=.val (.slice G.nx 0 1 none) (G.new (rH 5 [nI .u8 32])):=λG=>rfl
 simp only[e1,e2,bs,hH3,e4,e5,Ys,Ya,YL,decide_true,Ys,Ya,ZD,ZM,c24,Zu,Ye,Zw,Z6]
 refine⟨_,rfl,?_⟩
 exact⟨k4.trans' EA,R5⟩
def Nh(t:Nat):List UInt8:=Ti (Ti (Ti QM 257 6 (Qg [117,115,116,97,114] 6)) 263 2 [48,48]) 156 1 [UInt8.ofNat t]
theorem ZcN:B9=QM.map Vd:=by unfold B9 QM;rw[Sk];rfl
theorem Az(E:Env Zn fs fuel)(hk:4<=k){t:Nat}(ht:t<256)(gH:Sd H):
  ∃H',ZE (LK Zn fs fuel k) fs fuel (n+5) 21 [nI .u8 t] H=.ret (.ptr H.nx 0) H'∧Zs H H' []∧HR H' H.nx (Nh t):=by
 rw[ZI (ZA E.n21 (.inr rfl) _ _) E.f21]
 have hro:=gH.p.ro;have vy:=gH.p.nx
 have bd: ∀G:Heap,Q1 B9 [] G=.val (.agg B9) G:=λG=>by unfold B9;rw[Wa,Ed];rfl
 have bx: ∀G:Heap,Ni 55 (.agg B9) G=.val (.ptr G.nx 0) (G.new (rH 55 B9)):=λG=>XS (l:=B9) (by unfold B9;rw[ZH];decide) 55 G
 obtain⟨H1,hH1⟩:=Sa (H.new (rH 55 B9))
 have k1:Zs H H1 []:=by rw[<-hH1];exact Zs.new _ _ _
 have IY:H1.nx=H.nx+1:=by rw[<-hH1];rfl
 have MX:H1.ro=H.ro:=by rw[<-hH1];rfl
 have R1:HR H1 H.nx QM:=⟨⟨_,by rw[<-hH1];exact ZW rfl _,by rw[ZcN];exact GC _ _ _ _ _ _ _,rfl,rfl,rfl⟩,P2,by omega,by omega⟩
 obtain⟨H2,e2,k12,R2⟩:=BW E (k:=k) (n:=n) hk (b:=H.nx) (l:=QM) (s:=[117,115,116,97,114]) (gH.keep0 k1) Zat R1 (by decide)
 have k2:Zs H H2 []:=k1.trans k12 (λx hx hlt=>by have:=Zq.1 hx;omega)
 have hx2:=k12.nx
 have au:=k2.ro
 have bs2: ∀G:Heap,UU 5 1 2 (List.replicate 2 [nI .u8 0]).flatten [(0,1,nI .u8 48),(1,1,nI .u8 48)] G=.val (.slice G.nx 0 2 none) (G.new (rH 5 [nI .u8 48,nI .u8 48])):=λG=>rfl
 obtain⟨H3,hH3⟩:=Sa (H2.new (rH 5 [nI .u8 48,nI .u8 48]))
 have k23:Zs H2 H3 []:=by rw[<-hH3];exact Zs.new _ _ _
 have nx3:H3.nx=H2.nx+1:=by rw[<-hH3];rfl
 have ro3:H3.ro=H2.ro:=by rw[<-hH3];rfl
 have g3:H3.t.get H2.nx=some (rH 5 [nI .u8 48,nI .u8 48]):=by rw[<-hH3];exact ZW rfl _
 have mk:=vU (o:=0) (n:=2) (c:=none) g3 (by omega)
 obtain⟨H4,Nu⟩:=Sa (H3.put H2.nx (rG 5 1 [nI .u8 48,nI .u8 48] 0 true true true))
 rw[Nu] at mk
 have k24:Zs H2 H4 []:=by rw[<-Nu];exact k23.then_put (by omega)
 have nx4:H4.nx=H3.nx:=by rw[<-Nu];rfl
 have k4:Zs H H4 []:=k2.trans' k24
 have bv4:=Ee (H:=H4) (b:=H2.nx) (a:=0) (n:=2) (c:=none) (l:=[48,48]) (by rw[<-Nu];exact Xw _ _ _) (by omega) (by decide) (by decide) (λk h=>by cases h)
 obtain⟨z5,H5,e5,EA,R5⟩:=Jl E (k:=k) (n:=n+2) (b:=H.nx) (gH.keep0 k4) nX (R2.keep0 k24) bv4
 have k5:Zs H H5 []:=k4.trans EA (λx hx hlt=>by have:=Zq.1 hx;omega)
 have bs1: ∀G:Heap,UU 5 1 1 [nI .u8 0] [(0,1,nI .u8 t)] G=.val (.slice G.nx 0 1 none) (G.new (rH 5 [nI .u8 t])):=λG=>by rw[N3 _ _ _ rfl];rfl
 obtain⟨H6,hH6⟩:=Sa (H5.new (rH 5 [nI .u8 t]))
 have CM:Zs H5 H6 []:=by rw[<-hH6];exact Zs.new _ _ _
 have nx6:H6.nx=H5.nx+1:=by rw[<-hH6];rfl
 have k6:Zs H H6 []:=k5.trans' CM
 have tv:[nI .u8 t]=[UInt8.ofNat t].map Vd:=by
  show [nI .u8 t]=[nI .u8 (UInt8.ofNat t).toNat]
  rw[UInt8.toNat_ofNat',YB (show t<2^8 from ht)]
 have bv6:=Ee (H:=H6) (b:=H5.nx) (a:=0) (n:=1) (c:=none) (l:=[UInt8.ofNat t]) (by rw[<-hH6,<-tv];exact ZW rfl _) (by omega) (by decide) (Zp 1) (λk h=>by cases h)
 obtain⟨z7,H7,e7,fT,R7⟩:=Jl E (k:=k) (n:=n+2) (b:=H.nx) (gH.keep0 k6) Ze0 (R5.keep0 CM) bv6
 simp only[bd,bx,hH1,e2,bs2,hH3,mk,e5,bs1,hH6,e7,ub,Ys,Up,Om,NB,ZM,Zg,Zg,Ys,ZD,ZM,Zg,c21,Zu,Ye,Zw,Z6]
 refine⟨_,rfl,?_⟩
 exact⟨k6.trans fT (λx hx hlt=>by have:=Zq.1 hx;omega),R7⟩
end
end
end Go.AI
