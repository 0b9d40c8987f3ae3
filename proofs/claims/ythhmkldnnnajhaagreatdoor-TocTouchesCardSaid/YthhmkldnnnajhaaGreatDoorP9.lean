/- Texts that are split, and looked through: walked: proved without conditions but those that each names. -/
import Derived.Test.YthhmkldnnnajhaaGreatDoorP8
import Derived.Test.YthhmkldnnnajhaaGreatDoorP7
set_option maxRecDepth 1000000
set_option maxHeartbeats 0
set_option linter.unusedVariables false
set_option linter.unusedSimpArgs false
namespace Go.AI
open Go
noncomputable section
def QS:Nat->Nat
 |19=>14
 |20=>15
 |21=>15
 |33=>12
 |64=>13
 |66=>1
 |87=>11
 |88=>6
 |89=>3
 |152=>3
 |153=>3
 |154=>3
 |155=>10
 |156=>6
 |157=>5
 |158=>2
 |186=>2
 |209=>2
 |210=>2
 |213=>7
 |214=>4
 |215=>1
 |244=>1
 |248=>3
 |264=>1
 |265=>1
 |268=>3
 |269=>1
 |270=>1
 |271=>1
 |310=>2
 |329=>1
 |361=>1
 |427=>1
 |428=>1
 |429=>4
 |_=>0
def Nu:Lib:=λ_ _ _=>none
abbrev LK(Z7:Lib)(fs:T CF)(fuel k:Nat):Lib:=Gt Z7 fs fuel QS Nu k
structure Env(Z7:Lib)(fs:T CF)(fuel:Nat):Prop where
 big:100000<=fuel
 f4:fs.get 4=some c4
 n4: ∀l H,Z7 4 l H=none
 f16:fs.get 16=some c16
 n16: ∀l H,Z7 16 l H=none
 f17:fs.get 17=some c17
 n17: ∀l H,Z7 17 l H=none
 f19:fs.get 19=some c19
 n19: ∀l H,Z7 19 l H=none
 f20:fs.get 20=some c20
 n20: ∀l H,Z7 20 l H=none
 f21:fs.get 21=some c21
 n21: ∀l H,Z7 21 l H=none
 f22:fs.get 22=some aB
 n22: ∀l H,Z7 22 l H=none
 f33:fs.get 33=some ta
 n33: ∀l H,Z7 33 l H=none
 f57:fs.get 57=some dw
 n57: ∀l H,Z7 57 l H=none
 f63:fs.get 63=some dy
 n63: ∀l H,Z7 63 l H=none
 f64:fs.get 64=some c64
 n64: ∀l H,Z7 64 l H=none
 f65:fs.get 65=some dA
 n65: ∀l H,Z7 65 l H=none
 f66:fs.get 66=some aC
 n66: ∀l H,Z7 66 l H=none
 f87:fs.get 87=some c87
 n87: ∀l H,Z7 87 l H=none
 f88:fs.get 88=some ij
 n88: ∀l H,Z7 88 l H=none
 f89:fs.get 89=some kf
 n89: ∀l H,Z7 89 l H=none
 f152:fs.get 152=some pK
 n152: ∀l H,Z7 152 l H=none
 f153:fs.get 153=some x8
 n153: ∀l H,Z7 153 l H=none
 f154:fs.get 154=some pL
 n154: ∀l H,Z7 154 l H=none
 f155:fs.get 155=some zf
 n155: ∀l H,Z7 155 l H=none
 f156:fs.get 156=some En
 n156: ∀l H,Z7 156 l H=none
 f157:fs.get 157=some pM
 n157: ∀l H,Z7 157 l H=none
 f158:fs.get 158=some pN
 n158: ∀l H,Z7 158 l H=none
 f186:fs.get 186=some pO
 n186: ∀l H,Z7 186 l H=none
 f209:fs.get 209=some pP
 n209: ∀l H,Z7 209 l H=none
 f210:fs.get 210=some tD
 n210: ∀l H,Z7 210 l H=none
 f211:fs.get 211=some tE
 n211: ∀l H,Z7 211 l H=none
 f212:fs.get 212=some tF
 n212: ∀l H,Z7 212 l H=none
 f213:fs.get 213=some pQ
 n213: ∀l H,Z7 213 l H=none
 f214:fs.get 214=some Cb
 n214: ∀l H,Z7 214 l H=none
 f215:fs.get 215=some pR
 n215: ∀l H,Z7 215 l H=none
 f244:fs.get 244=some x9
 n244: ∀l H,Z7 244 l H=none
 f248:fs.get 248=some pS
 n248: ∀l H,Z7 248 l H=none
 f264:fs.get 264=some tG
 n264: ∀l H,Z7 264 l H=none
 f265:fs.get 265=some tH
 n265: ∀l H,Z7 265 l H=none
 f266:fs.get 266=some pT
 n266: ∀l H,Z7 266 l H=none
 f267:fs.get 267=some wa
 n267: ∀l H,Z7 267 l H=none
 f268:fs.get 268=some Cc
 n268: ∀l H,Z7 268 l H=none
 f269:fs.get 269=some pX
 n269: ∀l H,Z7 269 l H=none
 f270:fs.get 270=some tI
 n270: ∀l H,Z7 270 l H=none
 f271:fs.get 271=some pY
 n271: ∀l H,Z7 271 l H=none
 f310:fs.get 310=some tJ
 n310: ∀l H,Z7 310 l H=none
 f328:fs.get 328=some tK
 n328: ∀l H,Z7 328 l H=none
 f329:fs.get 329=some wb
 n329: ∀l H,Z7 329 l H=none
 f361:fs.get 361=some p4
 n361: ∀l H,Z7 361 l H=none
 f427:fs.get 427=some p6
 n427: ∀l H,Z7 427 l H=none
 f428:fs.get 428=some p7
 n428: ∀l H,Z7 428 l H=none
 f429:fs.get 429=some p8
 n429: ∀l H,Z7 429 l H=none
 ix: ∀(s:List UInt8) (x:Nat) (H:Heap),x<256->Z7 272 [.str s,nI .u8 x] H=some (.ret (.int .i64 (PO x s 0)) H)
 cn: ∀(s:List UInt8) (x:Nat) (H:Heap),x<256->Z7 392 [.str s,nI .u8 x] H=some (.ret (nI .i64 (Wu x s 0)) H)
theorem flat_len{sz:Nat}: ∀{ls:List (List AV)},(∀l∈ls,l.length=sz)->ls.flatten.length=ls.length*sz
 |[],_=>by simp
 |l::ls,h=>by
  rw[Sx,X3,flat_len (λx hx=>h x (Yd _ hx)),h l (Z5 ..),Zm,VJ]
  omega
theorem flat_at{sz:Nat}: ∀{ls:List (List AV)} {i:Nat},(∀l∈ls,l.length=sz)->i<ls.length->(ls.flatten.drop (i*sz)).take sz=ls.getD i []
 |l::ls,0,h,_=>by
  rw[UH,Zw,Sx,List.take_append_of_le_length (by rw[h l (Z5 ..)];exact Z2 _),VI (by rw[h l (Z5 ..)];exact Z2 _)]
  rfl
 |l::ls,i+1,h,hi=>by
  have hl:=h l (Z5 ..)
  have e:(i+1)*sz=l.length+i*sz:=by rw[hl,VJ];omega
  rw[Sx,e,<-List.drop_drop,List.drop_left]
  have:=flat_at (i:=i) (λx hx=>h x (Yd _ hx)) (by simpa using hi)
  rw[this];rfl
structure Em(H:Heap)(b e sz:Nat)(ls:List (List AV))(r:Row):Prop where
 at_:H.t.get b=some (.row r)
 elem:r.elem=e
 szr:r.sz=sz
 own:r.own=true
 fz:r.fz=0
 sm:r.sm=false
 exact_:r.exact=false
 cells:Cells r ls.flatten
 each: ∀l∈ls,l.length=sz
 ro:H.ro<=b
 low:b<H.nx
theorem Em.size{H:Heap}{b e sz:Nat}{ls:List (List AV)}{r:Row}(h:Em H b e sz ls r):r.size=ls.length*sz:=by rw[h.cells.size,flat_len h.each]
theorem Em.moved{H H':Heap}{b e sz:Nat}{ls:List (List AV)}{r:Row}(h:Em H b e sz ls r)(g:H'.t.get b=H.t.get b)(hro:H'.ro=H.ro)(hnx:H.nx<=H'.nx):Em H' b e sz ls r:=
 ⟨g.trans h.at_,h.elem,h.szr,h.own,h.fz,h.sm,h.exact_,h.cells,h.each,by rw[hro];exact h.ro,YV h.low hnx⟩
theorem Em.load{H H':Heap}{b e sz:Nat}{ls:List (List AV)}{r:Row}(h:Em H b e sz ls r)(ht:H'.t=H.t){i:Nat}(hi:i<ls.length):Dk sz (.ptr b (i*sz)) H'=.val (.agg (ls.getD i [])) H':=by
 have hf:=flat_len h.each
 have hm:(i+1)*sz<=ls.length*sz:=To _ hi
 rw[VJ,RW] at hm
 rw[vw (r:=r) (by rw[ht];exact h.at_) h.cells (by omega),flat_at h.each hi]
theorem vb{n i sz:Nat}(h:i<n)(b o:Nat)(c:Option Nat)(k:IntKind)(H:Heap):Fv sz (.slice b o n c) (nI k i) H=.val (.ptr b (o+i*sz)) H:=by
 show YP (Nat.ble (Nat.succ i) n) (OR.val (.ptr b (Nat.add o (Nat.mul i sz))) H)=_
 rw[Z1 (show Nat.succ i<=n from h)];rfl
def Pu(H:Heap)(v:AV)(e sz:Nat)(ls:List (List AV))(lo:Nat):Prop:=(ls=[]∧v=.nils)∨(ls≠[]∧ ∃b r,v=.slice b 0 ls.length none∧Em H b e sz ls r∧lo<=b)
theorem ut{H:Heap}{v:AV}{e sz bytes:Nat}{ls:List (List AV)}{lo:Nat}(h:Pu H v e sz ls lo)(hsz:1<=sz)(hby:1<=bytes)(hl:(ls.length+1)*bytes<=140737488355328)(hro:H.ro<=H.nx)(hlo:lo<=H.nx){x:List AV}(hx:x.length=sz):
  ∃v' H',NC e sz bytes v (.slice H.nx 0 1 none) (H.newRow e sz x true)=.val v' H'∧Pu H' v' e sz (ls++[x]) lo∧Below lo H H':=by
 generalize hH1:H.newRow e sz x true=H1
 have Kd:H1.nx=H.nx+1:=by rw[<-hH1];rfl
 have k1:Yw H H1 []:=by rw[<-hH1];exact Yw.new H _ []
 have b1:Below lo H H1:=by rw[<-hH1];exact Below.new lo H _
 have gx:H1.t.get H.nx=some (.row ⟨e,sz,XX x,T.ofList x,.unk,0,false,true,true⟩):=by rw[<-hH1,Hj,Mg,if_pos rfl]
 have cx:=Cells.new e sz x 0 false true true
 have src: ∀k:Nat->List AV->OR,(CB (.slice H.nx 0 1 none) λn=>Ti H1 sz (.slice H.nx 0 1 none) n λnew=>k n new)=k 1 x:=by
  intro k
  show(Ti H1 sz (.slice H.nx 0 1 none) 1 λnew=>k 1 new)=_
  generalize(⟨e,sz,XX x,T.ofList x,.unk,0,false,true,true⟩:Row)=r0 at gx cx
  unfold Ti Uc
  simp only[gx]
  show YP (Nat.ble (0+1*sz) r0.size) (k 1 (U5 r0 0 (1*sz)))=_
  rw[RW,cx.size,hx,Z1 (show 0+sz<=sz by omega)]
  have:=cx.load (o:=0) (n:=sz) (by omega)
  rw[this,Zw,VI (by omega)]
  rfl
 have ap: ∀a,NC e sz bytes a (.slice H.nx 0 1 none) H1=Jm a e sz bytes H1 1 x:=by
  intro a
  show YP (Nat.ble 1 sz) (YP (Nat.ble 1 bytes) _)=_
  rw[Z1 hsz,Z1 hby]
  exact src λn new=>Jm a e sz bytes H1 n new
 rw[ap]
 rcases h with⟨rfl,rfl⟩|⟨hne,b,r,rfl,g,hb⟩
 ·refine⟨.slice H1.nx 0 1 none,H1.newRow e sz x false,?_,.inr ⟨by simp,H1.nx,_,rfl,⟨by rw[Hj,Mg,if_pos rfl],rfl,rfl,rfl,rfl,rfl,rfl,by simpa using Cells.new e sz x 0 false true false,λl hm=>by simp at hm;rw[hm];exact hx,by show H1.ro<=H1.nx;rw[k1.ro];omega,Xl _⟩,by omega⟩,b1.trans (Below.new lo H1 _)⟩
  show YP (Nat.ble (1*bytes) 140737488355328) (OR.val (.slice H1.nx 0 1 none) (H1.newRow e sz x false))=_
  rw[Z1 (by simpa using hl)];rfl
 ·have g1:Em H1 b e sz ls r:=g.moved (k1.get b g.low (by simp)) k1.ro (by omega)
  have hs:=g1.size
  have hcap:RK r 0 none=ls.length:=by
   show cond (Nat.beq r.sz 1) (r.size - 0) ((r.size - 0)/r.sz)=_
   rw[g1.szr,hs,Nat.sub_zero]
   by_cases h1:sz=1
   ·subst h1;show ls.length*1=_;omega
   ·rw[Xx,Zj h1]
    exact Nat.mul_div_cancel _ (by omega)
  have Mv:H1.may r b=true:=by unfold Heap.may;rw[g1.own,Z1 g1.ro];rfl
  have hlen:(ls.length+1)*sz=ls.length*sz+sz:=by rw[VJ];omega
  refine⟨.slice H1.nx 0 (ls++[x]).length none,⟨Nat.succ H1.nx,(H1.t.del b).set H1.nx (.row ⟨r.elem,sz,(ls.length+1)*sz,Tv r.cells (ls.length*sz) x,r.dflt,r.fz,r.sm,true,false⟩),H1.ro⟩,?_,.inr ⟨by simp,H1.nx,⟨r.elem,sz,(ls.length+1)*sz,Tv r.cells (ls.length*sz) x,r.dflt,r.fz,r.sm,true,false⟩,rfl,⟨by rw[T.get_set,if_pos rfl],g1.elem,rfl,rfl,g1.fz,g1.sm,rfl,?_,?_,YZ g1.ro (LD g1.low),Xl _⟩,by omega⟩,b1.trans ⟨Un _,rfl,λc hc hn=>?_⟩⟩
  ·show Uc H1 b _=_
   unfold Uc
   simp only[g1.at_]
   have h1:AP r sz none=true:=by show Nat.beq r.sz sz=true;rw[g1.szr,Xt]
   have h2:Nat.ble (Nat.add ls.length 1) (RK r 0 none)=false:=by
    rw[hcap]
    cases h:Nat.ble (Nat.add ls.length 1) ls.length with
    |false=>rfl
    |true=>have:=YE h;have:ls.length+1<=ls.length:=this;omega
   rw[h1,h2]
   show YP (Nat.ble ((ls.length+1)*bytes) 140737488355328) (YP (Nat.ble (0+ls.length*sz) r.size) (cond r.exact _ (I2 H1 e b 0 ls.length 1 sz r x)))=_
   rw[Z1 hl,hs,Zd,Z1 (Z2 _),g1.exact_]
   show YP (Nat.beq r.elem e) (YP (H1.may r b) (YP (Nat.ble r.fz (ls.length*sz)) (YP (Nat.beq (ls.length*sz) r.size) (YP (Nat.beq 0 0) _))))=_
   rw[g1.elem,Xt,Mv,g1.fz,Z1 (Zi _),hs,Xt]
   show OR.val (.slice H1.nx 0 (ls.length+1) none) _=_
   rw[X3]
   rfl
  ·have hf:=flat_len g1.each
   refine⟨by show(ls.length+1)*sz=_;rw[List.flatten_append,X3,hf];simp[hx];omega,λi hi=>?_⟩
   rw[List.flatten_append,X3,hf] at hi
   have e1:[x].flatten=x:=by simp
   rw[e1] at hi
   rw[Row.get_eq]
   show((Tv r.cells (ls.length*sz) x).get i).getD r.dflt=_
   rw[N3,ZN,List.flatten_append,e1]
   by_cases h1:ls.length*sz<=i
   ·rw[if_pos ⟨h1,by omega⟩,Xs (by omega),hf,ZW (show i - ls.length*sz<x.length by omega)];rfl
   ·rw[if_neg (by omega),Xb (by omega)]
    have:=g1.cells.get i (by omega)
    rw[Row.get_eq,ZN] at this
    exact this
  ·intro l hm
   rcases Z6.1 hm with hm|hm
   ·exact g1.each l hm
   ·simp at hm;rw[hm];exact hx
  ·show((H1.t.del b).set H1.nx _).get c=_
   rw[T.get_set,if_neg (by omega),T.get_del,if_neg (by omega)]
theorem Pu.below{H H':Heap}{v:AV}{e sz:Nat}{ls:List (List AV)}{lo:Nat}(h:Pu H v e sz ls lo)(hp: ∀c,lo<=c->c<H.nx->H'.t.get c=H.t.get c)(hro:H'.ro=H.ro)(hnx:H.nx<=H'.nx):Pu H' v e sz ls lo:=by
 rcases h with h|⟨hne,b,r,rfl,g,hb⟩
 ·exact .inl h
 ·exact .inr ⟨hne,b,r,rfl,g.moved (hp b hb g.low) hro hnx,hb⟩
theorem Pu.len{H:Heap}{v:AV}{e sz:Nat}{ls:List (List AV)}{lo:Nat}(h:Pu H v e sz ls lo)(G:Heap):In v G=.val (nI .i64 ls.length) G:=by
 rcases h with⟨rfl,rfl⟩|⟨_,b,r,rfl,_⟩
 ·exact BO G
 ·exact M5 ..
theorem Pu.low{H:Heap}{v:AV}{e sz:Nat}{ls:List (List AV)}{lo:Nat}(h:Pu H v e sz ls lo){n:Nat}(hn:H.nx<=n):VB n v=true:=by
 rcases h with⟨_,rfl⟩|⟨_,b,r,rfl,g,_⟩
 ·rfl
 ·exact JE (YV g.low hn) _ _ _
theorem Pu.same{H:Heap}{v:AV}{e sz:Nat}{ls:List (List AV)}{lo:Nat}(h:Pu H v e sz ls lo)(n:Nat)(t:T Obj):TS (.val v ⟨n,t,n⟩) v n=true:=by
 rcases h with⟨_,rfl⟩|⟨_,b,r,rfl,_⟩
 ·exact Mf n t
 ·exact NG _ _ _ _ _ _
def Seen(es:List RP)(ks:List (List UInt8)):Prop:=es.map (λe=>(e.key,e.val))=ks.map λk=>(AV.str k,nI .i64 1)
theorem Seen.nil:Seen [] []:=rfl
theorem Seen.push{es:List RP}{ks:List (List UInt8)}(h:Seen es ks)(k:List UInt8)(c:Nat):Seen (es++[⟨.str k,nI .i64 1,c⟩]) (ks++[k]):=by
 unfold Seen at*
 rw[TP,TP,h];rfl
def lr(eq:AV->AV->Option Bool)(zv:AV)(ok:Bool)(m k:AV)(H:Heap):OR:=FO m (K5 ok H zv false) λb=>Jb H b λo=>A5 o λes=>Te eq k (K5 ok H zv false) (λv=>K5 ok H v true) es
theorem ZV(eq:AV->AV->Option Bool)(zv:AV)(ok:Bool)(m k:YR)(tm:TM)(H:Heap):KO eq zv ok m k tm H=lr eq zv ok (m tm) (k tm) H:=rfl
def bo(eq:AV->AV->Option Bool)(zv:AV)(ok:Bool)(x:Option Obj)(k:AV)(H:Heap):OR:=match x with|some o=>A5 o λes=>Te eq k (K5 ok H zv false) (λv=>K5 ok H v true) es|none=>.fail
theorem Ye(eq:AV->AV->Option Bool)(zv:AV)(ok:Bool)(b:Nat)(k:AV)(H:Heap):lr eq zv ok (.map b) k H=bo eq zv ok (H.t.get b) k H:=rfl
structure Sl(H:Heap)(sz:Nat)(v:AV)(ls:List (List AV)):Prop where
 each: ∀l∈ls,l.length=sz
 here:(ls=[]∧v=.nils)∨ ∃b o c,v=.slice b o ls.length c∧b<H.nx∧(ls≠[]-> ∃r,H.t.get b=some (.row r)∧o+ls.length*sz<=r.size∧ ∀i,i<ls.length*sz->r.get (o+i)=ls.flatten.getD i .unk)
theorem Sl.nil(H:Heap)(sz:Nat):Sl H sz .nils []:=⟨λ_ h=>(by cases h),.inl ⟨rfl,rfl⟩⟩
theorem Sl.keep{H H':Heap}{sz:Nat}{v:AV}{ls:List (List AV)}{S:List Nat}(h:Sl H sz v ls)(k:Yw H H' S)(hS: ∀b o n c,v=.slice b o n c->b∉S):Sl H' sz v ls:=by
 refine⟨h.each,?_⟩
 rcases h.here with h1|⟨b,o,c,rfl,hb,h2⟩
 ·exact .inl h1
 ·refine .inr ⟨b,o,c,rfl,YV hb k.nx,λhne=>?_⟩
  obtain⟨r,h3,h4⟩:=h2 hne
  exact⟨r,by rw[k.get b hb (hS _ _ _ _ rfl)];exact h3,h4⟩
theorem Sl.keep0{H H':Heap}{sz:Nat}{v:AV}{ls:List (List AV)}(h:Sl H sz v ls)(k:Yw H H' []):Sl H' sz v ls:=h.keep k (by simp)
theorem Sl.len{H:Heap}{sz:Nat}{v:AV}{ls:List (List AV)}(h:Sl H sz v ls)(G:Heap):In v G=.val (nI .i64 ls.length) G:=by
 rcases h.here with⟨rfl,rfl⟩|⟨b,o,c,rfl,_⟩
 ·rfl
 ·exact M5 ..
theorem Sl.low{H:Heap}{sz:Nat}{v:AV}{ls:List (List AV)}(h:Sl H sz v ls){n:Nat}(hn:H.nx<=n):VB n v=true:=by
 rcases h.here with⟨rfl,rfl⟩|⟨b,o,c,rfl,hb,_⟩
 ·rfl
 ·exact JE (by omega) ..
theorem Sl.same{H:Heap}{sz:Nat}{v:AV}{ls:List (List AV)}(h:Sl H sz v ls)(n:Nat)(t:T Obj):TS (.val v ⟨n,t,n⟩) v n=true:=by
 rcases h.here with⟨rfl,rfl⟩|⟨b,o,c,rfl,_⟩
 ·exact Mf ..
 ·exact NG ..
theorem Sl.cells{H:Heap}{sz:Nat}{v:AV}{ls:List (List AV)}(h:Sl H sz v ls):v.cells=[v]:=by
 rcases h.here with⟨rfl,rfl⟩|⟨b,o,c,rfl,_⟩<;>rfl
theorem Sl.at_{H:Heap}{sz:Nat}{v:AV}{ls:List (List AV)}(h:Sl H sz v ls){i:Nat}(hi:i<ls.length):
  ∃b o r,(∀(k:IntKind) (G:Heap),Fv sz v (nI k i) G=.val (.ptr b o) G)∧b<H.nx∧H.t.get b=some (.row r)∧(∀G:Heap,pk sz (some (.row r)) o G=.val (.agg (ls.getD i [])) G)∧ ∀(j:Nat) (G:Heap),j<sz->ld1 (some (.row r)) (o+j) G=.val ((ls.getD i []).getD j .unk) G:=by
 have hne:ls≠[]:=by intro e;subst e;cases hi
 rcases h.here with⟨rfl,_⟩|⟨b,o,c,rfl,hb,h2⟩
 ·exact absurd rfl hne
 ·obtain⟨r,h3,h4,h5⟩:=h2 hne
  have hm:(i+1)*sz<=ls.length*sz:=To _ hi
  rw[VJ,RW] at hm
  have hf:=flat_len h.each
  have hg:=flat_at h.each hi
  refine⟨b,o+i*sz,r,λk G=>vb hi b o c k G,hb,h3,λG=>?_,λj G hj=>?_⟩
  ·show YP (Nat.ble (Nat.add (o+i*sz) sz) r.size) (OR.val (.agg (U5 r (o+i*sz) sz)) G)=_
   rw[Z1 (show Nat.add (o+i*sz) sz<=r.size by show o+i*sz+sz<=_;omega)]
   show OR.val (.agg (U5 r (o+i*sz) sz)) G=_
   congr 2
   rw[<-hg]
   apply UT
   intro j
   by_cases hj:j<sz
   ·rw[Pk _ _ _ _ hj,UE hj,Ua]
    have:=h5 (i*sz+j) (by omega)
    rw[<-SL,ZN,ZW (by omega)] at this
    rw[ZW (by omega),this];rfl
   ·rw[WC (by rw[PR];omega),WC (by rw[Xo];omega)]
  ·rw[Yf (by omega)]
   congr 1
   rw[<-hg,SL,h5 _ (by omega),ZN,ZN,UE hj,Ua]
theorem Sl.of_rG{H:Heap}{b e sz:Nat}{ls:List (List AV)}{fz:Nat}{sm own ex:Bool}{c:Option Nat}(hb:H.t.get b=some (rG e sz ls.flatten fz sm own ex))(hn:b<H.nx)(he: ∀l∈ls,l.length=sz):Sl H sz (.slice b 0 ls.length c) ls:=
 ⟨he,.inr ⟨b,0,c,rfl,hn,λ_=>⟨_,hb,by show 0+_<=XX ls.flatten;rw[XK,flat_len he];omega,λi _=>by rw[Zd,qy]⟩⟩⟩
theorem Sl.of_recs{H:Heap}{b e sz:Nat}{ls:List (List AV)}{r:Row}(h:Em H b e sz ls r)(c:Option Nat):Sl H sz (.slice b 0 ls.length c) ls:=
 ⟨h.each,.inr ⟨b,0,c,rfl,h.low,λ_=>⟨r,h.at_,by rw[h.size];omega,λi hi=>by rw[Zd];exact h.cells.get i (by rw[flat_len h.each];exact hi)⟩⟩⟩
theorem Sl.of_buf{H:Heap}{v:AV}{e sz:Nat}{ls:List (List AV)}{lo:Nat}(h:Pu H v e sz ls lo):Sl H sz v ls:=by
 rcases h with⟨rfl,rfl⟩|⟨_,b,r,rfl,h,_⟩
 ·exact Sl.nil ..
 ·exact Sl.of_recs h _
theorem TL{n b:Nat}{l vs:List AV}{H:Heap}(hl:l.length=n)(hv:vs.length=n)(hn:1<=n)(hro:H.ro<=b)(e sz:Nat)(sm ex:Bool):xS n (some (rG e sz l 0 sm true ex)) b 0 (.agg vs) H=.val WK (H.put b (rG e sz vs 0 sm true ex)):=by
 rw[F9 hn (by exact hv) (by omega) hro (Zi _)]
 congr 3
 rw[Cz _ _ _ (by show 0+vs.length<=_;omega)]
 show []++(vs++l.drop (0+vs.length))=vs
 rw[V5 (by omega)];simp
def mI:Nat->AV
 |0=>.int .i64 (.negSucc 0)
 |m+1=>nI .i64 m
theorem qW{m:Nat}(h:m<9223372036854775808)(G:Heap):uI (nI .i64 m) (nI .i64 1) G=.val (mI m) G:=by
 cases m with
 |zero=>rfl
 |succ m=>exact Yc (by omega) h G
theorem YH(j:Nat)(G:Heap):ND VE XW (mI j) (nI .i64 0) G=.val (.bool (decide (0<j))) G:=by
 cases j with
 |zero=>rfl
 |succ j=>exact ZK .i64 j 0 G
theorem YJ(j:Nat)(G:Heap):ND Y9 YB (mI j) (nI .i64 0) G=.val (.bool (decide (j=0))) G:=by
 cases j with
 |zero=>rfl
 |succ j=>exact ZP .i64 j 0 G
theorem jk{j:Nat}(h:j<9223372036854775808)(G:Heap):A1 (mI j) (nI .i64 1) G=.val (nI .i64 j) G:=by
 cases j with
 |zero=>rfl
 |succ j=>exact Yb h G
theorem nk(m:Nat):mI (m+1)=nI .i64 m:=rfl
theorem M6(n j:Nat):VB n (mI j)=true:=by cases j<;>rfl
theorem jl(x:Nat)(s:List UInt8):AV.int .i64 (PO x s 0)=mI (S7 x s):=by
 rw[xi]
 cases h:S7 x s with
 |zero=>rfl
 |succ j=>rw[if_neg (by omega)];show AV.int .i64 ((0+(j+1) - 1:Nat):Int)=_;rw[show 0+(j+1) - 1=j by omega];rfl
structure al(s:List UInt8)(x:Nat)(H0:Heap)(m:Nat)(tm:TM)(H:Heap):Prop where
 heap:H=H0
 t0:Z0 tm=.str s
 t1:YQ tm=nI .u8 x
 t5:Xy tm=mI m
 le:m<=s.length
 cut:NE x s=NE x (s.take m)
def aX(s:List UInt8)(x:Nat)(H0:Heap)(o:Out)(tm:TM)(H:Heap):Prop:=H=H0∧((o=.ret∧Xh tm=mI (NE x s))∨(o=.exit 0∧NE x s=0))
theorem oW{s:List UInt8}{x:Nat}(hs:s.length<=90000){H0:Heap}(cx:Ctx)(X0:X)(m:Nat)(tm:TM)(H:Heap)(hI:al s x H0 m tm H):
  ∃o tm' H',KJ cx tm H X0=.ok o tm' H' X0∧((o=.normal∧ ∃k,k<m∧al s x H0 k tm' H')∨(o≠.normal∧aX s x H0 o tm' H')):=by
 obtain⟨rfl,t0,t1,t5,le,hc⟩:=hI
 have t0':=t0;have t1':=t1
 simp only[Cp] at t0
 simp only[JA] at t1
 simp only[wQ] at t5
 cases m with
 |zero=>
  have d1:decide (0<0)=false:=rfl
  simp(maxSteps:=4000000) (disch:=first|assumption|omega|(simp -implicitDefEqProofs only[Yr,Ys]<;>first|assumption|omega)|decide) only[t0,t1,t5,d1,YH,ZG,Zz,ZK,ZT,ZP,ZS,Z9,Ya,ZO,Z8,Yc,Yb,Zx,Zt,Zs,ZU,Nat.reduceSub,Nat.reduceAdd,Nat.reduceLeDiff,Zi,Zh,Nat.reduceEqDiff,decide_true,decide_false,KJ,YU,WD,Yp,Yq,ZE,ZH,ZF,Nat.reduceEqDiff,reduceCtorEq,WE]
  refine⟨_,_,_,rfl,?_⟩
  exact .inr ⟨by simp,rfl,.inr ⟨rfl,by rw[hc];rfl⟩⟩
 |succ m=>
  have d1:decide (0<m+1)=true:=Zr (by omega)
  rw[nk] at t5
  by_cases hx:(s.getD m 0).toNat=x
  ·have d2:decide ((s.getD m 0).toNat=x)=true:=Zr hx
   simp(maxSteps:=4000000) (disch:=first|assumption|omega|(simp -implicitDefEqProofs only[Yr,Ys]<;>first|assumption|omega)|decide) only[t0,t1,t5,d2,ZG,Zz,ZK,ZT,ZP,ZS,Z9,Ya,ZO,Z8,Yc,Yb,Zx,Zt,Zs,ZU,Nat.reduceSub,Nat.reduceAdd,Nat.reduceLeDiff,Zi,Zh,Nat.reduceEqDiff,decide_true,decide_false,KJ,YU,WD,Yp,Yq,ZE,ZH,ZF,Nat.reduceEqDiff,reduceCtorEq,WE]
   refine⟨_,_,_,rfl,?_⟩
   exact .inr ⟨by simp,rfl,.inl ⟨rfl,by rw[hc,od (by omega) hx];rfl⟩⟩
  ·have d2:decide ((s.getD m 0).toNat=x)=false:=Zj hx
   simp(maxSteps:=4000000) (disch:=first|assumption|omega|(simp -implicitDefEqProofs only[Yr,Ys]<;>first|assumption|omega)|decide) only[t0,t1,t5,d2,qW,ZG,Zz,ZK,ZT,ZP,ZS,Z9,Ya,ZO,Z8,Yb,Zx,Zt,Zs,ZU,Nat.reduceSub,Nat.reduceAdd,Nat.reduceLeDiff,Zi,Zh,Nat.reduceEqDiff,decide_true,decide_false,KJ,YU,WD,Yp,Yq,ZE,ZH,ZF,Nat.reduceEqDiff,reduceCtorEq,WE]
   refine⟨_,_,_,rfl,?_⟩
   exact .inl ⟨rfl,m,by omega,rfl,t0',t1',rfl,by omega,by rw[hc,tV (by omega) hx]⟩
theorem zH{Z7:Lib}{fs:T CF}{fuel:Nat}(E:Env Z7 fs fuel){n:Nat}{s:List UInt8}{x:Nat}{H:Heap}(hs:s.length<=90000):
  ∃H',Xd (LK Z7 fs fuel 0) fs fuel (n+2) 244 [.str s,nI .u8 x] H=.ret (mI (NE x s)) H'∧Yw H H' []:=by
 rw[XR (Xk E.n244 (.inl (by decide)) _ _) E.f244]
 simp(maxSteps:=4000000) (disch:=first|assumption|omega|(simp -implicitDefEqProofs only[Yr,Ys]<;>first|assumption|omega)|decide) only[qW,ZG,Zz,ZK,ZT,ZP,ZS,Z9,Ya,ZO,Z8,Yb,Zx,Zt,Zs,ZU,Nat.reduceSub,Nat.reduceAdd,Nat.reduceLeDiff,Zi,Zh,Nat.reduceEqDiff,decide_true,decide_false,x9,YU,WD,Yp,Yq,ZE,ZH,ZF,Nat.reduceEqDiff,reduceCtorEq,WE]
 generalize hL:TH (KJ _) fuel _ _ _=L
 obtain⟨o,MR,H1,rfl,_,rfl,z⟩:=WW (P:=λT=>al s x H s.length T H) (Q:=aX s x H)
  (λT hi=>Vd (al s x H) (aX s x H) (λm tm H1 h=>oW hs _ _ m tm H1 h) fuel s.length T H (by have:=E.big;omega) hi) hL
  ⟨rfl,rfl,rfl,rfl,Z2 _,by rw[V1]⟩
 rcases z with⟨rfl,t4⟩|⟨rfl,e⟩
 ·simp only[Es] at t4
  simp(maxSteps:=4000000) (disch:=first|assumption|omega|(simp -implicitDefEqProofs only[Yr,Ys]<;>first|assumption|omega)|decide) only[t4,ZG,Zz,ZK,ZT,ZP,ZS,Z9,Ya,ZO,Z8,Yc,Yb,Zx,Zt,Zs,ZU,Nat.reduceSub,Nat.reduceAdd,Nat.reduceLeDiff,Zi,Zh,Nat.reduceEqDiff,decide_true,decide_false,x9,YU,WD,Yp,Yq,ZE,ZH,ZF,Nat.reduceEqDiff,reduceCtorEq,WE]
  refine⟨_,rfl,?_⟩
  exact Yw.refl _ _
 ·rw[e]
  simp(maxSteps:=4000000) (disch:=first|assumption|omega|(simp -implicitDefEqProofs only[Yr,Ys]<;>first|assumption|omega)|decide) only[ZG,Zz,ZK,ZT,ZP,ZS,Z9,Ya,ZO,Z8,Yc,Yb,Zx,Zt,Zs,ZU,Nat.reduceSub,Nat.reduceAdd,Nat.reduceLeDiff,Zi,Zh,Nat.reduceEqDiff,decide_true,decide_false,x9,YU,WD,Yp,Yq,ZE,ZH,ZF,Nat.reduceEqDiff,reduceCtorEq,WE]
  refine⟨_,rfl,?_⟩
  exact Yw.refl _ _
theorem jd{Z7:Lib}{fs:T CF}{fuel:Nat}(E:Env Z7 fs fuel){k n:Nat}(hk:1<=k){s:List UInt8}{x:Nat}{H:Heap}(hs:s.length<=90000):
  Xd (LK Z7 fs fuel k) fs fuel (n+1) 244 [.str s,nI .u8 x] H=.ret (mI (NE x s)) H:=by
 obtain⟨H',e,g⟩:=zH E (n:=898) (H:=H) hs
 exact Wy (r:=0) rfl rfl e g (M6 _ _) hk
theorem vj{Z7:Lib}{fs:T CF}{fuel:Nat}(E:Env Z7 fs fuel){n:Nat}{s:List UInt8}{x:Nat}{H:Heap}(hs:s.length<=90000):
  ∃H',Xd (LK Z7 fs fuel 1) fs fuel (n+2) 186 [.str s,nI .u8 x] H=.ret (mI (NE x s)) H'∧Yw H H' []:=by
 rw[XR (Xk E.n186 (.inl (by decide)) _ _) E.f186]
 have e1:=λ{j}=>jd (Z7:=Z7) (fs:=fs) (fuel:=fuel) E (k:=1) (n:=j) (by decide) (x:=x) (H:=H) hs
 simp(maxSteps:=4000000) (disch:=first|assumption|omega|(simp -implicitDefEqProofs only[Yr,Ys]<;>first|assumption|omega)|decide) only[e1,ZG,Zz,ZK,ZT,ZP,ZS,Z9,Ya,ZO,Z8,Yc,Yb,Zx,Zt,Zs,ZU,Nat.reduceSub,Nat.reduceAdd,Nat.reduceLeDiff,Zi,Zh,Nat.reduceEqDiff,decide_true,decide_false,pO,YU,WD,Yp,Yq,ZE,ZH,ZF,Nat.reduceEqDiff,reduceCtorEq,WE]
 refine⟨_,rfl,?_⟩
 exact Yw.refl _ _
theorem bj{Z7:Lib}{fs:T CF}{fuel:Nat}(E:Env Z7 fs fuel){k n:Nat}(hk:2<=k){s:List UInt8}{x:Nat}{H:Heap}(hs:s.length<=90000):
  Xd (LK Z7 fs fuel k) fs fuel (n+1) 186 [.str s,nI .u8 x] H=.ret (mI (NE x s)) H:=by
 obtain⟨H',e,g⟩:=vj E (n:=898) (H:=H) hs
 exact Wy (r:=1) rfl rfl e g (M6 _ _) hk
theorem tB{Z7:Lib}{fs:T CF}{fuel:Nat}(E:Env Z7 fs fuel){n:Nat}{s:List UInt8}{H:Heap}(hs:s.length<=90000):
  ∃H',Xd (LK Z7 fs fuel 2) fs fuel (n+2) 152 [.str s] H=.ret (.str (UV s)) H'∧Yw H H' []:=by
 rw[XR (Xk E.n152 (.inl (by decide)) _ _) E.f152]
 have e1:=λ{j}=>bj (Z7:=Z7) (fs:=fs) (fuel:=fuel) E (k:=2) (n:=j) (by decide) (x:=47) (H:=H) hs
 have hc:=Cf 47 s
 unfold UV
 simp(maxSteps:=4000000) (disch:=first|assumption|omega|(simp -implicitDefEqProofs only[Yr,Ys]<;>first|assumption|omega)|decide) only[e1,jk,ZG,Zz,ZK,ZT,ZP,ZS,Z9,Ya,ZO,Z8,Yc,Zx,Zt,Zs,ZU,Nat.reduceSub,Nat.reduceAdd,Nat.reduceLeDiff,Zi,Zh,Nat.reduceEqDiff,decide_true,decide_false,pK,YU,WD,Yp,Yq,ZE,ZH,ZF,Nat.reduceEqDiff,reduceCtorEq,WE]
 refine⟨_,rfl,?_⟩
 exact Yw.refl _ _
theorem base{Z7:Lib}{fs:T CF}{fuel:Nat}(E:Env Z7 fs fuel){k n:Nat}(hk:3<=k){s:List UInt8}{H:Heap}(hs:s.length<=90000):
  Xd (LK Z7 fs fuel k) fs fuel (n+1) 152 [.str s] H=.ret (.str (UV s)) H:=by
 obtain⟨H',e,g⟩:=tB E (n:=898) (H:=H) hs
 exact Wy (r:=2) rfl rfl e g (rfl) hk
theorem wZ{Z7:Lib}{fs:T CF}{fuel:Nat}(E:Env Z7 fs fuel){n:Nat}{s p:List UInt8}{H:Heap}(hs:s.length<=90000):
  ∃H',Xd (LK Z7 fs fuel 0) fs fuel (n+2) 264 [.str s,.str p] H=.ret (.bool (Ez p s)) H'∧Yw H H' []:=by
 rw[XR (Xk E.n264 (.inl (by decide)) _ _) E.f264]
 unfold Ez
 by_cases h:p.length<=s.length
 ·rw[Zr h]
  have d1:decide (p.length<=s.length)=true:=Zr h
  simp(maxSteps:=4000000) (disch:=first|assumption|omega|(simp -implicitDefEqProofs only[Yr,Ys]<;>first|assumption|omega)|decide) only[d1,Ur,ZG,Zz,ZK,ZT,ZP,ZS,Z9,Ya,ZO,Z8,Yc,Yb,Zx,Zt,Zs,ZU,Nat.reduceSub,Nat.reduceAdd,Nat.reduceLeDiff,Zi,Zh,Nat.reduceEqDiff,decide_true,decide_false,tG,YU,WD,Yp,Yq,ZE,ZH,ZF,Nat.reduceEqDiff,reduceCtorEq,WE]
  refine⟨_,rfl,?_⟩
  exact Yw.refl _ _
 ·rw[Zj h]
  have d1:decide (p.length<=s.length)=false:=Zj h
  simp(maxSteps:=4000000) (disch:=first|assumption|omega|(simp -implicitDefEqProofs only[Yr,Ys]<;>first|assumption|omega)|decide) only[d1,PB,ZG,Zz,ZK,ZT,ZP,ZS,Z9,Ya,ZO,Z8,Yc,Yb,Zx,Zt,Zs,ZU,Nat.reduceSub,Nat.reduceAdd,Nat.reduceLeDiff,Zi,Zh,Nat.reduceEqDiff,decide_true,decide_false,tG,YU,WD,Yp,Yq,ZE,ZH,ZF,Nat.reduceEqDiff,reduceCtorEq,WE]
  refine⟨_,rfl,?_⟩
  exact Yw.refl _ _
theorem cz{Z7:Lib}{fs:T CF}{fuel:Nat}(E:Env Z7 fs fuel){k n:Nat}(hk:1<=k){s p:List UInt8}{H:Heap}(hs:s.length<=90000):
  Xd (LK Z7 fs fuel k) fs fuel (n+1) 264 [.str s,.str p] H=.ret (.bool (Ez p s)) H:=by
 obtain⟨H',e,g⟩:=wZ E (n:=898) (H:=H) hs
 exact Wy (r:=0) rfl rfl e g (rfl) hk
theorem sO{Z7:Lib}{fs:T CF}{fuel:Nat}(E:Env Z7 fs fuel){n:Nat}{s p:List UInt8}{H:Heap}(hs:s.length<=90000):
  ∃H',Xd (LK Z7 fs fuel 1) fs fuel (n+2) 209 [.str s,.str p] H=.ret (.bool (Ez p s)) H'∧Yw H H' []:=by
 rw[XR (Xk E.n209 (.inl (by decide)) _ _) E.f209]
 have e1:=λ{j}=>cz (Z7:=Z7) (fs:=fs) (fuel:=fuel) E (k:=1) (n:=j) (by decide) (p:=p) (H:=H) hs
 simp(maxSteps:=4000000) (disch:=first|assumption|omega|(simp -implicitDefEqProofs only[Yr,Ys]<;>first|assumption|omega)|decide) only[e1,ZG,Zz,ZK,ZT,ZP,ZS,Z9,Ya,ZO,Z8,Yc,Yb,Zx,Zt,Zs,ZU,Nat.reduceSub,Nat.reduceAdd,Nat.reduceLeDiff,Zi,Zh,Nat.reduceEqDiff,decide_true,decide_false,pP,YU,WD,Yp,Yq,ZE,ZH,ZF,Nat.reduceEqDiff,reduceCtorEq,WE]
 refine⟨_,rfl,?_⟩
 exact Yw.refl _ _
theorem cu{Z7:Lib}{fs:T CF}{fuel:Nat}(E:Env Z7 fs fuel){k n:Nat}(hk:2<=k){s p:List UInt8}{H:Heap}(hs:s.length<=90000):
  Xd (LK Z7 fs fuel k) fs fuel (n+1) 209 [.str s,.str p] H=.ret (.bool (Ez p s)) H:=by
 obtain⟨H',e,g⟩:=sO E (n:=898) (H:=H) hs
 exact Wy (r:=1) rfl rfl e g (rfl) hk
theorem vk{Z7:Lib}{fs:T CF}{fuel:Nat}(E:Env Z7 fs fuel){n:Nat}{s:List UInt8}{H:Heap}(hs:s.length<=90000):
  ∃H',Xd (LK Z7 fs fuel 2) fs fuel (n+2) 153 [.str s] H=.ret (nI .i64 (Ny s)) H'∧Yw H H' []:=by
 rw[XR (Xk E.n153 (.inl (by decide)) _ _) E.f153]
 have e1:=λ{j}=>cu (Z7:=Z7) (fs:=fs) (fuel:=fuel) E (k:=2) (n:=j) (by decide) (p:=[46,119,104,46]) (H:=H) hs
 unfold Ny
 have eo:bF=[46,119,104,46,46,119,104,46,46,111,112,113]:=rfl
 have ew:pp=[46,119,104,46]:=rfl
 rw[eo,ew]
 by_cases h:s=[46,119,104,46,46,119,104,46,46,111,112,113]
 ·have d1:decide (s=[46,119,104,46,46,119,104,46,46,111,112,113])=true:=Zr h
  rw[if_pos h]
  simp(maxSteps:=4000000) (disch:=first|assumption|omega|(simp -implicitDefEqProofs only[Yr,Ys]<;>first|assumption|omega)|decide) only[d1,ZG,Zz,ZK,ZT,ZP,ZS,Z9,Ya,ZO,Z8,Yc,Yb,Zx,Zt,Zs,ZU,Nat.reduceSub,Nat.reduceAdd,Nat.reduceLeDiff,Zi,Zh,Nat.reduceEqDiff,decide_true,decide_false,x8,YU,WD,Yp,Yq,ZE,ZH,ZF,Nat.reduceEqDiff,reduceCtorEq,WE]
  refine⟨_,rfl,?_⟩
  exact Yw.refl _ _
 ·have d1:decide (s=[46,119,104,46,46,119,104,46,46,111,112,113])=false:=Zj h
  rw[if_neg h]
  cases hq:Ez [46,119,104,46] s with
  |true=>
   rw[hq] at e1
   simp(maxSteps:=4000000) (disch:=first|assumption|omega|(simp -implicitDefEqProofs only[Yr,Ys]<;>first|assumption|omega)|decide) only[d1,e1,ZG,Zz,ZK,ZT,ZP,ZS,Z9,Ya,ZO,Z8,Yc,Yb,Zx,Zt,Zs,ZU,Nat.reduceSub,Nat.reduceAdd,Nat.reduceLeDiff,Zi,Zh,Nat.reduceEqDiff,decide_true,decide_false,x8,YU,WD,Yp,Yq,ZE,ZH,ZF,Nat.reduceEqDiff,reduceCtorEq,WE]
   refine⟨_,rfl,?_⟩
   exact Yw.refl _ _
  |false=>
   rw[hq] at e1
   simp(maxSteps:=4000000) (disch:=first|assumption|omega|(simp -implicitDefEqProofs only[Yr,Ys]<;>first|assumption|omega)|decide) only[d1,e1,ZG,Zz,ZK,ZT,ZP,ZS,Z9,Ya,ZO,Z8,Yc,Yb,Zx,Zt,Zs,ZU,Nat.reduceSub,Nat.reduceAdd,Nat.reduceLeDiff,Zi,Zh,Nat.reduceEqDiff,decide_true,decide_false,x8,YU,WD,Yp,Yq,ZE,ZH,ZF,Nat.reduceEqDiff,reduceCtorEq,WE]
   refine⟨_,rfl,?_⟩
   exact Yw.refl _ _
theorem bl{Z7:Lib}{fs:T CF}{fuel:Nat}(E:Env Z7 fs fuel){k n:Nat}(hk:3<=k){s:List UInt8}{H:Heap}(hs:s.length<=90000):
  Xd (LK Z7 fs fuel k) fs fuel (n+1) 153 [.str s] H=.ret (nI .i64 (Ny s)) H:=by
 obtain⟨H',e,g⟩:=vk E (n:=898) (H:=H) hs
 exact Wy (r:=2) rfl rfl e g (rfl) hk
theorem sP{Z7:Lib}{fs:T CF}{fuel:Nat}(E:Env Z7 fs fuel){n:Nat}{s p:List UInt8}{H:Heap}(hs:s.length<=90000):
  ∃H',Xd (LK Z7 fs fuel 0) fs fuel (n+2) 265 [.str s,.str p] H=.ret (.bool (decide (p.length<=s.length)&&decide (s.drop (s.length - p.length)=p))) H'∧Yw H H' []:=by
 rw[XR (Xk E.n265 (.inl (by decide)) _ _) E.f265]
 by_cases h:p.length<=s.length
 ·rw[Zr h]
  have d1:decide (p.length<=s.length)=true:=Zr h
  simp(maxSteps:=4000000) (disch:=first|assumption|omega|(simp -implicitDefEqProofs only[Yr,Ys]<;>first|assumption|omega)|decide) only[d1,Ur,ZG,Zz,ZK,ZT,ZP,ZS,Z9,Ya,ZO,Z8,Yc,Yb,Zx,Zt,Zs,ZU,Nat.reduceSub,Nat.reduceAdd,Nat.reduceLeDiff,Zi,Zh,Nat.reduceEqDiff,decide_true,decide_false,tH,YU,WD,Yp,Yq,ZE,ZH,ZF,Nat.reduceEqDiff,reduceCtorEq,WE]
  refine⟨_,rfl,?_⟩
  exact Yw.refl _ _
 ·rw[Zj h]
  have d1:decide (p.length<=s.length)=false:=Zj h
  simp(maxSteps:=4000000) (disch:=first|assumption|omega|(simp -implicitDefEqProofs only[Yr,Ys]<;>first|assumption|omega)|decide) only[d1,PB,ZG,Zz,ZK,ZT,ZP,ZS,Z9,Ya,ZO,Z8,Yc,Yb,Zx,Zt,Zs,ZU,Nat.reduceSub,Nat.reduceAdd,Nat.reduceLeDiff,Zi,Zh,Nat.reduceEqDiff,decide_true,decide_false,tH,YU,WD,Yp,Yq,ZE,ZH,ZF,Nat.reduceEqDiff,reduceCtorEq,WE]
  refine⟨_,rfl,?_⟩
  exact Yw.refl _ _
theorem ZdJ{Z7:Lib}{fs:T CF}{fuel:Nat}(E:Env Z7 fs fuel){k n:Nat}(hk:1<=k){s p:List UInt8}{H:Heap}(hs:s.length<=90000):
  Xd (LK Z7 fs fuel k) fs fuel (n+1) 265 [.str s,.str p] H=.ret (.bool (decide (p.length<=s.length)&&decide (s.drop (s.length - p.length)=p))) H:=by
 obtain⟨H',e,g⟩:=sP E (n:=898) (H:=H) hs
 exact Wy (r:=0) rfl rfl e g (rfl) hk
theorem yL{Z7:Lib}{fs:T CF}{fuel:Nat}(E:Env Z7 fs fuel){n:Nat}{s p:List UInt8}{H:Heap}(hs:s.length<=90000):
  ∃H',Xd (LK Z7 fs fuel 1) fs fuel (n+2) 210 [.str s,.str p] H=.ret (.str (if p.length<=s.length∧s.drop (s.length - p.length)=p then s.take (s.length - p.length) else s)) H'∧Yw H H' []:=by
 rw[XR (Xk E.n210 (.inl (by decide)) _ _) E.f210]
 have e1:=λ{j}=>ZdJ (Z7:=Z7) (fs:=fs) (fuel:=fuel) E (k:=1) (n:=j) (by decide) (p:=p) (H:=H) hs
 by_cases h:p.length<=s.length∧s.drop (s.length - p.length)=p
 ·rw[if_pos h]
  rw[Zr h.1,Zr h.2] at e1
  have hp:=h.1
  simp(maxSteps:=4000000) (disch:=first|assumption|omega|(simp -implicitDefEqProofs only[Yr,Ys]<;>first|assumption|omega)|decide) only[e1,Bool.and_self,ZG,Zz,ZK,ZT,ZP,ZS,Z9,Ya,ZO,Z8,Yc,Yb,Zx,Zt,Zs,ZU,Nat.reduceSub,Nat.reduceAdd,Nat.reduceLeDiff,Zi,Zh,Nat.reduceEqDiff,decide_true,decide_false,tD,YU,WD,Yp,Yq,ZE,ZH,ZF,Nat.reduceEqDiff,reduceCtorEq,WE]
  refine⟨_,rfl,?_⟩
  exact Yw.refl _ _
 ·rw[if_neg h]
  have:(decide (p.length<=s.length)&&decide (s.drop (s.length - p.length)=p))=false:=by
   rw[Bool.eq_false_iff]
   intro e
   rw[Xv] at e
   exact h ⟨ZB e.1,ZB e.2⟩
  rw[this] at e1
  simp(maxSteps:=4000000) (disch:=first|assumption|omega|(simp -implicitDefEqProofs only[Yr,Ys]<;>first|assumption|omega)|decide) only[e1,ZG,Zz,ZK,ZT,ZP,ZS,Z9,Ya,ZO,Z8,Yc,Yb,Zx,Zt,Zs,ZU,Nat.reduceSub,Nat.reduceAdd,Nat.reduceLeDiff,Zi,Zh,Nat.reduceEqDiff,decide_true,decide_false,tD,YU,WD,Yp,Yq,ZE,ZH,ZF,Nat.reduceEqDiff,reduceCtorEq,WE]
  refine⟨_,rfl,?_⟩
  exact Yw.refl _ _
theorem ia{Z7:Lib}{fs:T CF}{fuel:Nat}(E:Env Z7 fs fuel){k n:Nat}(hk:2<=k){s p:List UInt8}{H:Heap}(hs:s.length<=90000):
  Xd (LK Z7 fs fuel k) fs fuel (n+1) 210 [.str s,.str p] H=.ret (.str (if p.length<=s.length∧s.drop (s.length - p.length)=p then s.take (s.length - p.length) else s)) H:=by
 obtain⟨H',e,g⟩:=yL E (n:=898) (H:=H) hs
 exact Wy (r:=1) rfl rfl e g (rfl) hk
theorem uS{Z7:Lib}{fs:T CF}{fuel:Nat}(E:Env Z7 fs fuel){n:Nat}{s p:List UInt8}{H:Heap}(hs:s.length<=90000):
  ∃H',Xd (LK Z7 fs fuel 2) fs fuel (n+2) 154 [.str s,.str p] H=.ret (.str (if p.length<=s.length∧s.drop (s.length - p.length)=p then s.take (s.length - p.length) else s)) H'∧Yw H H' []:=by
 rw[XR (Xk E.n154 (.inl (by decide)) _ _) E.f154]
 have e1:=λ{j}=>ia (Z7:=Z7) (fs:=fs) (fuel:=fuel) E (k:=2) (n:=j) (by decide) (p:=p) (H:=H) hs
 simp(maxSteps:=4000000) (disch:=first|assumption|omega|(simp -implicitDefEqProofs only[Yr,Ys]<;>first|assumption|omega)|decide) only[e1,ZG,Zz,ZK,ZT,ZP,ZS,Z9,Ya,ZO,Z8,Yc,Yb,Zx,Zt,Zs,ZU,Nat.reduceSub,Nat.reduceAdd,Nat.reduceLeDiff,Zi,Zh,Nat.reduceEqDiff,decide_true,decide_false,pL,YU,WD,Yp,Yq,ZE,ZH,ZF,Nat.reduceEqDiff,reduceCtorEq,WE]
 refine⟨_,rfl,?_⟩
 exact Yw.refl _ _
theorem lV{Z7:Lib}{fs:T CF}{fuel:Nat}(E:Env Z7 fs fuel){k n:Nat}(hk:3<=k){s p:List UInt8}{H:Heap}(hs:s.length<=90000):
  Xd (LK Z7 fs fuel k) fs fuel (n+1) 154 [.str s,.str p] H=.ret (.str (if p.length<=s.length∧s.drop (s.length - p.length)=p then s.take (s.length - p.length) else s)) H:=by
 obtain⟨H',e,g⟩:=uS E (n:=898) (H:=H) hs
 exact Wy (r:=2) rfl rfl e g (rfl) hk
theorem uT(p:List UInt8):(if (UV p).length<=p.length∧p.drop (p.length - (UV p).length)=UV p then p.take (p.length - (UV p).length) else p)=RQ p:=by
 have hc:=Cf 47 p
 unfold UV RQ
 rw[V0,show p.length - (p.length - NE 47 p)=NE 47 p by omega,if_pos ⟨by omega,rfl⟩]
theorem mj(d:List UInt8):(if ([47]:List UInt8).length<=d.length∧d.drop (d.length - ([47]:List UInt8).length)=[47] then d.take (d.length - ([47]:List UInt8).length) else d)=CO d:=rfl
theorem vc{Z7:Lib}{fs:T CF}{fuel:Nat}(E:Env Z7 fs fuel){n:Nat}{s:List UInt8}{x:Nat}{H:Heap}(hx:x<256):
  ∃H',Xd (LK Z7 fs fuel 0) fs fuel (n+2) 215 [.str s,nI .u8 x] H=.ret (mI (S7 x s)) H'∧Yw H H' []:=by
 rw[XR (Xk E.n215 (.inl (by decide)) _ _) E.f215]
 have ec: ∀{j},Xd (LK Z7 fs fuel 0) fs fuel (j+1) 272 [.str s,nI .u8 x] H=.ret (mI (S7 x s)) H:=λ{j}=>by
  rw[GU rfl (E.ix s x H hx),jl]
 simp(maxSteps:=4000000) (disch:=first|assumption|omega|(simp -implicitDefEqProofs only[Yr,Ys]<;>first|assumption|omega)|decide) only[ec,ZG,Zz,ZK,ZT,ZP,ZS,Z9,Ya,ZO,Z8,Yc,Yb,Zx,Zt,Zs,ZU,Nat.reduceSub,Nat.reduceAdd,Nat.reduceLeDiff,Zi,Zh,Nat.reduceEqDiff,decide_true,decide_false,pR,YU,WD,Yp,Yq,ZE,ZH,ZF,Nat.reduceEqDiff,reduceCtorEq,WE]
 refine⟨_,rfl,?_⟩
 exact Yw.refl _ _
theorem li{Z7:Lib}{fs:T CF}{fuel:Nat}(E:Env Z7 fs fuel){k n:Nat}(hk:1<=k){s:List UInt8}{x:Nat}{H:Heap}(hx:x<256):
  Xd (LK Z7 fs fuel k) fs fuel (n+1) 215 [.str s,nI .u8 x] H=.ret (mI (S7 x s)) H:=by
 obtain⟨H',e,g⟩:=vc E (n:=898) (H:=H) hx
 exact Wy (r:=0) rfl rfl e g (M6 _ _) hk
theorem s7{Z7:Lib}{fs:T CF}{fuel:Nat}(E:Env Z7 fs fuel){n:Nat}{s:List UInt8}{x:Nat}{H:Heap}(hx:x<256):
  ∃H',Xd (LK Z7 fs fuel 1) fs fuel (n+2) 158 [.str s,nI .u8 x] H=.ret (mI (S7 x s)) H'∧Yw H H' []:=by
 rw[XR (Xk E.n158 (.inl (by decide)) _ _) E.f158]
 have e1:=λ{j}=>li (Z7:=Z7) (fs:=fs) (fuel:=fuel) E (k:=1) (n:=j) (by decide) (s:=s) (H:=H) hx
 simp(maxSteps:=4000000) (disch:=first|assumption|omega|(simp -implicitDefEqProofs only[Yr,Ys]<;>first|assumption|omega)|decide) only[e1,ZG,Zz,ZK,ZT,ZP,ZS,Z9,Ya,ZO,Z8,Yc,Yb,Zx,Zt,Zs,ZU,Nat.reduceSub,Nat.reduceAdd,Nat.reduceLeDiff,Zi,Zh,Nat.reduceEqDiff,decide_true,decide_false,pN,YU,WD,Yp,Yq,ZE,ZH,ZF,Nat.reduceEqDiff,reduceCtorEq,WE]
 refine⟨_,rfl,?_⟩
 exact Yw.refl _ _
theorem kZ{Z7:Lib}{fs:T CF}{fuel:Nat}(E:Env Z7 fs fuel){k n:Nat}(hk:2<=k){s:List UInt8}{x:Nat}{H:Heap}(hx:x<256):
  Xd (LK Z7 fs fuel k) fs fuel (n+1) 158 [.str s,nI .u8 x] H=.ret (mI (S7 x s)) H:=by
 obtain⟨H',e,g⟩:=s7 E (n:=898) (H:=H) hx
 exact Wy (r:=1) rfl rfl e g (M6 _ _) hk
theorem zB{Z7:Lib}{fs:T CF}{fuel:Nat}(E:Env Z7 fs fuel){n:Nat}{s:List UInt8}{H:Heap}:
  ∃H',Xd (LK Z7 fs fuel 1) fs fuel (n+2) 310 [.str s,.str [47]] H=.ret (mI (S7 47 s)) H'∧Yw H H' []:=by
 rw[XR (Xk E.n310 (.inl (by decide)) _ _) E.f310]
 have e1:=λ{j}=>li (Z7:=Z7) (fs:=fs) (fuel:=fuel) E (k:=1) (n:=j) (by decide) (s:=s) (x:=47) (H:=H) (by decide)
 have wl:([47]:List UInt8).length=1:=rfl
 have w0:([47]:List UInt8).getD 0 0=47:=rfl
 have w1:(47:UInt8).toNat=47:=rfl
 have w2:decide (1=0)=false:=rfl
 by_cases h:([47]:List UInt8)=s
 ·have d_h:decide (([47]:List UInt8)=s)=true:=Zr h
  simp(maxSteps:=4000000) (disch:=first|assumption|omega|(simp -implicitDefEqProofs only[Yr,Ys]<;>first|assumption|omega)|decide) only[wl,w0,w1,w2,e1,d_h,ZG,Zz,ZK,ZT,ZP,ZS,Z9,Ya,ZO,Z8,Yc,Yb,Zx,Zt,Zs,ZU,Nat.reduceSub,Nat.reduceAdd,Nat.reduceLeDiff,Zi,Zh,Nat.reduceEqDiff,decide_true,decide_false,tJ,YU,WD,Yp,Yq,ZE,ZH,ZF,Nat.reduceEqDiff,reduceCtorEq,WE,UF]
  subst h
  refine⟨_,rfl,?_⟩
  exact Yw.refl _ _
 ·have d_h:decide (([47]:List UInt8)=s)=false:=Zj h
  simp(maxSteps:=4000000) (disch:=first|assumption|omega|(simp -implicitDefEqProofs only[Yr,Ys]<;>first|assumption|omega)|decide) only[wl,w0,w1,w2,e1,d_h,ZG,Zz,ZK,ZT,ZP,ZS,Z9,Ya,ZO,Z8,Yc,Yb,Zx,Zt,Zs,ZU,Nat.reduceSub,Nat.reduceAdd,Nat.reduceLeDiff,Zi,Zh,Nat.reduceEqDiff,decide_true,decide_false,tJ,YU,WD,Yp,Yq,ZE,ZH,ZF,Nat.reduceEqDiff,reduceCtorEq,WE,UF]
  refine⟨_,rfl,?_⟩
  exact Yw.refl _ _
theorem k7{Z7:Lib}{fs:T CF}{fuel:Nat}(E:Env Z7 fs fuel){k n:Nat}(hk:2<=k){s:List UInt8}{H:Heap}:
  Xd (LK Z7 fs fuel k) fs fuel (n+1) 310 [.str s,.str [47]] H=.ret (mI (S7 47 s)) H:=by
 obtain⟨H',e,g⟩:=zB E (n:=898) (H:=H)
 exact Wy (r:=1) rfl rfl e g (M6 _ _) hk
theorem ve{Z7:Lib}{fs:T CF}{fuel:Nat}(E:Env Z7 fs fuel){n:Nat}{s:List UInt8}{H:Heap}:
  ∃H',Xd (LK Z7 fs fuel 2) fs fuel (n+2) 248 [.str s,.str [47]] H=.ret (mI (S7 47 s)) H'∧Yw H H' []:=by
 rw[XR (Xk E.n248 (.inl (by decide)) _ _) E.f248]
 have e1:=λ{j}=>k7 (Z7:=Z7) (fs:=fs) (fuel:=fuel) E (k:=2) (n:=j) (by decide) (s:=s) (H:=H)
 simp(maxSteps:=4000000) (disch:=first|assumption|omega|(simp -implicitDefEqProofs only[Yr,Ys]<;>first|assumption|omega)|decide) only[e1,ZG,Zz,ZK,ZT,ZP,ZS,Z9,Ya,ZO,Z8,Yc,Yb,Zx,Zt,Zs,ZU,Nat.reduceSub,Nat.reduceAdd,Nat.reduceLeDiff,Zi,Zh,Nat.reduceEqDiff,decide_true,decide_false,pS,YU,WD,Yp,Yq,ZE,ZH,ZF,Nat.reduceEqDiff,reduceCtorEq,WE]
 refine⟨_,rfl,?_⟩
 exact Yw.refl _ _
theorem index{Z7:Lib}{fs:T CF}{fuel:Nat}(E:Env Z7 fs fuel){k n:Nat}(hk:3<=k){s:List UInt8}{H:Heap}:
  Xd (LK Z7 fs fuel k) fs fuel (n+1) 248 [.str s,.str [47]] H=.ret (mI (S7 47 s)) H:=by
 obtain⟨H',e,g⟩:=ve E (n:=898) (H:=H)
 exact Wy (r:=2) rfl rfl e g (M6 _ _) hk
theorem wu{Z7:Lib}{fs:T CF}{fuel:Nat}(E:Env Z7 fs fuel){n:Nat}{s:List UInt8}{H:Heap}:
  ∃H',Xd (LK Z7 fs fuel 0) fs fuel (n+2) 361 [.str s,.str [47]] H=.ret (nI .i64 (Wu 47 s 0)) H'∧Yw H H' []:=by
 rw[XR (Xk E.n361 (.inl (by decide)) _ _) E.f361]
 have ec: ∀{j},Xd (LK Z7 fs fuel 0) fs fuel (j+1) 392 [.str s,nI .u8 47] H=.ret (nI .i64 (Wu 47 s 0)) H:=λ{j}=>by
  rw[GU rfl (E.cn s 47 H (by omega))]
 have wl:([47]:List UInt8).length=1:=rfl
 have w0:([47]:List UInt8).getD 0 0=47:=rfl
 have w1:(47:UInt8).toNat=47:=rfl
 have w2:decide (1=0)=false:=rfl
 simp(maxSteps:=4000000) (disch:=first|assumption|omega|(simp -implicitDefEqProofs only[Yr,Ys]<;>first|assumption|omega)|decide) only[wl,w0,w1,w2,ec,ZG,Zz,ZK,ZT,ZP,ZS,Z9,Ya,ZO,Z8,Yc,Yb,Zx,Zt,Zs,ZU,Nat.reduceSub,Nat.reduceAdd,Nat.reduceLeDiff,Zi,Zh,Nat.reduceEqDiff,decide_true,decide_false,p4,YU,WD,Yp,Yq,ZE,ZH,ZF,Nat.reduceEqDiff,reduceCtorEq,WE]
 refine⟨_,rfl,?_⟩
 exact Yw.refl _ _
theorem count{Z7:Lib}{fs:T CF}{fuel:Nat}(E:Env Z7 fs fuel){k n:Nat}(hk:1<=k){s:List UInt8}{H:Heap}:
  Xd (LK Z7 fs fuel k) fs fuel (n+1) 361 [.str s,.str [47]] H=.ret (nI .i64 (Wu 47 s 0)) H:=by
 obtain⟨H',e,g⟩:=wu E (n:=898) (H:=H)
 exact Wy (r:=0) rfl rfl e g (rfl) hk
theorem zj{Z7:Lib}{fs:T CF}{fuel:Nat}(E:Env Z7 fs fuel){n:Nat}{a s:List UInt8}{H:Heap}(hs:a.length+s.length<=90000):
  ∃H',Xd (LK Z7 fs fuel 0) fs fuel (n+2) 427 [.str a,.str s] H=.ret (.str (a++s)) H'∧Yw H H' []:=by
 rw[XR (Xk E.n427 (.inl (by decide)) _ _) E.f427]
 have ad:=λG=>Bi (a:=a) (b:=s) (by omega) G
 simp(maxSteps:=4000000) (disch:=first|assumption|omega|(simp -implicitDefEqProofs only[Yr,Ys]<;>first|assumption|omega)|decide) only[ad,ZG,Zz,ZK,ZT,ZP,ZS,Z9,Ya,ZO,Z8,Yc,Yb,Zx,Zt,Zs,ZU,Nat.reduceSub,Nat.reduceAdd,Nat.reduceLeDiff,Zi,Zh,Nat.reduceEqDiff,decide_true,decide_false,p6,YU,WD,Yp,Yq,ZE,ZH,ZF,Nat.reduceEqDiff,reduceCtorEq,WE]
 refine⟨_,rfl,?_⟩
 exact Yw.refl _ _
theorem kg{Z7:Lib}{fs:T CF}{fuel:Nat}(E:Env Z7 fs fuel){k n:Nat}(hk:1<=k){a s:List UInt8}{H:Heap}(hs:a.length+s.length<=90000):
  Xd (LK Z7 fs fuel k) fs fuel (n+1) 427 [.str a,.str s] H=.ret (.str (a++s)) H:=by
 obtain⟨H',e,g⟩:=zj E (n:=898) (H:=H) hs
 exact Wy (r:=0) rfl rfl e g (rfl) hk
theorem zk{Z7:Lib}{fs:T CF}{fuel:Nat}(E:Env Z7 fs fuel){n:Nat}{a s:List UInt8}{H:Heap}(hs:a.length+s.length<=90000)(h4:4<=s.length):
  ∃H',Xd (LK Z7 fs fuel 0) fs fuel (n+2) 428 [.str a,.str s] H=.ret (.str (a++s.drop 4)) H'∧Yw H H' []:=by
 rw[XR (Xk E.n428 (.inl (by decide)) _ _) E.f428]
 have ad:=λG=>Bi (a:=a) (b:=s.drop 4) (by rw[V0];omega) G
 simp(maxSteps:=4000000) (disch:=first|assumption|omega|(simp -implicitDefEqProofs only[Yr,Ys]<;>first|assumption|omega)|decide) only[ad,ZG,Zz,ZK,ZT,ZP,ZS,Z9,Ya,ZO,Z8,Yc,Yb,Zx,Zt,Zs,ZU,Nat.reduceSub,Nat.reduceAdd,Nat.reduceLeDiff,Zi,Zh,Nat.reduceEqDiff,decide_true,decide_false,p7,YU,WD,Yp,Yq,ZE,ZH,ZF,Nat.reduceEqDiff,reduceCtorEq,WE]
 refine⟨_,rfl,?_⟩
 exact Yw.refl _ _
theorem kh{Z7:Lib}{fs:T CF}{fuel:Nat}(E:Env Z7 fs fuel){k n:Nat}(hk:1<=k){a s:List UInt8}{H:Heap}(hs:a.length+s.length<=90000)(h4:4<=s.length):
  Xd (LK Z7 fs fuel k) fs fuel (n+1) 428 [.str a,.str s] H=.ret (.str (a++s.drop 4)) H:=by
 obtain⟨H',e,g⟩:=zk E (n:=898) (H:=H) hs h4
 exact Wy (r:=0) rfl rfl e g (rfl) hk
theorem zl{Z7:Lib}{fs:T CF}{fuel:Nat}(E:Env Z7 fs fuel){n:Nat}{a s:List UInt8}{H:Heap}(hs:a.length<=90000):
  ∃H',Xd (LK Z7 fs fuel 3) fs fuel (n+2) 429 [.str a,.str s] H=.ret (.str (CO a)) H'∧Yw H H' []:=by
 rw[XR (Xk E.n429 (.inl (by decide)) _ _) E.f429]
 have e1:=λ{j}=>lV (Z7:=Z7) (fs:=fs) (fuel:=fuel) E (k:=3) (n:=j) (by decide) (s:=a) (p:=[47]) (H:=H) hs
 rw[mj] at e1
 simp(maxSteps:=4000000) (disch:=first|assumption|omega|(simp -implicitDefEqProofs only[Yr,Ys]<;>first|assumption|omega)|decide) only[e1,ZG,Zz,ZK,ZT,ZP,ZS,Z9,Ya,ZO,Z8,Yc,Yb,Zx,Zt,Zs,ZU,Nat.reduceSub,Nat.reduceAdd,Nat.reduceLeDiff,Zi,Zh,Nat.reduceEqDiff,decide_true,decide_false,p8,YU,WD,Yp,Yq,ZE,ZH,ZF,Nat.reduceEqDiff,reduceCtorEq,WE]
 refine⟨_,rfl,?_⟩
 exact Yw.refl _ _
theorem ki{Z7:Lib}{fs:T CF}{fuel:Nat}(E:Env Z7 fs fuel){k n:Nat}(hk:4<=k){a s:List UInt8}{H:Heap}(hs:a.length<=90000):
  Xd (LK Z7 fs fuel k) fs fuel (n+1) 429 [.str a,.str s] H=.ret (.str (CO a)) H:=by
 obtain⟨H',e,g⟩:=zl E (n:=898) (H:=H) hs
 exact Wy (r:=3) rfl rfl e g (rfl) hk
def bq(e sz bytes:Nat)(zs:List AV)(l c:AV)(H:Heap):OR:=R6 l λl=>R6 c λc=>YP (Nat.ble 1 sz)<|YP (Nat.ble l c) (YP (Nat.ble c 140737488355328)<|YP (Nat.ble (Nat.mul c bytes) 140737488355328) (xA H e sz l c zs))
theorem B9(e sz bytes:Nat)(zs:List AV)(l c:YR)(tm:TM)(H:Heap):Kf e sz bytes zs l c tm H=bq e sz bytes zs (l tm) (c tm) H:=rfl
theorem jq{e bytes n:Nat}{z:AV}(h:n*bytes<=140737488355328)(h1:n<=140737488355328)(k k':IntKind)(H:Heap):bq e 1 bytes [z] (nI k n) (nI k' n) H=.val (.slice H.nx 0 n none) (H.new (.row ⟨e,1,n,.leaf,z,0,false,true,true⟩)):=by
 show YP (Nat.ble 1 1) (YP (Nat.ble n n) (YP (Nat.ble n 140737488355328) (YP (Nat.ble (n*bytes) 140737488355328) (xA H e 1 n n [z]))))=_
 rw[Z1 (Z2 n),Z1 h1,Z1 h];rfl
def xZ(H:Heap)(b:Nat)(l:List (List UInt8)):Prop:= ∃r,H.t.get b=some (.row r)∧r.sz=1∧r.size=l.length∧r.own=true∧b<H.nx∧ ∀i,i<l.length->r.get i=.str (l.getD i [])
theorem xZ.keep{H H':Heap}{b:Nat}{l:List (List UInt8)}(h:xZ H b l)(k:Yw H H' []):xZ H' b l:=by
 obtain⟨r,h1,h2,h3,h4,h5,h6⟩:=h
 exact⟨r,by rw[k.get _ h5 (by simp)];exact h1,h2,h3,h4,YV h5 k.nx,h6⟩
theorem uD{H:Heap}{b n m:Nat}{r:Row}(g:H.t.get b=some (.row r))(hz:r.sz=1)(hs:r.size=n)(hm:m<=n)(h0:0<n)(k:IntKind):Hw 1 (.slice b 0 n none) none (some (nI k m)) H=.val (.slice b 0 m none) H:=by
 show Uc H b _=_
 unfold Uc
 rw[g]
 have e1:AP r 1 none=true:=by show Nat.beq r.sz 1=true;rw[hz];rfl
 have e2:RK r 0 none=n:=by show cond (Nat.beq r.sz 1) (r.size - 0) _=_;rw[hz,hs];rfl
 show YP (AP r 1 none) (No (some (nI k m)) n (RK r 0 none) λh=>No none 0 h λl=>YP (Nat.ble l (RK r 0 none)) (cond (Nat.beq l (RK r 0 none)) _ _))=_
 rw[e1,e2]
 show YP (Nat.ble m n) (YP (Nat.ble 0 n) (cond (Nat.beq 0 n) _ (OR.val (.slice b (0+0*1) (m - 0) none) H)))=_
 rw[Z1 hm,Z1 (Zi n),show Nat.beq 0 n=false by rw[Xx];exact Zj (by omega)]
 rfl
structure iG(s:List UInt8)(H0:Heap)(m:Nat)(tm:TM)(H:Heap):Prop where
 t1:YQ tm=.str [47]
 t2:XC tm=nI .i64 0
 t3:Xm tm=nI .i64 (Wu 47 s 0)
 t9:XP tm=.slice H0.nx 0 (Wu 47 s 0+1) none
 i: ∃i u,YG tm=nI .i64 i∧Z0 tm=.str u∧i+m=Wu 47 s 0∧(Tu s).drop i=Tu u∧u.length<=s.length∧
  ∃r,H.t.get H0.nx=some (.row r)∧r.sz=1∧r.size=Wu 47 s 0+1∧r.fz=0∧r.own=true∧ ∀k,k<i->r.get k=.str ((Tu s).getD k [])
 k:Yw H0 H []
 nx:H.nx=H0.nx+1
def aS(s:List UInt8)(H0:Heap)(o:Out)(tm:TM)(H:Heap):Prop:=o=.exit 0∧iG s H0 0 tm H
theorem EV{α:Type}{l:List α}{i:Nat}{a:α}{b:List α}(d:α)(h:l.drop i=a::b):l.getD i d=a∧l.drop (i+1)=b:=by
 have h1:(l.drop i)[0]? =some a:=by rw[h];rfl
 rw[Ua,Zf] at h1
 refine⟨by rw[ZN,h1];rfl,?_⟩
 rw[<-List.drop_drop,h];rfl
theorem oz{Z7:Lib}{fs:T CF}{fuel:Nat}(E:Env Z7 fs fuel){k n:Nat}(hk:3<=k){s:List UInt8}(hs:s.length<=90000){H0:Heap}(hro:H0.ro<=H0.nx)(y f dd q)(X0:X)(m:Nat)(tm:TM)(H:Heap)(hI:iG s H0 m tm H):
  ∃o tm' H',JZ ⟨Xd (LK Z7 fs fuel k) fs fuel (n+1),y,f,dd,q⟩ tm H X0=.ok o tm' H' X0∧((o=.normal∧ ∃k,k<m∧iG s H0 k tm' H')∨(o≠.normal∧aS s H0 o tm' H')):=by
 have hI':=hI
 obtain⟨t1,t2,t3,t9,⟨i,u,t10,t0,him,hd,hul,r,g,hz,hsz,hfz,how,hg⟩,k0,hnx⟩:=hI
 have t1':=t1;have t2':=t2;have KW:=t3;have po:=t9
 simp only[Cp] at t0
 simp only[JA] at t1
 simp only[K0] at t2
 simp only[Fp] at t3
 simp only[sK] at t9
 simp only[Df] at t10
 have hc:=Ce 47 s
 cases m with
 |zero=>
  have d1:decide (i<Wu 47 s 0)=false:=Zj (by omega)
  simp(maxSteps:=4000000) (disch:=first|assumption|omega|(simp -implicitDefEqProofs only[Yr,Ys]<;>first|assumption|omega)|decide) only[t3,t10,d1,ZG,Zz,ZK,ZT,ZP,ZS,Z9,Ya,ZO,Z8,Yc,Yb,Zx,Zt,Zs,ZU,Nat.reduceSub,Nat.reduceAdd,Nat.reduceLeDiff,Zi,Zh,Nat.reduceEqDiff,decide_true,decide_false,JZ,YU,WD,Yp,Yq,ZE,ZH,ZF,Nat.reduceEqDiff,reduceCtorEq,WE,UF]
  refine⟨_,_,_,rfl,.inr ⟨by simp,?_⟩⟩
  obtain⟨a,b,cc,dx,⟨i',u',e1,e2,rest⟩,ee,ff⟩:=hI'
  exact⟨rfl,a,b,cc,dx,⟨i',u',e1,e2,rest⟩,ee,ff⟩
 |succ m=>
  have d1:decide (i<Wu 47 s 0)=true:=Zr (by omega)
  have hlen:(Tu u).length=Wu 47 s 0+1 - i:=by rw[<-hd,V0,OL]
  cases hj:S7 47 u with
  |zero=>rw[JN hj] at hlen;simp at hlen;omega
  |succ j=>
   obtain⟨j1,_⟩:=y7 hj
   have e1:=λ{q}=>index (Z7:=Z7) (fs:=fs) (fuel:=fuel) E (k:=k) (n:=q) hk (H:=H) (s:=u)
   rw[hj,nk] at e1
   have d2:decide (j<0)=false:=Zj (by omega)
   have sp:=Hx hj
   rw[sp] at hd
   obtain⟨hd1,hd2⟩:=EV [] hd
   have wl:([47]:List UInt8).length=1:=rfl
   have sf:=λ(G:Heap) (hG:G.ro<=H0.nx)=>xT (r:=r) (b:=H0.nx) (o:=i) (v:=.str (u.take j)) (H:=G) rfl (by omega) how hG (by omega)
   have sf:=sf H (by rw[k0.ro];exact hro)
   simp(maxSteps:=4000000) (disch:=first|assumption|omega|(simp -implicitDefEqProofs only[Yr,Ys]<;>first|assumption|omega)|decide) only[t0,t1,t2,t3,t9,t10,d1,d2,e1,wl,g,sf,ZD,Zd,Zf,ZG,Zz,ZK,ZT,ZP,ZS,Z9,Ya,ZO,Z8,Yc,Yb,Zx,Zt,Zs,ZU,Nat.reduceSub,Nat.reduceAdd,Nat.reduceLeDiff,Zi,Zh,Nat.reduceEqDiff,decide_true,decide_false,JZ,YU,WD,Yp,Yq,ZE,ZH,ZF,Nat.reduceEqDiff,reduceCtorEq,WE,UF]
   refine⟨_,_,_,rfl,.inl ⟨rfl,m,by omega,t1',t2',KW,po,⟨i+1,u.drop (j+1),rfl,rfl,by omega,hd2,by rw[V0];omega,r.st i (.str (u.take j)),UQ ..,hz,hsz,hfz,how,λq hq=>?_⟩,k0.then_put (λh=>by omega),by rw[PV];exact hnx⟩⟩
   rw[Row.st_get]
   by_cases h:i=q
   ·subst h;rw[if_pos rfl,hd1]
   ·rw[if_neg h,hg q (by omega)]
theorem wJ{Z7:Lib}{fs:T CF}{fuel:Nat}(E:Env Z7 fs fuel){k n:Nat}(hk:3<=k){s:List UInt8}(hs:s.length<=90000){H:Heap}(hro:H.ro<=H.nx):
  ∃H',Xd (LK Z7 fs fuel k) fs fuel (n+2) 328 [.str s,.str [47],nI .i64 0,.int .i64 (.negSucc 0)] H=.ret (.slice H.nx 0 (Tu s).length none) H'∧xZ H' H.nx (Tu s)∧Yw H H' []∧H'.nx=H.nx+1:=by
 rw[XR (Xk E.n328 (.inr rfl) _ _) E.f328]
 have hc:=Ce 47 s
 have ec:=λ{j}=>count (Z7:=Z7) (fs:=fs) (fuel:=fuel) E (k:=k) (n:=j) (by omega) (H:=H) (s:=s)
 have ne:decide (([47]:List UInt8)=[])=false:=rfl
 have Zem: ∀G,GB Vj false (.int .i64 (.negSucc 0)) (nI .i64 0) G=.val (.bool false) G:=λ_=>rfl
 have negl: ∀G,ND Y9 YB (.int .i64 (.negSucc 0)) (nI .i64 0) G=.val (.bool true) G:=λ_=>rfl
 have mn:min (Wu 47 s 0+1) (s.length+1)=Wu 47 s 0+1:=by omega
 have ml:=λG=>jq (e:=9) (bytes:=16) (n:=Wu 47 s 0+1) (z:=.str []) (by omega) (by omega) .i64 .i64 G
 simp(maxSteps:=4000000) (disch:=first|assumption|omega|(simp -implicitDefEqProofs only[Yr,Ys]<;>first|assumption|omega)|decide) only[ec,ne,Zem,negl,Xc,mn,B9,ml,SA,ZG,Zz,ZK,ZT,ZP,ZS,Z9,Ya,ZO,Z8,Yc,Yb,Zx,Zt,Zs,ZU,Nat.reduceSub,Nat.reduceAdd,Nat.reduceLeDiff,Zi,Zh,Nat.reduceEqDiff,decide_true,decide_false,tK,YU,WD,Yp,Yq,ZE,ZH,ZF,Nat.reduceEqDiff,reduceCtorEq,WE,UF,N6]
 generalize hL:TH (JZ _) fuel _ _ _=L
 obtain⟨o,MR,H1,rfl,_,rfl,z⟩:=WW (P:=λT=>iG s H (Wu 47 s 0) T (H.new (.row ⟨9,1,Wu 47 s 0+1,.leaf,.str [],0,false,true,true⟩))) (Q:=aS s H)
  (λT hi=>Vd (iG s H) (aS s H) (λm tm H1 h=>oz E hk hs hro _ _ _ _ _ m tm H1 h) fuel (Wu 47 s 0) T _ (by have:=E.big;omega) hi) hL
  (by exact⟨rfl,rfl,rfl,rfl,⟨0,s,rfl,rfl,by omega,rfl,Z2 _,_,YN rfl _,rfl,rfl,rfl,rfl,λk hk=>by omega⟩,Yw.new _ _ _,rfl⟩)
 obtain⟨t1,t2,t3,t9,⟨i,u,t10,t0,him,hd,hul,r,g,hz,hsz,hfz,how,hg⟩,k0,hnx⟩:=z
 simp only[Cp] at t0
 simp only[sK] at t9
 simp only[Df] at t10
 obtain rfl:i=Wu 47 s 0:=by omega
 have hlen:(Tu u).length=1:=by rw[<-hd,V0,OL];omega
 have hu:Tu u=[u]:=by
  cases hj:S7 47 u with
  |zero=>exact JN hj
  |succ j=>
   have:=Hx hj
   have h2:=NQ.2 (IN (u.drop (j+1)))
   rw[this,Zm] at hlen;omega
 rw[hu] at hd
 obtain⟨hd1,_⟩:=EV [] hd
 have sf:=xT (r:=r) (b:=H.nx) (o:=Wu 47 s 0) (v:=.str u) (H:=H1) rfl (by omega) how (by rw[k0.ro];exact hro) (by omega)
 have sl:=uD (H:=H1.put H.nx (.row (r.st (Wu 47 s 0) (.str u)))) (b:=H.nx) (n:=Wu 47 s 0+1) (m:=Wu 47 s 0+1) (r:=r.st (Wu 47 s 0) (.str u)) (UQ ..) hz hsz (Z2 _) (by omega) .i64
 simp(maxSteps:=4000000) (disch:=first|assumption|omega|(simp -implicitDefEqProofs only[Yr,Ys]<;>first|assumption|omega)|decide) only[t0,t9,t10,g,sf,sl,ZD,Zd,Zf,ZG,Zz,ZK,ZT,ZP,ZS,Z9,Ya,ZO,Z8,Yc,Yb,Zx,Zt,Zs,ZU,Nat.reduceSub,Nat.reduceAdd,Nat.reduceLeDiff,Zi,Zh,Nat.reduceEqDiff,decide_true,decide_false,tK,YU,WD,Yp,Yq,ZE,ZH,ZF,Nat.reduceEqDiff,reduceCtorEq,WE,UF,N6]
 rw[OL]
 refine⟨_,rfl,⟨_,UQ ..,hz,by rw[OL];exact hsz,how,by rw[PV];omega,λq hq=>?_⟩,k0.then_put (λh=>by omega),by rw[PV];exact hnx⟩
 rw[OL] at hq
 rw[Row.st_get]
 by_cases h:Wu 47 s 0=q
 ·subst h;rw[if_pos rfl,hd1]
 ·rw[if_neg h,hg q (by omega)]
theorem jW{Z7:Lib}{fs:T CF}{fuel:Nat}(E:Env Z7 fs fuel){k n:Nat}(hk:3<=k){s:List UInt8}(hs:s.length<=90000){H:Heap}(hro:H.ro<=H.nx):
  ∃H',Xd (LK Z7 fs fuel k) fs fuel (n+3) 266 [.str s,.str [47]] H=.ret (.slice H.nx 0 (Tu s).length none) H'∧xZ H' H.nx (Tu s)∧Yw H H' []∧H'.nx=H.nx+1:=by
 rw[XR (Xk E.n266 (.inr rfl) _ _) E.f266]
 obtain⟨H',e1,r1⟩:=wJ E (n:=n) hk hs hro
 refine⟨H',?_,r1⟩
 simp(maxSteps:=4000000) (disch:=first|assumption|omega|(simp -implicitDefEqProofs only[Yr,Ys]<;>first|assumption|omega)|decide) only[e1,ZG,Zz,ZK,ZT,ZP,ZS,Z9,Ya,ZO,Z8,Yc,Yb,Zx,Zt,Zs,ZU,Nat.reduceSub,Nat.reduceAdd,Nat.reduceLeDiff,Zi,Zh,Nat.reduceEqDiff,decide_true,decide_false,pT,YU,WD,Yp,Yq,ZE,ZH,ZF,Nat.reduceEqDiff,reduceCtorEq,WE]
def DX(H:Heap)(v:AV)(l:List (List UInt8)):Prop:=(v=.nils∧l=[])∨ ∃b,v=.slice b 0 l.length none∧0<l.length∧xZ H b l
theorem DX.keep{H H':Heap}{v:AV}{l:List (List UInt8)}(h:DX H v l)(k:Yw H H' []):DX H' v l:=by
 rcases h with h|⟨b,h1,h2,h3⟩
 ·exact .inl h
 ·exact .inr ⟨b,h1,h2,h3.keep k⟩
theorem DX.len{H:Heap}{v:AV}{l:List (List UInt8)}(h:DX H v l)(G:Heap):In v G=.val (nI .i64 l.length) G:=by
 rcases h with⟨rfl,rfl⟩|⟨b,rfl,_⟩
 ·rfl
 ·exact M5 ..
theorem yh{Z7:Lib}{fs:T CF}{fuel:Nat}(E:Env Z7 fs fuel){k n:Nat}(hk:3<=k){s:List UInt8}(hs:s.length<=90000){H:Heap}(hro:H.ro<=H.nx):
  ∃v H',Xd (LK Z7 fs fuel k) fs fuel (n+4) 211 [.str s] H=.ret v H'∧DX H' v (Pc s)∧Yw H H' []:=by
 rw[XR (Xk E.n211 (.inr rfl) _ _) E.f211]
 unfold Pc
 by_cases h:s=[]
 ·have d1:decide (s=[])=true:=Zr h
  rw[if_pos h]
  simp(maxSteps:=4000000) (disch:=first|assumption|omega|(simp -implicitDefEqProofs only[Yr,Ys]<;>first|assumption|omega)|decide) only[d1,ZG,Zz,ZK,ZT,ZP,ZS,Z9,Ya,ZO,Z8,Yc,Yb,Zx,Zt,Zs,ZU,Nat.reduceSub,Nat.reduceAdd,Nat.reduceLeDiff,Zi,Zh,Nat.reduceEqDiff,decide_true,decide_false,tE,YU,WD,Yp,Yq,ZE,ZH,ZF,Nat.reduceEqDiff,reduceCtorEq,WE]
  exact⟨_,_,rfl,.inl ⟨rfl,rfl⟩,Yw.refl _ _⟩
 ·have d1:decide (s=[])=false:=Zj h
  rw[if_neg h]
  obtain⟨H',e1,r1,k1,_⟩:=jW E (n:=n) hk hs hro
  simp(maxSteps:=4000000) (disch:=first|assumption|omega|(simp -implicitDefEqProofs only[Yr,Ys]<;>first|assumption|omega)|decide) only[d1,e1,ZG,Zz,ZK,ZT,ZP,ZS,Z9,Ya,ZO,Z8,Yc,Yb,Zx,Zt,Zs,ZU,Nat.reduceSub,Nat.reduceAdd,Nat.reduceLeDiff,Zi,Zh,Nat.reduceEqDiff,decide_true,decide_false,tE,YU,WD,Yp,Yq,ZE,ZH,ZF,Nat.reduceEqDiff,reduceCtorEq,WE]
  exact⟨_,_,rfl,.inr ⟨_,rfl,NQ.2 (IN s),r1⟩,k1⟩
theorem B3(e:Nat)(tm:TM)(H:Heap):Xa e Ll tm H=.val (.ptr H.nx 0) (H.new (rG e 1 Ll 0 false true true)):=by
 rw[FH _ _ (by rw[XK];unfold Ll;rw[Th];decide)];rfl
theorem BU{n:Nat}{v:AV}(hv:VB n v=true): ∀{l:List AV} {i:Nat},Pb n l=true->Pb n (l.set i v)=true
 |[],_,h=>h
 |a::l,0,h=>by
  have h:cond (VB n a) (Pb n l) false=true:=h
  show cond (VB n v) (Pb n l) false=true
  rw[hv]
  cases ha:VB n a with
  |false=>rw[ha] at h;cases h
  |true=>rw[ha] at h;exact h
 |a::l,i+1,h=>by
  have h:cond (VB n a) (Pb n l) false=true:=h
  show cond (VB n a) (Pb n (l.set i v)) false=true
  cases ha:VB n a with
  |false=>rw[ha] at h;cases h
  |true=>rw[ha] at h;exact BU hv h
theorem Ax(n:Nat)(cs:List UInt8):Pb n (P9 cs)=true:=by
 unfold P9
 have: ∀(cs:List UInt8) (L:List AV),Pb n L=true->Pb n (cs.foldl (λL c=>L.set c.toNat (.bool true)) L)=true:=by
  intro cs
  induction cs with
  |nil=>intro L h;exact h
  |cons c cs ih=>intro L h;exact ih _ (BU rfl h)
 refine this cs Ll ?_
 unfold Ll
 have r: ∀m,Pb n (List.replicate m (AV.bool false))=true:=by
  intro m
  induction m with
  |zero=>rfl
  |succ m ih=>rw[TV];exact ih
 exact r 256
structure Pz(cs:List UInt8):Prop where
 lo:2<=cs.length
 hi:cs.length<=3
 lt: ∀c∈cs,c.toNat<128
theorem Pz.at_{cs:List UInt8}(h:Pz cs){i:Nat}(hi:i<cs.length):(cs.getD i 0).toNat<128:=by
 rw[ZN,ZW hi];exact h.lt _ (Vc hi)
theorem Pz.fst{cs:List UInt8}(h:Pz cs){x:Nat}(hx:128<=x):S7 x cs=0:=NS.2 λc hc=>by have:=h.lt c hc;omega
theorem Pz.fstd{cs:List UInt8}(h:Pz cs){x i:Nat}(hx:128<=x):S7 x (cs.drop i)=0:=NS.2 λc hc=>by have:=h.lt c (Se hc);omega
structure an(cs:List UInt8)(H0:Heap)(m:Nat)(tm:TM)(H:Heap):Prop where
 t0:Z0 tm=.str cs
 t2:XC tm=.ptr H0.nx 0
 i: ∃i,Xh tm=nI .i64 i∧i+m=cs.length∧H.t.get H0.nx=some (rG 347 1 (P9 (cs.take i)) 0 false true true)
 k:Yw H0 H []
 nx:H0.nx<H.nx
def MSQ(cs:List UInt8)(H0:Heap)(o:Out)(tm:TM)(H:Heap):Prop:=o=.exit 0∧XC tm=.ptr H0.nx 0∧H.t.get H0.nx=some (rG 347 1 (P9 cs) 0 false true true)∧Yw H0 H []∧H0.nx<H.nx
theorem nr{cs:List UInt8}(ha:Pz cs){H0:Heap}(hro:H0.ro<=H0.nx)(cx:Ctx)(X0:X)(m:Nat)(tm:TM)(H:Heap)(hI:an cs H0 m tm H):
  ∃o tm' H',JY cx tm H X0=.ok o tm' H' X0∧((o=.normal∧ ∃k,k<m∧an cs H0 k tm' H')∨(o≠.normal∧MSQ cs H0 o tm' H')):=by
 obtain⟨t0,t2,⟨i,t4,him,g⟩,k0,hnx⟩:=hI
 have t0':=t0;have t2':=t2
 simp only[Cp] at t0
 simp only[K0] at t2
 simp only[Es] at t4
 have h3:=ha.hi
 cases m with
 |zero=>
  have d1:decide (i<cs.length)=false:=Zj (by omega)
  simp(maxSteps:=4000000) (disch:=first|assumption|omega|(simp -implicitDefEqProofs only[Yr,Ys]<;>first|assumption|omega)|decide) only[t0,t4,d1,ZG,Zz,ZK,ZT,ZP,ZS,Z9,Ya,ZO,Z8,Yc,Yb,Zx,Zt,Zs,ZU,Nat.reduceSub,Nat.reduceAdd,Nat.reduceLeDiff,Zi,Zh,Nat.reduceEqDiff,decide_true,decide_false,ZJ,Zf,Zd,JY,YU,WD,Yp,Yq,ZE,ZH,ZF,Nat.reduceEqDiff,reduceCtorEq,WE]
  rw[VI (by omega)] at g
  refine⟨_,_,_,rfl,?_⟩
  exact .inr ⟨by simp,rfl,t2',g,k0,hnx⟩
 |succ m=>
  have d1:decide (i<cs.length)=true:=Zr (by omega)
  have hx:=ha.at_ (i:=i) (by omega)
  have d2:decide (128<=(cs.getD i 0).toNat)=false:=Zj (by omega)
  have hl:=IJ (cs.take i)
  have hl2:(cs.getD i 0).toNat<(P9 (cs.take i)).length:=by rw[hl];omega
  have sf:=Mn (v:=.bool true) (b:=H0.nx) (H:=H) rfl hl2 (by rw[k0.ro];exact hro) (Zi _) 347 1 false true
  simp(maxSteps:=4000000) (disch:=first|assumption|omega|(simp -implicitDefEqProofs only[Yr,Ys]<;>first|assumption|omega)|decide) only[t0,t2,t4,d1,d2,g,sf,ZG,Zz,ZK,ZT,ZP,ZS,Z9,Ya,ZO,Z8,Yc,Yb,Zx,Zt,Zs,ZU,Nat.reduceSub,Nat.reduceAdd,Nat.reduceLeDiff,Zi,Zh,Nat.reduceEqDiff,decide_true,decide_false,ZJ,Zf,Zd,JY,YU,WD,Yp,Yq,ZE,ZH,ZF,Nat.reduceEqDiff,reduceCtorEq,WE]
  refine⟨_,_,_,rfl,?_⟩
  exact .inl ⟨rfl,m,by omega,t0',t2',⟨i+1,rfl,by omega,by rw[Hz (by omega),uC];exact UQ ..⟩,k0.then_put (λh=>by omega),by rw[PV];exact hnx⟩
theorem vD{Z7:Lib}{fs:T CF}{fuel:Nat}(E:Env Z7 fs fuel){n:Nat}{cs:List UInt8}{H:Heap}(ha:Pz cs)(hro:H.ro<=H.nx):
  ∃H',Xd (LK Z7 fs fuel 0) fs fuel (n+2) 270 [.str cs] H=.ret (.tup [.agg (P9 cs),.bool true]) H'∧Yw H H' []:=by
 rw[XR (Xk E.n270 (.inl (by decide)) _ _) E.f270]
 simp(maxSteps:=4000000) (disch:=first|assumption|omega|(simp -implicitDefEqProofs only[Yr,Ys]<;>first|assumption|omega)|decide) only[B3,ZG,Zz,ZK,ZT,ZP,ZS,Z9,Ya,ZO,Z8,Yc,Yb,Zx,Zt,Zs,ZU,Nat.reduceSub,Nat.reduceAdd,Nat.reduceLeDiff,Zi,Zh,Nat.reduceEqDiff,decide_true,decide_false,ZJ,Zf,Zd,tI,YU,WD,Yp,Yq,ZE,ZH,ZF,Nat.reduceEqDiff,reduceCtorEq,WE]
 generalize hL:TH (JY _) fuel _ _ _=L
 have h3:=ha.hi
 obtain⟨o,MR,H1,rfl,_,rfl,t2,g,k0,hnx⟩:=WW (P:=λT=>an cs H cs.length T (H.new (rG 347 1 Ll 0 false true true))) (Q:=MSQ cs H)
  (λT hi=>Vd (an cs H) (MSQ cs H) (λm tm H1 h=>nr ha hro _ _ m tm H1 h) fuel cs.length T _ (by have:=E.big;omega) hi) hL
  (by exact⟨rfl,rfl,⟨0,rfl,by omega,YN rfl _⟩,Yw.new _ _ _,Xl _⟩)
 simp only[K0] at t2
 have hl:=IJ cs
 have sf:=TL (n:=256) (b:=H.nx) (l:=P9 cs) (vs:=P9 cs) (H:=H1) hl hl (by decide) (by rw[k0.ro];exact hro) 347 1 false true
 have ld: ∀G,pk 256 (some (rG 347 1 (P9 cs) 0 false true true)) 0 G=.val (.agg (P9 cs)) G:=λG=>by
  rw[VQ (by rw[hl];decide)]
  rw[Zw,VI (by rw[hl];decide)]
 have rv: ∀k,rV 256 true (some (rG 347 1 (P9 cs) 0 false true true)) 0 k=k (.agg (P9 cs)):=λk=>yl hl k
 simp(maxSteps:=4000000) (disch:=first|assumption|omega|(simp -implicitDefEqProofs only[Yr,Ys]<;>first|assumption|omega)|decide) only[t2,g,sf,ld,rv,ZG,Zz,ZK,ZT,ZP,ZS,Z9,Ya,ZO,Z8,Yc,Yb,Zx,Zt,Zs,ZU,Nat.reduceSub,Nat.reduceAdd,Nat.reduceLeDiff,Zi,Zh,Nat.reduceEqDiff,decide_true,decide_false,ZJ,Zf,Zd,tI,YU,WD,Yp,Yq,ZE,ZH,ZF,Nat.reduceEqDiff,reduceCtorEq,WE]
 refine⟨_,rfl,?_⟩
 exact k0.then_put (λh=>by omega)
theorem br{Z7:Lib}{fs:T CF}{fuel:Nat}(E:Env Z7 fs fuel){k n:Nat}(hk:1<=k){cs:List UInt8}{H:Heap}(ha:Pz cs)(hro:H.ro<=H.nx):
  Xd (LK Z7 fs fuel k) fs fuel (n+1) 270 [.str cs] H=.ret (.tup [.agg (P9 cs),.bool true]) H:=by
 obtain⟨H',e,g⟩:=vD E (n:=898) (H:=H) ha hro
 exact Wy (r:=0) rfl rfl e g (by
  show cond (Pb 0 (P9 cs)) _ false=true
  rw[Ax];rfl) hk
theorem wt{Z7:Lib}{fs:T CF}{fuel:Nat}(E:Env Z7 fs fuel){n:Nat}{cs:List UInt8}{b:Nat}{x:UInt8}{H:Heap}(g:H.t.get b=some (rG 347 1 (P9 cs) 0 false true true)):
  ∃H',Xd (LK Z7 fs fuel 0) fs fuel (n+2) 271 [.ptr b 0,nI .u8 x.toNat] H=.ret (.bool (decide (x∈cs))) H'∧Yw H H' []:=by
 rw[XR (Xk E.n271 (.inl (by decide)) _ _) E.f271]
 have hx:=x.toNat_lt
 have hl:=IJ cs
 have hl2:x.toNat<(P9 cs).length:=by rw[hl];exact hx
 have hx2:x.toNat<256:=hx
 have sg:=qQ cs (x:=x)
 have ld: ∀G,ld1 (some (rG 347 1 (P9 cs) 0 false true true)) x.toNat G=.val (.bool (decide (x∈cs))) G:=λG=>by rw[X1 hl2,sg]
 simp(maxSteps:=4000000) (disch:=first|assumption|omega|(simp -implicitDefEqProofs only[Yr,Ys]<;>first|assumption|omega)|decide) only[g,ld,ZG,Zz,ZK,ZT,ZP,ZS,Z9,Ya,ZO,Z8,Yc,Yb,Zx,Zt,Zs,ZU,Nat.reduceSub,Nat.reduceAdd,Nat.reduceLeDiff,Zi,Zh,Nat.reduceEqDiff,decide_true,decide_false,ZJ,Zf,Zd,pY,YU,WD,Yp,Yq,ZE,ZH,ZF,Nat.reduceEqDiff,reduceCtorEq,WE]
 refine⟨_,rfl,?_⟩
 exact Yw.refl _ _
theorem dD{Z7:Lib}{fs:T CF}{fuel:Nat}(E:Env Z7 fs fuel){k n:Nat}(hk:1<=k){cs:List UInt8}{b:Nat}{x:UInt8}{H:Heap}(g:H.t.get b=some (rG 347 1 (P9 cs) 0 false true true)):
  Xd (LK Z7 fs fuel k) fs fuel (n+1) 271 [.ptr b 0,nI .u8 x.toNat] H=.ret (.bool (decide (x∈cs))) H:=by
 obtain⟨H',e,g⟩:=wt E (n:=898) (H:=H) g
 exact Wy (r:=0) rfl rfl e g (rfl) hk
theorem yu{Z7:Lib}{fs:T CF}{fuel:Nat}(E:Env Z7 fs fuel){n:Nat}{x:Nat}{H:Heap}:
  ∃H',Xd (LK Z7 fs fuel 0) fs fuel (n+2) 269 [nI .i64 x] H=.ret (.bool (decide (8<x))) H'∧Yw H H' []:=by
 rw[XR (Xk E.n269 (.inl (by decide)) _ _) E.f269]
 simp(maxSteps:=4000000) (disch:=first|assumption|omega|(simp -implicitDefEqProofs only[Yr,Ys]<;>first|assumption|omega)|decide) only[ZG,Zz,ZK,ZT,ZP,ZS,Z9,Ya,ZO,Z8,Yc,Yb,Zx,Zt,Zs,ZU,Nat.reduceSub,Nat.reduceAdd,Nat.reduceLeDiff,Zi,Zh,Nat.reduceEqDiff,decide_true,decide_false,ZJ,Zf,Zd,pX,YU,WD,Yp,Yq,ZE,ZH,ZF,Nat.reduceEqDiff,reduceCtorEq,WE]
 refine⟨_,rfl,?_⟩
 exact Yw.refl _ _
theorem jV{Z7:Lib}{fs:T CF}{fuel:Nat}(E:Env Z7 fs fuel){k n:Nat}(hk:1<=k){x:Nat}{H:Heap}:
  Xd (LK Z7 fs fuel k) fs fuel (n+1) 269 [nI .i64 x] H=.ret (.bool (decide (8<x))) H:=by
 obtain⟨H',e,g⟩:=yu E (n:=898) (H:=H)
 exact Wy (r:=0) rfl rfl e g (rfl) hk
theorem yM{Z7:Lib}{fs:T CF}{fuel:Nat}(E:Env Z7 fs fuel){n:Nat}{x:Nat}{H:Heap}(h1:128<=x)(h2:x<=1114111):
  ∃H',Xd (LK Z7 fs fuel 0) fs fuel (n+2) 329 [nI .i32 x] H=.ret (.bool (decide (x<55296)||decide (57343<x))) H'∧Yw H H' []:=by
 rw[XR (Xk E.n329 (.inl (by decide)) _ _) E.f329]
 have d0:decide (0<=x)=true:=Zr (Zi _)
 have d3:decide (x<=1114111)=true:=Zr h2
 by_cases h:x<55296
 ·have d1:decide (x<55296)=true:=Zr h
  rw[d1,Bool.true_or]
  simp(maxSteps:=4000000) (disch:=first|assumption|omega|(simp -implicitDefEqProofs only[Yr,Ys]<;>first|assumption|omega)|decide) only[d0,d1,ZG,Zz,ZK,ZT,ZP,ZS,Z9,Ya,ZO,Z8,Yc,Yb,Zx,Zt,Zs,ZU,Nat.reduceSub,Nat.reduceAdd,Nat.reduceLeDiff,Zi,Zh,Nat.reduceEqDiff,decide_true,decide_false,ZJ,Zf,Zd,wb,YU,WD,Yp,Yq,ZE,ZH,ZF,Nat.reduceEqDiff,reduceCtorEq,WE]
  refine⟨_,rfl,?_⟩
  exact Yw.refl _ _
 ·have d1:decide (x<55296)=false:=Zj h
  rw[d1,Bool.false_or]
  by_cases h':57343<x
  ·have d2:decide (57343<x)=true:=Zr h'
   rw[d2]
   simp(maxSteps:=4000000) (disch:=first|assumption|omega|(simp -implicitDefEqProofs only[Yr,Ys]<;>first|assumption|omega)|decide) only[d0,d1,d2,d3,ZG,Zz,ZK,ZT,ZP,ZS,Z9,Ya,ZO,Z8,Yc,Yb,Zx,Zt,Zs,ZU,Nat.reduceSub,Nat.reduceAdd,Nat.reduceLeDiff,Zi,Zh,Nat.reduceEqDiff,decide_true,decide_false,ZJ,Zf,Zd,wb,YU,WD,Yp,Yq,ZE,ZH,ZF,Nat.reduceEqDiff,reduceCtorEq,WE]
   refine⟨_,rfl,?_⟩
   exact Yw.refl _ _
  ·have d2:decide (57343<x)=false:=Zj h'
   rw[d2]
   simp(maxSteps:=4000000) (disch:=first|assumption|omega|(simp -implicitDefEqProofs only[Yr,Ys]<;>first|assumption|omega)|decide) only[d0,d1,d2,ZG,Zz,ZK,ZT,ZP,ZS,Z9,Ya,ZO,Z8,Yc,Yb,Zx,Zt,Zs,ZU,Nat.reduceSub,Nat.reduceAdd,Nat.reduceLeDiff,Zi,Zh,Nat.reduceEqDiff,decide_true,decide_false,ZJ,Zf,Zd,wb,YU,WD,Yp,Yq,ZE,ZH,ZF,Nat.reduceEqDiff,reduceCtorEq,WE]
   refine⟨_,rfl,?_⟩
   exact Yw.refl _ _
theorem ic{Z7:Lib}{fs:T CF}{fuel:Nat}(E:Env Z7 fs fuel){k n:Nat}(hk:1<=k){x:Nat}{H:Heap}(h1:128<=x)(h2:x<=1114111):
  Xd (LK Z7 fs fuel k) fs fuel (n+1) 329 [nI .i32 x] H=.ret (.bool (decide (x<55296)||decide (57343<x))) H:=by
 obtain⟨H',e,g⟩:=yM E (n:=898) (H:=H) h1 h2
 exact Wy (r:=0) rfl rfl e g (rfl) hk
def lG(a:AV)(H:Heap):OR:=Pm a λ_ n=>.val (.str (Utf8.encode n).data.toList) H
theorem ZZ(x:YR)(tm:TM)(H:Heap):FI x tm H=lG (x tm) H:=rfl
def xK(a:AV)(H:Heap):OR:=O8 a λs=>.val (.ptr H.nx 0) (H.new (.siter s 0))
theorem ZC(x:YR)(tm:TM)(H:Heap):KR x tm H=xK (x tm) H:=rfl
theorem Zv(s:List UInt8)(H:Heap):xK (.str s) H=.val (.ptr H.nx 0) (H.new (.siter s 0)):=rfl
def xE(o:Option Obj)(b:Nat)(H:Heap):OR:=YP (Nat.ble H.ro b)<|match o with
 |some o=>yV o λs pos=>cond (Nat.ble (Nat.succ pos) (XX s)) (match Utf8.decode ⟨s.toArray⟩ pos with|(c,w)=>.val (.tup [.bool true,.int .i64 (.ofNat pos),.int .i32 c]) (H.put b (.siter s (Nat.add pos w)))) (.val (.tup [.bool false]) H)
 |none=>.fail
def lz(a:AV)(H:Heap):OR:=Qz a λb o=>YP (Nat.beq o 0)<|xE (H.t.get b) b H
theorem ZY(x:YR)(tm:TM)(H:Heap):Dp x tm H=lz (x tm) H:=by
 show Qz (x tm) _=Qz (x tm) _
 congr 1
theorem ZX(b:Nat)(H:Heap):lz (.ptr b 0) H=xE (H.t.get b) b H:=rfl
theorem FF{H:Heap}{b:Nat}{s:List UInt8}{i r w:Nat}(hro:H.ro<=b)(h:i<s.length)(hd:Utf8.decode ⟨s.toArray⟩ i=(r,w)):
  xE (some (.siter s i)) b H=.val (.tup [.bool true,nI .i64 i,nI .i32 r]) (H.put b (.siter s (i+w))):=by
 show YP (Nat.ble H.ro b) (cond (Nat.ble (Nat.succ i) (XX s)) (match Utf8.decode ⟨s.toArray⟩ i with|(c,w)=>OR.val (.tup [.bool true,.int .i64 (.ofNat i),.int .i32 c]) (H.put b (.siter s (Nat.add i w)))) _)=_
 rw[Z1 hro,XK,Z1 (show Nat.succ i<=s.length from h),hd]
 rfl
theorem Do{H:Heap}{b:Nat}{s:List UInt8}{i:Nat}(hro:H.ro<=b)(h:s.length<=i):xE (some (.siter s i)) b H=.val (.tup [.bool false]) H:=by
 have e:Nat.ble (Nat.succ i) s.length=false:=by
  cases hq:Nat.ble (Nat.succ i) s.length with
  |false=>rfl
  |true=>have:=YE hq;have:i+1<=s.length:=this;omega
 show YP (Nat.ble H.ro b) (cond (Nat.ble (Nat.succ i) (XX s)) _ _)=_
 rw[Z1 hro,XK,e];rfl
structure aw(cs:List UInt8)(H0:Heap)(m:Nat)(tm:TM)(H:Heap):Prop where
 t175:HZ tm=.ptr H0.nx 0
 g: ∃i,i+m=cs.length∧H.t.get H0.nx=some (.siter cs i)
 k:Yw H0 H []
def SQ0(H0:Heap)(o:Out)(tm:TM)(H:Heap):Prop:=o=.exit 9∧Yw H0 H []
theorem oN{cs:List UInt8}(ha:Pz cs){H0:Heap}(hro:H0.ro<=H0.nx)(cx:Ctx)(X0:X)(m:Nat)(tm:TM)(H:Heap)(hI:aw cs H0 m tm H):
  ∃o tm' H',JX cx tm H X0=.ok o tm' H' X0∧((o=.normal∧ ∃k,k<m∧aw cs H0 k tm' H')∨(o≠.normal∧SQ0 H0 o tm' H')):=by
 obtain⟨t,⟨i,him,g⟩,k0⟩:=hI
 have t':=t
 simp only[kI] at t
 have hr:H.ro<=H0.nx:=by rw[k0.ro];exact hro
 cases m with
 |zero=>
  have ne:=Do (H:=H) (b:=H0.nx) (s:=cs) (i:=i) hr (by omega)
  simp(maxSteps:=4000000) (disch:=first|assumption|omega|(simp -implicitDefEqProofs only[Yr,Ys]<;>first|assumption|omega)|decide) only[t,g,ne,ZG,Zz,ZK,ZT,ZP,ZS,Z9,Ya,ZO,Z8,Yc,Yb,Zx,Zt,Zs,ZU,Nat.reduceSub,Nat.reduceAdd,Nat.reduceLeDiff,Zi,Zh,Nat.reduceEqDiff,decide_true,decide_false,ZJ,Zf,Zd,YH,YJ,ZZ,ZC,Zv,ZY,ZX,JX,YU,WD,Yp,Yq,ZE,ZH,ZF,Nat.reduceEqDiff,reduceCtorEq,WE,mz]
  refine⟨_,_,_,rfl,?_⟩
  exact .inr ⟨by simp,rfl,k0⟩
 |succ m=>
  have hx:=ha.at_ (i:=i) (by omega)
  have ne:=FF (H:=H) (b:=H0.nx) (s:=cs) (i:=i) hr (by omega) (y2 hx)
  have d1:decide ((cs.getD i 0).toNat=65533)=false:=Zj (by omega)
  simp(maxSteps:=4000000) (disch:=first|assumption|omega|(simp -implicitDefEqProofs only[Yr,Ys]<;>first|assumption|omega)|decide) only[t,g,ne,d1,ZG,Zz,ZK,ZT,ZP,ZS,Z9,Ya,ZO,Z8,Yc,Yb,Zx,Zt,Zs,ZU,Nat.reduceSub,Nat.reduceAdd,Nat.reduceLeDiff,Zi,Zh,Nat.reduceEqDiff,decide_true,decide_false,ZJ,Zf,Zd,YH,YJ,ZZ,ZC,Zv,ZY,ZX,JX,YU,WD,Yp,Yq,ZE,ZH,ZF,Nat.reduceEqDiff,reduceCtorEq,WE,mz]
  refine⟨_,_,_,rfl,?_⟩
  exact .inl ⟨rfl,m,by omega,t',⟨i+1,by omega,UQ ..⟩,k0.then_put (λh=>by omega)⟩
theorem rd{Z7:Lib}{fs:T CF}{fuel:Nat}(E:Env Z7 fs fuel){n:Nat}{cs:List UInt8}{x:Nat}{H:Heap}(hx:x<128):
  ∃H',Xd (LK Z7 fs fuel 2) fs fuel (n+2) 268 [.str cs,nI .i32 x] H=.ret (mI (S7 x cs)) H'∧Yw H H' []:=by
 rw[XR (Xk E.n268 (.inl (by decide)) _ _) E.f268]
 have e1:=λ{j}=>kZ (Z7:=Z7) (fs:=fs) (fuel:=fuel) E (k:=2) (n:=j) (by decide) (s:=cs) (x:=x) (H:=H) (by omega)
 have d0:decide (0<=x)=true:=Zr (Zi _)
 have d1:decide (x<128)=true:=Zr hx
 simp(maxSteps:=4000000) (disch:=first|assumption|omega|(simp -implicitDefEqProofs only[Yr,Ys]<;>first|assumption|omega)|decide) only[e1,d0,d1,ZG,Zz,ZK,ZT,ZP,ZS,Z9,Ya,ZO,Z8,Yc,Yb,Zx,Zt,Zs,ZU,Nat.reduceSub,Nat.reduceAdd,Nat.reduceLeDiff,Zi,Zh,Nat.reduceEqDiff,decide_true,decide_false,ZJ,Zf,Zd,YH,YJ,ZZ,ZC,Zv,ZY,ZX,Cc,YU,WD,Yp,Yq,ZE,ZH,ZF,Nat.reduceEqDiff,reduceCtorEq,WE,DZ,mz]
 refine⟨_,rfl,?_⟩
 exact Yw.refl _ _
theorem Zef{Z7:Lib}{fs:T CF}{fuel:Nat}(E:Env Z7 fs fuel){k n:Nat}(hk:3<=k){cs:List UInt8}{x:Nat}{H:Heap}(hx:x<128):
  Xd (LK Z7 fs fuel k) fs fuel (n+1) 268 [.str cs,nI .i32 x] H=.ret (mI (S7 x cs)) H:=by
 obtain⟨H',e,g⟩:=rd E (n:=898) (H:=H) hx
 exact Wy (r:=2) rfl rfl e g (M6 _ _) hk
theorem vd{Z7:Lib}{fs:T CF}{fuel:Nat}(E:Env Z7 fs fuel){n:Nat}{cs:List UInt8}{x:Nat}{H:Heap}(ha:Pz cs)(h1:128<=x)(h2:x<=1114111)(hro:H.ro<=H.nx):
  ∃H',Xd (LK Z7 fs fuel 2) fs fuel (n+2) 268 [.str cs,nI .i32 x] H=.ret (mI 0) H'∧Yw H H' []:=by
 rw[XR (Xk E.n268 (.inl (by decide)) _ _) E.f268]
 have d0:decide (0<=x)=true:=Zr (Zi _)
 have d1:decide (x<128)=false:=Zj (by omega)
 by_cases hx:x=65533
 ·have d2:decide (x=65533)=true:=Zr hx
  simp(maxSteps:=4000000) (disch:=first|assumption|omega|(simp -implicitDefEqProofs only[Yr,Ys]<;>first|assumption|omega)|decide) only[d0,d1,d2,ZG,Zz,ZK,ZT,ZP,ZS,Z9,Ya,ZO,Z8,Yc,Yb,Zx,Zt,Zs,ZU,Nat.reduceSub,Nat.reduceAdd,Nat.reduceLeDiff,Zi,Zh,Nat.reduceEqDiff,decide_true,decide_false,ZJ,Zf,Zd,YH,YJ,ZZ,ZC,Zv,ZY,ZX,Cc,YU,WD,Yp,Yq,ZE,ZH,ZF,Nat.reduceEqDiff,reduceCtorEq,WE,DZ,mz]
  generalize hL:TH (JX _) fuel _ _ _=L
  have h3:=ha.hi
  obtain⟨o,MR,H1,rfl,_,rfl,k0⟩:=WW (P:=λT=>aw cs H cs.length T (H.new (.siter cs 0))) (Q:=SQ0 H)
   (λT hi=>Vd (aw cs H) (SQ0 H) (λm tm H1 h=>oN ha hro _ _ m tm H1 h) fuel cs.length T _ (by have:=E.big;omega) hi) hL
   (by exact⟨rfl,⟨0,by omega,YN rfl _⟩,Yw.new _ _ _⟩)
  simp(maxSteps:=4000000) (disch:=first|assumption|omega|(simp -implicitDefEqProofs only[Yr,Ys]<;>first|assumption|omega)|decide) only[ZG,Zz,ZK,ZT,ZP,ZS,Z9,Ya,ZO,Z8,Yc,Yb,Zx,Zt,Zs,ZU,Nat.reduceSub,Nat.reduceAdd,Nat.reduceLeDiff,Zi,Zh,Nat.reduceEqDiff,decide_true,decide_false,ZJ,Zf,Zd,YH,YJ,ZZ,ZC,Zv,ZY,ZX,Cc,YU,WD,Yp,Yq,ZE,ZH,ZF,Nat.reduceEqDiff,reduceCtorEq,WE,DZ,mz]
  refine⟨_,rfl,?_⟩
  exact k0
 ·have d2:decide (x=65533)=false:=Zj hx
  have ev:=λ{j}=>ic (Z7:=Z7) (fs:=fs) (fuel:=fuel) E (k:=2) (n:=j) (by decide) (H:=H) h1 h2
  cases hv:(decide (x<55296)||decide (57343<x)) with
  |false=>
   rw[hv] at ev
   simp(maxSteps:=4000000) (disch:=first|assumption|omega|(simp -implicitDefEqProofs only[Yr,Ys]<;>first|assumption|omega)|decide) only[d0,d1,d2,ev,ZG,Zz,ZK,ZT,ZP,ZS,Z9,Ya,ZO,Z8,Yc,Yb,Zx,Zt,Zs,ZU,Nat.reduceSub,Nat.reduceAdd,Nat.reduceLeDiff,Zi,Zh,Nat.reduceEqDiff,decide_true,decide_false,ZJ,Zf,Zd,YH,YJ,ZZ,ZC,Zv,ZY,ZX,Cc,YU,WD,Yp,Yq,ZE,ZH,ZF,Nat.reduceEqDiff,reduceCtorEq,WE,DZ,mz]
   refine⟨_,rfl,?_⟩
   exact Yw.refl _ _
  |true=>
   rw[hv] at ev
   obtain⟨rs,er0,r1,r2,r3⟩:=tZ h1
   have er: ∀G,lG (nI .i32 x) G=.val (.str rs) G:=λG=>by
    show OR.val (.str (Utf8.encode (Int.ofNat x)).data.toList) G=_
    rw[show(Int.ofNat x)=(x:Int) from rfl,er0]
   obtain⟨q,hq⟩: ∃q,rs.length=q+1:=⟨rs.length - 1,by omega⟩
   rw[hq,SA] at r3
   have r3':=(rs.getD q 0).toNat_lt
   have eb:=λ{j}=>kZ (Z7:=Z7) (fs:=fs) (fuel:=fuel) E (k:=2) (n:=j) (by decide) (H:=H) (s:=cs.drop (q+1)) (x:=(rs.getD q 0).toNat) (by omega)
   rw[ha.fstd r3] at eb
   have hw:(0:Nat)=0:=rfl
   obtain⟨m,rfl⟩: ∃m,fuel=m+2:=⟨fuel - 2,by have:=E.big;omega⟩
   have z0:decide (0=0)=true:=rfl
   have h3:=ha.hi
   by_cases hl:q<cs.length
   ·have d3:decide (q<cs.length)=true:=Zr hl
    have hc:=ha.at_ hl
    have d4:decide ((cs.getD q 0).toNat≠(rs.getD q 0).toNat)=true:=Zr (by omega)
    simp(maxSteps:=4000000) (disch:=first|assumption|omega|(simp -implicitDefEqProofs only[Yr,Ys]<;>first|assumption|omega)|decide) only[d0,d1,d2,d3,d4,z0,ev,er,hq,eb,FB,SA,ZG,Zz,ZK,ZT,ZP,ZS,Z9,Ya,ZO,Z8,Yc,Yb,Zx,Zt,Zs,ZU,Nat.reduceSub,Nat.reduceAdd,Nat.reduceLeDiff,Zi,Zh,Nat.reduceEqDiff,decide_true,decide_false,ZJ,Zf,Zd,YH,YJ,ZZ,ZC,Zv,ZY,ZX,Cc,Cd,YU,WD,Yp,Yq,ZE,ZH,ZF,Nat.reducePow,Nat.reduceDiv,Nat.reduceMod,Nat.reduceEqDiff,reduceCtorEq,WE,UF,N6,DZ,mz]
    refine⟨_,rfl,?_⟩
    exact Yw.refl _ _
   ·have d3:decide (q<cs.length)=false:=Zj hl
    simp(maxSteps:=4000000) (disch:=first|assumption|omega|(simp -implicitDefEqProofs only[Yr,Ys]<;>first|assumption|omega)|decide) only[d0,d1,d2,d3,ev,er,hq,FB,SA,ZG,Zz,ZK,ZT,ZP,ZS,Z9,Ya,ZO,Z8,Yc,Yb,Zx,Zt,Zs,ZU,Nat.reduceSub,Nat.reduceAdd,Nat.reduceLeDiff,Zi,Zh,Nat.reduceEqDiff,decide_true,decide_false,ZJ,Zf,Zd,YH,YJ,ZZ,ZC,Zv,ZY,ZX,Cc,Cd,YU,WD,Yp,Yq,ZE,ZH,ZF,Nat.reducePow,Nat.reduceDiv,Nat.reduceMod,Nat.reduceEqDiff,reduceCtorEq,WE,UF,N6,DZ,mz]
    refine⟨_,rfl,?_⟩
    exact Yw.refl _ _
theorem be{Z7:Lib}{fs:T CF}{fuel:Nat}(E:Env Z7 fs fuel){k n:Nat}(hk:3<=k){cs:List UInt8}{x:Nat}{H:Heap}(ha:Pz cs)(h1:128<=x)(h2:x<=1114111)(hro:H.ro<=H.nx):
  Xd (LK Z7 fs fuel k) fs fuel (n+1) 268 [.str cs,nI .i32 x] H=.ret (mI 0) H:=by
 obtain⟨H',e,g⟩:=vd E (n:=898) (H:=H) ha h1 h2 hro
 exact Wy (r:=2) rfl rfl e g (M6 _ _) hk
structure ah(s cs:List UInt8)(b:Nat)(H0:Heap)(m:Nat)(tm:TM)(H:Heap):Prop where
 heap:H=H0
 t0:Z0 tm=.str s
 t6:X5 tm=.ptr b 0
 i: ∃i,XD tm=nI .i64 i∧i+m=s.length∧ ∀j,j<i->s.getD j 0∉cs
def IQ(s cs:List UInt8)(e:Nat)(o:Out)(tm:TM):Prop:=(o=.ret∧ ∃p,Xh tm=nI .i64 p∧JV cs s=p+1)∨(o=.exit e∧JV cs s=0)
theorem sX{Z7:Lib}{fs:T CF}{fuel:Nat}(E:Env Z7 fs fuel){n:Nat}{s cs:List UInt8}(hs:s.length<=90000){b:Nat}{H0:Heap}(g:H0.t.get b=some (rG 347 1 (P9 cs) 0 false true true))(y f dd q)(X0:X)(m:Nat)(tm:TM)(H:Heap)(hI:ah s cs b H0 m tm H):
  ∃o tm' H',KI ⟨Xd (LK Z7 fs fuel 3) fs fuel (n+1),y,f,dd,q⟩ tm H X0=.ok o tm' H' X0∧((o=.normal∧ ∃k,k<m∧ah s cs b H0 k tm' H')∨(o≠.normal∧(H'=H0∧IQ s cs 0 o tm'))):=by
 obtain⟨rfl,t0,t6,i,t8,him,hn⟩:=hI
 have t0':=t0;have AQ:=t6
 simp only[Cp] at t0
 simp only[Fq] at t6
 simp only[wR] at t8
 cases m with
 |zero=>
  have d1:decide (i<s.length)=false:=Zj (by omega)
  simp(maxSteps:=4000000) (disch:=first|assumption|omega|(simp -implicitDefEqProofs only[Yr,Ys]<;>first|assumption|omega)|decide) only[t0,t6,t8,d1,ZG,Zz,ZK,ZT,ZP,ZS,Z9,Ya,ZO,Z8,Yc,Yb,Zx,Zt,Zs,ZU,Nat.reduceSub,Nat.reduceAdd,Nat.reduceLeDiff,Zi,Zh,Nat.reduceEqDiff,decide_true,decide_false,ZJ,Zf,Zd,YH,YJ,ZZ,ZC,Zv,ZY,ZX,KI,YU,WD,Yp,Yq,ZE,ZH,ZF,Nat.reduceEqDiff,reduceCtorEq,WE,UF]
  refine⟨_,_,_,rfl,?_⟩
  exact .inr ⟨by simp,rfl,.inr ⟨rfl,GQ λj hj=>hn j (by omega)⟩⟩
 |succ m=>
  have d1:decide (i<s.length)=true:=Zr (by omega)
  have e1:=λ{j}=>dD (Z7:=Z7) (fs:=fs) (fuel:=fuel) E (k:=3) (n:=j) (by decide) (H:=H) (x:=s.getD i 0) g
  by_cases hx:s.getD i 0∈cs
  ·rw[Zr hx] at e1
   simp(maxSteps:=4000000) (disch:=first|assumption|omega|(simp -implicitDefEqProofs only[Yr,Ys]<;>first|assumption|omega)|decide) only[t0,t6,t8,d1,e1,ZG,Zz,ZK,ZT,ZP,ZS,Z9,Ya,ZO,Z8,Yc,Yb,Zx,Zt,Zs,ZU,Nat.reduceSub,Nat.reduceAdd,Nat.reduceLeDiff,Zi,Zh,Nat.reduceEqDiff,decide_true,decide_false,ZJ,Zf,Zd,YH,YJ,ZZ,ZC,Zv,ZY,ZX,KI,YU,WD,Yp,Yq,ZE,ZH,ZF,Nat.reduceEqDiff,reduceCtorEq,WE,UF]
   refine⟨_,_,_,rfl,?_⟩
   exact .inr ⟨by simp,rfl,.inl ⟨rfl,i,rfl,D2 (by omega) hx hn⟩⟩
  ·rw[Zj hx] at e1
   simp(maxSteps:=4000000) (disch:=first|assumption|omega|(simp -implicitDefEqProofs only[Yr,Ys]<;>first|assumption|omega)|decide) only[t0,t6,t8,d1,e1,ZG,Zz,ZK,ZT,ZP,ZS,Z9,Ya,ZO,Z8,Yc,Yb,Zx,Zt,Zs,ZU,Nat.reduceSub,Nat.reduceAdd,Nat.reduceLeDiff,Zi,Zh,Nat.reduceEqDiff,decide_true,decide_false,ZJ,Zf,Zd,YH,YJ,ZZ,ZC,Zv,ZY,ZX,KI,YU,WD,Yp,Yq,ZE,ZH,ZF,Nat.reduceEqDiff,reduceCtorEq,WE,UF]
   refine⟨_,_,_,rfl,.inl ⟨rfl,m,by omega,rfl,t0',AQ,i+1,rfl,by omega,λj hj=>?_⟩⟩
   by_cases h:j=i
   ·rw[h];exact hx
   ·exact hn j (by omega)
structure ai(s cs:List UInt8)(H0:Heap)(m:Nat)(tm:TM)(H:Heap):Prop where
 t1:YQ tm=.str cs
 t45:WX tm=.ptr H0.nx 0
 i: ∃i,i+m=s.length∧H.t.get H0.nx=some (.siter s i)∧ ∀j,j<i->s.getD j 0∉cs
 k:Yw H0 H []
 nx:H0.nx<H.nx
theorem sY{Z7:Lib}{fs:T CF}{fuel:Nat}(E:Env Z7 fs fuel){n:Nat}{s cs:List UInt8}(ha:Pz cs)(hs:s.length<=90000){H0:Heap}(hro:H0.ro<=H0.nx)(y f dd q)(X0:X)(m:Nat)(tm:TM)(H:Heap)(hI:ai s cs H0 m tm H):
  ∃o tm' H',MY ⟨Xd (LK Z7 fs fuel 3) fs fuel (n+1),y,f,dd,q⟩ tm H X0=.ok o tm' H' X0∧((o=.normal∧ ∃k,k<m∧ai s cs H0 k tm' H')∨(o≠.normal∧(Yw H0 H' []∧IQ s cs 2 o tm'))):=by
 obtain⟨t1,t45,⟨i,him,g,hn⟩,k0,hnx⟩:=hI
 have t1':=t1;have b5:=t45
 simp only[JA] at t1
 simp only[dW] at t45
 have hr:H.ro<=H0.nx:=by rw[k0.ro];exact hro
 cases m with
 |zero=>
  have ne:=Do (H:=H) (b:=H0.nx) (s:=s) (i:=i) hr (by omega)
  simp(maxSteps:=4000000) (disch:=first|assumption|omega|(simp -implicitDefEqProofs only[Yr,Ys]<;>first|assumption|omega)|decide) only[t1,t45,g,ne,ZG,Zz,ZK,ZT,ZP,ZS,Z9,Ya,ZO,Z8,Yc,Yb,Zx,Zt,Zs,ZU,Nat.reduceSub,Nat.reduceAdd,Nat.reduceLeDiff,Zi,Zh,Nat.reduceEqDiff,decide_true,decide_false,ZJ,Zf,Zd,YH,YJ,ZZ,ZC,Zv,ZY,ZX,MY,YU,WD,Yp,Yq,ZE,ZH,ZF,Nat.reduceEqDiff,reduceCtorEq,WE,UF]
  refine⟨_,_,_,rfl,?_⟩
  exact .inr ⟨by simp,k0,.inr ⟨rfl,GQ λj hj=>hn j (by omega)⟩⟩
 |succ m=>
  obtain⟨HP,hP⟩: ∃G,H.put H0.nx (.siter s (i+1))=G:=⟨_,rfl⟩
  by_cases hlo:(s.getD i 0).toNat<128
  ·have ne:=FF (H:=H) (b:=H0.nx) (s:=s) (i:=i) hr (by omega) (y2 hlo)
   have e1:=λ{j}=>Zef (Z7:=Z7) (fs:=fs) (fuel:=fuel) E (k:=3) (n:=j) (by decide) (H:=HP) (cs:=cs) (x:=(s.getD i 0).toNat) hlo
   have kp:Yw H0 HP []:=by rw[<-hP];exact k0.then_put (λh=>by omega)
   by_cases hx:s.getD i 0∈cs
   ·have d1:decide (0<S7 (s.getD i 0).toNat cs)=true:=Zr (by
     cases h:S7 (s.getD i 0).toNat cs with
     |zero=>exact absurd rfl (NS.1 h _ hx)
     |succ j=>omega)
    simp(maxSteps:=4000000) (disch:=first|assumption|omega|(simp -implicitDefEqProofs only[Yr,Ys]<;>first|assumption|omega)|decide) only[t1,t45,g,ne,hP,e1,d1,ZG,Zz,ZK,ZT,ZP,ZS,Z9,Ya,ZO,Z8,Yc,Yb,Zx,Zt,Zs,ZU,Nat.reduceSub,Nat.reduceAdd,Nat.reduceLeDiff,Zi,Zh,Nat.reduceEqDiff,decide_true,decide_false,ZJ,Zf,Zd,YH,YJ,ZZ,ZC,Zv,ZY,ZX,MY,YU,WD,Yp,Yq,ZE,ZH,ZF,Nat.reduceEqDiff,reduceCtorEq,WE,UF]
    refine⟨_,_,_,rfl,?_⟩
    exact .inr ⟨by simp,kp,.inl ⟨rfl,i,rfl,D2 (by omega) hx hn⟩⟩
   ·have d1:decide (0<S7 (s.getD i 0).toNat cs)=false:=Zj (by
     have:S7 (s.getD i 0).toNat cs=0:=NS.2 λc hc e=>hx (by rw[<-Q4.1 e];exact hc)
     omega)
    simp(maxSteps:=4000000) (disch:=first|assumption|omega|(simp -implicitDefEqProofs only[Yr,Ys]<;>first|assumption|omega)|decide) only[t1,t45,g,ne,hP,e1,d1,ZG,Zz,ZK,ZT,ZP,ZS,Z9,Ya,ZO,Z8,Yc,Yb,Zx,Zt,Zs,ZU,Nat.reduceSub,Nat.reduceAdd,Nat.reduceLeDiff,Zi,Zh,Nat.reduceEqDiff,decide_true,decide_false,ZJ,Zf,Zd,YH,YJ,ZZ,ZC,Zv,ZY,ZX,MY,YU,WD,Yp,Yq,ZE,ZH,ZF,Nat.reduceEqDiff,reduceCtorEq,WE,UF]
    refine⟨_,_,_,rfl,.inl ⟨rfl,m,by omega,t1',b5,⟨i+1,by omega,by rw[<-hP];exact UQ ..,λj hj=>?_⟩,kp,by rw[<-hP,PV];exact hnx⟩⟩
    by_cases h:j=i
    ·rw[h];exact hx
    ·exact hn j (by omega)
  ·obtain⟨r,w,hd,r1,r2,w1,hw⟩:=kn (s:=s) (i:=i) (by omega) (by omega)
   have ne:=FF (H:=H) (b:=H0.nx) (s:=s) (i:=i) hr (by omega) hd
   have hwl:=hw (w - 1) (by omega)
   obtain⟨HQ,hQ⟩: ∃G,H.put H0.nx (.siter s (i+w))=G:=⟨_,rfl⟩
   have kp:Yw H0 HQ []:=by rw[<-hQ];exact k0.then_put (λh=>by omega)
   have e1:=λ{j}=>be (Z7:=Z7) (fs:=fs) (fuel:=fuel) E (k:=3) (n:=j) (by decide) (H:=HQ) (cs:=cs) (x:=r) ha r1 r2 (by rw[kp.ro,<-hQ,PV];omega)
   have z0:decide (0<0)=false:=rfl
   simp(maxSteps:=4000000) (disch:=first|assumption|omega|(simp -implicitDefEqProofs only[Yr,Ys]<;>first|assumption|omega)|decide) only[t1,t45,g,ne,hQ,e1,z0,ZG,Zz,ZK,ZT,ZP,ZS,Z9,Ya,ZO,Z8,Yc,Yb,Zx,Zt,Zs,ZU,Nat.reduceSub,Nat.reduceAdd,Nat.reduceLeDiff,Zi,Zh,Nat.reduceEqDiff,decide_true,decide_false,ZJ,Zf,Zd,YH,YJ,ZZ,ZC,Zv,ZY,ZX,MY,YU,WD,Yp,Yq,ZE,ZH,ZF,Nat.reduceEqDiff,reduceCtorEq,WE,UF]
   refine⟨_,_,_,rfl,.inl ⟨rfl,m+1 - w,by omega,t1',b5,⟨i+w,by omega,by rw[<-hQ];exact UQ ..,λj hj hm=>?_⟩,kp,by rw[<-hQ,PV];exact hnx⟩⟩
   by_cases h:j<i
   ·exact hn j h hm
   ·have h2:=hw (j - i) (by omega)
    rw[show i+(j - i)=j by omega] at h2
    have:=ha.lt _ hm;omega
theorem s4{Z7:Lib}{fs:T CF}{fuel:Nat}(E:Env Z7 fs fuel){n:Nat}{s cs:List UInt8}{H:Heap}(ha:Pz cs)(hs:s.length<=90000)(hro:H.ro<=H.nx):
  ∃H',Xd (LK Z7 fs fuel 3) fs fuel (n+2) 214 [.str s,.str cs] H=.ret (mI (JV cs s)) H'∧Yw H H' []:=by
 rw[XR (Xk E.n214 (.inl (by decide)) _ _) E.f214]
 have h2:=ha.lo
 have h3:=ha.hi
 have n0:decide (cs=[])=false:=Zj λe=>by rw[e] at h2;simp at h2
 have n1:decide (cs.length=1)=false:=Zj (by omega)
 have es:=λ{j}=>jV (Z7:=Z7) (fs:=fs) (fuel:=fuel) E (k:=3) (n:=j) (by decide) (H:=H) (x:=s.length)
 by_cases h8:8<s.length
 ·rw[Zr h8] at es
  have em:=λ{j}=>br (Z7:=Z7) (fs:=fs) (fuel:=fuel) E (k:=3) (n:=j) (by decide) (H:=H) ha hro
  have hl:=IJ cs
  have hz:Ll.length=256:=by unfold Ll;rw[Th]
  have sf:=λ(G:Heap) (hG:G.ro<=H.nx)=>TL (n:=256) (b:=H.nx) (l:=Ll) (vs:=P9 cs) (H:=G) hz hl (by decide) hG 347 1 false true
  have sf:=sf (H.new (rG 347 1 Ll 0 false true true)) hro
  rw[Ty rfl] at sf
  obtain⟨H1,hH1⟩: ∃G,H.new (rG 347 1 (P9 cs) 0 false true true)=G:=⟨_,rfl⟩
  rw[hH1] at sf
  have ll:=Ax
  have gz:=λ(G:Heap)=>YN (H:=H) rfl (rG 347 1 Ll 0 false true true)
  simp(maxSteps:=4000000) (disch:=first|assumption|omega|(simp -implicitDefEqProofs only[Yr,Ys]<;>first|assumption|omega)|decide) only[n0,n1,es,em,B3,gz,sf,ll,hl,BT,Dl,BV,ZG,Zz,ZK,ZT,ZP,ZS,Z9,Ya,ZO,Z8,Yc,Yb,Zx,Zt,Zs,ZU,Nat.reduceSub,Nat.reduceAdd,Nat.reduceLeDiff,Zi,Zh,Nat.reduceEqDiff,decide_true,decide_false,ZJ,Zf,Zd,YH,YJ,ZZ,ZC,Zv,ZY,ZX,Cb,YU,WD,Yp,Yq,ZE,ZH,ZF,Nat.reduceEqDiff,reduceCtorEq,WE,UF]
  generalize hL:TH (KI _) fuel _ _ _=L
  obtain⟨o,MR,H2,rfl,_,rfl,z⟩:=WW (P:=λT=>ah s cs H.nx H1 s.length T H1) (Q:=λo tm' H'=>H'=H1∧IQ s cs 0 o tm')
   (λT hi=>Vd (ah s cs H.nx H1) (λo tm' H'=>H'=H1∧IQ s cs 0 o tm') (λm tm H2 h=>sX E hs (by rw[<-hH1];exact YN rfl _) _ _ _ _ _ m tm H2 h) fuel s.length T H1 (by have:=E.big;omega) hi) hL
   (by exact⟨rfl,rfl,rfl,0,rfl,by omega,λj hj=>by omega⟩)
  rcases z with⟨rfl,p,t4,e⟩|⟨rfl,e⟩
  ·simp only[Es] at t4
   rw[e,nk]
   simp(maxSteps:=4000000) (disch:=first|assumption|omega|(simp -implicitDefEqProofs only[Yr,Ys]<;>first|assumption|omega)|decide) only[t4,ZG,Zz,ZK,ZT,ZP,ZS,Z9,Ya,ZO,Z8,Yc,Yb,Zx,Zt,Zs,ZU,Nat.reduceSub,Nat.reduceAdd,Nat.reduceLeDiff,Zi,Zh,Nat.reduceEqDiff,decide_true,decide_false,ZJ,Zf,Zd,YH,YJ,ZZ,ZC,Zv,ZY,ZX,Cb,YU,WD,Yp,Yq,ZE,ZH,ZF,Nat.reduceEqDiff,reduceCtorEq,WE,UF]
   refine⟨_,rfl,?_⟩
   exact by rw[<-hH1];exact Yw.new _ _ _
  ·rw[e]
   simp(maxSteps:=4000000) (disch:=first|assumption|omega|(simp -implicitDefEqProofs only[Yr,Ys]<;>first|assumption|omega)|decide) only[ZG,Zz,ZK,ZT,ZP,ZS,Z9,Ya,ZO,Z8,Yc,Yb,Zx,Zt,Zs,ZU,Nat.reduceSub,Nat.reduceAdd,Nat.reduceLeDiff,Zi,Zh,Nat.reduceEqDiff,decide_true,decide_false,ZJ,Zf,Zd,YH,YJ,ZZ,ZC,Zv,ZY,ZX,Cb,YU,WD,Yp,Yq,ZE,ZH,ZF,Nat.reduceEqDiff,reduceCtorEq,WE,UF]
   refine⟨_,rfl,?_⟩
   exact by rw[<-hH1];exact Yw.new _ _ _
 ·rw[Zj h8] at es
  simp(maxSteps:=4000000) (disch:=first|assumption|omega|(simp -implicitDefEqProofs only[Yr,Ys]<;>first|assumption|omega)|decide) only[n0,n1,es,ZG,Zz,ZK,ZT,ZP,ZS,Z9,Ya,ZO,Z8,Yc,Yb,Zx,Zt,Zs,ZU,Nat.reduceSub,Nat.reduceAdd,Nat.reduceLeDiff,Zi,Zh,Nat.reduceEqDiff,decide_true,decide_false,ZJ,Zf,Zd,YH,YJ,ZZ,ZC,Zv,ZY,ZX,Cb,YU,WD,Yp,Yq,ZE,ZH,ZF,Nat.reduceEqDiff,reduceCtorEq,WE,UF]
  generalize hL:TH (MY _) fuel _ _ _=L
  obtain⟨o,MR,H2,rfl,_,k2,z⟩:=WW (P:=λT=>ai s cs H s.length T (H.new (.siter s 0))) (Q:=λo tm' H'=>Yw H H' []∧IQ s cs 2 o tm')
   (λT hi=>Vd (ai s cs H) (λo tm' H'=>Yw H H' []∧IQ s cs 2 o tm') (λm tm H2 h=>sY E ha hs hro _ _ _ _ _ m tm H2 h) fuel s.length T _ (by have:=E.big;omega) hi) hL
   (by exact⟨rfl,rfl,⟨0,by omega,YN rfl _,λj hj=>by omega⟩,Yw.new _ _ _,Xl _⟩)
  rcases z with⟨rfl,p,t4,e⟩|⟨rfl,e⟩
  ·simp only[Es] at t4
   rw[e,nk]
   simp(maxSteps:=4000000) (disch:=first|assumption|omega|(simp -implicitDefEqProofs only[Yr,Ys]<;>first|assumption|omega)|decide) only[t4,ZG,Zz,ZK,ZT,ZP,ZS,Z9,Ya,ZO,Z8,Yc,Yb,Zx,Zt,Zs,ZU,Nat.reduceSub,Nat.reduceAdd,Nat.reduceLeDiff,Zi,Zh,Nat.reduceEqDiff,decide_true,decide_false,ZJ,Zf,Zd,YH,YJ,ZZ,ZC,Zv,ZY,ZX,Cb,YU,WD,Yp,Yq,ZE,ZH,ZF,Nat.reduceEqDiff,reduceCtorEq,WE,UF]
   refine⟨_,rfl,?_⟩
   exact k2
  ·rw[e]
   simp(maxSteps:=4000000) (disch:=first|assumption|omega|(simp -implicitDefEqProofs only[Yr,Ys]<;>first|assumption|omega)|decide) only[ZG,Zz,ZK,ZT,ZP,ZS,Z9,Ya,ZO,Z8,Yc,Yb,Zx,Zt,Zs,ZU,Nat.reduceSub,Nat.reduceAdd,Nat.reduceLeDiff,Zi,Zh,Nat.reduceEqDiff,decide_true,decide_false,ZJ,Zf,Zd,YH,YJ,ZZ,ZC,Zv,ZY,ZX,Cb,YU,WD,Yp,Yq,ZE,ZH,ZF,Nat.reduceEqDiff,reduceCtorEq,WE,UF]
   refine⟨_,rfl,?_⟩
   exact k2
theorem Zee{Z7:Lib}{fs:T CF}{fuel:Nat}(E:Env Z7 fs fuel){k n:Nat}(hk:4<=k){s cs:List UInt8}{H:Heap}(ha:Pz cs)(hs:s.length<=90000)(hro:H.ro<=H.nx):
  Xd (LK Z7 fs fuel k) fs fuel (n+1) 214 [.str s,.str cs] H=.ret (mI (JV cs s)) H:=by
 obtain⟨H',e,g⟩:=s4 E (n:=898) (H:=H) ha hs hro
 exact Wy (r:=3) rfl rfl e g (M6 _ _) hk
theorem wq{Z7:Lib}{fs:T CF}{fuel:Nat}(E:Env Z7 fs fuel){n:Nat}{s cs:List UInt8}{H:Heap}(ha:Pz cs)(hs:s.length<=90000)(hro:H.ro<=H.nx):
  ∃H',Xd (LK Z7 fs fuel 4) fs fuel (n+2) 157 [.str s,.str cs] H=.ret (.bool (D1 cs s)) H'∧Yw H H' []:=by
 rw[XR (Xk E.n157 (.inl (by decide)) _ _) E.f157]
 have e1:=λ{j}=>Zee (Z7:=Z7) (fs:=fs) (fuel:=fuel) E (k:=4) (n:=j) (by decide) (H:=H) ha hs hro
 rw[<-yT cs s]
 simp(maxSteps:=4000000) (disch:=first|assumption|omega|(simp -implicitDefEqProofs only[Yr,Ys]<;>first|assumption|omega)|decide) only[e1,ZG,Zz,ZK,ZT,ZP,ZS,Z9,Ya,ZO,Z8,Yc,Yb,Zx,Zt,Zs,ZU,Nat.reduceSub,Nat.reduceAdd,Nat.reduceLeDiff,Zi,Zh,Nat.reduceEqDiff,decide_true,decide_false,ZJ,Zf,Zd,YH,YJ,ZZ,ZC,Zv,ZY,ZX,pM,YU,WD,Yp,Yq,ZE,ZH,ZF,Nat.reduceEqDiff,reduceCtorEq,WE]
 refine⟨_,rfl,?_⟩
 exact Yw.refl _ _
theorem mE{Z7:Lib}{fs:T CF}{fuel:Nat}(E:Env Z7 fs fuel){k n:Nat}(hk:5<=k){s cs:List UInt8}{H:Heap}(ha:Pz cs)(hs:s.length<=90000)(hro:H.ro<=H.nx):
  Xd (LK Z7 fs fuel k) fs fuel (n+1) 157 [.str s,.str cs] H=.ret (.bool (D1 cs s)) H:=by
 obtain⟨H',e,g⟩:=wq E (n:=898) (H:=H) ha hs hro
 exact Wy (r:=4) rfl rfl e g (rfl) hk
end
end Go.AI
