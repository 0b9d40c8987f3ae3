/- UTF-8, plainly and walked: proved without conditions but those that each names. -/
import Derived.Test.YtoihnnkidhmfeaaGreatDoorP8
import Derived.Test.YtoihnnkidhmfeaaGreatDoorP7
set_option maxRecDepth 1000000
set_option maxHeartbeats 0
set_option linter.unusedVariables false
set_option linter.unusedSimpArgs false
namespace Go.AI
open Go
noncomputable section
def tG(d:Nat):UInt8:=UInt8.ofNat (48+d)
theorem hC{d:Nat}(h:d<10):(tG d).toNat=48+d:=by
 unfold tG
 rw[UInt8.toNat_ofNat_of_lt' (show 48+d<UInt8.size by unfold UInt8.size;omega)]
def i7:Nat->Nat->List UInt8
 |0,_=>[]
 |k+1,n=>i7 k (n/10)++[tG (n % 10)]
theorem wE: ∀k n,(i7 k n).length=k
 |0,_=>rfl
 |k+1,n=>by show(i7 k (n/10)++[tG (n % 10)]).length=_;rw[Zo,wE k];rfl
def ZeR(l:List UInt8):Nat:=l.foldl (λn c=>10*n+(c.toNat - 48)) 0
def Ju(n:Nat):Nat:=if n<10 then 1 else Ju (n/10)+1
theorem Di{n:Nat}(h:n<10):Ju n=1:=by rw[Ju,if_pos h]
theorem Dh{n:Nat}(h:10<=n):Ju n=Ju (n/10)+1:=by rw[Ju,if_neg (by omega)]
theorem vz(n:Nat):1<=Ju n:=by
 by_cases h:n<10
 ·rw[Di h];exact Zq _
 ·rw[Dh (by omega)];omega
theorem fI{n k:Nat}(hk:1<=k)(h:n<10^k):Ju n<=k:=by
 by_cases h0:n<10
 ·rw[Di h0];exact hk
 ·obtain⟨j,hj⟩: ∃j,Ju n=j+1:=⟨Ju n - 1,by have:=vz n;omega⟩
  rw[hj]
  by_cases hlt:k<j+1
  ·have h1:10^j<=n:=by
    have: ∀n j,Ju n=j+1->10<=n->10^j<=n:=by
     intro n
     induction n using Nat.strongRecOn with
     |ind n ih=>
      intro j hj hn
      rw[Dh hn] at hj
      by_cases h2:n/10<10
      ·rw[Di h2] at hj
       obtain rfl:j=1:=by omega
       simpa using hn
      ·obtain⟨i,rfl⟩: ∃i,j=i+1:=⟨j - 1,by have:=vz (n/10);omega⟩
       have:=ih (n/10) (by omega) i (by omega) (by omega)
       rw[Nat.pow_succ];omega
    exact this n j hj (by omega)
   have h2:10^k<=10^j:=Nat.pow_le_pow_right (by decide) (by omega)
   omega
  ·omega
def dec(n:Nat):List UInt8:=i7 (Ju n) n
theorem qa(n:Nat):(dec n).length=Ju n:=wE ..
theorem Zaz{n:Nat}(h:n<10):dec n=[tG n]:=by
 unfold dec;rw[Di h];show []++[tG (n % 10)]=_;rw[ZU h];rfl
theorem Zay{n:Nat}(h:10<=n):dec n=dec (n/10)++[tG (n % 10)]:=by
 unfold dec;rw[Dh h];rfl
def Ii(z:Int):List UInt8:=if z<0 then 45::dec z.natAbs else dec z.natAbs
def QJ:Nat->Nat
 |6=>3
 |16=>1
 |17=>2
 |27=>1
 |38=>2
 |44=>1
 |57=>1
 |59=>4
 |60=>5
 |71=>3
 |72=>3
 |73=>2
 |74=>4
 |75=>2
 |76=>2
 |79=>3
 |80=>2
 |85=>1
 |91=>1
 |92=>3
 |97=>1
 |101=>1
 |102=>2
 |109=>1
 |110=>1
 |111=>1
 |_=>0
def rd(s:List UInt8)(i:Nat):Obj:=rG 0 1 [.str s,nI .i64 i] 0 false true true
def ZbY(o:Option Obj):Option (List UInt8×Nat):=match o with
 |some (.row r)=>(match r.get 0,r.get 1 with|.str s,.int .i64 (.ofNat i)=>some (s,i)|_,_=>none)
 |_=>none
def Zdp(e i:Nat):AV:=.iface 0 (.agg [nI .i64 e,nI .i64 i])
def blk(c:UInt8):Bool:=c.toNat==32||c.toNat==9||c.toNat==10||c.toNat==13
def ZeC(s:List UInt8)(i:Nat):Nat:=i+((s.drop i).takeWhile blk).length
def dg(c:UInt8):Bool:=decide (48<=c.toNat)&&decide (c.toNat<=57)
def ZeD(s:List UInt8)(i:Nat):Nat:=i+((s.drop i).takeWhile dg).length
inductive NO where
 |ok (z:Int) (q:Nat)
 |bad (at_ q:Nat)
def fQ(s:List UInt8)(i:Nat):Nat:=if (s.getD i 0).toNat=45 then i+1 else i
def Zeh(s:List UInt8)(p:Nat):Nat:=if (s.getD p 0).toNat=48 then p+1 else ZeD s p
def Zbx(s:List UInt8)(i:Nat):NO:=
 let p:=fQ s i
 if dg (s.getD p 0)=false then .bad p p
 else
  let q:=Zeh s p
  let u:=ZeR ((s.take q).drop p)
  if p=i then(if u<9223372036854775808 then .ok u q else .bad i q) else(if u<=9223372036854775808 then .ok (-(u:Int)) q else .bad i q)
def Zcg(z:Int):AV:=.agg [nI .i64 3,.bool false,.int .i64 z,.str [],.nils,.nils]
def Nk:Lib:=λf args H=>match f,args with
 |100001,[.ptr b 0]=>(ZbY (H.t.get b)).map λx=>.ret (.tup []) (H.put b (rd x.1 (ZeC x.1 x.2)))
 |100002,[.ptr b 0]=>(ZbY (H.t.get b)).map λx=>.pan (Zdp 5 x.2) H
 |100003,[.ptr b 0]=>(ZbY (H.t.get b)).map λx=>match Zbx x.1 x.2 with
  |.ok z q=>.ret (Zcg z) (H.put b (rd x.1 q))
  |.bad p q=>.pan (Zdp 5 p) (H.put b (rd x.1 q))
 |_,_=>none
abbrev LK(ZM:Lib)(fs:T CF)(fuel k:Nat):Lib:=E2 ZM fs fuel QJ Nk k
def Zes:List UInt64:=[1,10,100,1000,10000,100000,1000000,10000000,100000000,1000000000,10000000000,100000000000,1000000000000,10000000000000,100000000000000,1000000000000000,10000000000000000,100000000000000000,1000000000000000000,10000000000000000000]
def yA(H:Heap):Prop:=100<=H.nx∧(∃r,H.t.get 4=some (.row r)∧Cells r (Zes.map Zhr))∧ ∃r t p,H.t.get 1=some (.row r)∧0<r.size∧r.get 0=.iface t (.ptr p 0)∧p<100
theorem yA.keep{H H':Heap}(g:yA H){S:List Nat}(k:ZE H H' S)(hS: ∀x∈S,100<=x):yA H':=by
 obtain⟨h,⟨r,h1,h2⟩,e,t,p,h3,h4⟩:=g
 exact⟨YN h k.nx,⟨r,by rw[k.get _ (by omega) (λh=>by have:=hS _ h;omega)];exact h1,h2⟩,e,t,p,by rw[k.get _ (by omega) (λh=>by have:=hS _ h;omega)];exact h3,h4⟩
theorem yA.put{H:Heap}(g:yA H){b:Nat}(hb:100<=b)(o:Obj):yA (H.put b o):=g.keep (S:=[b]) (ZE.put λ_=>by simp) (by simp;exact hb)
theorem yA.new{H:Heap}(g:yA H)(o:Obj):yA (H.new o):=g.keep (S:=[]) (ZE.new H o _) (by simp)
structure Env(ZM:Lib)(fs:T CF)(fuel:Nat):Prop where
 big:1000000<=fuel
 f3:fs.get 3=some c3
 n3: ∀l H,ZM 3 l H=none
 f4:fs.get 4=some c4
 n4: ∀l H,ZM 4 l H=none
 f5:fs.get 5=some c5
 n5: ∀l H,ZM 5 l H=none
 f6:fs.get 6=some c6
 n6: ∀l H,ZM 6 l H=none
 f7:fs.get 7=some c7
 n7: ∀l H,ZM 7 l H=none
 f9:fs.get 9=some c9
 n9: ∀l H,ZM 9 l H=none
 f10:fs.get 10=some c10
 n10: ∀l H,ZM 10 l H=none
 f11:fs.get 11=some c11
 n11: ∀l H,ZM 11 l H=none
 f12:fs.get 12=some c12
 n12: ∀l H,ZM 12 l H=none
 f14:fs.get 14=some c14
 n14: ∀l H,ZM 14 l H=none
 f15:fs.get 15=some c15
 n15: ∀l H,ZM 15 l H=none
 f16:fs.get 16=some c16
 n16: ∀l H,ZM 16 l H=none
 f17:fs.get 17=some c17
 n17: ∀l H,ZM 17 l H=none
 f18:fs.get 18=some c18
 n18: ∀l H,ZM 18 l H=none
 f21:fs.get 21=some c21
 n21: ∀l H,ZM 21 l H=none
 f22:fs.get 22=some c22
 n22: ∀l H,ZM 22 l H=none
 f23:fs.get 23=some c23
 n23: ∀l H,ZM 23 l H=none
 f25:fs.get 25=some c25
 n25: ∀l H,ZM 25 l H=none
 f26:fs.get 26=some c26
 n26: ∀l H,ZM 26 l H=none
 f27:fs.get 27=some c27
 n27: ∀l H,ZM 27 l H=none
 f28:fs.get 28=some c28
 n28: ∀l H,ZM 28 l H=none
 f34:fs.get 34=some c34
 n34: ∀l H,ZM 34 l H=none
 f38:fs.get 38=some c38
 n38: ∀l H,ZM 38 l H=none
 f39:fs.get 39=some dF
 n39: ∀l H,ZM 39 l H=none
 f40:fs.get 40=some c40
 n40: ∀l H,ZM 40 l H=none
 f41:fs.get 41=some c41
 n41: ∀l H,ZM 41 l H=none
 f53:fs.get 53=some c53
 n53: ∀l H,ZM 53 l H=none
 f57:fs.get 57=some c57
 n57: ∀l H,ZM 57 l H=none
 f58:fs.get 58=some c58
 n58: ∀l H,ZM 58 l H=none
 f66:fs.get 66=some c66
 n66: ∀l H,ZM 66 l H=none
 f67:fs.get 67=some c67
 n67: ∀l H,ZM 67 l H=none
 f70:fs.get 70=some c70
 n70: ∀l H,ZM 70 l H=none
 f83:fs.get 83=some c83
 n83: ∀l H,ZM 83 l H=none
 nesc: ∀(x:AV) (H:Heap),ZM 98 [x] H=some (.ret x H)
theorem Lt{sz:Nat}: ∀{ls:List (List AV)},(∀l∈ls,l.length=sz)->ls.flatten.length=ls.length*sz
 |[],_=>by simp
 |l::ls,h=>by
  rw[RK,Zo,Lt (λx hx=>h x (ZF _ hx)),h l (Zv ..),Zw,Vr]
  omega
theorem Da{sz:Nat}: ∀{ls:List (List AV)} {i:Nat},(∀l∈ls,l.length=sz)->i<ls.length->(ls.flatten.drop (i*sz)).take sz=ls.getD i []
 |l::ls,0,h,_=>by
  rw[UZ,Y8,RK,Uk (by rw[h l (Zv ..)];exact Zq _),YH (by rw[h l (Zv ..)];exact Zq _)]
  rfl
 |l::ls,i+1,h,hi=>by
  have hl:=h l (Zv ..)
  have e:(i+1)*sz=l.length+i*sz:=by rw[hl,Vr];omega
  rw[RK,e,<-SW,List.drop_left]
  have:=Da (i:=i) (λx hx=>h x (ZF _ hx)) (by simpa using hi)
  rw[this];rfl
structure Du(H:Heap)(b e sz:Nat)(ls:List (List AV))(r:Row):Prop where
 at_:H.t.get b=some (.row r)
 elem:r.elem=e
 szr:r.sz=sz
 own:r.own=true
 fz:r.fz=0
 sm:r.sm=false
 exact_:r.exact=false
 cells:Cells r ls.flatten
 each: ∀l∈ls,l.length=sz
 ro:H.ro<=b
 low:b<H.nx
theorem Du.size{H:Heap}{b e sz:Nat}{ls:List (List AV)}{r:Row}(h:Du H b e sz ls r):r.size=ls.length*sz:=by rw[h.cells.size,Lt h.each]
theorem Du.moved{H H':Heap}{b e sz:Nat}{ls:List (List AV)}{r:Row}(h:Du H b e sz ls r)(g:H'.t.get b=H.t.get b)(hro:H'.ro=H.ro)(hnx:H.nx<=H'.nx):Du H' b e sz ls r:=
 ⟨g.trans h.at_,h.elem,h.szr,h.own,h.fz,h.sm,h.exact_,h.cells,h.each,by rw[hro];exact h.ro,ZI h.low hnx⟩
theorem Du.load{H H':Heap}{b e sz:Nat}{ls:List (List AV)}{r:Row}(h:Du H b e sz ls r)(ht:H'.t=H.t){i:Nat}(hi:i<ls.length):Jo sz (.ptr b (i*sz)) H'=.val (.agg (ls.getD i [])) H':=by
 have hf:=Lt h.each
 have hm:(i+1)*sz<=ls.length*sz:=Rf _ hi
 rw[Vr,QU] at hm
 rw[NL (r:=r) (by rw[ht];exact h.at_) h.cells (by omega),Da h.each hi]
theorem Du.load1{H H':Heap}{b e sz:Nat}{ls:List (List AV)}{r:Row}(h:Du H b e sz ls r)(ht:H'.t=H.t){i j:Nat}(hi:i<ls.length)(hj:j<sz):UQ (.ptr b (i*sz+j)) H'=.val ((ls.getD i []).getD j .unk) H':=by
 have hf:=Lt h.each
 have hm:(i+1)*sz<=ls.length*sz:=Rf _ hi
 rw[Vr,QU] at hm
 rw[Tp (r:=r) (by rw[ht];exact h.at_) h.cells (by omega),<-Da h.each hi]
 congr 1
 rw[Zh,Zh,Vg hj,Vj]
theorem RA{n i sz:Nat}(h:i<n)(b o:Nat)(c:Option Nat)(k:IntKind)(H:Heap):CP sz (.slice b o n c) (nI k i) H=.val (.ptr b (o+i*sz)) H:=by
 show ZR (Nat.ble (Nat.succ i) n) (OR.val (.ptr b (Nat.add o (Nat.mul i sz))) H)=_
 rw[Zj (show Nat.succ i<=n from h)];rfl
def KY(H:Heap)(v:AV)(e sz:Nat)(ls:List (List AV))(lo:Nat):Prop:=(ls=[]∧v=.nils)∨(ls≠[]∧ ∃b r,v=.slice b 0 ls.length none∧Du H b e sz ls r∧lo<=b)
theorem nr{H:Heap}{v:AV}{e sz bytes:Nat}{ls:List (List AV)}{lo:Nat}(h:KY H v e sz ls lo)(hsz:1<=sz)(hby:1<=bytes)(hl:(ls.length+1)*bytes<=140737488355328)(hro:H.ro<=H.nx)(hlo:lo<=H.nx){x:List AV}(hx:x.length=sz):
  ∃v' H',V2 e sz bytes v (.slice H.nx 0 1 none) (H.newRow e sz x true)=.val v' H'∧KY H' v' e sz (ls++[x]) lo∧Below lo H H':=by
 generalize hH1:H.newRow e sz x true=H1
 have J8:H1.nx=H.nx+1:=by rw[<-hH1];rfl
 have k1:ZE H H1 []:=by rw[<-hH1];exact ZE.new H _ []
 have b1:Below lo H H1:=by rw[<-hH1];exact Below.new lo H _
 have gx:H1.t.get H.nx=some (.row ⟨e,sz,YF x,T.ofList x,.unk,0,false,true,true⟩):=by rw[<-hH1,So,Xj,if_pos rfl]
 have cx:=Cells.new e sz x 0 false true true
 have src: ∀k:Nat->List AV->OR,(vj (.slice H.nx 0 1 none) λn=>UF H1 sz (.slice H.nx 0 1 none) n λnew=>k n new)=k 1 x:=by
  intro k
  show(UF H1 sz (.slice H.nx 0 1 none) 1 λnew=>k 1 new)=_
  generalize(⟨e,sz,YF x,T.ofList x,.unk,0,false,true,true⟩:Row)=r0 at gx cx
  unfold UF X6
  simp only[gx]
  show ZR (Nat.ble (0+1*sz) r0.size) (k 1 (loadN r0 0 (1*sz)))=_
  rw[QU,cx.size,hx,Zj (show 0+sz<=sz by omega)]
  have:=cx.load (o:=0) (n:=sz) (by omega)
  rw[this,Y8,YH (by omega)]
  rfl
 have ap: ∀a,V2 e sz bytes a (.slice H.nx 0 1 none) H1=HM a e sz bytes H1 1 x:=by
  intro a
  show ZR (Nat.ble 1 sz) (ZR (Nat.ble 1 bytes) _)=_
  rw[Zj hsz,Zj hby]
  exact src λn new=>HM a e sz bytes H1 n new
 rw[ap]
 rcases h with⟨rfl,rfl⟩|⟨hne,b,r,rfl,g,hb⟩
 ·refine⟨.slice H1.nx 0 1 none,H1.newRow e sz x false,?_,.inr ⟨by simp,H1.nx,_,rfl,⟨by rw[So,Xj,if_pos rfl],rfl,rfl,rfl,rfl,rfl,rfl,by simpa using Cells.new e sz x 0 false true false,λl hm=>by simp at hm;rw[hm];exact hx,by show H1.ro<=H1.nx;rw[k1.ro];omega,Yq _⟩,by omega⟩,b1.trans (Below.new lo H1 _)⟩
  show ZR (Nat.ble (1*bytes) 140737488355328) (OR.val (.slice H1.nx 0 1 none) (H1.newRow e sz x false))=_
  rw[Zj (by simpa using hl)];rfl
 ·have g1:Du H1 b e sz ls r:=g.moved (k1.get b g.low (by simp)) k1.ro (by omega)
  have hs:=g1.size
  have hcap:Ta r 0 none=ls.length:=by
   show cond (Nat.beq r.sz 1) (r.size - 0) ((r.size - 0)/r.sz)=_
   rw[g1.szr,hs,Nat.sub_zero]
   by_cases h1:sz=1
   ·subst h1;show ls.length*1=_;omega
   ·rw[Yx,Zd h1]
    exact Nat.mul_div_cancel _ (by omega)
  have N3:H1.may r b=true:=by unfold Heap.may;rw[g1.own,Zj g1.ro];rfl
  have hlen:(ls.length+1)*sz=ls.length*sz+sz:=by rw[Vr];omega
  refine⟨.slice H1.nx 0 (ls++[x]).length none,⟨Nat.succ H1.nx,(H1.t.del b).set H1.nx (.row ⟨r.elem,sz,(ls.length+1)*sz,YV r.cells (ls.length*sz) x,r.dflt,r.fz,r.sm,true,false⟩),H1.ro⟩,?_,.inr ⟨by simp,H1.nx,⟨r.elem,sz,(ls.length+1)*sz,YV r.cells (ls.length*sz) x,r.dflt,r.fz,r.sm,true,false⟩,rfl,⟨by rw[T.get_set,if_pos rfl],g1.elem,rfl,rfl,g1.fz,g1.sm,rfl,?_,?_,YN g1.ro (OB g1.low),Yq _⟩,by omega⟩,b1.trans ⟨Uv _,rfl,λc hc hn=>?_⟩⟩
  ·show X6 H1 b _=_
   unfold X6
   simp only[g1.at_]
   have h1:HC r sz none=true:=by show Nat.beq r.sz sz=true;rw[g1.szr,YC]
   have h2:Nat.ble (Nat.add ls.length 1) (Ta r 0 none)=false:=by
    rw[hcap]
    cases h:Nat.ble (Nat.add ls.length 1) ls.length with
    |false=>rfl
    |true=>have:=ZQ h;have:ls.length+1<=ls.length:=this;omega
   rw[h1,h2]
   show ZR (Nat.ble ((ls.length+1)*bytes) 140737488355328) (ZR (Nat.ble (0+ls.length*sz) r.size) (cond r.exact _ (th H1 e b 0 ls.length 1 sz r x)))=_
   rw[Zj hl,hs,Zn,Zj (Zq _),g1.exact_]
   show ZR (Nat.beq r.elem e) (ZR (H1.may r b) (ZR (Nat.ble r.fz (ls.length*sz)) (ZR (Nat.beq (ls.length*sz) r.size) (ZR (Nat.beq 0 0) _))))=_
   rw[g1.elem,YC,N3,g1.fz,Zj (Yv _),hs,YC]
   show OR.val (.slice H1.nx 0 (ls.length+1) none) _=_
   rw[Zo]
   rfl
  ·have hf:=Lt g1.each
   refine⟨by show(ls.length+1)*sz=_;rw[List.flatten_append,Zo,hf];simp[hx];omega,λi hi=>?_⟩
   rw[List.flatten_append,Zo,hf] at hi
   have e1:[x].flatten=x:=by simp
   rw[e1] at hi
   rw[Row.get_eq]
   show((YV r.cells (ls.length*sz) x).get i).getD r.dflt=_
   rw[Oq,Zh,List.flatten_append,e1]
   by_cases h1:ls.length*sz<=i
   ·rw[if_pos ⟨h1,by omega⟩,ZY (by omega),hf,Zr (show i - ls.length*sz<x.length by omega)];rfl
   ·rw[if_neg (by omega),Yz (by omega)]
    have:=g1.cells.get i (by omega)
    rw[Row.get_eq,Zh] at this
    exact this
  ·intro l hm
   rcases Zu.1 hm with hm|hm
   ·exact g1.each l hm
   ·simp at hm;rw[hm];exact hx
  ·show((H1.t.del b).set H1.nx _).get c=_
   rw[T.get_set,if_neg (by omega),T.get_del,if_neg (by omega)]
theorem KY.below{H H':Heap}{v:AV}{e sz:Nat}{ls:List (List AV)}{lo:Nat}(h:KY H v e sz ls lo)(hp: ∀c,lo<=c->c<H.nx->H'.t.get c=H.t.get c)(hro:H'.ro=H.ro)(hnx:H.nx<=H'.nx):KY H' v e sz ls lo:=by
 rcases h with h|⟨hne,b,r,rfl,g,hb⟩
 ·exact .inl h
 ·exact .inr ⟨hne,b,r,rfl,g.moved (hp b hb g.low) hro hnx,hb⟩
theorem KY.len{H:Heap}{v:AV}{e sz:Nat}{ls:List (List AV)}{lo:Nat}(h:KY H v e sz ls lo)(G:Heap):Ko v G=.val (nI .i64 ls.length) G:=by
 rcases h with⟨rfl,rfl⟩|⟨_,b,r,rfl,_⟩
 ·exact Gw G
 ·exact Z5 ..
theorem KY.low{H:Heap}{v:AV}{e sz:Nat}{ls:List (List AV)}{lo:Nat}(h:KY H v e sz ls lo){n:Nat}(hn:H.nx<=n):Va n v=true:=by
 rcases h with⟨_,rfl⟩|⟨_,b,r,rfl,g,_⟩
 ·rfl
 ·exact UR (ZI g.low hn) _ _ _
theorem KY.same{H:Heap}{v:AV}{e sz:Nat}{ls:List (List AV)}{lo:Nat}(h:KY H v e sz ls lo)(n:Nat)(t:T Obj):To (.val v ⟨n,t,n⟩) v n=true:=by
 rcases h with⟨_,rfl⟩|⟨_,b,r,rfl,_⟩
 ·exact OQ n t
 ·exact Rk _ _ _ _ _ _
def Seen(es:List Q7)(ks:List (List UInt8)):Prop:=es.map (λe=>(e.key,e.val))=ks.map λk=>(AV.str k,nI .i64 1)
theorem Seen.nil:Seen [] []:=rfl
theorem Seen.push{es:List Q7}{ks:List (List UInt8)}(h:Seen es ks)(k:List UInt8)(c:Nat):Seen (es++[⟨.str k,nI .i64 1,c⟩]) (ks++[k]):=by
 unfold Seen at*
 rw[YX,YX,h];rfl
structure Sl(H:Heap)(sz:Nat)(v:AV)(ls:List (List AV)):Prop where
 each: ∀l∈ls,l.length=sz
 here:(ls=[]∧v=.nils)∨ ∃b o c,v=.slice b o ls.length c∧b<H.nx∧(ls≠[]-> ∃r,H.t.get b=some (.row r)∧o+ls.length*sz<=r.size∧ ∀i,i<ls.length*sz->r.get (o+i)=ls.flatten.getD i .unk)
theorem Sl.nil(H:Heap)(sz:Nat):Sl H sz .nils []:=⟨λ_ h=>(by cases h),.inl ⟨rfl,rfl⟩⟩
theorem Sl.keep{H H':Heap}{sz:Nat}{v:AV}{ls:List (List AV)}{S:List Nat}(h:Sl H sz v ls)(k:ZE H H' S)(hS: ∀b o n c,v=.slice b o n c->b∉S):Sl H' sz v ls:=by
 refine⟨h.each,?_⟩
 rcases h.here with h1|⟨b,o,c,rfl,hb,h2⟩
 ·exact .inl h1
 ·refine .inr ⟨b,o,c,rfl,ZI hb k.nx,λhne=>?_⟩
  obtain⟨r,h3,h4⟩:=h2 hne
  exact⟨r,by rw[k.get b hb (hS _ _ _ _ rfl)];exact h3,h4⟩
theorem Sl.keep0{H H':Heap}{sz:Nat}{v:AV}{ls:List (List AV)}(h:Sl H sz v ls)(k:ZE H H' []):Sl H' sz v ls:=h.keep k (by simp)
theorem Sl.len{H:Heap}{sz:Nat}{v:AV}{ls:List (List AV)}(h:Sl H sz v ls)(G:Heap):Ko v G=.val (nI .i64 ls.length) G:=by
 rcases h.here with⟨rfl,rfl⟩|⟨b,o,c,rfl,_⟩
 ·rfl
 ·exact Z5 ..
theorem Sl.low{H:Heap}{sz:Nat}{v:AV}{ls:List (List AV)}(h:Sl H sz v ls){n:Nat}(hn:H.nx<=n):Va n v=true:=by
 rcases h.here with⟨rfl,rfl⟩|⟨b,o,c,rfl,hb,_⟩
 ·rfl
 ·exact UR (by omega) ..
theorem Sl.same{H:Heap}{sz:Nat}{v:AV}{ls:List (List AV)}(h:Sl H sz v ls)(n:Nat)(t:T Obj):To (.val v ⟨n,t,n⟩) v n=true:=by
 rcases h.here with⟨rfl,rfl⟩|⟨b,o,c,rfl,_⟩
 ·exact OQ ..
 ·exact Rk ..
theorem Sl.cells{H:Heap}{sz:Nat}{v:AV}{ls:List (List AV)}(h:Sl H sz v ls):v.cells=[v]:=by
 rcases h.here with⟨rfl,rfl⟩|⟨b,o,c,rfl,_⟩<;>rfl
theorem Sl.at_{H:Heap}{sz:Nat}{v:AV}{ls:List (List AV)}(h:Sl H sz v ls){i:Nat}(hi:i<ls.length):
  ∃b o r,(∀(k:IntKind) (G:Heap),CP sz v (nI k i) G=.val (.ptr b o) G)∧b<H.nx∧H.t.get b=some (.row r)∧(∀G:Heap,Gv sz (some (.row r)) o G=.val (.agg (ls.getD i [])) G)∧ ∀(j:Nat) (G:Heap),j<sz->ld1 (some (.row r)) (o+j) G=.val ((ls.getD i []).getD j .unk) G:=by
 have hne:ls≠[]:=by intro e;subst e;cases hi
 rcases h.here with⟨rfl,_⟩|⟨b,o,c,rfl,hb,h2⟩
 ·exact absurd rfl hne
 ·obtain⟨r,h3,h4,h5⟩:=h2 hne
  have hm:(i+1)*sz<=ls.length*sz:=Rf _ hi
  rw[Vr,QU] at hm
  have hf:=Lt h.each
  have hg:=Da h.each hi
  refine⟨b,o+i*sz,r,λk G=>RA hi b o c k G,hb,h3,λG=>?_,λj G hj=>?_⟩
  ·show ZR (Nat.ble (Nat.add (o+i*sz) sz) r.size) (OR.val (.agg (loadN r (o+i*sz) sz)) G)=_
   rw[Zj (show Nat.add (o+i*sz) sz<=r.size by show o+i*sz+sz<=_;omega)]
   show OR.val (.agg (loadN r (o+i*sz) sz)) G=_
   congr 2
   rw[<-hg]
   apply VC
   intro j
   by_cases hj:j<sz
   ·rw[Qs _ _ _ _ hj,Vg hj,Vj]
    have:=h5 (i*sz+j) (by omega)
    rw[<-UY,Zh,Zr (by omega)] at this
    rw[Zr (by omega),this];rfl
   ·rw[Xg (by rw[Sz];omega),Xg (by rw[Ys];omega)]
  ·rw[Qr (by omega)]
   congr 1
   rw[<-hg,UY,h5 _ (by omega),Zh,Zh,Vg hj,Vj]
theorem PJ{n b:Nat}{l vs:List AV}{H:Heap}(hl:l.length=n)(hv:vs.length=n)(hn:1<=n)(hro:H.ro<=b)(e sz:Nat)(sm ex:Bool):re n (some (rG e sz l 0 sm true ex)) b 0 (.agg vs) H=.val YZ (H.put b (rG e sz vs 0 sm true ex)):=by
 rw[KB hn (by exact hv) (by omega) hro (Yv _)]
 congr 3
 rw[xf _ _ _ (by show 0+vs.length<=_;omega)]
 show []++(vs++l.drop (0+vs.length))=vs
 rw[Us (by omega)];simp
def Se(b:Nat):Nat:=if b<128 then 240 else if b<194 then 241 else if b<224 then 2 else if b=224 then 19 else if b=237 then 35 else if b<240 then 3 else if b=240 then 52 else if b<244 then 4 else if b=244 then 68 else 241
def lH:List Nat:=(List.range 256).map Se
def Rb:List Nat:=[128,191,160,191,128,159,144,191,128,143,0,0,0,0,0,0,0,0,0,0,0,0,0,0,0,0,0,0,0,0,0,0]
def Wo(s:List UInt8)(i:Nat):Nat:=(s.getD i 0).toNat
def SC(s:List UInt8):Nat:=
 let b:=Wo s 0
 if b<128 then 1 else
 let x:=Se b
 let lo:=Rb.getD (x/16*2) 0
 let hi:=Rb.getD (x/16*2+1) 0
 if x % 8=2 then(if s.length<2∨Wo s 1<lo∨hi<Wo s 1 then 0 else 2)
 else if x % 8=3 then(if s.length<3∨Wo s 1<lo∨hi<Wo s 1∨Wo s 2<128∨191<Wo s 2 then 0 else 3)
 else if x % 8=4 then(if s.length<4∨Wo s 1<lo∨hi<Wo s 1∨Wo s 2<128∨191<Wo s 2∨Wo s 3<128∨191<Wo s 3 then 0 else 4)
 else 0
def ip:Nat->List UInt8->Bool
 |0,_=>true
 |f+1,s=>if s.length=0 then true else if SC s=0 then false else ip f (s.drop (SC s))
def vu(s:List UInt8):Bool:=ip s.length s
theorem jH{s:List UInt8}(h:0<s.length):SC s<=s.length:=by
 unfold SC
 simp only
 split
 ·omega
 ·split
  ·split<;>omega
  ·split
   ·split<;>omega
   ·split
    ·split<;>omega
    ·omega
theorem uR: ∀(f g:Nat) (s:List UInt8),s.length<=f->s.length<=g->ip f s=ip g s
 |0,g,s,h,_=>by
  have:s.length=0:=by omega
  cases g with
  |zero=>rfl
  |succ g=>unfold ip;rw[if_pos this]
 |f+1,0,s,_,h=>by
  have:s.length=0:=by omega
  unfold ip;rw[if_pos this]
 |f+1,g+1,s,h,hg=>by
  unfold ip
  by_cases h0:s.length=0
  ·rw[if_pos h0,if_pos h0]
  ·rw[if_neg h0,if_neg h0]
   by_cases h1:SC s=0
   ·rw[if_pos h1,if_pos h1]
   ·rw[if_neg h1,if_neg h1]
    exact uR f g _ (by rw[ZV];omega) (by rw[ZV];omega)
theorem rz:vu []=true:=rfl
theorem iq(f:Nat)(s:List UInt8):ip (f+1) s=if s.length=0 then true else if SC s=0 then false else ip f (s.drop (SC s)):=rfl
theorem Dr{s:List UInt8}(h:0<s.length):vu s=if SC s=0 then false else vu (s.drop (SC s)):=by
 show ip s.length s=if SC s=0 then false else ip (s.drop (SC s)).length (s.drop (SC s))
 obtain⟨n,hn⟩: ∃n,s.length=n+1:=⟨s.length - 1,by omega⟩
 rw[hn,iq,if_neg (by omega)]
 by_cases h1:SC s=0
 ·rw[if_pos h1,if_pos h1]
 ·rw[if_neg h1,if_neg h1]
  exact uR n _ (s.drop (SC s)) (by rw[ZV];omega) (Zq _)
theorem AB{s:List UInt8}(h:0<s.length)(h2:SC s=0):vu s=false:=by rw[Dr h,if_pos h2]
theorem Dq{s:List UInt8}{n:Nat}(h:0<s.length)(h2:SC s=n)(h3:n≠0):vu s=vu (s.drop n):=by rw[Dr h,if_neg (by rw[h2];exact h3),h2]
theorem EO{s:List UInt8}(h:Wo s 0<128):SC s=1:=by unfold SC;simp only;rw[if_pos h]
theorem JU(s:List UInt8)(n i:Nat):Wo (s.drop n) i=Wo s (n+i):=by
 unfold Wo
 rw[Zh,Vj,Zh]
theorem Fj: ∀(n:Nat) {s:List UInt8},n<=s.length->(∀i,i<n->Wo s i<128)->vu s=vu (s.drop n)
 |0,s,_,_=>by rw[Y8]
 |n+1,s,h,ha=>by
  rw[Dr (by omega),EO (ha 0 (by omega)),if_neg (by omega),Fj n (s:=s.drop 1) (by rw[ZV];omega) (λi hi=>by rw[JU];exact ha _ (by omega)),SW,Nat.add_comm]
def w8(s:List UInt8):Nat:=
 Wo s 0|||Wo s 1*2^8 % 18446744073709551616|||Wo s 2*2^16 % 18446744073709551616|||Wo s 3*2^24 % 18446744073709551616|||Wo s 4*2^32 % 18446744073709551616|||Wo s 5*2^40 % 18446744073709551616|||Wo s 6*2^48 % 18446744073709551616|||Wo s 7*2^56 % 18446744073709551616
theorem KJ(s:List UInt8)(i:Nat):Wo s i<256:=(s.getD i 0).toNat_lt
theorem Zak{b k:Nat}(hk:k<=7)(h:(b*2^(8*k) % 18446744073709551616).testBit (8*k+7)=false)(hb:b<256):b<128:=by
 rw[show(18446744073709551616:Nat)=2^64 from rfl,Nat.testBit_mod_two_pow,Zg (by omega),VX,Nat.testBit_mul_two_pow] at h
 have h:b.testBit 7=false:=by
  rw[Zg (by omega),VX,show 8*k+7 - 8*k=7 by omega] at h;exact h
 rw[W9] at h
 have:=of_decide_eq_false h
 omega
theorem KH{s:List UInt8}(h: ∀k,k<8->(w8 s).testBit (8*k+7)=false): ∀i,i<8->Wo s i<128:=by
 have e: ∀k,k<8-> ∀j,j<8->((Wo s j)*2^(8*j) % 18446744073709551616).testBit (8*k+7)=false:=by
  intro k hk j hj
  have:=h k hk
  unfold w8 at this
  simp only[Nat.testBit_or,Rc] at this
  obtain⟨⟨⟨⟨⟨⟨⟨a0,a1⟩,a2⟩,a3⟩,a4⟩,a5⟩,a6⟩,a7⟩:=this
  have hb:=KJ s 0
  match j,hj with
  |0,_=>rw[Nat.mul_zero,Nat.pow_zero,Y0,ZU (by omega)];exact a0
  |1,_=>exact a1
  |2,_=>exact a2
  |3,_=>exact a3
  |4,_=>exact a4
  |5,_=>exact a5
  |6,_=>exact a6
  |7,_=>exact a7
 intro i hi
 exact Zak (by omega) (e i hi i hi) (KJ s i)
theorem FS{x:Nat}(h:x&&&9259542123273814144=0): ∀k,k<8->x.testBit (8*k+7)=false:=by
 intro k hk
 have:(x&&&9259542123273814144).testBit (8*k+7)=false:=by rw[h];exact Nat.zero_testBit _
 rw[Nat.testBit_and] at this
 have hm: ∀k,k<8->(9259542123273814144:Nat).testBit (8*k+7)=true:=by decide
 rw[hm k hk,Bool.and_true] at this
 exact this
theorem Zaj{s:List UInt8}(h:w8 s&&&9259542123273814144=0): ∀i,i<8->Wo s i<128:=KH (FS h)
theorem mA{x y:Nat}(h:(x|||y)&&&9259542123273814144=0):(∀k,k<8->x.testBit (8*k+7)=false)∧ ∀k,k<8->y.testBit (8*k+7)=false:=by
 have:=FS h
 simp only[Nat.testBit_or,Rc] at this
 exact⟨λk hk=>(this k hk).1,λk hk=>(this k hk).2⟩
theorem iR{s:List UInt8}(h:(w8 s|||w8 (s.drop 8))&&&9259542123273814144=0): ∀i,i<16->Wo s i<128:=by
 obtain⟨a,b⟩:=mA h
 intro i hi
 by_cases h8:i<8
 ·exact KH a i h8
 ·have:=KH b (i - 8) (by omega)
  rw[JU,show 8+(i - 8)=i by omega] at this;exact this
theorem iS{s:List UInt8}(h:(w8 s|||w8 (s.drop 8)|||(w8 (s.drop 16)|||w8 (s.drop 24)))&&&9259542123273814144=0): ∀i,i<32->Wo s i<128:=by
 have:=FS h
 simp only[Nat.testBit_or,Rc] at this
 intro i hi
 by_cases h8:i<8
 ·exact KH (λk hk=>(this k hk).1.1) i h8
 by_cases h16:i<16
 ·have:=KH (λk hk=>(this k hk).1.2) (i - 8) (by omega)
  rw[JU,show 8+(i - 8)=i by omega] at this;exact this
 by_cases h24:i<24
 ·have:=KH (λk hk=>(this k hk).2.1) (i - 16) (by omega)
  rw[JU,show 16+(i - 16)=i by omega] at this;exact this
 ·have:=KH (λk hk=>(this k hk).2.2) (i - 24) (by omega)
  rw[JU,show 24+(i - 24)=i by omega] at this;exact this
theorem FO{a b:Nat}(ha:a<18446744073709551616)(hb:b<18446744073709551616)(H:Heap):Io T8 (nI .u64 a) (nI .u64 b) H=.val (nI .u64 (a&&&b)) H:=by
 show ZR (Nf .u64 .u64) (UV .u64 (.ofNat (Nat.land (a % 18446744073709551616) (b % 18446744073709551616))) H)=_
 rw[Wd,Xz,SE,ZU ha,ZU hb]
 show OR.val _ H=_
 rw[show Nat.land a b=a&&&b from rfl,ZU (Xd Nat.and_le_left ha)];rfl
theorem Jp{a b:Nat}(ha:a<18446744073709551616)(hb:b<18446744073709551616)(H:Heap):Io Oi (nI .u64 a) (nI .u64 b) H=.val (nI .u64 (a|||b)) H:=by
 show ZR (Nf .u64 .u64) (UV .u64 (.ofNat (Nat.lor (a % 18446744073709551616) (b % 18446744073709551616))) H)=_
 rw[Wd,Xz,SE,ZU ha,ZU hb]
 show OR.val _ H=_
 rw[show Nat.lor a b=a|||b from rfl,ZU (Nat.or_lt_two_pow (n:=64) ha hb)];rfl
theorem Kl{a:Nat}(ha:a<256)(H:Heap):Io T8 (nI .u8 a) (nI .u8 7) H=.val (nI .u8 (a % 8)) H:=by
 show ZR (Nf .u8 .u8) (UV .u8 (.ofNat (Nat.land (a % 256) (7 % 256))) H)=_
 rw[Wd,Xz,KI,ZU ha]
 show OR.val _ H=_
 rw[show Nat.land a (7 % 256)=a&&&(2^3 - 1) from rfl,Nat.and_two_pow_sub_one_eq_mod,ZU (show a % 2^3<256 by omega)];rfl
theorem tT{a:Nat}(ha:a<256)(H:Heap):LB .u64 (nI .u8 a) H=.val (nI .u64 a) H:=by
 unfold nI;rw[CS,Xz]
 show OR.val (.int .u64 (IntKind.u64.wrap (.ofNat a))) H=_
 rw[SE,ZU (by omega)]
theorem Sy{a:Nat}(ha:a<256)(H:Heap):LB .i64 (nI .u8 a) H=.val (nI .i64 a) H:=by
 unfold nI;rw[CS,Xz]
 show OR.val (.int .i64 (IntKind.i64.wrap (.ofNat a))) H=_
 rw[JP (by omega)]
theorem YB{s:List UInt8}{i:Nat}(h:i<s.length)(k:IntKind)(H:Heap):Ou (.str s) (nI k i) H=.val (nI .u8 (Wo s i)) H:=oq h k H
theorem Jq{a b:Nat}(ha:a<18446744073709551616)(hb:b<18446744073709551616):a|||b<18446744073709551616:=Nat.or_lt_two_pow (n:=64) ha hb
theorem rX(s:List UInt8)(i:Nat):Wo s i<18446744073709551616:=Qo (KJ s i) (by decide)
theorem O7(s:List UInt8):w8 s<18446744073709551616:=by
 unfold w8
 repeat' first|exact T5 _ (by decide)|exact rX _ _|apply Jq
theorem sW{a:Nat}(H:Heap):ui (nI .u8 a) (nI .u64 4) H=.val (nI .u8 (a/16)) H:=jM (by decide) H
def Pj(H:Heap):Prop:=100<=H.nx∧(∃r,H.t.get 1=some (.row r)∧Cells r (lH.map (nI .u8)))∧ ∃r,H.t.get 2=some (.row r)∧Cells r (Rb.map (nI .u8))
theorem Pj.keep{H H':Heap}(g:Pj H){S:List Nat}(k:ZE H H' S)(hS: ∀x∈S,100<=x):Pj H':=by
 obtain⟨h,⟨r,h1,h2⟩,e,h3,h4⟩:=g
 exact⟨YN h k.nx,⟨r,by rw[k.get _ (by omega) (λh=>by have:=hS _ h;omega)];exact h1,h2⟩,e,by rw[k.get _ (by omega) (λh=>by have:=hS _ h;omega)];exact h3,h4⟩
theorem Pj.keep0{H H':Heap}(g:Pj H)(k:ZE H H' []):Pj H':=g.keep k (by simp)
theorem Pj.fst{H:Heap}(g:Pj H): ∃r,H.t.get 1=some (.row r)∧ ∀(b:Nat) (G:Heap),b<256->ld1 (some (.row r)) b G=.val (nI .u8 (Se b)) G:=by
 obtain⟨_,⟨r,h1,h2⟩,_⟩:=g
 refine⟨r,h1,λb G hb=>?_⟩
 have hl:(lH.map (nI .u8)).length=256:=by rw[Zi];unfold lH;simp
 rw[Qr (by rw[h2.size,hl];exact hb),h2.get b (by rw[hl];exact hb)]
 congr 1
 rw[Zh,Z1];unfold lH
 rw[Z1,Wb hb];rfl
theorem Pj.acc{H:Heap}(g:Pj H): ∃r,H.t.get 2=some (.row r)∧ ∀(k:Nat) (G:Heap),k<16->Gv 2 (some (.row r)) (k*2) G=.val (.agg [nI .u8 (Rb.getD (k*2) 0),nI .u8 (Rb.getD (k*2+1) 0)]) G:=by
 obtain⟨_,_,r,h1,h2⟩:=g
 refine⟨r,h1,λk G hk=>?_⟩
 have hl:(Rb.map (nI .u8)).length=32:=rfl
 show ZR (Nat.ble (k*2+2) r.size) (OR.val (.agg (loadN r (k*2) 2)) G)=_
 rw[h2.size,hl,Zj (show k*2+2<=32 by omega),h2.load (by rw[hl];omega)]
 show OR.val _ G=_
 congr 2
 have:k=0∨k=1∨k=2∨k=3∨k=4∨k=5∨k=6∨k=7∨k=8∨k=9∨k=10∨k=11∨k=12∨k=13∨k=14∨k=15:=by omega
 rcases this with rfl|rfl|rfl|rfl|rfl|rfl|rfl|rfl|rfl|rfl|rfl|rfl|rfl|rfl|rfl|rfl<;>rfl
theorem qe(b:Nat):Se b<256:=by
 have: ∀(p:Prop) [Decidable p] (x y:Nat),x<256->y<256->(if p then x else y)<256:=λp _ x y h1 h2=>by split<;>assumption
 unfold Se
 repeat' first|apply this|decide
theorem Kj{n i sz:Nat}(h:i<n)(b o:Nat)(k:IntKind)(H:Heap):Gu n sz (.ptr b o) (nI k i) H=.val (.ptr b (o+i*sz)) H:=by
 show ZR (Nat.ble (Nat.succ i) n) (OR.val (.ptr b (Nat.add o (Nat.mul i sz))) H)=_
 rw[Zj (show Nat.succ i<=n from h)];rfl
theorem nZ{ZM:Lib}{fs:T CF}{fuel:Nat}(E:Env ZM fs fuel){n:Nat}{s:List UInt8}{H:Heap}(h:8<=s.length):
  ∃H',Yo (LK ZM fs fuel 0) fs fuel (n+2) 57 [.str s] H=.ret (nI .u64 (w8 s)) H'∧ZE H H' []:=by
 rw[YM (YW E.n57 (.inl (by decide)) _ _) E.f57]
 unfold w8
 simp(maxSteps:=4000000) (disch:=first|assumption|exact KJ _ _|((repeat' first|exact T5 _ (by decide)|exact rX _ _|apply Jq);done)|omega|(simp -implicitDefEqProofs only[ZA,ZB]<;>first|assumption|omega)|decide) only[YB,tT,nG,Jp,c57,Z4,Yr,Zy,Zz,Zk,Zm,Zl,Nat.reducePow,Nat.reduceDiv,Nat.reduceMod,Nat.reduceEqDiff,reduceCtorEq,Yu,VW]
 refine⟨_,rfl,?_⟩
 exact ZE.refl _ _
theorem AC{ZM:Lib}{fs:T CF}{fuel:Nat}(E:Env ZM fs fuel){k n:Nat}(hk:1<=k){s:List UInt8}{H:Heap}(h:8<=s.length):
  Yo (LK ZM fs fuel k) fs fuel (n+1) 57 [.str s] H=.ret (nI .u64 (w8 s)) H:=by
 obtain⟨H',e,g⟩:=nZ E (n:=898) (H:=H) h
 exact LD (r:=0) rfl rfl e g (rfl) hk
structure VI(H0:Heap)(s:List UInt8)(m:Nat)(tm:TM)(H:Heap):Prop where
 t: ∃t,ZO tm=.str t∧vu t=vu s∧t.length<=s.length∧m=t.length
 k:ZE H0 H []
theorem ZeT{ZM:Lib}{fs:T CF}{fuel:Nat}(E:Env ZM fs fuel){n:Nat}{H0:Heap}{s:List UInt8}(y f d r)(x:X)(m:Nat)(tm:TM)(H:Heap)(h:VI H0 s m tm H):
  ∃o tm' H',IT ⟨Yo (LK ZM fs fuel 1) fs fuel (n+1),y,f,d,r⟩ tm H x=.ok o tm' H' x∧((o=.normal∧ ∃k,k<m∧VI H0 s k tm' H')∨(o≠.normal∧o=.exit 2∧VI H0 s m tm' H')):=by
 obtain⟨⟨t,t0,hv,hl,rfl⟩,k⟩:=h
 have t0':=t0
 simp only[Ud] at t0
 by_cases h32:32<t.length
 ·have d32:decide (32<t.length)=true:=Zg h32
  have ew0:=λ{j}=>AC (ZM:=ZM) (fs:=fs) (fuel:=fuel) E (k:=1) (n:=j) (by decide) (s:=t) (H:=H) (by omega)
  have ew8:=λ{j}=>AC (ZM:=ZM) (fs:=fs) (fuel:=fuel) E (k:=1) (n:=j) (by decide) (s:=t.drop 8) (H:=H) (by rw[ZV];omega)
  have Zdk:=λ{j}=>AC (ZM:=ZM) (fs:=fs) (fuel:=fuel) E (k:=1) (n:=j) (by decide) (s:=t.drop 16) (H:=H) (by rw[ZV];omega)
  have Zdl:=λ{j}=>AC (ZM:=ZM) (fs:=fs) (fuel:=fuel) E (k:=1) (n:=j) (by decide) (s:=t.drop 24) (H:=H) (by rw[ZV];omega)
  have b1:=λ(G:Heap)=>Jp (a:=w8 t) (b:=w8 (t.drop 8)) (O7 _) (O7 _) G
  have b2:=λ(G:Heap)=>Jp (a:=w8 (t.drop 16)) (b:=w8 (t.drop 24)) (O7 _) (O7 _) G
  have b3:=λ(G:Heap)=>Jp (a:=w8 t|||w8 (t.drop 8)) (b:=w8 (t.drop 16)|||w8 (t.drop 24)) (Jq (O7 _) (O7 _)) (Jq (O7 _) (O7 _)) G
  have bm:=λ(G:Heap)=>FO (a:=w8 t|||w8 (t.drop 8)|||(w8 (t.drop 16)|||w8 (t.drop 24))) (b:=9259542123273814144) (Jq (Jq (O7 _) (O7 _)) (Jq (O7 _) (O7 _))) (by decide) G
  by_cases hm:(w8 t|||w8 (t.drop 8)|||(w8 (t.drop 16)|||w8 (t.drop 24)))&&&9259542123273814144=0
  ·have dm:decide ((w8 t|||w8 (t.drop 8)|||(w8 (t.drop 16)|||w8 (t.drop 24)))&&&9259542123273814144=0)=true:=Zg hm
   simp(maxSteps:=4000000) (disch:=first|assumption|omega|(simp -implicitDefEqProofs only[ZA,ZB]<;>first|assumption|omega)|decide) only[t0,d32,dm,ew0,ew8,Zdk,Zdl,b1,b2,b3,bm,Yf,Z9,Z2,YK,IT,Z4,Yr,Zy,Zz,Zk,Zm,Zl,Nat.reducePow,Nat.reduceDiv,Nat.reduceMod,Nat.reduceEqDiff,reduceCtorEq,Yu,VW,SF]
   refine⟨_,_,_,rfl,?_⟩
   exact .inl ⟨rfl,(t.drop 32).length,by rw[ZV];omega,⟨t.drop 32,(by simp only[Yu,Yr]),by rw[<-Fj 32 (by omega) (iS hm)];exact hv,by rw[ZV];omega,rfl⟩,k⟩
  ·have dm:decide ((w8 t|||w8 (t.drop 8)|||(w8 (t.drop 16)|||w8 (t.drop 24)))&&&9259542123273814144=0)=false:=Zd hm
   simp(maxSteps:=4000000) (disch:=first|assumption|omega|(simp -implicitDefEqProofs only[ZA,ZB]<;>first|assumption|omega)|decide) only[t0,d32,dm,ew0,ew8,Zdk,Zdl,b1,b2,b3,bm,Yf,Z9,Z2,YK,IT,Z4,Yr,Zy,Zz,Zk,Zm,Zl,Nat.reducePow,Nat.reduceDiv,Nat.reduceMod,Nat.reduceEqDiff,reduceCtorEq,Yu,VW,SF]
   refine⟨_,_,_,rfl,?_⟩
   exact .inr ⟨by simp,rfl,⟨t,(by simp only[Yu,Yr];exact t0),hv,hl,rfl⟩,k⟩
 ·have d32:decide (32<t.length)=false:=Zd h32
  simp(maxSteps:=4000000) (disch:=first|assumption|omega|(simp -implicitDefEqProofs only[ZA,ZB]<;>first|assumption|omega)|decide) only[t0,d32,Yf,Z9,Z2,YK,IT,Z4,Yr,Zy,Zz,Zk,Zm,Zl,Nat.reducePow,Nat.reduceDiv,Nat.reduceMod,Nat.reduceEqDiff,reduceCtorEq,Yu,VW,SF]
  refine⟨_,_,_,rfl,?_⟩
  exact .inr ⟨by simp,rfl,⟨t,(by simp only[Yu,Yr];exact t0),hv,hl,rfl⟩,k⟩
theorem Zce{ZM:Lib}{fs:T CF}{fuel:Nat}(E:Env ZM fs fuel){n:Nat}{H0:Heap}{z:List UInt8}{y d r}{x:X}{tm:TM}{H:Heap}{L:WS}(hL:Wu (IT ⟨Yo (LK ZM fs fuel 1) fs fuel (n+1),y,d,fuel,r⟩) fuel tm H x=L)(h0:ZO tm=.str z)(k:ZE H0 H [])(hz:z.length<fuel):
  ∃tm' H',L=.ok (.exit 2) tm' H' x∧ ∃t,ZO tm'=.str t∧vu t=vu z∧t.length<=z.length∧ZE H0 H' []:=by
 obtain⟨o,Pi,H1,e,_,rfl,m,⟨t,e1,e2,e3,_⟩,k1⟩:=Wv (VI H0 z) (λo tm H'=>o=.exit 2∧ ∃m,VI H0 z m tm H') (λm tm H' h=>by
  obtain⟨o,tm',H2,e,h2⟩:=ZeT E (n:=n) y d fuel r x m tm H' h
  refine⟨o,tm',H2,e,?_⟩
  rcases h2 with h2|⟨h2,h3,h4⟩
  ·exact .inl h2
  ·exact .inr ⟨h2,h3,m,h4⟩) fuel z.length tm H hz ⟨⟨z,h0,rfl,Zq _,rfl⟩,k⟩
 exact⟨Pi,H1,hL.symm.trans e,t,e1,e2,e3,k1⟩
theorem qY{s:List UInt8}(hb: ¬Wo s 0<128)(hx:Se (Wo s 0) % 8=2):SC s=if s.length<2∨Wo s 1<Rb.getD (Se (Wo s 0)/16*2) 0∨Rb.getD (Se (Wo s 0)/16*2+1) 0<Wo s 1 then 0 else 2:=by
 unfold SC;simp only;rw[if_neg hb,if_pos hx]
theorem qZ{s:List UInt8}(hb: ¬Wo s 0<128)(hx:Se (Wo s 0) % 8=3):SC s=if s.length<3∨Wo s 1<Rb.getD (Se (Wo s 0)/16*2) 0∨Rb.getD (Se (Wo s 0)/16*2+1) 0<Wo s 1∨Wo s 2<128∨191<Wo s 2 then 0 else 3:=by
 unfold SC;simp only;rw[if_neg hb,if_neg (by omega),if_pos hx]
theorem q8{s:List UInt8}(hb: ¬Wo s 0<128)(hx:Se (Wo s 0) % 8=4):SC s=if s.length<4∨Wo s 1<Rb.getD (Se (Wo s 0)/16*2) 0∨Rb.getD (Se (Wo s 0)/16*2+1) 0<Wo s 1∨Wo s 2<128∨191<Wo s 2∨Wo s 3<128∨191<Wo s 3 then 0 else 4:=by
 unfold SC;simp only;rw[if_neg hb,if_neg (by omega),if_neg (by omega),if_pos hx]
theorem eU{s:List UInt8}(hb: ¬Wo s 0<128)(h2: ¬Se (Wo s 0) % 8=2)(h3: ¬Se (Wo s 0) % 8=3)(h4: ¬Se (Wo s 0) % 8=4):SC s=0:=by
 unfold SC;simp only;rw[if_neg hb,if_neg h2,if_neg h3,if_neg h4]
theorem ii{t:List UInt8}{lo hi b6:Nat}{tm:TM}{H:Heap}{x:X}{cl y d fuel r}(t0:ZO tm=.str t)(t6:W2 tm=.ptr b6 0)(g6:H.t.get b6=some (rG 114 1 [nI .u8 lo,nI .u8 hi] 0 false true true))(lob:b6<H.nx):
  ∃o tm',LZ ⟨cl,y,d,fuel,r⟩ tm H x=.ok o tm' H x∧((o=.ret∧Xw tm'=.bool false∧(t.length<2∨Wo t 1<lo∨hi<Wo t 1))∨(o=.normal∧ZO tm'=.str (t.drop 2)∧ ¬(t.length<2∨Wo t 1<lo∨hi<Wo t 1))):=by
 simp only[Ud] at t0
 simp only[Nd] at t6
 by_cases p0:t.length<2
 ·have d_p0:decide (t.length<2)=true:=Zg p0
  simp(maxSteps:=4000000) (disch:=first|assumption|omega|(simp -implicitDefEqProofs only[ZA,ZB]<;>first|assumption|omega)|decide) only[t0,t6,g6,Z7,Zn,Z6,Z9,Z2,Zx,YK,YB,Yf,ZX,d_p0,LZ,Z4,Yr,Zy,Zz,Zk,Zm,Zl,Nat.reducePow,Nat.reduceDiv,Nat.reduceMod,Nat.reduceEqDiff,reduceCtorEq,Yu,SF,Nq]
  exact⟨_,_,rfl,.inl ⟨rfl,(by simp only[Yu,Yr]),(Or.inl p0)⟩⟩
 have d_p0:decide (t.length<2)=false:=Zd p0
 simp(maxSteps:=4000000) (disch:=first|assumption|omega|(simp -implicitDefEqProofs only[ZA,ZB]<;>first|assumption|omega)|decide) only[t0,t6,g6,Z7,Zn,Z6,Z9,Z2,Zx,YK,YB,Yf,ZX,d_p0,LZ,Z4,Yr,Zy,Zz,Zk,Zm,Zl,Nat.reducePow,Nat.reduceDiv,Nat.reduceMod,Nat.reduceEqDiff,reduceCtorEq,Yu,SF,Nq]
 by_cases p1:Wo t 1<lo
 ·have d_p1:decide (Wo t 1<lo)=true:=Zg p1
  simp(maxSteps:=4000000) (disch:=first|assumption|omega|(simp -implicitDefEqProofs only[ZA,ZB]<;>first|assumption|omega)|decide) only[t0,t6,g6,Z7,Zn,Z6,Z9,Z2,Zx,YK,YB,Yf,ZX,d_p1,LZ,Z4,Yr,Zy,Zz,Zk,Zm,Zl,Nat.reducePow,Nat.reduceDiv,Nat.reduceMod,Nat.reduceEqDiff,reduceCtorEq,Yu,SF,Nq]
  exact⟨_,_,rfl,.inl ⟨rfl,(by simp only[Yu,Yr]),(Or.inr (Or.inl p1))⟩⟩
 have d_p1:decide (Wo t 1<lo)=false:=Zd p1
 simp(maxSteps:=4000000) (disch:=first|assumption|omega|(simp -implicitDefEqProofs only[ZA,ZB]<;>first|assumption|omega)|decide) only[t0,t6,g6,Z7,Zn,Z6,Z9,Z2,Zx,YK,YB,Yf,ZX,d_p1,LZ,Z4,Yr,Zy,Zz,Zk,Zm,Zl,Nat.reducePow,Nat.reduceDiv,Nat.reduceMod,Nat.reduceEqDiff,reduceCtorEq,Yu,SF,Nq]
 by_cases p2:hi<Wo t 1
 ·have d_p2:decide (hi<Wo t 1)=true:=Zg p2
  simp(maxSteps:=4000000) (disch:=first|assumption|omega|(simp -implicitDefEqProofs only[ZA,ZB]<;>first|assumption|omega)|decide) only[t0,t6,g6,Z7,Zn,Z6,Z9,Z2,Zx,YK,YB,Yf,ZX,d_p2,LZ,Z4,Yr,Zy,Zz,Zk,Zm,Zl,Nat.reducePow,Nat.reduceDiv,Nat.reduceMod,Nat.reduceEqDiff,reduceCtorEq,Yu,SF,Nq]
  exact⟨_,_,rfl,.inl ⟨rfl,(by simp only[Yu,Yr]),(Or.inr (Or.inr p2))⟩⟩
 have d_p2:decide (hi<Wo t 1)=false:=Zd p2
 simp(maxSteps:=4000000) (disch:=first|assumption|omega|(simp -implicitDefEqProofs only[ZA,ZB]<;>first|assumption|omega)|decide) only[t0,t6,g6,Z7,Zn,Z6,Z9,Z2,Zx,YK,YB,Yf,ZX,d_p2,LZ,Z4,Yr,Zy,Zz,Zk,Zm,Zl,Nat.reducePow,Nat.reduceDiv,Nat.reduceMod,Nat.reduceEqDiff,reduceCtorEq,Yu,SF,Nq]
 exact⟨_,_,rfl,.inr ⟨rfl,(by simp only[Yu,Yr]),by rintro (h|h|h)<;>contradiction⟩⟩
theorem ij{t:List UInt8}{lo hi b6:Nat}{tm:TM}{H:Heap}{x:X}{cl y d fuel r}(t0:ZO tm=.str t)(t6:W2 tm=.ptr b6 0)(g6:H.t.get b6=some (rG 114 1 [nI .u8 lo,nI .u8 hi] 0 false true true))(lob:b6<H.nx):
  ∃o tm',P4 ⟨cl,y,d,fuel,r⟩ tm H x=.ok o tm' H x∧((o=.ret∧Xw tm'=.bool false∧(t.length<3∨Wo t 1<lo∨hi<Wo t 1∨Wo t 2<128∨191<Wo t 2))∨(o=.normal∧ZO tm'=.str (t.drop 3)∧ ¬(t.length<3∨Wo t 1<lo∨hi<Wo t 1∨Wo t 2<128∨191<Wo t 2))):=by
 simp only[Ud] at t0
 simp only[Nd] at t6
 by_cases p0:t.length<3
 ·have d_p0:decide (t.length<3)=true:=Zg p0
  simp(maxSteps:=4000000) (disch:=first|assumption|omega|(simp -implicitDefEqProofs only[ZA,ZB]<;>first|assumption|omega)|decide) only[t0,t6,g6,Z7,Zn,Z6,Z9,Z2,Zx,YK,YB,Yf,ZX,d_p0,P4,Z4,Yr,Zy,Zz,Zk,Zm,Zl,Nat.reducePow,Nat.reduceDiv,Nat.reduceMod,Nat.reduceEqDiff,reduceCtorEq,Yu,Nq]
  exact⟨_,_,rfl,.inl ⟨rfl,(by simp only[Yu,Yr]),(Or.inl p0)⟩⟩
 have d_p0:decide (t.length<3)=false:=Zd p0
 simp(maxSteps:=4000000) (disch:=first|assumption|omega|(simp -implicitDefEqProofs only[ZA,ZB]<;>first|assumption|omega)|decide) only[t0,t6,g6,Z7,Zn,Z6,Z9,Z2,Zx,YK,YB,Yf,ZX,d_p0,P4,Z4,Yr,Zy,Zz,Zk,Zm,Zl,Nat.reducePow,Nat.reduceDiv,Nat.reduceMod,Nat.reduceEqDiff,reduceCtorEq,Yu,Nq]
 by_cases p1:Wo t 1<lo
 ·have d_p1:decide (Wo t 1<lo)=true:=Zg p1
  simp(maxSteps:=4000000) (disch:=first|assumption|omega|(simp -implicitDefEqProofs only[ZA,ZB]<;>first|assumption|omega)|decide) only[t0,t6,g6,Z7,Zn,Z6,Z9,Z2,Zx,YK,YB,Yf,ZX,d_p1,P4,Z4,Yr,Zy,Zz,Zk,Zm,Zl,Nat.reducePow,Nat.reduceDiv,Nat.reduceMod,Nat.reduceEqDiff,reduceCtorEq,Yu,Nq]
  exact⟨_,_,rfl,.inl ⟨rfl,(by simp only[Yu,Yr]),(Or.inr (Or.inl p1))⟩⟩
 have d_p1:decide (Wo t 1<lo)=false:=Zd p1
 simp(maxSteps:=4000000) (disch:=first|assumption|omega|(simp -implicitDefEqProofs only[ZA,ZB]<;>first|assumption|omega)|decide) only[t0,t6,g6,Z7,Zn,Z6,Z9,Z2,Zx,YK,YB,Yf,ZX,d_p1,P4,Z4,Yr,Zy,Zz,Zk,Zm,Zl,Nat.reducePow,Nat.reduceDiv,Nat.reduceMod,Nat.reduceEqDiff,reduceCtorEq,Yu,Nq]
 by_cases p2:hi<Wo t 1
 ·have d_p2:decide (hi<Wo t 1)=true:=Zg p2
  simp(maxSteps:=4000000) (disch:=first|assumption|omega|(simp -implicitDefEqProofs only[ZA,ZB]<;>first|assumption|omega)|decide) only[t0,t6,g6,Z7,Zn,Z6,Z9,Z2,Zx,YK,YB,Yf,ZX,d_p2,P4,Z4,Yr,Zy,Zz,Zk,Zm,Zl,Nat.reducePow,Nat.reduceDiv,Nat.reduceMod,Nat.reduceEqDiff,reduceCtorEq,Yu,Nq]
  exact⟨_,_,rfl,.inl ⟨rfl,(by simp only[Yu,Yr]),(Or.inr (Or.inr (Or.inl p2)))⟩⟩
 have d_p2:decide (hi<Wo t 1)=false:=Zd p2
 simp(maxSteps:=4000000) (disch:=first|assumption|omega|(simp -implicitDefEqProofs only[ZA,ZB]<;>first|assumption|omega)|decide) only[t0,t6,g6,Z7,Zn,Z6,Z9,Z2,Zx,YK,YB,Yf,ZX,d_p2,P4,Z4,Yr,Zy,Zz,Zk,Zm,Zl,Nat.reducePow,Nat.reduceDiv,Nat.reduceMod,Nat.reduceEqDiff,reduceCtorEq,Yu,Nq]
 by_cases p3:Wo t 2<128
 ·have d_p3:decide (Wo t 2<128)=true:=Zg p3
  simp(maxSteps:=4000000) (disch:=first|assumption|omega|(simp -implicitDefEqProofs only[ZA,ZB]<;>first|assumption|omega)|decide) only[t0,t6,g6,Z7,Zn,Z6,Z9,Z2,Zx,YK,YB,Yf,ZX,d_p3,P4,Z4,Yr,Zy,Zz,Zk,Zm,Zl,Nat.reducePow,Nat.reduceDiv,Nat.reduceMod,Nat.reduceEqDiff,reduceCtorEq,Yu,Nq]
  exact⟨_,_,rfl,.inl ⟨rfl,(by simp only[Yu,Yr]),(Or.inr (Or.inr (Or.inr (Or.inl p3))))⟩⟩
 have d_p3:decide (Wo t 2<128)=false:=Zd p3
 simp(maxSteps:=4000000) (disch:=first|assumption|omega|(simp -implicitDefEqProofs only[ZA,ZB]<;>first|assumption|omega)|decide) only[t0,t6,g6,Z7,Zn,Z6,Z9,Z2,Zx,YK,YB,Yf,ZX,d_p3,P4,Z4,Yr,Zy,Zz,Zk,Zm,Zl,Nat.reducePow,Nat.reduceDiv,Nat.reduceMod,Nat.reduceEqDiff,reduceCtorEq,Yu,Nq]
 by_cases p4:191<Wo t 2
 ·have d_p4:decide (191<Wo t 2)=true:=Zg p4
  simp(maxSteps:=4000000) (disch:=first|assumption|omega|(simp -implicitDefEqProofs only[ZA,ZB]<;>first|assumption|omega)|decide) only[t0,t6,g6,Z7,Zn,Z6,Z9,Z2,Zx,YK,YB,Yf,ZX,d_p4,P4,Z4,Yr,Zy,Zz,Zk,Zm,Zl,Nat.reducePow,Nat.reduceDiv,Nat.reduceMod,Nat.reduceEqDiff,reduceCtorEq,Yu,Nq]
  exact⟨_,_,rfl,.inl ⟨rfl,(by simp only[Yu,Yr]),(Or.inr (Or.inr (Or.inr (Or.inr p4))))⟩⟩
 have d_p4:decide (191<Wo t 2)=false:=Zd p4
 simp(maxSteps:=4000000) (disch:=first|assumption|omega|(simp -implicitDefEqProofs only[ZA,ZB]<;>first|assumption|omega)|decide) only[t0,t6,g6,Z7,Zn,Z6,Z9,Z2,Zx,YK,YB,Yf,ZX,d_p4,P4,Z4,Yr,Zy,Zz,Zk,Zm,Zl,Nat.reducePow,Nat.reduceDiv,Nat.reduceMod,Nat.reduceEqDiff,reduceCtorEq,Yu,Nq]
 exact⟨_,_,rfl,.inr ⟨rfl,(by simp only[Yu,Yr]),by rintro (h|h|h|h|h)<;>contradiction⟩⟩
theorem ik{t:List UInt8}{lo hi b6:Nat}{tm:TM}{H:Heap}{x:X}{cl y d fuel r}(t0:ZO tm=.str t)(t6:W2 tm=.ptr b6 0)(g6:H.t.get b6=some (rG 114 1 [nI .u8 lo,nI .u8 hi] 0 false true true))(lob:b6<H.nx):
  ∃o tm',RY ⟨cl,y,d,fuel,r⟩ tm H x=.ok o tm' H x∧((o=.ret∧Xw tm'=.bool false∧(t.length<4∨Wo t 1<lo∨hi<Wo t 1∨Wo t 2<128∨191<Wo t 2∨Wo t 3<128∨191<Wo t 3))∨(o=.normal∧ZO tm'=.str (t.drop 4)∧ ¬(t.length<4∨Wo t 1<lo∨hi<Wo t 1∨Wo t 2<128∨191<Wo t 2∨Wo t 3<128∨191<Wo t 3))):=by
 simp only[Ud] at t0
 simp only[Nd] at t6
 by_cases p0:t.length<4
 ·have d_p0:decide (t.length<4)=true:=Zg p0
  simp(maxSteps:=4000000) (disch:=first|assumption|omega|(simp -implicitDefEqProofs only[ZA,ZB]<;>first|assumption|omega)|decide) only[t0,t6,g6,Z7,Zn,Z6,Z9,Z2,Zx,YK,YB,Yf,ZX,d_p0,RY,Z4,Yr,Zy,Zz,Zk,Zm,Zl,Nat.reducePow,Nat.reduceDiv,Nat.reduceMod,Nat.reduceEqDiff,reduceCtorEq,Yu,Il,yC]
  exact⟨_,_,rfl,.inl ⟨rfl,(by simp only[Yu,Yr]),(Or.inl p0)⟩⟩
 have d_p0:decide (t.length<4)=false:=Zd p0
 simp(maxSteps:=4000000) (disch:=first|assumption|omega|(simp -implicitDefEqProofs only[ZA,ZB]<;>first|assumption|omega)|decide) only[t0,t6,g6,Z7,Zn,Z6,Z9,Z2,Zx,YK,YB,Yf,ZX,d_p0,RY,Z4,Yr,Zy,Zz,Zk,Zm,Zl,Nat.reducePow,Nat.reduceDiv,Nat.reduceMod,Nat.reduceEqDiff,reduceCtorEq,Yu,Il,yC]
 by_cases p1:Wo t 1<lo
 ·have d_p1:decide (Wo t 1<lo)=true:=Zg p1
  simp(maxSteps:=4000000) (disch:=first|assumption|omega|(simp -implicitDefEqProofs only[ZA,ZB]<;>first|assumption|omega)|decide) only[t0,t6,g6,Z7,Zn,Z6,Z9,Z2,Zx,YK,YB,Yf,ZX,d_p1,RY,Z4,Yr,Zy,Zz,Zk,Zm,Zl,Nat.reducePow,Nat.reduceDiv,Nat.reduceMod,Nat.reduceEqDiff,reduceCtorEq,Yu,Il,yC]
  exact⟨_,_,rfl,.inl ⟨rfl,(by simp only[Yu,Yr]),(Or.inr (Or.inl p1))⟩⟩
 have d_p1:decide (Wo t 1<lo)=false:=Zd p1
 simp(maxSteps:=4000000) (disch:=first|assumption|omega|(simp -implicitDefEqProofs only[ZA,ZB]<;>first|assumption|omega)|decide) only[t0,t6,g6,Z7,Zn,Z6,Z9,Z2,Zx,YK,YB,Yf,ZX,d_p1,RY,Z4,Yr,Zy,Zz,Zk,Zm,Zl,Nat.reducePow,Nat.reduceDiv,Nat.reduceMod,Nat.reduceEqDiff,reduceCtorEq,Yu,Il,yC]
 by_cases p2:hi<Wo t 1
 ·have d_p2:decide (hi<Wo t 1)=true:=Zg p2
  simp(maxSteps:=4000000) (disch:=first|assumption|omega|(simp -implicitDefEqProofs only[ZA,ZB]<;>first|assumption|omega)|decide) only[t0,t6,g6,Z7,Zn,Z6,Z9,Z2,Zx,YK,YB,Yf,ZX,d_p2,RY,Z4,Yr,Zy,Zz,Zk,Zm,Zl,Nat.reducePow,Nat.reduceDiv,Nat.reduceMod,Nat.reduceEqDiff,reduceCtorEq,Yu,Il,yC]
  exact⟨_,_,rfl,.inl ⟨rfl,(by simp only[Yu,Yr]),(Or.inr (Or.inr (Or.inl p2)))⟩⟩
 have d_p2:decide (hi<Wo t 1)=false:=Zd p2
 simp(maxSteps:=4000000) (disch:=first|assumption|omega|(simp -implicitDefEqProofs only[ZA,ZB]<;>first|assumption|omega)|decide) only[t0,t6,g6,Z7,Zn,Z6,Z9,Z2,Zx,YK,YB,Yf,ZX,d_p2,RY,Z4,Yr,Zy,Zz,Zk,Zm,Zl,Nat.reducePow,Nat.reduceDiv,Nat.reduceMod,Nat.reduceEqDiff,reduceCtorEq,Yu,Il,yC]
 by_cases p3:Wo t 2<128
 ·have d_p3:decide (Wo t 2<128)=true:=Zg p3
  simp(maxSteps:=4000000) (disch:=first|assumption|omega|(simp -implicitDefEqProofs only[ZA,ZB]<;>first|assumption|omega)|decide) only[t0,t6,g6,Z7,Zn,Z6,Z9,Z2,Zx,YK,YB,Yf,ZX,d_p3,RY,Z4,Yr,Zy,Zz,Zk,Zm,Zl,Nat.reducePow,Nat.reduceDiv,Nat.reduceMod,Nat.reduceEqDiff,reduceCtorEq,Yu,Il,yC]
  exact⟨_,_,rfl,.inl ⟨rfl,(by simp only[Yu,Yr]),(Or.inr (Or.inr (Or.inr (Or.inl p3))))⟩⟩
 have d_p3:decide (Wo t 2<128)=false:=Zd p3
 simp(maxSteps:=4000000) (disch:=first|assumption|omega|(simp -implicitDefEqProofs only[ZA,ZB]<;>first|assumption|omega)|decide) only[t0,t6,g6,Z7,Zn,Z6,Z9,Z2,Zx,YK,YB,Yf,ZX,d_p3,RY,Z4,Yr,Zy,Zz,Zk,Zm,Zl,Nat.reducePow,Nat.reduceDiv,Nat.reduceMod,Nat.reduceEqDiff,reduceCtorEq,Yu,Il,yC]
 by_cases p4:191<Wo t 2
 ·have d_p4:decide (191<Wo t 2)=true:=Zg p4
  simp(maxSteps:=4000000) (disch:=first|assumption|omega|(simp -implicitDefEqProofs only[ZA,ZB]<;>first|assumption|omega)|decide) only[t0,t6,g6,Z7,Zn,Z6,Z9,Z2,Zx,YK,YB,Yf,ZX,d_p4,RY,Z4,Yr,Zy,Zz,Zk,Zm,Zl,Nat.reducePow,Nat.reduceDiv,Nat.reduceMod,Nat.reduceEqDiff,reduceCtorEq,Yu,Il,yC]
  exact⟨_,_,rfl,.inl ⟨rfl,(by simp only[Yu,Yr]),(Or.inr (Or.inr (Or.inr (Or.inr (Or.inl p4)))))⟩⟩
 have d_p4:decide (191<Wo t 2)=false:=Zd p4
 simp(maxSteps:=4000000) (disch:=first|assumption|omega|(simp -implicitDefEqProofs only[ZA,ZB]<;>first|assumption|omega)|decide) only[t0,t6,g6,Z7,Zn,Z6,Z9,Z2,Zx,YK,YB,Yf,ZX,d_p4,RY,Z4,Yr,Zy,Zz,Zk,Zm,Zl,Nat.reducePow,Nat.reduceDiv,Nat.reduceMod,Nat.reduceEqDiff,reduceCtorEq,Yu,Il,yC]
 by_cases p5:Wo t 3<128
 ·have d_p5:decide (Wo t 3<128)=true:=Zg p5
  simp(maxSteps:=4000000) (disch:=first|assumption|omega|(simp -implicitDefEqProofs only[ZA,ZB]<;>first|assumption|omega)|decide) only[t0,t6,g6,Z7,Zn,Z6,Z9,Z2,Zx,YK,YB,Yf,ZX,d_p5,RY,Z4,Yr,Zy,Zz,Zk,Zm,Zl,Nat.reducePow,Nat.reduceDiv,Nat.reduceMod,Nat.reduceEqDiff,reduceCtorEq,Yu,Il,yC]
  exact⟨_,_,rfl,.inl ⟨rfl,(by simp only[Yu,Yr]),(Or.inr (Or.inr (Or.inr (Or.inr (Or.inr (Or.inl p5))))))⟩⟩
 have d_p5:decide (Wo t 3<128)=false:=Zd p5
 simp(maxSteps:=4000000) (disch:=first|assumption|omega|(simp -implicitDefEqProofs only[ZA,ZB]<;>first|assumption|omega)|decide) only[t0,t6,g6,Z7,Zn,Z6,Z9,Z2,Zx,YK,YB,Yf,ZX,d_p5,RY,Z4,Yr,Zy,Zz,Zk,Zm,Zl,Nat.reducePow,Nat.reduceDiv,Nat.reduceMod,Nat.reduceEqDiff,reduceCtorEq,Yu,Il,yC]
 by_cases p6:191<Wo t 3
 ·have d_p6:decide (191<Wo t 3)=true:=Zg p6
  simp(maxSteps:=4000000) (disch:=first|assumption|omega|(simp -implicitDefEqProofs only[ZA,ZB]<;>first|assumption|omega)|decide) only[t0,t6,g6,Z7,Zn,Z6,Z9,Z2,Zx,YK,YB,Yf,ZX,d_p6,RY,Z4,Yr,Zy,Zz,Zk,Zm,Zl,Nat.reducePow,Nat.reduceDiv,Nat.reduceMod,Nat.reduceEqDiff,reduceCtorEq,Yu,Il,yC]
  exact⟨_,_,rfl,.inl ⟨rfl,(by simp only[Yu,Yr]),(Or.inr (Or.inr (Or.inr (Or.inr (Or.inr (Or.inr p6))))))⟩⟩
 have d_p6:decide (191<Wo t 3)=false:=Zd p6
 simp(maxSteps:=4000000) (disch:=first|assumption|omega|(simp -implicitDefEqProofs only[ZA,ZB]<;>first|assumption|omega)|decide) only[t0,t6,g6,Z7,Zn,Z6,Z9,Z2,Zx,YK,YB,Yf,ZX,d_p6,RY,Z4,Yr,Zy,Zz,Zk,Zm,Zl,Nat.reducePow,Nat.reduceDiv,Nat.reduceMod,Nat.reduceEqDiff,reduceCtorEq,Yu,Il,yC]
 exact⟨_,_,rfl,.inr ⟨rfl,(by simp only[Yu,Yr]),by rintro (h|h|h|h|h|h|h)<;>contradiction⟩⟩
theorem Zcf{ZM:Lib}{fs:T CF}{fuel:Nat}(E:Env ZM fs fuel){n:Nat}{H0:Heap}{s:List UInt8}(g:Pj H0)(hro:H0.ro<=H0.nx)(hs:s.length<99998)(y d r)(x:X)(m:Nat)(tm:TM)(H:Heap)(h:VI H0 s m tm H):
  ∃o tm' H',RX ⟨Yo (LK ZM fs fuel 1) fs fuel (n+1),y,d,fuel,r⟩ tm H x=.ok o tm' H' x∧((o=.normal∧ ∃k,k<m∧VI H0 s k tm' H')∨(o≠.normal∧((o=.ret∧Xw tm'=.bool (vu s)∧ZE H0 H' [])∨(o=.exit 0∧vu s=true∧ZE H0 H' [])))):=by
 obtain⟨⟨t,t0,hv,hl,rfl⟩,k⟩:=h
 have t0':=t0
 simp only[Ud] at t0
 by_cases h0:0<t.length
 ·have d_h0:decide (0<t.length)=true:=Zg h0
  by_cases ha:Wo t 0<128
  ·have d_ha:decide (Wo t 0<128)=true:=Zg ha
   have hv1:vu (t.drop 1)=vu s:=by rw[<-hv,Dr (s:=t) (by omega),EO ha,if_neg (by decide)]
   have hl1:(t.drop 1).length<t.length:=by rw[ZV];omega
   have hu:=λ(G:Heap)=>Yf (s:=t) (p:=1) (by omega) .i64 G
   generalize t.drop 1=u at hv1 hl1 hu
   by_cases u8:8<u.length
   ·have d_u8:decide (8<u.length)=true:=Zg u8
    have ew0:=λ{j}=>AC (ZM:=ZM) (fs:=fs) (fuel:=fuel) E (k:=1) (n:=j) (by decide) (s:=u) (H:=H) (by omega)
    have bm0:=λ(G:Heap)=>FO (a:=w8 u) (b:=9259542123273814144) (O7 _) (by decide) G
    by_cases m8:w8 u&&&9259542123273814144=0
    ·have d_m8:decide (w8 u&&&9259542123273814144=0)=true:=Zg m8
     have hv8:vu (u.drop 8)=vu s:=by rw[<-Fj 8 (by omega) (Zaj m8)];exact hv1
     have ol:(u.drop 8).length<u.length:=by rw[ZV];omega
     have hu8:=λ(G:Heap)=>Yf (s:=u) (p:=8) (by omega) .i64 G
     generalize u.drop 8=w at hv8 ol hu8
     by_cases w16:16<w.length
     ·have d_w16:decide (16<w.length)=true:=Zg w16
      have ev0:=λ{j}=>AC (ZM:=ZM) (fs:=fs) (fuel:=fuel) E (k:=1) (n:=j) (by decide) (s:=w) (H:=H) (by omega)
      have ev8:=λ{j}=>AC (ZM:=ZM) (fs:=fs) (fuel:=fuel) E (k:=1) (n:=j) (by decide) (s:=w.drop 8) (H:=H) (by rw[ZV];omega)
      have hw8:=λ(G:Heap)=>Yf (s:=w) (p:=8) (by omega) .i64 G
      have b1:=λ(G:Heap)=>Jp (a:=w8 w) (b:=w8 (w.drop 8)) (O7 _) (O7 _) G
      have bm1:=λ(G:Heap)=>FO (a:=w8 w|||w8 (w.drop 8)) (b:=9259542123273814144) (Jq (O7 _) (O7 _)) (by decide) G
      by_cases m16:(w8 w|||w8 (w.drop 8))&&&9259542123273814144=0
      ·have d_m16:decide ((w8 w|||w8 (w.drop 8))&&&9259542123273814144=0)=true:=Zg m16
       have Zd5:vu (w.drop 16)=vu s:=by rw[<-Fj 16 (by omega) (iR m16)];exact hv8
       have ZdO:(w.drop 16).length<w.length:=by rw[ZV];omega
       have Zd4:=λ(G:Heap)=>Yf (s:=w) (p:=16) (by omega) .i64 G
       generalize w.drop 16=z at Zd5 ZdO Zd4
       simp(maxSteps:=4000000) (disch:=first|assumption|omega|(simp -implicitDefEqProofs only[ZA,ZB]<;>first|assumption|omega)|decide) only[t0,d_h0,d_ha,Z9,Z2,Zx,YK,YB,hu,Yf,d_u8,ew0,bm0,d_m8,hu8,d_w16,ev0,ev8,hw8,b1,bm1,d_m16,Zd4,RX,Z4,Yr,Zy,Zz,Zk,Zm,Zl,Nat.reducePow,Nat.reduceDiv,Nat.reduceMod,Nat.reduceEqDiff,reduceCtorEq,Yu,VW,SF,Nq,Il]
       generalize hL:Wu (IT _) fuel _ _ _=L
       obtain⟨Pi,H1,rfl,t1,e1,hv2,hl2,k1⟩:=Zce E (z:=z) hL rfl k (by have:=E.big;omega)
       simp(maxSteps:=4000000) (disch:=first|assumption|omega|(simp -implicitDefEqProofs only[ZA,ZB]<;>first|assumption|omega)|decide) only[RX,Z4,Yr,Zy,Zz,Zk,Zm,Zl,Nat.reducePow,Nat.reduceDiv,Nat.reduceMod,Nat.reduceEqDiff,reduceCtorEq,Yu,VW,SF,Nq,Il]
       refine⟨_,_,_,rfl,?_⟩
       exact .inl ⟨rfl,t1.length,by omega,⟨t1,e1,hv2.trans Zd5,by omega,rfl⟩,k1⟩
      ·have d_m16:decide ((w8 w|||w8 (w.drop 8))&&&9259542123273814144=0)=false:=Zd m16
       simp(maxSteps:=4000000) (disch:=first|assumption|omega|(simp -implicitDefEqProofs only[ZA,ZB]<;>first|assumption|omega)|decide) only[t0,d_h0,d_ha,Z9,Z2,Zx,YK,YB,hu,Yf,d_u8,ew0,bm0,d_m8,hu8,d_w16,ev0,ev8,hw8,b1,bm1,d_m16,RX,Z4,Yr,Zy,Zz,Zk,Zm,Zl,Nat.reducePow,Nat.reduceDiv,Nat.reduceMod,Nat.reduceEqDiff,reduceCtorEq,Yu,VW,SF,Nq,Il]
       refine⟨_,_,_,rfl,?_⟩
       exact .inl ⟨rfl,w.length,by omega,⟨w,(by simp only[Yu,Yr]),hv8,by omega,rfl⟩,k⟩
     ·have d_w16:decide (16<w.length)=false:=Zd w16
      simp(maxSteps:=4000000) (disch:=first|assumption|omega|(simp -implicitDefEqProofs only[ZA,ZB]<;>first|assumption|omega)|decide) only[t0,d_h0,d_ha,Z9,Z2,Zx,YK,YB,hu,Yf,d_u8,ew0,bm0,d_m8,hu8,d_w16,RX,Z4,Yr,Zy,Zz,Zk,Zm,Zl,Nat.reducePow,Nat.reduceDiv,Nat.reduceMod,Nat.reduceEqDiff,reduceCtorEq,Yu,VW,SF,Nq,Il]
      refine⟨_,_,_,rfl,?_⟩
      exact .inl ⟨rfl,w.length,by omega,⟨w,(by simp only[Yu,Yr]),hv8,by omega,rfl⟩,k⟩
    ·have d_m8:decide (w8 u&&&9259542123273814144=0)=false:=Zd m8
     simp(maxSteps:=4000000) (disch:=first|assumption|omega|(simp -implicitDefEqProofs only[ZA,ZB]<;>first|assumption|omega)|decide) only[t0,d_h0,d_ha,Z9,Z2,Zx,YK,YB,hu,Yf,d_u8,ew0,bm0,d_m8,RX,Z4,Yr,Zy,Zz,Zk,Zm,Zl,Nat.reducePow,Nat.reduceDiv,Nat.reduceMod,Nat.reduceEqDiff,reduceCtorEq,Yu,VW,SF,Nq,Il]
     refine⟨_,_,_,rfl,?_⟩
     exact .inl ⟨rfl,u.length,hl1,⟨u,(by simp only[Yu,Yr]),hv1,by omega,rfl⟩,k⟩
   ·have d_u8:decide (8<u.length)=false:=Zd u8
    simp(maxSteps:=4000000) (disch:=first|assumption|omega|(simp -implicitDefEqProofs only[ZA,ZB]<;>first|assumption|omega)|decide) only[t0,d_h0,d_ha,Z9,Z2,Zx,YK,YB,hu,Yf,d_u8,RX,Z4,Yr,Zy,Zz,Zk,Zm,Zl,Nat.reducePow,Nat.reduceDiv,Nat.reduceMod,Nat.reduceEqDiff,reduceCtorEq,Yu,VW,SF,Nq,Il]
    refine⟨_,_,_,rfl,?_⟩
    exact .inl ⟨rfl,u.length,hl1,⟨u,(by simp only[Yu,Yr]),hv1,by omega,rfl⟩,k⟩
  ·have d_ha:decide (Wo t 0<128)=false:=Zd ha
   have hb256:=KJ t 0
   have ZdI:=qe (Wo t 0)
   have hroH:H.ro<=H.nx:=by rw[k.ro];exact YN hro k.nx
   have hx16:Se (Wo t 0)/16<16:=by have:=qe (Wo t 0);omega
   obtain⟨rF,gF,lF⟩:=(g.keep0 k).fst
   obtain⟨rA,gA,lA⟩:=(g.keep0 k).acc
   have lF:=λ(G:Heap)=>lF (Wo t 0) G hb256
   have lA:=λ(G:Heap)=>lA (Se (Wo t 0)/16) G hx16
   generalize hfx:Se (Wo t 0)=fx at lF lA hx16 ZdI
   generalize hlo:Rb.getD (fx/16*2) 0=lo at lA
   generalize hhi:Rb.getD (fx/16*2+1) 0=hi at lA
   have nxH:100<=H.nx:=(g.keep0 k).1
   have kk:ZE H0 (H.new (rG 114 1 [nI .u8 lo,nI .u8 hi] 0 false true true)) []:=k.then_new _
   simp(maxSteps:=4000000) (disch:=first|assumption|omega|(simp -implicitDefEqProofs only[ZA,ZB]<;>first|assumption|omega)|decide) only[t0,d_h0,Z9,Z2,Zx,YK,YB,Yf,d_ha,Y0,Z6,Yq,gF,lF,gA,lA,Kl,Sy,sW,Vd,Kj,KB,N4,Km,ZX,nxH,RX,Z4,Yr,Zy,Zz,Zk,Zm,Zl,Nat.reducePow,Nat.reduceDiv,Nat.reduceMod,Nat.reduceEqDiff,reduceCtorEq,Yu,VW,SF,Nq,Il]
   by_cases q2:fx % 8=2
   ·have d_q2:decide (fx % 8=2)=true:=Zg q2
    simp(maxSteps:=4000000) (disch:=first|assumption|omega|(simp -implicitDefEqProofs only[ZA,ZB]<;>first|assumption|omega)|decide) only[t0,d_h0,Z9,Z2,Zx,YK,YB,Yf,d_q2,Y0,Z6,Yq,gF,lF,gA,lA,Kl,Sy,sW,Vd,Kj,KB,N4,Km,ZX,nxH,RX,Z4,Yr,Zy,Zz,Zk,Zm,Zl,Nat.reducePow,Nat.reduceDiv,Nat.reduceMod,Nat.reduceEqDiff,reduceCtorEq,Yu,VW,SF,Nq,Il]
    generalize hS:LZ _ _ _ _=L
    obtain⟨o,Pi,rfl,hq⟩: ∃o Pi,L=.ok o Pi (H.new (rG 114 1 [nI .u8 lo,nI .u8 hi] 0 false true true)) x∧((o=.ret∧Xw Pi=.bool false∧(t.length<2∨Wo t 1<lo∨hi<Wo t 1))∨(o=.normal∧ZO Pi=.str (t.drop 2)∧ ¬(t.length<2∨Wo t 1<lo∨hi<Wo t 1))):=by
     rw[<-hS]
     exact ii (t:=t) (lo:=lo) (hi:=hi) (b6:=H.nx) ((by simp only[Yu,Yr];exact t0)) (by simp only[Yu,Yr]) (Z3 rfl _) (Yq _)
    rcases hq with⟨rfl,h2,hb⟩|⟨rfl,h0',hb⟩
    ·simp only[Ru] at h2
     simp(maxSteps:=4000000) (disch:=first|assumption|omega|(simp -implicitDefEqProofs only[ZA,ZB]<;>first|assumption|omega)|decide) only[h2,Z4,Yr,Zy,Zz,Zk,Zm,Zl,Nat.reducePow,Nat.reduceDiv,Nat.reduceMod,Nat.reduceEqDiff,reduceCtorEq]
     refine⟨_,_,_,rfl,?_⟩
     exact .inr ⟨by simp,.inl ⟨rfl,by rw[<-hv,AB h0 (by rw[qY ha (by rw[hfx];exact q2),hfx,hlo,hhi];exact if_pos hb)];exact h2,kk⟩⟩
    ·have h00:=h0'
     simp only[Ud] at h0'
     simp(maxSteps:=4000000) (disch:=first|assumption|omega|(simp -implicitDefEqProofs only[ZA,ZB]<;>first|assumption|omega)|decide) only[h0',Z4,Yr,Zy,Zz,Zk,Zm,Zl,Nat.reducePow,Nat.reduceDiv,Nat.reduceMod,Nat.reduceEqDiff,reduceCtorEq]
     refine⟨_,_,_,rfl,?_⟩
     exact .inl ⟨rfl,(t.drop 2).length,by rw[ZV];omega,⟨t.drop 2,h00,by rw[<-hv,Dq h0 (n:=2) (by rw[qY ha (by rw[hfx];exact q2),hfx,hlo,hhi];exact if_neg hb) (by decide)],by rw[ZV];omega,rfl⟩,kk⟩
   have d_q2:decide (fx % 8=2)=false:=Zd q2
   simp(maxSteps:=4000000) (disch:=first|assumption|omega|(simp -implicitDefEqProofs only[ZA,ZB]<;>first|assumption|omega)|decide) only[t0,d_h0,Z9,Z2,Zx,YK,YB,Yf,d_q2,Y0,Z6,Yq,gF,lF,gA,lA,Kl,Sy,sW,Vd,Kj,KB,N4,Km,ZX,nxH,RX,Z4,Yr,Zy,Zz,Zk,Zm,Zl,Nat.reducePow,Nat.reduceDiv,Nat.reduceMod,Nat.reduceEqDiff,reduceCtorEq,Yu,VW,SF,Nq,Il]
   by_cases q3:fx % 8=3
   ·have d_q3:decide (fx % 8=3)=true:=Zg q3
    simp(maxSteps:=4000000) (disch:=first|assumption|omega|(simp -implicitDefEqProofs only[ZA,ZB]<;>first|assumption|omega)|decide) only[t0,d_h0,Z9,Z2,Zx,YK,YB,Yf,d_q3,Y0,Z6,Yq,gF,lF,gA,lA,Kl,Sy,sW,Vd,Kj,KB,N4,Km,ZX,nxH,RX,Z4,Yr,Zy,Zz,Zk,Zm,Zl,Nat.reducePow,Nat.reduceDiv,Nat.reduceMod,Nat.reduceEqDiff,reduceCtorEq,Yu,VW,SF,Nq,Il]
    generalize hS:P4 _ _ _ _=L
    obtain⟨o,Pi,rfl,hq⟩: ∃o Pi,L=.ok o Pi (H.new (rG 114 1 [nI .u8 lo,nI .u8 hi] 0 false true true)) x∧((o=.ret∧Xw Pi=.bool false∧(t.length<3∨Wo t 1<lo∨hi<Wo t 1∨Wo t 2<128∨191<Wo t 2))∨(o=.normal∧ZO Pi=.str (t.drop 3)∧ ¬(t.length<3∨Wo t 1<lo∨hi<Wo t 1∨Wo t 2<128∨191<Wo t 2))):=by
     rw[<-hS]
     exact ij (t:=t) (lo:=lo) (hi:=hi) (b6:=H.nx) ((by simp only[Yu,Yr];exact t0)) (by simp only[Yu,Yr]) (Z3 rfl _) (Yq _)
    rcases hq with⟨rfl,h2,hb⟩|⟨rfl,h0',hb⟩
    ·simp only[Ru] at h2
     simp(maxSteps:=4000000) (disch:=first|assumption|omega|(simp -implicitDefEqProofs only[ZA,ZB]<;>first|assumption|omega)|decide) only[h2,Z4,Yr,Zy,Zz,Zk,Zm,Zl,Nat.reducePow,Nat.reduceDiv,Nat.reduceMod,Nat.reduceEqDiff,reduceCtorEq]
     refine⟨_,_,_,rfl,?_⟩
     exact .inr ⟨by simp,.inl ⟨rfl,by rw[<-hv,AB h0 (by rw[qZ ha (by rw[hfx];exact q3),hfx,hlo,hhi];exact if_pos hb)];exact h2,kk⟩⟩
    ·have h00:=h0'
     simp only[Ud] at h0'
     simp(maxSteps:=4000000) (disch:=first|assumption|omega|(simp -implicitDefEqProofs only[ZA,ZB]<;>first|assumption|omega)|decide) only[h0',Z4,Yr,Zy,Zz,Zk,Zm,Zl,Nat.reducePow,Nat.reduceDiv,Nat.reduceMod,Nat.reduceEqDiff,reduceCtorEq]
     refine⟨_,_,_,rfl,?_⟩
     exact .inl ⟨rfl,(t.drop 3).length,by rw[ZV];omega,⟨t.drop 3,h00,by rw[<-hv,Dq h0 (n:=3) (by rw[qZ ha (by rw[hfx];exact q3),hfx,hlo,hhi];exact if_neg hb) (by decide)],by rw[ZV];omega,rfl⟩,kk⟩
   have d_q3:decide (fx % 8=3)=false:=Zd q3
   simp(maxSteps:=4000000) (disch:=first|assumption|omega|(simp -implicitDefEqProofs only[ZA,ZB]<;>first|assumption|omega)|decide) only[t0,d_h0,Z9,Z2,Zx,YK,YB,Yf,d_q3,Y0,Z6,Yq,gF,lF,gA,lA,Kl,Sy,sW,Vd,Kj,KB,N4,Km,ZX,nxH,RX,Z4,Yr,Zy,Zz,Zk,Zm,Zl,Nat.reducePow,Nat.reduceDiv,Nat.reduceMod,Nat.reduceEqDiff,reduceCtorEq,Yu,VW,SF,Nq,Il]
   by_cases q4:fx % 8=4
   ·have d_q4:decide (fx % 8=4)=true:=Zg q4
    simp(maxSteps:=4000000) (disch:=first|assumption|omega|(simp -implicitDefEqProofs only[ZA,ZB]<;>first|assumption|omega)|decide) only[t0,d_h0,Z9,Z2,Zx,YK,YB,Yf,d_q4,Y0,Z6,Yq,gF,lF,gA,lA,Kl,Sy,sW,Vd,Kj,KB,N4,Km,ZX,nxH,RX,Z4,Yr,Zy,Zz,Zk,Zm,Zl,Nat.reducePow,Nat.reduceDiv,Nat.reduceMod,Nat.reduceEqDiff,reduceCtorEq,Yu,VW,SF,Nq,Il]
    generalize hS:RY _ _ _ _=L
    obtain⟨o,Pi,rfl,hq⟩: ∃o Pi,L=.ok o Pi (H.new (rG 114 1 [nI .u8 lo,nI .u8 hi] 0 false true true)) x∧((o=.ret∧Xw Pi=.bool false∧(t.length<4∨Wo t 1<lo∨hi<Wo t 1∨Wo t 2<128∨191<Wo t 2∨Wo t 3<128∨191<Wo t 3))∨(o=.normal∧ZO Pi=.str (t.drop 4)∧ ¬(t.length<4∨Wo t 1<lo∨hi<Wo t 1∨Wo t 2<128∨191<Wo t 2∨Wo t 3<128∨191<Wo t 3))):=by
     rw[<-hS]
     exact ik (t:=t) (lo:=lo) (hi:=hi) (b6:=H.nx) ((by simp only[Yu,Yr];exact t0)) (by simp only[Yu,Yr]) (Z3 rfl _) (Yq _)
    rcases hq with⟨rfl,h2,hb⟩|⟨rfl,h0',hb⟩
    ·simp only[Ru] at h2
     simp(maxSteps:=4000000) (disch:=first|assumption|omega|(simp -implicitDefEqProofs only[ZA,ZB]<;>first|assumption|omega)|decide) only[h2,Z4,Yr,Zy,Zz,Zk,Zm,Zl,Nat.reducePow,Nat.reduceDiv,Nat.reduceMod,Nat.reduceEqDiff,reduceCtorEq]
     refine⟨_,_,_,rfl,?_⟩
     exact .inr ⟨by simp,.inl ⟨rfl,by rw[<-hv,AB h0 (by rw[q8 ha (by rw[hfx];exact q4),hfx,hlo,hhi];exact if_pos hb)];exact h2,kk⟩⟩
    ·have h00:=h0'
     simp only[Ud] at h0'
     simp(maxSteps:=4000000) (disch:=first|assumption|omega|(simp -implicitDefEqProofs only[ZA,ZB]<;>first|assumption|omega)|decide) only[h0',Z4,Yr,Zy,Zz,Zk,Zm,Zl,Nat.reducePow,Nat.reduceDiv,Nat.reduceMod,Nat.reduceEqDiff,reduceCtorEq]
     refine⟨_,_,_,rfl,?_⟩
     exact .inl ⟨rfl,(t.drop 4).length,by rw[ZV];omega,⟨t.drop 4,h00,by rw[<-hv,Dq h0 (n:=4) (by rw[q8 ha (by rw[hfx];exact q4),hfx,hlo,hhi];exact if_neg hb) (by decide)],by rw[ZV];omega,rfl⟩,kk⟩
   have d_q4:decide (fx % 8=4)=false:=Zd q4
   simp(maxSteps:=4000000) (disch:=first|assumption|omega|(simp -implicitDefEqProofs only[ZA,ZB]<;>first|assumption|omega)|decide) only[t0,d_h0,Z9,Z2,Zx,YK,YB,Yf,d_q4,Y0,Z6,Yq,gF,lF,gA,lA,Kl,Sy,sW,Vd,Kj,KB,N4,Km,ZX,nxH,RX,Z4,Yr,Zy,Zz,Zk,Zm,Zl,Nat.reducePow,Nat.reduceDiv,Nat.reduceMod,Nat.reduceEqDiff,reduceCtorEq,Yu,VW,SF,Nq,Il]
   refine⟨_,_,_,rfl,?_⟩
   exact .inr ⟨by simp,.inl ⟨rfl,by rw[<-hv,AB h0 (eU ha (by rw[hfx];exact q2) (by rw[hfx];exact q3) (by rw[hfx];exact q4))];simp only[Yu,Yr],kk⟩⟩
 ·have d_h0:decide (0<t.length)=false:=Zd h0
  simp(maxSteps:=4000000) (disch:=first|assumption|omega|(simp -implicitDefEqProofs only[ZA,ZB]<;>first|assumption|omega)|decide) only[t0,d_h0,Z9,Z2,RX,Z4,Yr,Zy,Zz,Zk,Zm,Zl,Nat.reducePow,Nat.reduceDiv,Nat.reduceMod,Nat.reduceEqDiff,reduceCtorEq,Yu,VW,SF,Nq,Il]
  have:t=[]:=We.1 (by omega)
  subst this
  refine⟨_,_,_,rfl,?_⟩
  exact .inr ⟨by simp,.inr ⟨rfl,hv.symm.trans rz|>.symm▸rfl,k⟩⟩
theorem ig{ZM:Lib}{fs:T CF}{fuel:Nat}(E:Env ZM fs fuel){n:Nat}{s:List UInt8}{H:Heap}(g:Pj H)(hro:H.ro<=H.nx)(hs:s.length<99998):
  ∃H',Yo (LK ZM fs fuel 1) fs fuel (n+2) 38 [.str s] H=.ret (.bool (vu s)) H'∧ZE H H' []:=by
 rw[YM (YW E.n38 (.inl (by decide)) _ _) E.f38]
 simp(disch:=first|assumption|omega|(simp -implicitDefEqProofs only[ZA,ZB]<;>first|assumption|omega)|decide) only[c38,Z4,Yr,Zy,Zz,Zk,Zm,Zl,Nat.reduceEqDiff,reduceCtorEq,Yu]
 generalize hL:Wu (RX _) fuel _ _ _=L
 obtain⟨o,Pi,H1,rfl,_,hq⟩:=X9 (P:=λT=>VI H s s.length T H) (Q:=λo tm H'=>(o=.ret∧Xw tm=.bool (vu s)∧ZE H H' [])∨(o=.exit 0∧vu s=true∧ZE H H' []))
  (λT hi'=>Wv (VI H s) (λo tm H'=>(o=.ret∧Xw tm=.bool (vu s)∧ZE H H' [])∨(o=.exit 0∧vu s=true∧ZE H H' [])) (λm tm H' h=>Zcf E g hro hs _ _ _ _ m tm H' h) fuel s.length T H (by have:=E.big;omega) hi') hL
  ⟨⟨s,rfl,rfl,Zq _,rfl⟩,ZE.refl _ _⟩
 rcases hq with⟨rfl,h2,k⟩|⟨rfl,h2,k⟩
 ·simp only[Ru] at h2
  simp(disch:=first|assumption|omega|(simp -implicitDefEqProofs only[ZA,ZB]<;>first|assumption|omega)|decide) only[h2,c38,Z4,Yr,Zy,Zz,Zk,Zm,Zl,Nat.reduceEqDiff,reduceCtorEq,Yu]
  refine⟨_,rfl,?_⟩
  exact k
 ·rw[h2]
  simp(disch:=first|assumption|omega|(simp -implicitDefEqProofs only[ZA,ZB]<;>first|assumption|omega)|decide) only[c38,Z4,Yr,Zy,Zz,Zk,Zm,Zl,Nat.reduceEqDiff,reduceCtorEq,Yu]
  refine⟨_,rfl,?_⟩
  exact k
theorem Zhs{ZM:Lib}{fs:T CF}{fuel:Nat}(E:Env ZM fs fuel){k n:Nat}(hk:2<=k){s:List UInt8}{H:Heap}(g:Pj H)(hro:H.ro<=H.nx)(hs:s.length<99998):
  Yo (LK ZM fs fuel k) fs fuel (n+1) 38 [.str s] H=.ret (.bool (vu s)) H:=by
 obtain⟨H',e,g⟩:=ig E (n:=898) (H:=H) g hro hs
 exact LD (r:=1) rfl rfl e g (rfl) hk
end
end Go.AI
