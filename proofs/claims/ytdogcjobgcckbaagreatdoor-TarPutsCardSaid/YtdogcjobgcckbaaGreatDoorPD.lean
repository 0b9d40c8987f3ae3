/- A head of one block: walked: proved without conditions but those that each names. -/
import Derived.Test.YtdogcjobgcckbaaGreatDoorPC
set_option maxRecDepth 1000000
set_option maxHeartbeats 0
set_option linter.unusedVariables false
set_option linter.unusedSimpArgs false
namespace Go.AI
open Go
noncomputable section
section
variable {Zn:Lib} {fs:T CF} {fuel k n i h b:Nat} {H H0:Heap} {s:List UInt8} {cs:List AV}
def VR(s:List UInt8):List UInt8×List UInt8×Bool:=
 if s.length<=100 then([],s,true)
 else if VF 47 (s.take (min (s.length - 1) 156))=0 then([],[112,97,120],false)
 else if 100<s.length - (VF 47 (s.take (min (s.length - 1) 156)) - 1) - 1 then([],[112,97,120],false)
 else(s.take (VF 47 (s.take (min (s.length - 1) 156)) - 1),s.drop (VF 47 (s.take (min (s.length - 1) 156))),true)
def W0(kd:Int)(p:List UInt8):List UInt8:=if kd=1 then p++[47] else p
theorem kF(E:Env Zn fs fuel)(hs:s.length<=90000):
  ∃H',ZE (LK Zn fs fuel 3) fs fuel (n+2) 42 [.str s] H=.ret (.tup [.str (VR s).1,.str (VR s).2.1,.bool (VR s).2.2]) H'∧Zs H H' []:=by
 rw[ZI (ZA E.n42 (.inl (by decide)) _ _) E.f42]
 by_cases h1:s.length<=100
 ·have d1:decide (s.length<=100)=true:=Ze h1
  rw[show VR s=([],s,true) by unfold VR;rw[if_pos h1]]
  simp only[d1,Yt,ZG,Yt,c42,Zu,Ye,Zw,Z6]
  refine⟨_,rfl,?_⟩
  exact Zs.refl _ _
 have d1:decide (s.length<=100)=false:=Zb h1
 have sb: ∀G,M6 (nI .i64 s.length) (nI .i64 1) G=.val (nI .i64 (s.length - 1)) G:=λG=>XL (by omega) (by omega) G
 have el:=λ{j}=>ZdG E (k:=3) (n:=j) (by decide) (s:=s.take (min (s.length - 1) 156)) (x:=47) (H:=H) (by rw[ZC];omega)
 have hc:=IC 47 (s.take (min (s.length - 1) 156))
 rw[ZC] at hc
 unfold VR
 rw[if_neg h1]
 generalize VF 47 (s.take (min (s.length - 1) 156))=q at*
 by_cases h2:q=0
 ·have d2:decide (q=0)=true:=Ze h2
  rw[if_pos h2]
  simp(disch:=omega) only[d1,sb,el,d2,Yt,ZG,Us,eV,Yt,MM,S7,Us,c42,Zu,Ye,Zw,Z8,Z6]
  refine⟨_,rfl,?_⟩
  exact Zs.refl _ _
 rw[if_neg h2]
 obtain⟨p,rfl⟩: ∃p,q=p+1:=⟨q - 1,by omega⟩
 have mi:mI (p+1)=nI .i64 p:=rfl
 rw[mi] at el
 have dz:decide (p<0)=false:=Zb (T4 _)
 have sb2: ∀G,M6 (nI .i64 s.length) (nI .i64 p) G=.val (nI .i64 (s.length - p)) G:=λG=>XL (by omega) (by omega) G
 have sb3: ∀G,M6 (nI .i64 (s.length - p)) (nI .i64 1) G=.val (nI .i64 (s.length - p - 1)) G:=λG=>XL (by omega) (by omega) G
 rw[Wk]
 by_cases h3:100<s.length - p - 1
 ·have d3:decide (100<s.length - p - 1)=true:=Ze h3
  rw[if_pos h3]
  simp(disch:=omega) only[d1,sb,el,dz,sb2,sb3,d3,Yt,Zy,Z3,ZG,Us,Zy,Z3,Yt,MM,S7,Us,c42,Zu,Ye,Zw,Z8,Z6]
  refine⟨_,rfl,?_⟩
  exact Zs.refl _ _
 have d3:decide (100<s.length - p - 1)=false:=Zb h3
 rw[if_neg h3]
 simp(disch:=omega) only[d1,sb,el,dz,sb2,sb3,d3,Yt,Zy,Z3,YI,ZG,Ur,Us,ZD,ZM,Zy,Z3,Yt,MM,S7,Us,Ur,YI,c42,Zu,Ye,Zw,Z8,Yp,Z6,Vk]
 refine⟨_,rfl,?_⟩
 exact Zs.refl _ _
theorem ZiL(E:Env Zn fs fuel)(hk:4<=k)(hs:s.length<=90000):
  ZE (LK Zn fs fuel k) fs fuel (n+1) 42 [.str s] H=.ret (.tup [.str (VR s).1,.str (VR s).2.1,.bool (VR s).2.2]) H:=by
 obtain⟨H',e,g⟩:=kF E (n:=898) (H:=H) hs
 exact Yl (r:=3) rfl rfl e g (rfl) hk
theorem vQ(E:Env Zn fs fuel){p lk:List UInt8}{kd ti:Int}{mo ui gi:Nat}{av dv:AV}(hp:p.length<=90000):
  ∃H',ZE (LK Zn fs fuel k) fs fuel (n+1) 43 [.agg [.str p,.int .i64 kd,nI .u32 mo,nI .u32 ui,nI .u32 gi,.int .i64 ti,av,dv,.str lk]] H=.ret (.str (W0 kd p)) H'∧Zs H H' []:=by
 rw[ZI (ZA E.n43 (.inr rfl) _ _) E.f43]
 have bx: ∀G:Heap,Ni 36 (.agg [.str p,.int .i64 kd,nI .u32 mo,nI .u32 ui,nI .u32 gi,.int .i64 ti,av,dv,.str lk]) G=.val (.ptr G.nx 0) (G.new (rH 36 [.str p,.int .i64 kd,nI .u32 mo,nI .u32 ui,nI .u32 gi,.int .i64 ti,av,dv,.str lk])):=λG=>XS (l:=[.str p,.int .i64 kd,nI .u32 mo,nI .u32 ui,nI .u32 gi,.int .i64 ti,av,dv,.str lk]) (show 1<=9 by decide) 36 G
 have gz:=λ(G:Heap)=>ZW (H:=G) rfl (rH 36 [.str p,.int .i64 kd,nI .u32 mo,nI .u32 ui,nI .u32 gi,.int .i64 ti,av,dv,.str lk])
 have l0: ∀G,ld1 (some (rH 36 [.str p,.int .i64 kd,nI .u32 mo,nI .u32 ui,nI .u32 gi,.int .i64 ti,av,dv,.str lk])) 0 G=.val (.str p) G:=λG=>rfl
 have l1: ∀G,ld1 (some (rH 36 [.str p,.int .i64 kd,nI .u32 mo,nI .u32 ui,nI .u32 gi,.int .i64 ti,av,dv,.str lk])) 1 G=.val (.int .i64 kd) G:=λG=>rfl
 have ad:=λG=>VU (a:=p) (b:=[47]) (by show _+1<=_;omega) G
 have eqk: ∀G,N6 Vp false (.int .i64 kd) (nI .i64 1) G=.val (.bool (decide (kd=1))) G:=λG=>S1 _ _ _ _
 by_cases h1:kd=1
 ·have d1:decide (kd=1)=true:=Ze h1
  rw[show W0 kd p=p++[47] by unfold W0;rw[if_pos h1]]
  simp only[bx,gz,l0,l1,ad,eqk,d1,Wd,Zg,Zd,Zd,Zg,Zd,Zg,c43,Zu,Ye,Zw,Z6]
  refine⟨_,rfl,?_⟩
  exact Zs.new _ _ _
 ·have d1:decide (kd=1)=false:=Zb h1
  rw[show W0 kd p=p by unfold W0;rw[if_neg h1]]
  simp only[bx,gz,l0,l1,eqk,d1,Wd,Zg,Zd,Zd,Zg,Zd,Zg,c43,Zu,Ye,Zw,Z6]
  refine⟨_,rfl,?_⟩
  exact Zs.new _ _ _
theorem Znt(E:Env Zn fs fuel)(hk:4<=k){z:Int}(g:Pv H)(hro:H.ro<=H.nx)(hz1: -9223372036854775808<=z)(hz2:z<=9223372036854775807):
  ZE (LK Zn fs fuel k) fs fuel (n+2) 44 [.int .i64 z] H=.ret (.str (SQ z)) H:=by
 rw[ZI (ZA E.n44 (.inr rfl) _ _) E.f44]
 have e1:=λ{j}=>gf E (k:=k) (n:=j) hk (z:=z) (H:=H) g hro hz1 (by omega)
 simp only[e1,c44,Zu,Ye,Zw,Z6]
def aj(H:Heap)(q lo:Nat)(l:List NP):Prop:= ∃w,H.t.get q=some (rH 49 [w])∧RM H w 81 2 (V8 l) lo∧q<lo∧H.ro<=q∧lo<=H.nx
theorem aj.keep{H H':Heap}{q lo:Nat}{l:List NP}{S:List Nat}(h:aj H q lo l)(k:Zs H H' S)(hS: ∀x∈S,x<lo∧x≠q):aj H' q lo l:=by
 obtain⟨w,h1,h2,h3,h4,h5⟩:=h
 refine⟨w,by rw[k.get q (by omega) (λh=>(hS q h).2 rfl)];exact h1,h2.below (λc hc hlt=>k.get c hlt λh=>by have:=(hS c h).1;omega) k.ro k.nx,h3,by rw[k.ro];exact h4,Z5 h5 k.nx⟩
theorem aj.put{q lo c:Nat}{l:List NP}{r:Row}{o:Obj}(h:aj H q lo l)(hc:H.t.get c=some (.row r))(he:r.exact=true)(hq:c≠q):aj (H.put c o) q lo l:=by
 obtain⟨w,h1,h2,h3,h4,h5⟩:=h
 refine⟨w,by rw[Nm hq];exact h1,?_,h3,h4,h5⟩
 rcases h2 with hw2|⟨g1,b0,r0,g2,g3,g4⟩
 ·exact .inl hw2
 ·refine .inr ⟨g1,b0,r0,g2,g3.moved (Nm (λe=>?_) ..) rfl (Zp _),g4⟩
  rw[e] at hc
  have:=g3.at_.symm.trans hc
  cases this
  rw[g3.exact_] at he;cases he
theorem dg(E:Env Zn fs fuel){q lo:Nat}{l:List NP}{a b:List UInt8}(h:aj H q lo l)(hl:l.length<=1000):
  ∃H' S,ZE (LK Zn fs fuel k) fs fuel (n+1) 41 [.str a,.str b,.ptr q 0] H=.ret (.tup []) H'∧Zs H H' S∧(∀x∈S,x=q∨lo<=x∧ ∃r,H.t.get x=some (.row r)∧r.exact=false)∧aj H' q lo (l++[(a,b)]):=by
 rw[ZI (ZA E.n41 (.inr rfl) _ _) E.f41]
 obtain⟨w,h1,h2,h3,h4,h5⟩:=h
 obtain⟨lw,sw,cw,bw⟩:=Sx h2
 obtain⟨w',H2,ea,w2,k2,hb2,n2⟩:=uq (bytes:=32) h2 (by decide) (by decide) (by rw[XK];omega) (by omega) (by omega) (x:=[.str a,.str b]) rfl
 have bs: ∀G,UU 81 2 1 [.str [],.str []] [(0,2,.agg [.str a,.str b])] G=.val (.slice G.nx 0 1 none) (G.new (rG 81 2 [.str a,.str b] 0 false true true)):=λ_=>rfl
 have b2: ∀G,Q1 [.str [],.str []] [(0,1,.str a),(1,1,.str b)] G=.val (.agg [.str a,.str b]) G:=λ_=>rfl
 have lq: ∀G,ld1 (some (rH 49 [w])) 0 G=.val w G:=λG=>WH (YM 0) ..
 have gq2:H2.t.get q=some (rH 49 [w]):=by rw[k2.get _ (by omega) (λh=>by have:=(bw _ h).1;omega)];exact h1
 obtain⟨_,_,cw',bw'⟩:=Sx w2
 have sq:tp 1 (some (rH 49 [w])) q 0 w' H2=.val Xz (H2.put q (rH 49 [w'])):=by
  rw[LH cw' (YM 0) (by rw[k2.ro];exact h4) (ZZ _)];rfl
 simp only[h1,lq,bs,b2,ea,gq2,sq,Ys,Up,Ys,Ya,ZD,ZM,c41,Zu,Ye,Zw,Z6]
 refine⟨_,q::XP w,rfl,?_,λx hx=>?_,w',Xw ..,?_,h3,?_,?_⟩
 ·exact(⟨k2.nx,k2.ro,λc hc hn=>k2.get c hc λh=>hn (Zz _ h)⟩:Zs H H2 (q::XP w)).then_put (λ_=>Zt ..)
 ·rcases ZO.1 hx with rfl|hx
  ·exact .inl rfl
  ·refine .inr ⟨(bw _ hx).1,?_⟩
   rcases h2 with⟨_,rfl⟩|⟨_,b0,r0,rfl,hr,_⟩
   ·cases hx
   ·obtain rfl:x=b0:=by simpa [XP] using hx
    exact⟨r0,hr.at_,hr.exact_⟩
 ·rw[FZ]
  rcases w2 with hw2|⟨h1,b0,r0,h2,h3,h4⟩
  ·exact .inl hw2
  ·exact .inr ⟨h1,b0,r0,h2,h3.moved (Nm (by omega) ..) rfl (Zp _),h4⟩
 ·show H2.ro<=q;rw[k2.ro];exact h4
 ·have:=k2.nx;show lo<=H2.nx;omega
theorem jJ(x y z:AV):[x,y]++[z]=[x,y,z]:=rfl
theorem K1{a:TM->Heap->X->WM}{x:X}{S:WM}{P:TM->Prop}{Q:TM->Heap->Prop}(lp: ∀T,P T-> ∃tm' H',a T H x=.ok .ret tm' H' x∧Q tm' H'){T:TM}(hS:a T H x=S)(hi:P T):
  ∃tm' H',S=.ok .ret tm' H' x∧Q tm' H':=by
 obtain⟨b,c,e,j⟩:=lp T hi
 exact⟨b,c,hS.symm.trans e,j⟩
structure HS(H0:Heap)(mb nd b q:Nat)(p lk:List UInt8)(kd ti:Int)(mo ui gi:Nat)(av dv:AV)(L:List UInt8)(Rs:List NP)(H:Heap):Prop where
 k:Zs H0 H []
 g:Sd H
 m:H.t.get mb=some (rH 36 [.str p,.int .i64 kd,nI .u32 mo,nI .u32 ui,nI .u32 gi,.int .i64 ti,av,dv,.str lk])
 n:H.t.get nd=some (rH 34 [.int .i64 kd,nI .u32 mo,nI .u32 ui,nI .u32 gi,.int .i64 ti,av,dv,.str lk])
 hr:HR H b L
 bx:aj H q (q+1) Rs
 o0:100<=H0.nx
 o1:H0.nx<=mb
 o2:mb<nd
 o3:nd<b
 o4:b<q
theorem HS.upd{mb nd q:Nat}{p lk:List UInt8}{kd ti:Int}{mo ui gi:Nat}{av dv:AV}{L L':List UInt8}{Rs Rs':List NP}{H H':Heap}{S:List Nat}(h:HS H0 mb nd b q p lk kd ti mo ui gi av dv L Rs H)(k:Zs H H' S)(hS: ∀x∈S,x=b∨x=q∨q+1<=x)(hr:HR H' b L')(bx:aj H' q (q+1) Rs'):HS H0 mb nd b q p lk kd ti mo ui gi av dv L' Rs' H':=by
 obtain⟨h1,h2,h3,h4,h5,h6,h70,h7,h8,h9,h10⟩:=h
 have hlt:=h5.lt
 have hq:q<H.nx:=by
  obtain⟨w,_,_,_,_,h⟩:=h6
  omega
 have ho: ∀x∈S,H0.nx<=x:=λx hx=>by rcases hS x hx with h|h|h<;>omega
 exact⟨h1.trans k (λc hc hlt=>by have:=ho c hc;omega),h2.keep k (λx hx=>by rcases hS x hx with h|h|h<;>omega),
  by rw[k.get mb (by omega) (λh=>by rcases hS _ h with h|h|h<;>omega)];exact h3,
  by rw[k.get nd (by omega) (λh=>by rcases hS _ h with h|h|h<;>omega)];exact h4,hr,bx,h70,h7,h8,h9,h10⟩
theorem HS.keep0{mb nd q:Nat}{p lk:List UInt8}{kd ti:Int}{mo ui gi:Nat}{av dv:AV}{L:List UInt8}{Rs:List NP}{H H':Heap}(h:HS H0 mb nd b q p lk kd ti mo ui gi av dv L Rs H)(k:Zs H H' []):HS H0 mb nd b q p lk kd ti mo ui gi av dv L Rs H':=
 h.upd k (λx hx=>by cases hx) (h.hr.keep0 k) (h.bx.keep k λx hx=>by cases hx)
theorem y7(E:Env Zn fs fuel)(hk:4<=k){mb nd q:Nat}{p lk:List UInt8}{kd ti:Int}{mo ui gi:Nat}{av dv:AV}{L:List UInt8}{Rs:List NP}(h:HS H0 mb nd b q p lk kd ti mo ui gi av dv L Rs H){nm:List UInt8}{a m:Nat}(F:Av nm a m)(hs:s.length<=90000):
  ∃H',ZE (LK Zn fs fuel k) fs fuel (n+4) 22 [.ptr b 0,.str nm,.str s] H=.ret (.tup []) H'∧HS H0 mb nd b q p lk kd ti mo ui gi av dv (Ti L a m (Qg s m)) Rs H':=by
 obtain⟨H',e,k1,r⟩:=BW E (n:=n) hk h.g F h.hr hs
 have:=h.o4
 exact⟨H',e,h.upd k1 (λx hx=>.inl (Zq.1 hx)) r (h.bx.keep k1 λx hx=>by have:=Zq.1 hx;omega)⟩
theorem y6(E:Env Zn fs fuel)(hk:4<=k){mb nd q:Nat}{p lk:List UInt8}{kd ti:Int}{mo ui gi:Nat}{av dv:AV}{L:List UInt8}{Rs:List NP}(h:HS H0 mb nd b q p lk kd ti mo ui gi av dv L Rs H){nm:List UInt8}{u a m:Nat}(F:Av nm a m)(hu:u<9223372036854775808)(h3:2<=m)(h4:m<=20):
  ∃H',ZE (LK Zn fs fuel k) fs fuel (n+4) 23 [.ptr b 0,.str nm,nI .i64 u] H=.ret (.tup []) H'∧HS H0 mb nd b q p lk kd ti mo ui gi av dv (Ti L a m (Py u m)) Rs H':=by
 obtain⟨H',e,k1,r⟩:=Jf E (n:=n) hk h.g F h.hr hu h3 h4
 have:=h.o4
 exact⟨H',e,h.upd k1 (λx hx=>.inl (Zq.1 hx)) r (h.bx.keep k1 λx hx=>by have:=Zq.1 hx;omega)⟩
theorem Db(E:Env Zn fs fuel){mb nd q:Nat}{p lk:List UInt8}{kd ti:Int}{mo ui gi:Nat}{av dv:AV}{L:List UInt8}{Rs:List NP}(h:HS H0 mb nd b q p lk kd ti mo ui gi av dv L Rs H)(hl:Rs.length<=1000){x y:List UInt8}:
  ∃H',ZE (LK Zn fs fuel k) fs fuel (n+1) 41 [.str x,.str y,.ptr q 0] H=.ret (.tup []) H'∧HS H0 mb nd b q p lk kd ti mo ui gi av dv L (Rs++[(x,y)]) H'∧H.nx<=H'.nx∧ ∀c r,c<H.nx->c≠q->H.t.get c=some (.row r)->r.exact=true->H'.t.get c=some (.row r):=by
 obtain⟨H',S,e,k1,hS,r⟩:=dg E (n:=n) h.bx hl (a:=x) (b:=y)
 have:=h.o4
 refine⟨H',e,h.upd k1 (λx hx=>.inr ((hS x hx).imp id λh=>h.1)) (h.hr.keep k1 λhx=>by rcases hS _ hx with h|⟨h,_⟩<;>omega) r,k1.nx,λc r hc hq hr he=>?_⟩
 rw[k1.get c hc λhx=>?_]
 ·exact hr
 ·rcases hS c hx with h|⟨_,r',h1,h2⟩
  ·exact hq h
  ·rw[hr] at h1;cases h1;rw[he] at h2;cases h2
theorem HS.put{mb nd q:Nat}{p lk:List UInt8}{kd ti:Int}{mo ui gi:Nat}{av dv:AV}{L:List UInt8}{Rs:List NP}{c:Nat}{r:Row}{o:Obj}(h:HS H0 mb nd b q p lk kd ti mo ui gi av dv L Rs H)(hc:H.t.get c=some (.row r))(he:r.exact=true)(hq:q+1<=c)(hlt:c<H.nx):HS H0 mb nd b q p lk kd ti mo ui gi av dv L Rs (H.put c o):=by
 have:=h.o4
 have kp:Zs H (H.put c o) [c]:=Zs.put λ_=>Zq.2 rfl
 exact h.upd kp (λx hx=>by have:=Zq.1 hx;omega) (h.hr.keep kp λhx=>by have:=Zq.1 hx;omega) (h.bx.put hc he (by omega))
theorem ZaP(E:Env Zn fs fuel)(hk:4<=k){mb nd q:Nat}{p lk:List UInt8}{kd ti:Int}{mo ui gi:Nat}{av dv:AV}{L:List UInt8}{Rs:List NP}(h:HS H0 mb nd b q p lk kd ti mo ui gi av dv L Rs H):
  ∃H',ZE (LK Zn fs fuel k) fs fuel (n+5) 24 [.ptr b 0] H=.ret (.tup []) H'∧HS H0 mb nd b q p lk kd ti mo ui gi av dv (J6 L) Rs H':=by
 obtain⟨H',e,k1,r⟩:=uH E (n:=n) hk h.g h.hr
 have:=h.o4
 exact⟨H',e,h.upd k1 (λx hx=>.inl (Zq.1 hx)) r (h.bx.keep k1 λx hx=>by have:=Zq.1 hx;omega)⟩
structure jz(mb nd b q:Nat)(tm:TM):Prop where
 t1:Wc tm=.ptr mb 0
 t4:Y4 tm=.ptr nd 0
 t5:YW tm=.ptr b 0
 t6:XI tm=.ptr q 0
 t7:XQ tm=.func 41 [] [.ptr q 0]
def Aw(H0:Heap)(mb nd b q:Nat)(p lk:List UInt8)(kd ti:Int)(mo ui gi:Nat)(av dv:AV)(L:List UInt8)(Rs:List NP)(tm:TM)(H:Heap):Prop:=VX tm=.ptr b 0∧HS H0 mb nd b q p lk kd ti mo ui gi av dv L Rs H∧ ∃w,W8 tm=w∧RM H w 81 2 (V8 Rs) (q+1)
theorem Zgo(E:Env Zn fs fuel)(hk:4<=k){mb nd q:Nat}{p lk:List UInt8}{kd ti:Int}{mo ui gi:Nat}{av dv:AV}{L:List UInt8}{Rs:List NP}(h:HS H0 mb nd b q p lk kd ti mo ui gi av dv L Rs H)(y f qq)(X0:X)(tm:TM)(ht:jz mb nd b q tm):
  ∃tm' H',sj ⟨ZE (LK Zn fs fuel k) fs fuel (n+5),y,f,fuel,qq⟩ tm H X0=.ok .ret tm' H' X0∧Aw H0 mb nd b q p lk kd ti mo ui gi av dv (J6 L) Rs tm' H':=by
 obtain⟨t1,t4,t5,t6,t7⟩:=ht
 simp only[QP,EU] at t5 t6
 obtain⟨H1,e1,h1⟩:=ZaP E (n:=n) hk h
 obtain⟨w,g1,g2,g3,g4,g5⟩:=h1.bx
 obtain⟨lw,sw,cw,bw⟩:=Sx g2
 have lq: ∀G,ld1 (some (rH 49 [w])) 0 G=.val w G:=λG=>WH (YM 0) ..
 have lwb:=λo=>YD (n:=H1.nx) (b:=b) h1.hr.lt o
 simp only[t5,t6,e1,g1,lq,lwb,sw,Om,NB,decide_true,decide_false,Zg,Zg,ZD,ZM,Zg,sj,Zu,Ye,Z8,Yp,Yv,Nat.reducePow,Nat.reduceDiv,Nat.reduceMod,reduceCtorEq,Z6,Lb]
 refine⟨_,_,rfl,?_⟩
 exact⟨rfl,h1,w,rfl,g2⟩
def TQ(x:NP):NP:=([83,67,72,73,76,89,46,120,97,116,116,114,46]++x.1,x.2)
structure HAI(H0:Heap)(mb nd b q:Nat)(p lk:List UInt8)(kd ti:Int)(mo ui gi:Nat)(av dv:AV)(L:List UInt8)(Rs:List NP)(as_:List NP)(m:Nat)(tm:TM)(H:Heap):Prop where
 ht:jz mb nd b q tm
 t105:Of tm=av
 t106:Kh tm=nI .i64 as_.length
 i: ∃i,OV tm=nI .i64 i∧i+m=as_.length∧HS H0 mb nd b q p lk kd ti mo ui gi av dv L (Rs++(as_.take i).map TQ) H
def HAQ(H0:Heap)(mb nd b q:Nat)(p lk:List UInt8)(kd ti:Int)(mo ui gi:Nat)(av dv:AV)(L:List UInt8)(Rs:List NP)(as_:List NP)(o:Out)(tm:TM)(H:Heap):Prop:=o=.exit 2∧jz mb nd b q tm∧HS H0 mb nd b q p lk kd ti mo ui gi av dv L (Rs++as_.map TQ) H
theorem ZaB(E:Env Zn fs fuel){mb nd q:Nat}{p lk:List UInt8}{kd ti:Int}{mo ui gi:Nat}{av dv:AV}{L:List UInt8}{Rs as_:List NP}(hA:Sz H0 2 av (V8 as_))(has:as_.length<=100)(hal: ∀x∈as_,x.1.length<=90000)(hR:Rs.length<=100)(y f dd qq)(X0:X)(m:Nat)(tm:TM)(H:Heap)(hI:HAI H0 mb nd b q p lk kd ti mo ui gi av dv L Rs as_ m tm H):
  ∃o tm' H',DO ⟨ZE (LK Zn fs fuel k) fs fuel (n+1),y,f,dd,qq⟩ tm H X0=.ok o tm' H' X0∧((o=.normal∧ ∃k,k<m∧HAI H0 mb nd b q p lk kd ti mo ui gi av dv L Rs as_ k tm' H')∨(o≠.normal∧HAQ H0 mb nd b q p lk kd ti mo ui gi av dv L Rs as_ o tm' H')):=by
 obtain⟨ht,t105,t106,i,t107,him,hs⟩:=hI
 obtain⟨t1,t4,t5,t6,t7⟩:=ht
 have Zjm:=t105;have Zjn:=t106
 have t1':=t1;have Qk:=t4;have PE:=t5;have Dr:=t6;have KX:=t7
 simp only[LX,Ze8,Ze9,Zfa] at t7 t105 t106 t107
 cases m with
 |zero=>
  have d1:decide (i<as_.length)=false:=Zb (by omega)
  simp only[t106,t107,d1,Zy,Zy,DO,Zu,Ye,Lb]
  rw[Z9 (by omega)] at hs
  refine⟨_,_,_,rfl,?_⟩
  exact .inr ⟨by simp,rfl,⟨t1',Qk,PE,Dr,KX⟩,hs⟩
 |succ m=>
  have d1:decide (i<as_.length)=true:=Ze (by omega)
  have hi:i<as_.length:=by omega
  obtain⟨bb,o,r,eI,hb,gb,eL,_⟩:=(hA.keep0 hs.k).at_ (i:=i) (by rw[XK];exact hi)
  rw[Sy hi] at eL
  have hm:as_.getD i ([],[])∈as_:=by rw[Zf,Zl hi];exact Xd hi
  have hl1:=hal _ hm
  have htk:as_.take (i+1)=as_.take i++[as_.getD i ([],[])]:=by rw[WR,Zf,Zl hi];rfl
  generalize as_.getD i ([],[])=a at*
  obtain⟨H1,hH1⟩:=Sa (H.new (rH 45 [.str a.1,.str a.2]))
  have k1:Zs H H1 []:=by rw[<-hH1];exact Zs.new _ _ _
  have g1:H1.t.get H.nx=some (rH 45 [.str a.1,.str a.2]):=by rw[<-hH1];exact ZW rfl _
  have hroN:H.ro<=H.nx:=hs.g.p.ro
  have sf:=Tn (n:=2) (b:=H.nx) (l:=[.str [],.str []]) (vs:=[.str a.1,.str a.2]) (H:=H.new (rH 45 [.str [],.str []])) rfl rfl (by decide) hroN 45 1 false true
  rw[Tm rfl,hH1] at sf
  have l0: ∀G,ld1 (some (rH 45 [.str a.1,.str a.2])) 0 G=.val (.str a.1) G:=λG=>rfl
  have l1: ∀G,ld1 (some (rH 45 [.str a.1,.str a.2])) 1 G=.val (.str a.2) G:=λG=>rfl
  have ad:=λG=>VU (a:=[83,67,72,73,76,89,46,120,97,116,116,114,46]) (b:=a.1) (by show 13+_<=_;omega) G
  obtain⟨H2,e2,h2,_⟩:=Db E (k:=k) (n:=n) (hs.keep0 k1) (by rw[Zj,Zx,ZC];omega) (x:=[83,67,72,73,76,89,46,120,97,116,116,114,46]++a.1) (y:=a.2)
  simp(disch:=omega) only[t7,t105,t106,t107,d1,eI,gb,eL,sf,g1,l0,l1,ad,e2,jJ,Zy,YI,Zg,Zd,XB,ZY,Zd,Zg,Zy,Zd,Zg,DO,Zu,Ye,Zw,Z6,Lb]
  refine⟨_,_,_,rfl,.inl ⟨rfl,m,by omega,⟨t1',Qk,PE,Dr,KX⟩,Zjm,Zjn,i+1,rfl,by omega,?_⟩⟩
  rw[htk,Xv,<-Xj];exact h2
structure Szd(H0:Heap)(av dv:AV)(as_:List NP)(da:List UInt8):Prop where
 a:Sz H0 2 av (V8 as_)
 d:Sz H0 1 dv (OX da)
 al:as_.length<=100
 ak: ∀x∈as_,x.1.length<=90000
 dl:da.length<=1073741824
theorem Zgn(E:Env Zn fs fuel)(hk:4<=k){mb nd q:Nat}{p lk:List UInt8}{kd ti:Int}{mo ui gi:Nat}{av dv:AV}{L:List UInt8}{Rs:List NP}{as_:List NP}{da:List UInt8}(h:HS H0 mb nd b q p lk kd ti mo ui gi av dv L Rs H)(sz:Szd H0 av dv as_ da)(IW:mo<4294967296)(hR:Rs.length<=100)(y f qq)(X0:X)(tm:TM)(ht:jz mb nd b q tm):
  ∃tm' H',si ⟨ZE (LK Zn fs fuel k) fs fuel (n+5),y,f,fuel,qq⟩ tm H X0=.ok .ret tm' H' X0∧Aw H0 mb nd b q p lk kd ti mo ui gi av dv (J6 (Ti (Ti L 100 8 (Py mo 8)) 124 12 (Py da.length 12))) (Rs++as_.map TQ) tm' H':=by
 obtain⟨t1,t4,t5,t6,t7⟩:=ht
 have t1':=t1;have Qk:=t4;have PE:=t5;have Dr:=t6;have KX:=t7
 simp only[Tp,QP] at t4 t5
 obtain⟨H1,e1,h1⟩:=y6 E (k:=k) (n:=n+1) hk h iW (u:=mo) (by omega) (by decide) (by decide)
 have dlen:=sz.dl
 obtain⟨H2,e2,h2⟩:=y6 E (k:=k) (n:=n+1) hk h1 iZ (u:=da.length) (by omega) (by decide) (by decide)
 have g0:=h.n;have g1:=h1.n;have g2:=h2.n
 have l1: ∀G,ld1 (some (rH 34 [.int .i64 kd,nI .u32 mo,nI .u32 ui,nI .u32 gi,.int .i64 ti,av,dv,.str lk])) 1 G=.val (nI .u32 mo) G:=λG=>rfl
 have l5: ∀G,ld1 (some (rH 34 [.int .i64 kd,nI .u32 mo,nI .u32 ui,nI .u32 gi,.int .i64 ti,av,dv,.str lk])) 5 G=.val av G:=λG=>rfl
 have l6: ∀G,ld1 (some (rH 34 [.int .i64 kd,nI .u32 mo,nI .u32 ui,nI .u32 gi,.int .i64 ti,av,dv,.str lk])) 6 G=.val dv G:=λG=>rfl
 have iv: ∀G,Ol .i64 (nI .u32 mo) G=.val (nI .i64 mo) G:=λG=>UB (by omega) G
 have ld:=sz.d.len
 rw[TB] at ld
 have la:=sz.a.len
 rw[XK] at la
 have hf:=E.big
 simp only[t4,t5,e1,e2,g0,g1,g2,l1,l5,l6,iv,ld,la,Zd,Zd,Zd,si,Zu,Ye,Z6,QS,Lb]
 generalize hL:Wv (DO _) fuel _ _ _=LL
 obtain⟨o,tm3,H3,rfl,_,rfl,ht3,hs3⟩:=YA (P:=λT=>HAI H0 mb nd b q p lk kd ti mo ui gi av dv _ Rs as_ as_.length T H2) (Q:=HAQ H0 mb nd b q p lk kd ti mo ui gi av dv _ Rs as_)
  (λT hi=>YP (HAI H0 mb nd b q p lk kd ti mo ui gi av dv _ Rs as_) (HAQ H0 mb nd b q p lk kd ti mo ui gi av dv _ Rs as_) (λm tm H' h=>ZaB E (k:=k) (n:=n+4) sz.a sz.al sz.ak hR _ _ _ _ _ m tm H' h) fuel as_.length T H2 (by have:=sz.al;omega) hi) hL
  (by exact⟨⟨t1',Qk,PE,Dr,KX⟩,rfl,rfl,0,rfl,by omega,by rw[YN,ZM,Yd];exact h2⟩)
 simp only[Zu,]
 exact Zgo E hk hs3 y f qq X0 tm3 ht3
def pU(n sz:Nat)(a i:AV)(H:Heap):OR:=Sf i λi=>EI a λcs=>ZP (Nat.ble (Nat.succ i) n) (.val (.agg (Ow sz (PB (Nat.mul i sz) cs))) H)
theorem IZ(x y:Z1)(n sz:Nat)(tm:TM)(H:Heap):xD x y n sz tm H=pU n sz (x tm) (y tm) H:=rfl
structure Ab where
 key:List UInt8
 at_:Nat
 wid:Nat
 z:Int
 most:Nat
def EX(x:Ab)(L:List UInt8):List UInt8:=if x.z<((0:Nat):Int)∨(x.most:Int)<x.z then Ti L x.at_ x.wid (Py 0 x.wid) else Ti L x.at_ x.wid (Py x.z.toNat x.wid)
def WK(x:Ab)(Rs:List NP):List NP:=if x.z<((0:Nat):Int)∨(x.most:Int)<x.z then Rs++[(x.key,SQ x.z)] else Rs
theorem Pe(x:Ab)(Rs:List NP):(WK x Rs).length<=Rs.length+1:=by
 unfold WK;split
 ·rw[Zj];exact Zp _
 ·omega
def xC(ui gi:Nat)(ti:Int):List Ab:=[⟨[117,105,100],108,8,ui,2097151⟩,⟨[103,105,100],116,8,gi,2097151⟩,⟨[109,116,105,109,101],136,12,ti,8589934591⟩]
def tB(ui gi:Nat)(ti:Int):AV:=.agg [.str [117,105,100],nI .i64 ui,nI .i64 2097151,.str [103,105,100],nI .i64 gi,nI .i64 2097151,.str [109,116,105,109,101],.int .i64 ti,nI .i64 8589934591]
structure HNI(H0:Heap)(mb nd b q:Nat)(p lk:List UInt8)(kd ti:Int)(mo ui gi:Nat)(av dv:AV)(L:List UInt8)(Rs:List NP)(m:Nat)(tm:TM)(H:Heap):Prop where
 ht:jz mb nd b q tm
 t65:Q6 tm=tB ui gi ti
 i: ∃i,RZ tm=nI .i64 i∧i+m=3∧HS H0 mb nd b q p lk kd ti mo ui gi av dv (((xC ui gi ti).take i).foldl (λl x=>EX x l) L) (((xC ui gi ti).take i).foldl (λl x=>WK x l) Rs) H
def HNQ(H0:Heap)(mb nd b q:Nat)(p lk:List UInt8)(kd ti:Int)(mo ui gi:Nat)(av dv:AV)(L:List UInt8)(Rs:List NP)(o:Out)(tm:TM)(H:Heap):Prop:=o=.exit 0∧jz mb nd b q tm∧HS H0 mb nd b q p lk kd ti mo ui gi av dv ((xC ui gi ti).foldl (λl x=>EX x l) L) ((xC ui gi ti).foldl (λl x=>WK x l) Rs) H
theorem y5(E:Env Zn fs fuel)(hk:4<=k){mb nd q:Nat}{p lk:List UInt8}{kd ti:Int}{mo ui gi:Nat}{av dv:AV}{L:List UInt8}{Rs:List NP}(h:HS H0 mb nd b q p lk kd ti mo ui gi av dv L Rs H)(hR:Rs.length<=100)(hi:i<3){x:Ab}(F:Av x.key x.at_ x.wid)(hw3:2<=x.wid)(h4:x.wid<=20)(hz1: -9223372036854775808<=x.z)(hz2:x.z<=9223372036854775807)
  (ia: ∀G,pU 3 3 (tB ui gi ti) (nI .i64 i) G=.val (.agg [.str x.key,.int .i64 x.z,nI .i64 x.most]) G)(y f dd qq)(X0:X)(tm:TM)(ht:jz mb nd b q tm)(t65:Q6 tm=tB ui gi ti)(t66:RZ tm=nI .i64 i):
  ∃tm' H',L6 ⟨ZE (LK Zn fs fuel k) fs fuel (n+5),y,f,dd,qq⟩ tm H X0=.ok .normal tm' H' X0∧jz mb nd b q tm'∧Q6 tm'=tB ui gi ti∧RZ tm'=nI .i64 (i+1)∧HS H0 mb nd b q p lk kd ti mo ui gi av dv (EX x L) (WK x Rs) H':=by
 obtain⟨t1,t4,t5,t6,t7⟩:=ht
 have t1':=t1;have Qk:=t4;have PE:=t5;have Dr:=t6;have KX:=t7;have Zgt:=t65
 simp only[QP,LX,ZhH,Zdp] at t5 t7 t65 t66
 have d1:decide (i<3)=true:=Ze hi
 obtain⟨H1,hH1⟩:=Sa (H.new (rH 83 [.str x.key,.int .i64 x.z,nI .i64 x.most]))
 have k1:Zs H H1 []:=by rw[<-hH1];exact Zs.new _ _ _
 have IY:H1.nx=H.nx+1:=by rw[<-hH1];rfl
 have g1:H1.t.get H.nx=some (rH 83 [.str x.key,.int .i64 x.z,nI .i64 x.most]):=by rw[<-hH1];exact ZW rfl _
 have hroN:H.ro<=H.nx:=h.g.p.ro
 have sf:=Tn (n:=3) (b:=H.nx) (l:=[.str [],nI .i64 0,nI .i64 0]) (vs:=[.str x.key,.int .i64 x.z,nI .i64 x.most]) (H:=H.new (rH 83 [.str [],nI .i64 0,nI .i64 0])) rfl rfl (by decide) hroN 83 1 false true
 rw[Tm rfl,hH1] at sf
 have l0: ∀G,ld1 (some (rH 83 [.str x.key,.int .i64 x.z,nI .i64 x.most])) 0 G=.val (.str x.key) G:=λG=>rfl
 have l1: ∀G,ld1 (some (rH 83 [.str x.key,.int .i64 x.z,nI .i64 x.most])) 1 G=.val (.int .i64 x.z) G:=λG=>rfl
 have l2: ∀G,ld1 (some (rH 83 [.str x.key,.int .i64 x.z,nI .i64 x.most])) 2 G=.val (nI .i64 x.most) G:=λG=>rfl
 have smz: ∀(n:Nat) (T:T Obj),Ud (.val (.int .i64 x.z) ⟨n,T,n⟩) (.int .i64 x.z) n=true:=λn T=>TN _ _ _ (Ou .i64 x.z)
 have lwf: ∀n,q<n->Wx n (.func 41 [] [.ptr q 0])=true:=λn hn=>by
  show cond (RS n []) (RS n [.ptr q 0]) false=true
  rw[CT,zy,CT,YD hn];rfl
 have hs1:=h.keep0 k1
 have hqn:q<H.nx:=by
  obtain⟨w,_,_,_,_,h⟩:=h.bx
  omega
 have ad: ∀G,Ty (nI .i64 i) (nI .i64 1) G=.val (nI .i64 (i+1)) G:=λG=>YI (by omega) G
 have ltz: ∀G,Tf XE YH (.int .i64 x.z) (nI .i64 0) G=.val (.bool (decide (x.z<((0:Nat):Int)))) G:=λG=>Lo .i64 x.z 0 G
 have gtz: ∀G,Tf UG WJ (.int .i64 x.z) (nI .i64 x.most) G=.val (.bool (decide ((x.most:Int)<x.z))) G:=λG=>IM .i64 x.z x.most G
 have ep:=λ{j}=>Znt E (k:=k) (n:=j) hk (z:=x.z) (H:=H1) hs1.g.g hs1.g.p.ro hz1 hz2
 by_cases hm:x.z<((0:Nat):Int)∨(x.most:Int)<x.z
 ·rw[show EX x L=Ti L x.at_ x.wid (Py 0 x.wid) by unfold EX;rw[if_pos hm],show WK x Rs=Rs++[(x.key,SQ x.z)] by unfold WK;rw[if_pos hm]]
  obtain⟨H2,e2,h2,n2,kx⟩:=Db E (k:=k) (n:=n+4) hs1 (by omega) (x:=x.key) (y:=SQ x.z)
  have g2:=kx H.nx _ (by omega) (by omega) g1 rfl
  have g2':H2.t.get H.nx=some (rH 83 [.str x.key,.int .i64 x.z,nI .i64 x.most]):=g2
  have h3:=h2.put (o:=rH 83 [.str x.key,nI .i64 0,nI .i64 x.most]) g2 rfl (by omega) (by omega)
  have Vl:tp 1 (some (rH 83 [.str x.key,.int .i64 x.z,nI .i64 x.most])) H.nx 1 (nI .i64 0) H2=.val Xz (H2.put H.nx (rH 83 [.str x.key,nI .i64 0,nI .i64 x.most])):=by
   rw[LH rfl (by show 1<3;decide) (by rw[h2.k.ro,<-h.k.ro];exact hroN) (ZZ _)];rfl
  obtain⟨H3,hH3⟩:=Sa (H2.put H.nx (rH 83 [.str x.key,nI .i64 0,nI .i64 x.most]))
  rw[hH3] at Vl h3
  have g3:H3.t.get H.nx=some (rH 83 [.str x.key,nI .i64 0,nI .i64 x.most]):=by rw[<-hH3];exact Xw _ _ _
  have m0: ∀G,ld1 (some (rH 83 [.str x.key,nI .i64 0,nI .i64 x.most])) 0 G=.val (.str x.key) G:=λG=>rfl
  have m1: ∀G,ld1 (some (rH 83 [.str x.key,nI .i64 0,nI .i64 x.most])) 1 G=.val (nI .i64 0) G:=λG=>rfl
  obtain⟨H4,e4,h4'⟩:=y6 E (k:=k) (n:=n+1) hk h3 F (u:=0) (by decide) hw3 h4
  by_cases hz:x.z<((0:Nat):Int)
  ·have d2:decide (x.z<((0:Nat):Int))=true:=Ze hz
   simp(disch:=omega) only[t5,t7,t65,t66,d1,ia,IZ,sf,g1,l0,l1,smz,lwf,ad,ltz,jJ,d2,ep,e2,g2',Vl,g3,m0,m1,e4,Zy,decide_true,decide_false,Zg,Zd,XB,ZY,Zd,Zg,YD,ZD,ZM,Zy,Zd,Zg,YD,L6,Zu,Ye,Zw,Z8,Yp,Yv,Nat.reducePow,Nat.reduceDiv,Nat.reduceMod,reduceCtorEq,Z6,QS]
   exact⟨_,_,rfl,⟨t1',Qk,PE,Dr,KX⟩,Zgt,rfl,h4'⟩
  ·have d2:decide (x.z<((0:Nat):Int))=false:=Zb hz
   have d3:decide ((x.most:Int)<x.z)=true:=Ze (hm.resolve_left hz)
   simp(disch:=omega) only[t5,t7,t65,t66,d1,ia,IZ,sf,g1,l0,l1,l2,smz,lwf,ad,ltz,gtz,jJ,d2,d3,ep,e2,g2',Vl,g3,m0,m1,e4,Zy,decide_true,decide_false,Zg,Zd,XB,ZY,Zd,Zg,YD,ZD,ZM,Zy,Zd,Zg,YD,L6,Zu,Ye,Zw,Z8,Yp,Yv,Nat.reducePow,Nat.reduceDiv,Nat.reduceMod,reduceCtorEq,Z6,QS]
   exact⟨_,_,rfl,⟨t1',Qk,PE,Dr,KX⟩,Zgt,rfl,h4'⟩
 ·rw[show EX x L=Ti L x.at_ x.wid (Py x.z.toNat x.wid) by unfold EX;rw[if_neg hm],show WK x Rs=Rs by unfold WK;rw[if_neg hm]]
  have d2:decide (x.z<((0:Nat):Int))=false:=Zb λh=>hm (.inl h)
  have d3:decide ((x.most:Int)<x.z)=false:=Zb λh=>hm (.inr h)
  have hz0:0<=x.z:=Int.not_lt.1 λh=>hm (.inl h)
  obtain⟨H4,e4,h4'⟩:=y6 E (k:=k) (n:=n+1) hk hs1 F (u:=x.z.toNat) (by omega) hw3 h4
  rw[show nI .i64 x.z.toNat=.int .i64 x.z by show AV.int .i64 (Int.ofNat x.z.toNat)=_;rw[show Int.ofNat x.z.toNat=x.z from Int.toNat_of_nonneg hz0]] at e4
  simp only[t5,t65,t66,d1,ia,IZ,sf,g1,l0,l1,l2,ad,ltz,gtz,d2,d3,e4,Zy,Zg,Zd,Zd,Zg,Zy,Zd,Zg,L6,Zu,Ye,Zw,Z6,QS]
  exact⟨_,_,rfl,⟨t1',Qk,PE,Dr,KX⟩,Zgt,rfl,h4'⟩
theorem ZaI(E:Env Zn fs fuel)(hk:4<=k){mb nd q:Nat}{p lk:List UInt8}{kd ti:Int}{mo ui gi:Nat}{av dv:AV}{L:List UInt8}{Rs:List NP}(hR:Rs.length<=90)(KY:ui<4294967296)(MF:gi<4294967296)(E4: -9223372036854775808<=ti)(E5:ti<=9223372036854775807)(y f dd qq)(X0:X)(m:Nat)(tm:TM)(H:Heap)(hI:HNI H0 mb nd b q p lk kd ti mo ui gi av dv L Rs m tm H):
  ∃o tm' H',L6 ⟨ZE (LK Zn fs fuel k) fs fuel (n+5),y,f,dd,qq⟩ tm H X0=.ok o tm' H' X0∧((o=.normal∧ ∃k,k<m∧HNI H0 mb nd b q p lk kd ti mo ui gi av dv L Rs k tm' H')∨(o≠.normal∧HNQ H0 mb nd b q p lk kd ti mo ui gi av dv L Rs o tm' H')):=by
 obtain⟨ht,t65,i,t66,him,hs⟩:=hI
 cases m with
 |zero=>
  obtain rfl:i=3:=by omega
  simp only[Zdp] at t66
  obtain⟨t1,t4,t5,t6,t7⟩:=ht
  have d1: ∀G,Tf XE YH (nI .i64 3) (nI .i64 3) G=.val (.bool false) G:=λ_=>rfl
  simp only[t66,d1,L6,Zu,Ye,QS]
  refine⟨_,_,_,rfl,?_⟩
  exact .inr ⟨by simp,rfl,⟨t1,t4,t5,t6,t7⟩,hs⟩
 |succ m=>
  have h3:i=0∨i=1∨i=2:=by omega
  rcases h3 with rfl|rfl|rfl
  ·obtain⟨tm',H',e,a1,a2,a3,a4⟩:=y5 E hk hs (by show Rs.length<=100;omega) (by decide) (x:=⟨[117,105,100],108,8,ui,2097151⟩) Zc3 (by show 2<=8;decide) (by show 8<=20;decide) (by show -9223372036854775808<=(ui:Int);omega) (by show(ui:Int)<=9223372036854775807;omega) (λ_=>rfl) y f dd qq X0 tm ht t65 t66
   exact⟨_,tm',H',e,.inl ⟨rfl,m,by omega,a1,a2,1,a3,by omega,a4⟩⟩
  ·obtain⟨tm',H',e,a1,a2,a3,a4⟩:=y5 E hk hs (by have h1:=Pe ⟨[117,105,100],108,8,ui,2097151⟩ Rs;show(WK ⟨[117,105,100],108,8,ui,2097151⟩ Rs).length<=100;omega) (by decide) (x:=⟨[103,105,100],116,8,gi,2097151⟩) Zc2 (by show 2<=8;decide) (by show 8<=20;decide) (by show -9223372036854775808<=(gi:Int);omega) (by show(gi:Int)<=9223372036854775807;omega) (λ_=>rfl) y f dd qq X0 tm ht t65 t66
   exact⟨_,tm',H',e,.inl ⟨rfl,m,by omega,a1,a2,2,a3,by omega,a4⟩⟩
  ·obtain⟨tm',H',e,a1,a2,a3,a4⟩:=y5 E hk hs (by
    have h1:=Pe ⟨[117,105,100],108,8,ui,2097151⟩ Rs
    have h2:=Pe ⟨[103,105,100],116,8,gi,2097151⟩ (WK ⟨[117,105,100],108,8,ui,2097151⟩ Rs)
    show(WK ⟨[103,105,100],116,8,gi,2097151⟩ (WK ⟨[117,105,100],108,8,ui,2097151⟩ Rs)).length<=100;omega) (by decide) (x:=⟨[109,116,105,109,101],136,12,ti,8589934591⟩) pC (by show 2<=12;decide) (by show 12<=20;decide) E4 E5 (λ_=>rfl) y f dd qq X0 tm ht t65 t66
   exact⟨_,tm',H',e,.inl ⟨rfl,m,by omega,a1,a2,3,a3,by omega,a4⟩⟩
def o9(ui gi mo:Nat)(ti:Int)(da l0 L:List UInt8):List UInt8:=J6 (Ti (Ti ((xC ui gi ti).foldl (λl x=>EX x l) (Ti L 157 100 (Qg l0 100))) 100 8 (Py mo 8)) 124 12 (Py da.length 12))
def bW(ui gi:Nat)(ti:Int)(as_ Rs:List NP):List NP:=(xC ui gi ti).foldl (λl x=>WK x l) Rs++as_.map TQ
theorem cV(E:Env Zn fs fuel)(hk:4<=k){mb nd q:Nat}{p lk:List UInt8}{kd ti:Int}{mo ui gi:Nat}{av dv:AV}{L:List UInt8}{Rs:List NP}{as_:List NP}{da l0:List UInt8}(h:HS H0 mb nd b q p lk kd ti mo ui gi av dv L Rs H)(sz:Szd H0 av dv as_ da)(IW:mo<4294967296)(KY:ui<4294967296)(MF:gi<4294967296)(E4: -9223372036854775808<=ti)(E5:ti<=9223372036854775807)(hl0:l0.length<=90000)(hR:Rs.length<=90)(y f qq)(X0:X)(tm:TM)(ht:jz mb nd b q tm∧Xt tm=.str l0):
  ∃tm' H',tZ ⟨ZE (LK Zn fs fuel k) fs fuel (n+5),y,f,fuel,qq⟩ tm H X0=.ok .ret tm' H' X0∧Aw H0 mb nd b q p lk kd ti mo ui gi av dv (o9 ui gi mo ti da l0 L) (bW ui gi ti as_ Rs) tm' H':=by
 obtain⟨ht,t11⟩:=ht
 obtain⟨t1,t4,t5,t6,t7⟩:=ht
 have t1':=t1;have Qk:=t4;have PE:=t5;have Dr:=t6;have KX:=t7
 simp only[Tp,QP,fc] at t4 t5 t11
 obtain⟨H1,e1,h1⟩:=y7 E (k:=k) (n:=n+1) hk h sM (s:=l0) hl0
 have g1:=h1.n
 have l2: ∀G,ld1 (some (rH 34 [.int .i64 kd,nI .u32 mo,nI .u32 ui,nI .u32 gi,.int .i64 ti,av,dv,.str lk])) 2 G=.val (nI .u32 ui) G:=λG=>rfl
 have l3: ∀G,ld1 (some (rH 34 [.int .i64 kd,nI .u32 mo,nI .u32 ui,nI .u32 gi,.int .i64 ti,av,dv,.str lk])) 3 G=.val (nI .u32 gi) G:=λG=>rfl
 have l4: ∀G,ld1 (some (rH 34 [.int .i64 kd,nI .u32 mo,nI .u32 ui,nI .u32 gi,.int .i64 ti,av,dv,.str lk])) 4 G=.val (.int .i64 ti) G:=λG=>rfl
 have iu: ∀G,Ol .i64 (nI .u32 ui) G=.val (nI .i64 ui) G:=λG=>UB (by omega) G
 have ig: ∀G,Ol .i64 (nI .u32 gi) G=.val (nI .i64 gi) G:=λG=>UB (by omega) G
 have bu: ∀G,Q1 [.str [],nI .i64 0,nI .i64 0] [(0,1,.str [117,105,100]),(1,1,nI .i64 ui),(2,1,nI .i64 2097151)] G=.val (.agg [.str [117,105,100],nI .i64 ui,nI .i64 2097151]) G:=λG=>rfl
 have bg: ∀G,Q1 [.str [],nI .i64 0,nI .i64 0] [(0,1,.str [103,105,100]),(1,1,nI .i64 gi),(2,1,nI .i64 2097151)] G=.val (.agg [.str [103,105,100],nI .i64 gi,nI .i64 2097151]) G:=λG=>rfl
 have bt: ∀G,Q1 [.str [],nI .i64 0,nI .i64 0] [(0,1,.str [109,116,105,109,101]),(1,1,.int .i64 ti),(2,1,nI .i64 8589934591)] G=.val (.agg [.str [109,116,105,109,101],.int .i64 ti,nI .i64 8589934591]) G:=λG=>rfl
 have b9: ∀G,Q1 [.str [],nI .i64 0,nI .i64 0,.str [],nI .i64 0,nI .i64 0,.str [],nI .i64 0,nI .i64 0] [(0,3,.agg [.str [117,105,100],nI .i64 ui,nI .i64 2097151]),(3,3,.agg [.str [103,105,100],nI .i64 gi,nI .i64 2097151]),(6,3,.agg [.str [109,116,105,109,101],.int .i64 ti,nI .i64 8589934591])] G=.val (tB ui gi ti) G:=λG=>rfl
 have hf:=E.big
 simp only[t4,t5,t11,e1,g1,l2,l3,l4,iu,ig,bu,bg,bt,b9,Up,Zd,Zd,ZD,ZM,Zd,tZ,Zu,Ye,Z6,Vk,QS]
 generalize hL:Wv (L6 _) fuel _ _ _=LL
 obtain⟨o,tm2,H2,rfl,_,rfl,ht2,hs2⟩:=YA (P:=λT=>HNI H0 mb nd b q p lk kd ti mo ui gi av dv (Ti L 157 100 (Qg l0 100)) Rs 3 T H1) (Q:=HNQ H0 mb nd b q p lk kd ti mo ui gi av dv (Ti L 157 100 (Qg l0 100)) Rs)
  (λT hi=>YP (HNI H0 mb nd b q p lk kd ti mo ui gi av dv (Ti L 157 100 (Qg l0 100)) Rs) (HNQ H0 mb nd b q p lk kd ti mo ui gi av dv (Ti L 157 100 (Qg l0 100)) Rs) (λm tm H' h=>ZaI E (k:=k) (n:=n) hk hR KY MF E4 E5 _ _ _ _ _ m tm H' h) fuel 3 T H1 (by omega) hi) hL
  (by exact⟨⟨t1',Qk,PE,Dr,KX⟩,rfl,0,rfl,rfl,h1⟩)
 have n1:=Pe ⟨[117,105,100],108,8,ui,2097151⟩ Rs
 have n2:=Pe ⟨[103,105,100],116,8,gi,2097151⟩ (WK ⟨[117,105,100],108,8,ui,2097151⟩ Rs)
 have n3:=Pe ⟨[109,116,105,109,101],136,12,ti,8589934591⟩ (WK ⟨[103,105,100],116,8,gi,2097151⟩ (WK ⟨[117,105,100],108,8,ui,2097151⟩ Rs))
 simp only[Zu,]
 exact Zgn E hk hs2 sz IW (by show(WK ⟨[109,116,105,109,101],136,12,ti,8589934591⟩ (WK ⟨[103,105,100],116,8,gi,2097151⟩ (WK ⟨[117,105,100],108,8,ui,2097151⟩ Rs))).length<=100;omega) y f qq X0 tm2 ht2
def lE(ui gi mo:Nat)(ti:Int)(da lk pr nm L:List UInt8):List UInt8:=o9 ui gi mo ti da (if 100<lk.length then [] else lk) (Ti (Ti L 345 155 (Qg pr 155)) 0 100 (Qg nm 100))
def Zbu(ui gi:Nat)(ti:Int)(lk:List UInt8)(as_ Rs:List NP):List NP:=bW ui gi ti as_ (if 100<lk.length then Rs++[([108,105,110,107,112,97,116,104],lk)] else Rs)
theorem cS(E:Env Zn fs fuel)(hk:4<=k){mb nd q:Nat}{p lk:List UInt8}{kd ti:Int}{mo ui gi:Nat}{av dv:AV}{L:List UInt8}{Rs:List NP}{as_:List NP}{da pr nm:List UInt8}(h:HS H0 mb nd b q p lk kd ti mo ui gi av dv L Rs H)(sz:Szd H0 av dv as_ da)(IW:mo<4294967296)(KY:ui<4294967296)(MF:gi<4294967296)(E4: -9223372036854775808<=ti)(E5:ti<=9223372036854775807)(hlk:lk.length<=90000)(hpr:pr.length<=90000)(hnm:nm.length<=90000)(hR:Rs.length<=80)(y f qq)(X0:X)(tm:TM)(ht:jz mb nd b q tm∧Wi tm=.str pr∧WG tm=.str nm):
  ∃tm' H',Fg ⟨ZE (LK Zn fs fuel k) fs fuel (n+5),y,f,fuel,qq⟩ tm H X0=.ok .ret tm' H' X0∧Aw H0 mb nd b q p lk kd ti mo ui gi av dv (lE ui gi mo ti da lk pr nm L) (Zbu ui gi ti lk as_ Rs) tm' H':=by
 obtain⟨ht,t8,t9⟩:=ht
 obtain⟨t1,t4,t5,t6,t7⟩:=ht
 have t1':=t1;have Qk:=t4;have PE:=t5;have Dr:=t6;have KX:=t7
 simp only[Tp,QP,LX,sW,fj] at t4 t5 t7 t8 t9
 obtain⟨H1,e1,h1⟩:=y7 E (k:=k) (n:=n+1) hk h iY (s:=pr) hpr
 obtain⟨H2,e2,h2⟩:=y7 E (k:=k) (n:=n+1) hk h1 iX (s:=nm) hnm
 have g2:=h2.n
 have l7: ∀G,ld1 (some (rH 34 [.int .i64 kd,nI .u32 mo,nI .u32 ui,nI .u32 gi,.int .i64 ti,av,dv,.str lk])) 7 G=.val (.str lk) G:=λG=>rfl
 unfold lE Zbu
 by_cases hl:100<lk.length
 ·have d1:decide (100<lk.length)=true:=Ze hl
  rw[if_pos hl,if_pos hl]
  obtain⟨H3,e3,h3,_⟩:=Db E (k:=k) (n:=n+4) h2 (by omega) (x:=[108,105,110,107,112,97,116,104]) (y:=lk)
  simp only[t4,t5,t7,t8,t9,e1,e2,g2,l7,d1,e3,jJ,Z3,ZG,Zd,XB,ZY,Zd,Z3,Zd,Fg,Zu,Ye,Zw,Z6,Vk]
  exact cV E hk h3 sz IW KY MF E4 E5 (l0:=[]) (ZZ _) (by rw[Zj];show _+1<=_;omega) y f qq X0 _ ⟨⟨t1',Qk,PE,Dr,KX⟩,rfl⟩
 ·have d1:decide (100<lk.length)=false:=Zb hl
  rw[if_neg hl,if_neg hl]
  simp only[t4,t5,t8,t9,e1,e2,g2,l7,d1,Z3,ZG,Zd,Zd,Z3,Zd,Fg,Zu,Ye,Z6,Vk]
  exact cV E hk h2 sz IW KY MF E4 E5 (l0:=lk) hlk (by omega) y f qq X0 _ ⟨⟨t1',Qk,PE,Dr,KX⟩,rfl⟩
def pO(p lk:List UInt8)(kd ti:Int)(mo ui gi:Nat)(da:List UInt8):List UInt8:=lE ui gi mo ti da lk (VR (W0 kd p)).1 (VR (W0 kd p)).2.1 (Nh (Dt kd))
def pP(p lk:List UInt8)(kd ti:Int)(ui gi:Nat)(as_:List NP):List NP:=Zbu ui gi ti lk as_ (if (VR (W0 kd p)).2.2=true then [] else [([112,97,116,104],W0 kd p)])
theorem Zgy(z:Int):Dt z<256:=by
 unfold Dt
 split
 ·decide
 ·split
  ·decide
  ·split
   ·decide
   ·split<;>decide
theorem CS(kd:Int)(p:List UInt8):(W0 kd p).length<=p.length+1:=by
 unfold W0;split
 ·rw[Zj];exact Zp _
 ·omega
theorem cu(s:List UInt8)(hs:s.length<=90000):(VR s).1.length<=90000∧(VR s).2.1.length<=90000:=by
 unfold VR
 split
 ·exact⟨ZZ _,hs⟩
 ·split
  ·exact⟨ZZ _,by decide⟩
  ·split
   ·exact⟨ZZ _,by decide⟩
   ·exact⟨by rw[ZC];omega,by rw[Ym];omega⟩
theorem fC(E:Env Zn fs fuel)(hk:4<=k){p lk:List UInt8}{kd ti:Int}{mo ui gi:Nat}{av dv:AV}{as_:List NP}{da:List UInt8}(gH:Sd H)(sz:Szd H av dv as_ da)(IW:mo<4294967296)(KY:ui<4294967296)(MF:gi<4294967296)(E4: -9223372036854775808<=ti)(E5:ti<=9223372036854775807)(hp:p.length<=80000)(hlk:lk.length<=90000):
  ∃b q w H',ZE (LK Zn fs fuel k) fs fuel (n+6) 19 [.agg [.str p,.int .i64 kd,nI .u32 mo,nI .u32 ui,nI .u32 gi,.int .i64 ti,av,dv,.str lk]] H=.ret (.tup [.ptr b 0,w]) H'∧H.nx<=b∧b<q∧Zs H H' []∧Sd H'∧HR H' b (pO p lk kd ti mo ui gi da)∧RM H' w 81 2 (V8 (pP p lk kd ti ui gi as_)) (q+1):=by
 rw[ZI (ZA E.n19 (.inr rfl) _ _) E.f19]
 have hro:=gH.p.ro;have vy:=gH.p.nx
 have bx: ∀G:Heap,Ni 36 (.agg [.str p,.int .i64 kd,nI .u32 mo,nI .u32 ui,nI .u32 gi,.int .i64 ti,av,dv,.str lk]) G=.val (.ptr G.nx 0) (G.new (rH 36 [.str p,.int .i64 kd,nI .u32 mo,nI .u32 ui,nI .u32 gi,.int .i64 ti,av,dv,.str lk])):=λG=>XS (l:=[.str p,.int .i64 kd,nI .u32 mo,nI .u32 ui,nI .u32 gi,.int .i64 ti,av,dv,.str lk]) (show 1<=9 by decide) 36 G
 obtain⟨H1,hH1⟩:=Sa (H.new (rH 36 [.str p,.int .i64 kd,nI .u32 mo,nI .u32 ui,nI .u32 gi,.int .i64 ti,av,dv,.str lk]))
 have k1:Zs H H1 []:=by rw[<-hH1];exact Zs.new _ _ _
 have IY:H1.nx=H.nx+1:=by rw[<-hH1];rfl
 have MX:H1.ro=H.ro:=by rw[<-hH1];rfl
 have g1:H1.t.get H.nx=some (rH 36 [.str p,.int .i64 kd,nI .u32 mo,nI .u32 ui,nI .u32 gi,.int .i64 ti,av,dv,.str lk]):=by rw[<-hH1];exact ZW rfl _
 have ld8: ∀G,EW 8 (some (rH 36 [.str p,.int .i64 kd,nI .u32 mo,nI .u32 ui,nI .u32 gi,.int .i64 ti,av,dv,.str lk])) 1 G=.val (.agg [.int .i64 kd,nI .u32 mo,nI .u32 ui,nI .u32 gi,.int .i64 ti,av,dv,.str lk]) G:=λG=>Vr (show 1+8<=9 by decide) ..
 have wm: ∀G,EW 9 (some (rH 36 [.str p,.int .i64 kd,nI .u32 mo,nI .u32 ui,nI .u32 gi,.int .i64 ti,av,dv,.str lk])) 0 G=.val (.agg [.str p,.int .i64 kd,nI .u32 mo,nI .u32 ui,nI .u32 gi,.int .i64 ti,av,dv,.str lk]) G:=λG=>Vr (show 0+9<=9 by decide) ..
 obtain⟨H2,hH2⟩:=Sa (H1.new (rH 34 [.int .i64 kd,nI .u32 mo,nI .u32 ui,nI .u32 gi,.int .i64 ti,av,dv,.str lk]))
 have k12:Zs H1 H2 []:=by rw[<-hH2];exact Zs.new _ _ _
 have k2:Zs H H2 []:=k1.trans' k12
 have nx2:H2.nx=H1.nx+1:=by rw[<-hH2];rfl
 have g2:H2.t.get H1.nx=some (rH 34 [.int .i64 kd,nI .u32 mo,nI .u32 ui,nI .u32 gi,.int .i64 ti,av,dv,.str lk]):=by rw[<-hH2];exact ZW rfl _
 have sf:=Tn (n:=8) (b:=H1.nx) (l:=[nI .i64 0,nI .u32 0,nI .u32 0,nI .u32 0,nI .i64 0,.nils,.nils,.str []]) (vs:=[.int .i64 kd,nI .u32 mo,nI .u32 ui,nI .u32 gi,.int .i64 ti,av,dv,.str lk]) (H:=H1.new (rH 34 [nI .i64 0,nI .u32 0,nI .u32 0,nI .u32 0,nI .i64 0,.nils,.nils,.str []])) rfl rfl (by decide) (by show H1.ro<=_;omega) 34 1 false true
 rw[Tm rfl,hH2] at sf
 have lk0: ∀G,ld1 (some (rH 34 [.int .i64 kd,nI .u32 mo,nI .u32 ui,nI .u32 gi,.int .i64 ti,av,dv,.str lk])) 0 G=.val (.int .i64 kd) G:=λG=>rfl
 have sS:=gH.keep0 k2
 obtain⟨rT,gT,lT0,lT1⟩:=sS.p.t
 have gTm:=sS.p.tm
 have lT: ∀G,ld1 (some (.row rT)) 0 G=.val (.map 9) G:=λG=>by rw[O1 lT0,lT1]
 have lt:=λG=>lkT kd G
 obtain⟨H3,e3,k23,R3⟩:=Az E (k:=k) (n:=n) hk (t:=Dt kd) (Zgy kd) sS
 have k3:Zs H H3 []:=k2.trans' k23
 have nx3:=R3.lt
 obtain⟨H4,Nu⟩:=Sa (H3.new (rH 49 [.nils]))
 have Hj:Zs H3 H4 []:=by rw[<-Nu];exact Zs.new _ _ _
 have k4:Zs H H4 []:=k3.trans' Hj
 have k24:Zs H2 H4 []:=k23.trans' Hj
 have nx4:H4.nx=H3.nx+1:=by rw[<-Nu];rfl
 have ro4:=k4.ro
 have g14:H4.t.get H.nx=some (rH 36 [.str p,.int .i64 kd,nI .u32 mo,nI .u32 ui,nI .u32 gi,.int .i64 ti,av,dv,.str lk]):=by rw[(k12.trans' k24).get _ (by omega) (by simp)];exact g1
 have hs4:HS H H.nx H1.nx H2.nx H3.nx p lk kd ti mo ui gi av dv (Nh (Dt kd)) [] H4:=by
  refine⟨k4,gH.keep0 k4,g14,by rw[k24.get _ (by omega) (by simp)];exact g2,R3.keep0 Hj,⟨.nils,by rw[<-Nu];exact ZW rfl _,.inl ⟨rfl,rfl⟩,by omega,by omega,by omega⟩,vy,by omega,by omega,by omega,by omega⟩
 obtain⟨H5,e5,EA⟩:=vQ E (k:=k) (n:=n+4) (H:=H4) (p:=p) (lk:=lk) (kd:=kd) (ti:=ti) (mo:=mo) (ui:=ui) (gi:=gi) (av:=av) (dv:=dv) (by omega)
 have hs5:=hs4.keep0 EA
 have g5:=hs5.m
 have hl:=CS kd p
 have ep:=λ{j}=>ZiL E (k:=k) (n:=j) hk (s:=W0 kd p) (H:=H5) (by omega)
 obtain⟨hp1,hp2⟩:=cu (W0 kd p) (by omega)
 unfold pO pP
 cases hfit:(VR (W0 kd p)).2.2 with
 |true=>
  rw[hfit] at ep
  rw[if_pos rfl]
  simp only[bx,hH1,g1,ld8,wm,sf,g2,gT,gTm,lT,lt,lk0,e3,Nu,g14,e5,ep,Wd,Xx,Wq,Bb,Zg,Zd,Zd,Zg,Xx,Wq,Zd,Zg,Xx,Wq,c19,Zu,Ye,Zw,Z8,Z6,Vk]
  generalize hS:Fg _ _ _ _=S
  obtain⟨tm',H',rfl,t2,hs',w,t3,rb⟩:=K1 (P:=λT=>jz H.nx H1.nx H2.nx H3.nx T∧Wi T=.str (VR (W0 kd p)).1∧WG T=.str (VR (W0 kd p)).2.1) (Q:=λtm' H'=>Aw H H.nx H1.nx H2.nx H3.nx p lk kd ti mo ui gi av dv _ _ tm' H')
   (λT hi=>cS E (k:=k) (n:=n) hk hs5 sz IW KY MF E4 E5 hlk hp1 hp2 (ZZ _) _ _ _ _ T hi) hS
   (by exact⟨⟨rfl,rfl,rfl,rfl,rfl⟩,rfl,rfl⟩)
  simp only[IN,Px] at t2 t3
  simp only[t2,t3,Zu,Zw,Z6]
  refine⟨_,H3.nx,w,H',rfl,?_⟩
  exact⟨by omega,by omega,hs'.k,hs'.g,hs'.hr,rb⟩
 |false=>
  rw[hfit] at ep
  rw[if_neg (by simp)]
  obtain⟨H6,e6,CM⟩:=vQ E (k:=k) (n:=n+4) (H:=H5) (p:=p) (lk:=lk) (kd:=kd) (ti:=ti) (mo:=mo) (ui:=ui) (gi:=gi) (av:=av) (dv:=dv) (by omega)
  obtain⟨H7,e7,hs7,_⟩:=Db E (k:=k) (n:=n+4) (hs5.keep0 CM) (ZZ _) (x:=[112,97,116,104]) (y:=W0 kd p)
  simp only[bx,hH1,g1,ld8,wm,sf,g2,gT,gTm,lT,lt,lk0,e3,Nu,g14,e5,ep,Wd,Xx,Wq,Bb,Ky,XB,jJ,g5,e6,e7,Zg,Zd,XB,ZY,Zd,Zg,Xx,Wq,Zd,Zg,Xx,Wq,c19,Zu,Ye,Zw,Z8,Z6,Vk]
  generalize hS:Fg _ _ _ _=S
  obtain⟨tm',H',rfl,t2,hs',w,t3,rb⟩:=K1 (P:=λT=>jz H.nx H1.nx H2.nx H3.nx T∧Wi T=.str (VR (W0 kd p)).1∧WG T=.str (VR (W0 kd p)).2.1) (Q:=λtm' H'=>Aw H H.nx H1.nx H2.nx H3.nx p lk kd ti mo ui gi av dv _ _ tm' H')
   (λT hi=>cS E (k:=k) (n:=n) hk hs7 sz IW KY MF E4 E5 hlk hp1 hp2 (by show 1<=80;decide) _ _ _ _ T hi) hS
   (by exact⟨⟨rfl,rfl,rfl,rfl,rfl⟩,rfl,rfl⟩)
  simp only[IN,Px] at t2 t3
  simp only[t2,t3,Zu,Zw,Z6]
  refine⟨_,H3.nx,w,H',rfl,?_⟩
  exact⟨by omega,by omega,hs'.k,hs'.g,hs'.hr,rb⟩
end
end
end Go.AI
