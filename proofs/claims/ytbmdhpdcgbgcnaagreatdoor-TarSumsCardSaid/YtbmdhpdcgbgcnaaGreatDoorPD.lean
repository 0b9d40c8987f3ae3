/- A head of one block: walked: proved without conditions but those that each names. -/
import Derived.Test.YtbmdhpdcgbgcnaaGreatDoorPC
set_option maxRecDepth 1000000
set_option maxHeartbeats 0
set_option linter.unusedVariables false
set_option linter.unusedSimpArgs false
namespace Go.AI
open Go
noncomputable section
section
variable {Zx:Lib} {fs:T CF} {fuel k n i h b:Nat} {H H0:Heap} {s:List UInt8} {cs:List AV}
def S0(s:List UInt8):List UInt8×List UInt8×Bool:=
 if s.length<=100 then([],s,true)
 else if Qv 47 (s.take (min (s.length - 1) 156))=0 then([],[112,97,120],false)
 else if 100<s.length - (Qv 47 (s.take (min (s.length - 1) 156)) - 1) - 1 then([],[112,97,120],false)
 else(s.take (Qv 47 (s.take (min (s.length - 1) 156)) - 1),s.drop (Qv 47 (s.take (min (s.length - 1) 156))),true)
def T7(kd:Int)(p:List UInt8):List UInt8:=if kd=1 then p++[47] else p
theorem oG(E:Env Zx fs fuel)(hs:s.length<=90000):
  ∃H',Z7 (LK Zx fs fuel 3) fs fuel (n+2) 29 [.str s] H=.ret (.tup [.str (S0 s).1,.str (S0 s).2.1,.bool (S0 s).2.2]) H'∧ZK H H' []:=by
 rw[Z1 (ZU E.n29 (.inl (by decide)) _ _) E.f29]
 by_cases h1:s.length<=100
 ·have d1:decide (s.length<=100)=true:=Zi h1
  rw[show S0 s=([],s,true) by unfold S0;rw[if_pos h1]]
  simp only[d1,ZO,ZP,ZO,c29,Z9,Xg,ZY,Xe]
  refine⟨_,rfl,?_⟩
  exact ZK.refl _ _
 have d1:decide (s.length<=100)=false:=Ze h1
 have sb: ∀G,O3 (nI .i64 s.length) (nI .i64 1) G=.val (nI .i64 (s.length - 1)) G:=λG=>YQ (by omega) (by omega) G
 have el:=λ{j}=>aU E (k:=3) (n:=j) (by decide) (s:=s.take (min (s.length - 1) 156)) (x:=47) (H:=H) (by rw[Z2];omega)
 have hc:=AW 47 (s.take (min (s.length - 1) 156))
 rw[Z2] at hc
 unfold S0
 rw[if_neg h1]
 generalize Qv 47 (s.take (min (s.length - 1) 156))=q at*
 by_cases h2:q=0
 ·have d2:decide (q=0)=true:=Zi h2
  rw[if_pos h2]
  simp(disch:=omega) only[d1,sb,el,d2,ZO,ZP,Yd,X1,ZO,NN,SY,Yd,c29,Z9,Xg,ZY,Yu,Xe]
  refine⟨_,rfl,?_⟩
  exact ZK.refl _ _
 rw[if_neg h2]
 obtain⟨p,rfl⟩: ∃p,q=p+1:=⟨q - 1,by omega⟩
 have mi:mI (p+1)=nI .i64 p:=rfl
 rw[mi] at el
 have dz:decide (p<0)=false:=Ze (TV _)
 have sb2: ∀G,O3 (nI .i64 s.length) (nI .i64 p) G=.val (nI .i64 (s.length - p)) G:=λG=>YQ (by omega) (by omega) G
 have sb3: ∀G,O3 (nI .i64 (s.length - p)) (nI .i64 1) G=.val (nI .i64 (s.length - p - 1)) G:=λG=>YQ (by omega) (by omega) G
 rw[Vq]
 by_cases h3:100<s.length - p - 1
 ·have d3:decide (100<s.length - p - 1)=true:=Zi h3
  rw[if_pos h3]
  simp(disch:=omega) only[d1,sb,el,dz,sb2,sb3,d3,ZO,Zu,ZM,ZP,Yd,Zu,ZM,ZO,NN,SY,Yd,c29,Z9,Xg,ZY,Yu,Xe]
  refine⟨_,rfl,?_⟩
  exact ZK.refl _ _
 have d3:decide (100<s.length - p - 1)=false:=Ze h3
 rw[if_neg h3]
 simp(disch:=omega) only[d1,sb,el,dz,sb2,sb3,d3,ZO,Zu,ZM,YB,ZP,Yc,Yd,ZB,ZG,Zu,ZM,ZO,NN,SY,Yd,Yc,YB,c29,Z9,Xg,ZY,Yu,Z3,Xe,U4]
 refine⟨_,rfl,?_⟩
 exact ZK.refl _ _
theorem Ze2(E:Env Zx fs fuel)(hk:4<=k)(hs:s.length<=90000):
  Z7 (LK Zx fs fuel k) fs fuel (n+1) 29 [.str s] H=.ret (.tup [.str (S0 s).1,.str (S0 s).2.1,.bool (S0 s).2.2]) H:=by
 obtain⟨H',e,g⟩:=oG E (n:=898) (H:=H) hs
 exact Xc (r:=3) rfl rfl e g (rfl) hk
theorem xz(E:Env Zx fs fuel){p lk:List UInt8}{kd ti:Int}{mo ui gi:Nat}{av dv:AV}(hp:p.length<=90000):
  ∃H',Z7 (LK Zx fs fuel k) fs fuel (n+1) 30 [.agg [.str p,.int .i64 kd,nI .u32 mo,nI .u32 ui,nI .u32 gi,.int .i64 ti,av,dv,.str lk]] H=.ret (.str (T7 kd p)) H'∧ZK H H' []:=by
 rw[Z1 (ZU E.n30 (.inr rfl) _ _) E.f30]
 have bx: ∀G:Heap,N2 28 (.agg [.str p,.int .i64 kd,nI .u32 mo,nI .u32 ui,nI .u32 gi,.int .i64 ti,av,dv,.str lk]) G=.val (.ptr G.nx 0) (G.new (rH 28 [.str p,.int .i64 kd,nI .u32 mo,nI .u32 ui,nI .u32 gi,.int .i64 ti,av,dv,.str lk])):=λG=>Vx (l:=[.str p,.int .i64 kd,nI .u32 mo,nI .u32 ui,nI .u32 gi,.int .i64 ti,av,dv,.str lk]) (show 1<=9 by decide) 28 G
 have gz:=λ(G:Heap)=>YD (H:=G) rfl (rH 28 [.str p,.int .i64 kd,nI .u32 mo,nI .u32 ui,nI .u32 gi,.int .i64 ti,av,dv,.str lk])
 have l0: ∀G,ld1 (some (rH 28 [.str p,.int .i64 kd,nI .u32 mo,nI .u32 ui,nI .u32 gi,.int .i64 ti,av,dv,.str lk])) 0 G=.val (.str p) G:=λG=>rfl
 have l1: ∀G,ld1 (some (rH 28 [.str p,.int .i64 kd,nI .u32 mo,nI .u32 ui,nI .u32 gi,.int .i64 ti,av,dv,.str lk])) 1 G=.val (.int .i64 kd) G:=λG=>rfl
 have ad:=λG=>Nz (a:=p) (b:=[47]) (by show _+1<=_;omega) G
 have eqk: ∀G,ND VU false (.int .i64 kd) (nI .i64 1) G=.val (.bool (decide (kd=1))) G:=λG=>Xs _ _ _ _
 by_cases h1:kd=1
 ·have d1:decide (kd=1)=true:=Zi h1
  rw[show T7 kd p=p++[47] by unfold T7;rw[if_pos h1]]
  simp only[bx,gz,l0,l1,ad,eqk,d1,Us,Zd,Zb,Zb,Zd,Zb,Zd,c30,Z9,Xg,ZY,Xe]
  refine⟨_,rfl,?_⟩
  exact ZK.new _ _ _
 ·have d1:decide (kd=1)=false:=Ze h1
  rw[show T7 kd p=p by unfold T7;rw[if_neg h1]]
  simp only[bx,gz,l0,l1,eqk,d1,Us,Zd,Zb,Zb,Zd,Zb,Zd,c30,Z9,Xg,ZY,Xe]
  refine⟨_,rfl,?_⟩
  exact ZK.new _ _ _
theorem Zi0(E:Env Zx fs fuel)(hk:4<=k){z:Int}(g:QT H)(hro:H.ro<=H.nx)(hz1: -9223372036854775808<=z)(hz2:z<=9223372036854775807):
  Z7 (LK Zx fs fuel k) fs fuel (n+2) 31 [.int .i64 z] H=.ret (.str (N6 z)) H:=by
 rw[Z1 (ZU E.n31 (.inr rfl) _ _) E.f31]
 have e1:=λ{j}=>lu E (k:=k) (n:=j) hk (z:=z) (H:=H) g hro hz1 (by omega)
 simp only[e1,c31,Z9,Xg,ZY,Xe]
def gF(H:Heap)(q lo:Nat)(l:List NP):Prop:= ∃w,H.t.get q=some (rH 48 [w])∧RP H w 71 2 (S2 l) lo∧q<lo∧H.ro<=q∧lo<=H.nx
theorem gF.keep{H H':Heap}{q lo:Nat}{l:List NP}{S:List Nat}(h:gF H q lo l)(k:ZK H H' S)(hS: ∀x∈S,x<lo∧x≠q):gF H' q lo l:=by
 obtain⟨w,h1,h2,h3,h4,h5⟩:=h
 refine⟨w,by rw[k.get q (by omega) (λh=>(hS q h).2 rfl)];exact h1,h2.below (λc hc hlt=>k.get c hlt λh=>by have:=(hS c h).1;omega) k.ro k.nx,h3,by rw[k.ro];exact h4,YR h5 k.nx⟩
theorem gF.put{q lo c:Nat}{l:List NP}{r:Row}{o:Obj}(h:gF H q lo l)(hc:H.t.get c=some (.row r))(he:r.exact=true)(hq:c≠q):gF (H.put c o) q lo l:=by
 obtain⟨w,h1,h2,h3,h4,h5⟩:=h
 refine⟨w,by rw[RW hq];exact h1,?_,h3,h4,h5⟩
 rcases h2 with hw2|⟨g1,b0,r0,g2,g3,g4⟩
 ·exact .inl hw2
 ·refine .inr ⟨g1,b0,r0,g2,g3.moved (RW (λe=>?_) ..) rfl (Zz _),g4⟩
  rw[e] at hc
  have:=g3.at_.symm.trans hc
  cases this
  rw[g3.exact_] at he;cases he
theorem jf(E:Env Zx fs fuel){q lo:Nat}{l:List NP}{a b:List UInt8}(h:gF H q lo l)(hl:l.length<=1000):
  ∃H' S,Z7 (LK Zx fs fuel k) fs fuel (n+1) 28 [.str a,.str b,.ptr q 0] H=.ret (.tup []) H'∧ZK H H' S∧(∀x∈S,x=q∨lo<=x∧ ∃r,H.t.get x=some (.row r)∧r.exact=false)∧gF H' q lo (l++[(a,b)]):=by
 rw[Z1 (ZU E.n28 (.inr rfl) _ _) E.f28]
 obtain⟨w,h1,h2,h3,h4,h5⟩:=h
 obtain⟨lw,sw,cw,bw⟩:=Tf h2
 obtain⟨w',H2,ea,w2,k2,hb2,n2⟩:=rS (bytes:=32) h2 (by decide) (by decide) (by rw[Tg];omega) (by omega) (by omega) (x:=[.str a,.str b]) rfl
 have bs: ∀G,TQ 71 2 1 [.str [],.str []] [(0,2,.agg [.str a,.str b])] G=.val (.slice G.nx 0 1 none) (G.new (rG 71 2 [.str a,.str b] 0 false true true)):=λ_=>rfl
 have b2: ∀G,SA [.str [],.str []] [(0,1,.str a),(1,1,.str b)] G=.val (.agg [.str a,.str b]) G:=λ_=>rfl
 have lq: ∀G,ld1 (some (rH 48 [w])) 0 G=.val w G:=λG=>Un (YP 0) ..
 have gq2:H2.t.get q=some (rH 48 [w]):=by rw[k2.get _ (by omega) (λh=>by have:=(bw _ h).1;omega)];exact h1
 obtain⟨_,_,cw',bw'⟩:=Tf w2
 have sq:CC 1 (some (rH 48 [w])) q 0 w' H2=.val XL (H2.put q (rH 48 [w'])):=by
  rw[SE cw' (YP 0) (by rw[k2.ro];exact h4) (ZA _)];rfl
 simp only[h1,lq,bs,b2,ea,gq2,sq,ZZ,Te,ZZ,ZV,ZB,ZG,c28,Z9,Xg,ZY,Xe]
 refine⟨_,q::Wo w,rfl,?_,λx hx=>?_,w',Xv ..,?_,h3,?_,?_⟩
 ·exact(⟨k2.nx,k2.ro,λc hc hn=>k2.get c hc λh=>hn (ZQ _ h)⟩:ZK H H2 (q::Wo w)).then_put (λ_=>ZE ..)
 ·rcases Ys.1 hx with rfl|hx
  ·exact .inl rfl
  ·refine .inr ⟨(bw _ hx).1,?_⟩
   rcases h2 with⟨_,rfl⟩|⟨_,b0,r0,rfl,hr,_⟩
   ·cases hx
   ·obtain rfl:x=b0:=by simpa [Wo] using hx
    exact⟨r0,hr.at_,hr.exact_⟩
 ·rw[HX]
  rcases w2 with hw2|⟨h1,b0,r0,h2,h3,h4⟩
  ·exact .inl hw2
  ·exact .inr ⟨h1,b0,r0,h2,h3.moved (RW (by omega) ..) rfl (Zz _),h4⟩
 ·show H2.ro<=q;rw[k2.ro];exact h4
 ·have:=k2.nx;show lo<=H2.nx;omega
theorem nW(x y z:AV):[x,y]++[z]=[x,y,z]:=rfl
theorem CM{a:TM->Heap->X->WQ}{x:X}{S:WQ}{P:TM->Prop}{Q:TM->Heap->Prop}(lp: ∀T,P T-> ∃tm' H',a T H x=.ok .ret tm' H' x∧Q tm' H'){T:TM}(hS:a T H x=S)(hi:P T):
  ∃tm' H',S=.ok .ret tm' H' x∧Q tm' H':=by
 obtain⟨b,c,e,j⟩:=lp T hi
 exact⟨b,c,hS.symm.trans e,j⟩
structure HS(H0:Heap)(mb nd b q:Nat)(p lk:List UInt8)(kd ti:Int)(mo ui gi:Nat)(av dv:AV)(L:List UInt8)(Rs:List NP)(H:Heap):Prop where
 k:ZK H0 H []
 g:TL H
 m:H.t.get mb=some (rH 28 [.str p,.int .i64 kd,nI .u32 mo,nI .u32 ui,nI .u32 gi,.int .i64 ti,av,dv,.str lk])
 n:H.t.get nd=some (rH 26 [.int .i64 kd,nI .u32 mo,nI .u32 ui,nI .u32 gi,.int .i64 ti,av,dv,.str lk])
 hr:HR H b L
 bx:gF H q (q+1) Rs
 o0:100<=H0.nx
 o1:H0.nx<=mb
 o2:mb<nd
 o3:nd<b
 o4:b<q
theorem HS.upd{mb nd q:Nat}{p lk:List UInt8}{kd ti:Int}{mo ui gi:Nat}{av dv:AV}{L L':List UInt8}{Rs Rs':List NP}{H H':Heap}{S:List Nat}(h:HS H0 mb nd b q p lk kd ti mo ui gi av dv L Rs H)(k:ZK H H' S)(hS: ∀x∈S,x=b∨x=q∨q+1<=x)(hr:HR H' b L')(bx:gF H' q (q+1) Rs'):HS H0 mb nd b q p lk kd ti mo ui gi av dv L' Rs' H':=by
 obtain⟨h1,h2,h3,h4,h5,h6,h70,h7,h8,h9,h10⟩:=h
 have hlt:=h5.lt
 have hq:q<H.nx:=by
  obtain⟨w,_,_,_,_,h⟩:=h6
  omega
 have ho: ∀x∈S,H0.nx<=x:=λx hx=>by rcases hS x hx with h|h|h<;>omega
 exact⟨h1.trans k (λc hc hlt=>by have:=ho c hc;omega),h2.keep k (λx hx=>by rcases hS x hx with h|h|h<;>omega),
  by rw[k.get mb (by omega) (λh=>by rcases hS _ h with h|h|h<;>omega)];exact h3,
  by rw[k.get nd (by omega) (λh=>by rcases hS _ h with h|h|h<;>omega)];exact h4,hr,bx,h70,h7,h8,h9,h10⟩
theorem HS.keep0{mb nd q:Nat}{p lk:List UInt8}{kd ti:Int}{mo ui gi:Nat}{av dv:AV}{L:List UInt8}{Rs:List NP}{H H':Heap}(h:HS H0 mb nd b q p lk kd ti mo ui gi av dv L Rs H)(k:ZK H H' []):HS H0 mb nd b q p lk kd ti mo ui gi av dv L Rs H':=
 h.upd k (λx hx=>by cases hx) (h.hr.keep0 k) (h.bx.keep k λx hx=>by cases hx)
theorem zh(E:Env Zx fs fuel)(hk:4<=k){mb nd q:Nat}{p lk:List UInt8}{kd ti:Int}{mo ui gi:Nat}{av dv:AV}{L:List UInt8}{Rs:List NP}(h:HS H0 mb nd b q p lk kd ti mo ui gi av dv L Rs H){nm:List UInt8}{a m:Nat}(F:Cc nm a m)(hs:s.length<=90000):
  ∃H',Z7 (LK Zx fs fuel k) fs fuel (n+4) 18 [.ptr b 0,.str nm,.str s] H=.ret (.tup []) H'∧HS H0 mb nd b q p lk kd ti mo ui gi av dv (UV L a m (QP s m)) Rs H':=by
 obtain⟨H',e,k1,r⟩:=DX E (n:=n) hk h.g F h.hr hs
 have:=h.o4
 exact⟨H',e,h.upd k1 (λx hx=>.inl (Zv.1 hx)) r (h.bx.keep k1 λx hx=>by have:=Zv.1 hx;omega)⟩
theorem zg(E:Env Zx fs fuel)(hk:4<=k){mb nd q:Nat}{p lk:List UInt8}{kd ti:Int}{mo ui gi:Nat}{av dv:AV}{L:List UInt8}{Rs:List NP}(h:HS H0 mb nd b q p lk kd ti mo ui gi av dv L Rs H){nm:List UInt8}{u a m:Nat}(F:Cc nm a m)(hu:u<9223372036854775808)(h3:2<=m)(h4:m<=20):
  ∃H',Z7 (LK Zx fs fuel k) fs fuel (n+4) 19 [.ptr b 0,.str nm,nI .i64 u] H=.ret (.tup []) H'∧HS H0 mb nd b q p lk kd ti mo ui gi av dv (UV L a m (SJ u m)) Rs H':=by
 obtain⟨H',e,k1,r⟩:=L7 E (n:=n) hk h.g F h.hr hu h3 h4
 have:=h.o4
 exact⟨H',e,h.upd k1 (λx hx=>.inl (Zv.1 hx)) r (h.bx.keep k1 λx hx=>by have:=Zv.1 hx;omega)⟩
theorem FW(E:Env Zx fs fuel){mb nd q:Nat}{p lk:List UInt8}{kd ti:Int}{mo ui gi:Nat}{av dv:AV}{L:List UInt8}{Rs:List NP}(h:HS H0 mb nd b q p lk kd ti mo ui gi av dv L Rs H)(hl:Rs.length<=1000){x y:List UInt8}:
  ∃H',Z7 (LK Zx fs fuel k) fs fuel (n+1) 28 [.str x,.str y,.ptr q 0] H=.ret (.tup []) H'∧HS H0 mb nd b q p lk kd ti mo ui gi av dv L (Rs++[(x,y)]) H'∧H.nx<=H'.nx∧ ∀c r,c<H.nx->c≠q->H.t.get c=some (.row r)->r.exact=true->H'.t.get c=some (.row r):=by
 obtain⟨H',S,e,k1,hS,r⟩:=jf E (n:=n) h.bx hl (a:=x) (b:=y)
 have:=h.o4
 refine⟨H',e,h.upd k1 (λx hx=>.inr ((hS x hx).imp id λh=>h.1)) (h.hr.keep k1 λhx=>by rcases hS _ hx with h|⟨h,_⟩<;>omega) r,k1.nx,λc r hc hq hr he=>?_⟩
 rw[k1.get c hc λhx=>?_]
 ·exact hr
 ·rcases hS c hx with h|⟨_,r',h1,h2⟩
  ·exact hq h
  ·rw[hr] at h1;cases h1;rw[he] at h2;cases h2
theorem HS.put{mb nd q:Nat}{p lk:List UInt8}{kd ti:Int}{mo ui gi:Nat}{av dv:AV}{L:List UInt8}{Rs:List NP}{c:Nat}{r:Row}{o:Obj}(h:HS H0 mb nd b q p lk kd ti mo ui gi av dv L Rs H)(hc:H.t.get c=some (.row r))(he:r.exact=true)(hq:q+1<=c)(hlt:c<H.nx):HS H0 mb nd b q p lk kd ti mo ui gi av dv L Rs (H.put c o):=by
 have:=h.o4
 have kp:ZK H (H.put c o) [c]:=ZK.put λ_=>Zv.2 rfl
 exact h.upd kp (λx hx=>by have:=Zv.1 hx;omega) (h.hr.keep kp λhx=>by have:=Zv.1 hx;omega) (h.bx.put hc he (by omega))
theorem eX(E:Env Zx fs fuel)(hk:4<=k){mb nd q:Nat}{p lk:List UInt8}{kd ti:Int}{mo ui gi:Nat}{av dv:AV}{L:List UInt8}{Rs:List NP}(h:HS H0 mb nd b q p lk kd ti mo ui gi av dv L Rs H):
  ∃H',Z7 (LK Zx fs fuel k) fs fuel (n+5) 20 [.ptr b 0] H=.ret (.tup []) H'∧HS H0 mb nd b q p lk kd ti mo ui gi av dv (S6 L) Rs H':=by
 obtain⟨H',e,k1,r⟩:=wq E (n:=n) hk h.g h.hr
 have:=h.o4
 exact⟨H',e,h.upd k1 (λx hx=>.inl (Zv.1 hx)) r (h.bx.keep k1 λx hx=>by have:=Zv.1 hx;omega)⟩
structure nK(mb nd b q:Nat)(tm:TM):Prop where
 t1:Wj tm=.ptr mb 0
 t4:XY tm=.ptr nd 0
 t5:X2 tm=.ptr b 0
 t6:WA tm=.ptr q 0
 t7:Wt tm=.func 28 [] [.ptr q 0]
def CJ(H0:Heap)(mb nd b q:Nat)(p lk:List UInt8)(kd ti:Int)(mo ui gi:Nat)(av dv:AV)(L:List UInt8)(Rs:List NP)(tm:TM)(H:Heap):Prop:=VE tm=.ptr b 0∧HS H0 mb nd b q p lk kd ti mo ui gi av dv L Rs H∧ ∃w,V5 tm=w∧RP H w 71 2 (S2 Rs) (q+1)
theorem ZcM(E:Env Zx fs fuel)(hk:4<=k){mb nd q:Nat}{p lk:List UInt8}{kd ti:Int}{mo ui gi:Nat}{av dv:AV}{L:List UInt8}{Rs:List NP}(h:HS H0 mb nd b q p lk kd ti mo ui gi av dv L Rs H)(y f qq)(X0:X)(tm:TM)(ht:nK mb nd b q tm):
  ∃tm' H',vC ⟨Z7 (LK Zx fs fuel k) fs fuel (n+5),y,f,fuel,qq⟩ tm H X0=.ok .ret tm' H' X0∧CJ H0 mb nd b q p lk kd ti mo ui gi av dv (S6 L) Rs tm' H':=by
 obtain⟨t1,t4,t5,t6,t7⟩:=ht
 simp only[A8,lX] at t5 t6
 obtain⟨H1,e1,h1⟩:=eX E (n:=n) hk h
 obtain⟨w,g1,g2,g3,g4,g5⟩:=h1.bx
 obtain⟨lw,sw,cw,bw⟩:=Tf g2
 have lq: ∀G,ld1 (some (rH 48 [w])) 0 G=.val w G:=λG=>Un (YP 0) ..
 have lwb:=λo=>ZJ (n:=H1.nx) (b:=b) h1.hr.lt o
 simp only[t5,t6,e1,g1,lq,lwb,sw,Uf,UD,decide_true,decide_false,Zd,Zd,ZB,ZG,Zd,vC,Z9,Xg,Yu,Z3,Z6,Nat.reducePow,Nat.reduceDiv,Nat.reduceMod,reduceCtorEq,Xe,Ca]
 refine⟨_,_,rfl,?_⟩
 exact⟨rfl,h1,w,rfl,g2⟩
def yw(x:NP):NP:=([83,67,72,73,76,89,46,120,97,116,116,114,46]++x.1,x.2)
structure HAI(H0:Heap)(mb nd b q:Nat)(p lk:List UInt8)(kd ti:Int)(mo ui gi:Nat)(av dv:AV)(L:List UInt8)(Rs:List NP)(as_:List NP)(m:Nat)(tm:TM)(H:Heap):Prop where
 ht:nK mb nd b q tm
 t105:M7 tm=av
 t106:Ky tm=nI .i64 as_.length
 i: ∃i,M8 tm=nI .i64 i∧i+m=as_.length∧HS H0 mb nd b q p lk kd ti mo ui gi av dv L (Rs++(as_.take i).map yw) H
def HAQ(H0:Heap)(mb nd b q:Nat)(p lk:List UInt8)(kd ti:Int)(mo ui gi:Nat)(av dv:AV)(L:List UInt8)(Rs:List NP)(as_:List NP)(o:Out)(tm:TM)(H:Heap):Prop:=o=.exit 2∧nK mb nd b q tm∧HS H0 mb nd b q p lk kd ti mo ui gi av dv L (Rs++as_.map yw) H
theorem eK(E:Env Zx fs fuel){mb nd q:Nat}{p lk:List UInt8}{kd ti:Int}{mo ui gi:Nat}{av dv:AV}{L:List UInt8}{Rs as_:List NP}(hA:Sz H0 2 av (S2 as_))(has:as_.length<=100)(hal: ∀x∈as_,x.1.length<=90000)(hR:Rs.length<=100)(y f dd qq)(X0:X)(m:Nat)(tm:TM)(H:Heap)(hI:HAI H0 mb nd b q p lk kd ti mo ui gi av dv L Rs as_ m tm H):
  ∃o tm' H',Er ⟨Z7 (LK Zx fs fuel k) fs fuel (n+1),y,f,dd,qq⟩ tm H X0=.ok o tm' H' X0∧((o=.normal∧ ∃k,k<m∧HAI H0 mb nd b q p lk kd ti mo ui gi av dv L Rs as_ k tm' H')∨(o≠.normal∧HAQ H0 mb nd b q p lk kd ti mo ui gi av dv L Rs as_ o tm' H')):=by
 obtain⟨ht,t105,t106,i,t107,him,hs⟩:=hI
 obtain⟨t1,t4,t5,t6,t7⟩:=ht
 have Zfm:=t105;have Zfn:=t106
 have t1':=t1;have Jp:=t4;have AC:=t5;have CG:=t6;have CH:=t7
 simp only[A9,ZbE,ZbF,ZbG] at t7 t105 t106 t107
 cases m with
 |zero=>
  have d1:decide (i<as_.length)=false:=Ze (by omega)
  simp only[t106,t107,d1,Zu,Zu,Er,Z9,Xg,Ca]
  rw[Y1 (by omega)] at hs
  refine⟨_,_,_,rfl,?_⟩
  exact .inr ⟨by simp,rfl,⟨t1',Jp,AC,CG,CH⟩,hs⟩
 |succ m=>
  have d1:decide (i<as_.length)=true:=Zi (by omega)
  have hi:i<as_.length:=by omega
  obtain⟨bb,o,r,eI,hb,gb,eL,_⟩:=(hA.keep0 hs.k).at_ (i:=i) (by rw[Tg];exact hi)
  rw[Ka hi] at eL
  have hm:as_.getD i ([],[])∈as_:=by rw[Zh,Zp hi];exact Wz hi
  have hl1:=hal _ hm
  have htk:as_.take (i+1)=as_.take i++[as_.getD i ([],[])]:=by rw[Uj,Zh,Zp hi];rfl
  generalize as_.getD i ([],[])=a at*
  obtain⟨H1,hH1⟩:=SK (H.new (rH 41 [.str a.1,.str a.2]))
  have k1:ZK H H1 []:=by rw[<-hH1];exact ZK.new _ _ _
  have g1:H1.t.get H.nx=some (rH 41 [.str a.1,.str a.2]):=by rw[<-hH1];exact YD rfl _
  have hroN:H.ro<=H.nx:=hs.g.p.ro
  have sf:=SD (n:=2) (b:=H.nx) (l:=[.str [],.str []]) (vs:=[.str a.1,.str a.2]) (H:=H.new (rH 41 [.str [],.str []])) rfl rfl (by decide) hroN 41 1 false true
  rw[SC rfl,hH1] at sf
  have l0: ∀G,ld1 (some (rH 41 [.str a.1,.str a.2])) 0 G=.val (.str a.1) G:=λG=>rfl
  have l1: ∀G,ld1 (some (rH 41 [.str a.1,.str a.2])) 1 G=.val (.str a.2) G:=λG=>rfl
  have ad:=λG=>Nz (a:=[83,67,72,73,76,89,46,120,97,116,116,114,46]) (b:=a.1) (by show 13+_<=_;omega) G
  obtain⟨H2,e2,h2,_⟩:=FW E (k:=k) (n:=n) (hs.keep0 k1) (by rw[Zk,ZW,Z2];omega) (x:=[83,67,72,73,76,89,46,120,97,116,116,114,46]++a.1) (y:=a.2)
  simp(disch:=omega) only[t7,t105,t106,t107,d1,eI,gb,eL,sf,g1,l0,l1,ad,e2,nW,Zu,YB,Zd,Zb,ZX,Zn,Zb,Zd,Zu,Zb,Zd,Er,Z9,Xg,ZY,Xe,Ca]
  refine⟨_,_,_,rfl,.inl ⟨rfl,m,by omega,⟨t1',Jp,AC,CG,CH⟩,Zfm,Zfn,i+1,rfl,by omega,?_⟩⟩
  rw[htk,Wn,<-Xd];exact h2
structure Szd(H0:Heap)(av dv:AV)(as_:List NP)(da:List UInt8):Prop where
 a:Sz H0 2 av (S2 as_)
 d:Sz H0 1 dv (MI da)
 al:as_.length<=100
 ak: ∀x∈as_,x.1.length<=90000
 dl:da.length<=1073741824
theorem ZcL(E:Env Zx fs fuel)(hk:4<=k){mb nd q:Nat}{p lk:List UInt8}{kd ti:Int}{mo ui gi:Nat}{av dv:AV}{L:List UInt8}{Rs:List NP}{as_:List NP}{da:List UInt8}(h:HS H0 mb nd b q p lk kd ti mo ui gi av dv L Rs H)(sz:Szd H0 av dv as_ da)(xH:mo<4294967296)(hR:Rs.length<=100)(y f qq)(X0:X)(tm:TM)(ht:nK mb nd b q tm):
  ∃tm' H',vB ⟨Z7 (LK Zx fs fuel k) fs fuel (n+5),y,f,fuel,qq⟩ tm H X0=.ok .ret tm' H' X0∧CJ H0 mb nd b q p lk kd ti mo ui gi av dv (S6 (UV (UV L 100 8 (SJ mo 8)) 124 12 (SJ da.length 12))) (Rs++as_.map yw) tm' H':=by
 obtain⟨t1,t4,t5,t6,t7⟩:=ht
 have t1':=t1;have Jp:=t4;have AC:=t5;have CG:=t6;have CH:=t7
 simp only[PD,A8] at t4 t5
 obtain⟨H1,e1,h1⟩:=zg E (k:=k) (n:=n+1) hk h m8 (u:=mo) (by omega) (by decide) (by decide)
 have dlen:=sz.dl
 obtain⟨H2,e2,h2⟩:=zg E (k:=k) (n:=n+1) hk h1 vR (u:=da.length) (by omega) (by decide) (by decide)
 have g0:=h.n;have g1:=h1.n;have g2:=h2.n
 have l1: ∀G,ld1 (some (rH 26 [.int .i64 kd,nI .u32 mo,nI .u32 ui,nI .u32 gi,.int .i64 ti,av,dv,.str lk])) 1 G=.val (nI .u32 mo) G:=λG=>rfl
 have l5: ∀G,ld1 (some (rH 26 [.int .i64 kd,nI .u32 mo,nI .u32 ui,nI .u32 gi,.int .i64 ti,av,dv,.str lk])) 5 G=.val av G:=λG=>rfl
 have l6: ∀G,ld1 (some (rH 26 [.int .i64 kd,nI .u32 mo,nI .u32 ui,nI .u32 gi,.int .i64 ti,av,dv,.str lk])) 6 G=.val dv G:=λG=>rfl
 have iv: ∀G,OY .i64 (nI .u32 mo) G=.val (nI .i64 mo) G:=λG=>UT (by omega) G
 have ld:=sz.d.len
 rw[Sq] at ld
 have la:=sz.a.len
 rw[Tg] at la
 have hf:=E.big
 simp only[t4,t5,e1,e2,g0,g1,g2,l1,l5,l6,iv,ld,la,Zb,Zb,Zb,vB,Z9,Xg,Xe,CK,Ca]
 generalize hL:Ue (Er _) fuel _ _ _=LL
 obtain⟨o,tm3,H3,rfl,_,rfl,ht3,hs3⟩:=XZ (P:=λT=>HAI H0 mb nd b q p lk kd ti mo ui gi av dv _ Rs as_ as_.length T H2) (Q:=HAQ H0 mb nd b q p lk kd ti mo ui gi av dv _ Rs as_)
  (λT hi=>We (HAI H0 mb nd b q p lk kd ti mo ui gi av dv _ Rs as_) (HAQ H0 mb nd b q p lk kd ti mo ui gi av dv _ Rs as_) (λm tm H' h=>eK E (k:=k) (n:=n+4) sz.a sz.al sz.ak hR _ _ _ _ _ m tm H' h) fuel as_.length T H2 (by have:=sz.al;omega) hi) hL
  (by exact⟨⟨t1',Jp,AC,CG,CH⟩,rfl,rfl,0,rfl,by omega,by rw[ZF,ZG,Zo];exact h2⟩)
 simp only[Z9,]
 exact ZcM E hk hs3 y f qq X0 tm3 ht3
def sW(n sz:Nat)(a i:AV)(H:Heap):OR:=T8 i λi=>G4 a λcs=>Yb (Nat.ble (Nat.succ i) n) (.val (.agg (PQ sz (QY (Nat.mul i sz) cs))) H)
theorem K9(x y:YF)(n sz:Nat)(tm:TM)(H:Heap):zO x y n sz tm H=sW n sz (x tm) (y tm) H:=rfl
structure vj where
 key:List UInt8
 at_:Nat
 wid:Nat
 z:Int
 most:Nat
def Cs(x:vj)(L:List UInt8):List UInt8:=if x.z<((0:Nat):Int)∨(x.most:Int)<x.z then UV L x.at_ x.wid (SJ 0 x.wid) else UV L x.at_ x.wid (SJ x.z.toNat x.wid)
def QE(x:vj)(Rs:List NP):List NP:=if x.z<((0:Nat):Int)∨(x.most:Int)<x.z then Rs++[(x.key,N6 x.z)] else Rs
theorem QF(x:vj)(Rs:List NP):(QE x Rs).length<=Rs.length+1:=by
 unfold QE;split
 ·rw[Zk];exact Zz _
 ·omega
def zN(ui gi:Nat)(ti:Int):List vj:=[⟨[117,105,100],108,8,ui,2097151⟩,⟨[103,105,100],116,8,gi,2097151⟩,⟨[109,116,105,109,101],136,12,ti,8589934591⟩]
def wY(ui gi:Nat)(ti:Int):AV:=.agg [.str [117,105,100],nI .i64 ui,nI .i64 2097151,.str [103,105,100],nI .i64 gi,nI .i64 2097151,.str [109,116,105,109,101],.int .i64 ti,nI .i64 8589934591]
structure HNI(H0:Heap)(mb nd b q:Nat)(p lk:List UInt8)(kd ti:Int)(mo ui gi:Nat)(av dv:AV)(L:List UInt8)(Rs:List NP)(m:Nat)(tm:TM)(H:Heap):Prop where
 ht:nK mb nd b q tm
 t65:NJ tm=wY ui gi ti
 i: ∃i,NK tm=nI .i64 i∧i+m=3∧HS H0 mb nd b q p lk kd ti mo ui gi av dv (((zN ui gi ti).take i).foldl (λl x=>Cs x l) L) (((zN ui gi ti).take i).foldl (λl x=>QE x l) Rs) H
def HNQ(H0:Heap)(mb nd b q:Nat)(p lk:List UInt8)(kd ti:Int)(mo ui gi:Nat)(av dv:AV)(L:List UInt8)(Rs:List NP)(o:Out)(tm:TM)(H:Heap):Prop:=o=.exit 0∧nK mb nd b q tm∧HS H0 mb nd b q p lk kd ti mo ui gi av dv ((zN ui gi ti).foldl (λl x=>Cs x l) L) ((zN ui gi ti).foldl (λl x=>QE x l) Rs) H
theorem zf(E:Env Zx fs fuel)(hk:4<=k){mb nd q:Nat}{p lk:List UInt8}{kd ti:Int}{mo ui gi:Nat}{av dv:AV}{L:List UInt8}{Rs:List NP}(h:HS H0 mb nd b q p lk kd ti mo ui gi av dv L Rs H)(hR:Rs.length<=100)(hi:i<3){x:vj}(F:Cc x.key x.at_ x.wid)(hw3:2<=x.wid)(h4:x.wid<=20)(hz1: -9223372036854775808<=x.z)(hz2:x.z<=9223372036854775807)
  (ia: ∀G,sW 3 3 (wY ui gi ti) (nI .i64 i) G=.val (.agg [.str x.key,.int .i64 x.z,nI .i64 x.most]) G)(y f dd qq)(X0:X)(tm:TM)(ht:nK mb nd b q tm)(t65:NJ tm=wY ui gi ti)(t66:NK tm=nI .i64 i):
  ∃tm' H',MZ ⟨Z7 (LK Zx fs fuel k) fs fuel (n+5),y,f,dd,qq⟩ tm H X0=.ok .normal tm' H' X0∧nK mb nd b q tm'∧NJ tm'=wY ui gi ti∧NK tm'=nI .i64 (i+1)∧HS H0 mb nd b q p lk kd ti mo ui gi av dv (Cs x L) (QE x Rs) H':=by
 obtain⟨t1,t4,t5,t6,t7⟩:=ht
 have t1':=t1;have Jp:=t4;have AC:=t5;have CG:=t6;have CH:=t7;have ZcS:=t65
 simp only[A8,A9,Zd0,aK] at t5 t7 t65 t66
 have d1:decide (i<3)=true:=Zi hi
 obtain⟨H1,hH1⟩:=SK (H.new (rH 75 [.str x.key,.int .i64 x.z,nI .i64 x.most]))
 have k1:ZK H H1 []:=by rw[<-hH1];exact ZK.new _ _ _
 have Kn:H1.nx=H.nx+1:=by rw[<-hH1];rfl
 have g1:H1.t.get H.nx=some (rH 75 [.str x.key,.int .i64 x.z,nI .i64 x.most]):=by rw[<-hH1];exact YD rfl _
 have hroN:H.ro<=H.nx:=h.g.p.ro
 have sf:=SD (n:=3) (b:=H.nx) (l:=[.str [],nI .i64 0,nI .i64 0]) (vs:=[.str x.key,.int .i64 x.z,nI .i64 x.most]) (H:=H.new (rH 75 [.str [],nI .i64 0,nI .i64 0])) rfl rfl (by decide) hroN 75 1 false true
 rw[SC rfl,hH1] at sf
 have l0: ∀G,ld1 (some (rH 75 [.str x.key,.int .i64 x.z,nI .i64 x.most])) 0 G=.val (.str x.key) G:=λG=>rfl
 have l1: ∀G,ld1 (some (rH 75 [.str x.key,.int .i64 x.z,nI .i64 x.most])) 1 G=.val (.int .i64 x.z) G:=λG=>rfl
 have l2: ∀G,ld1 (some (rH 75 [.str x.key,.int .i64 x.z,nI .i64 x.most])) 2 G=.val (nI .i64 x.most) G:=λG=>rfl
 have smz: ∀(n:Nat) (T:T Obj),Um (.val (.int .i64 x.z) ⟨n,T,n⟩) (.int .i64 x.z) n=true:=λn T=>Td _ _ _ (Iw .i64 x.z)
 have lwf: ∀n,q<n->WC n (.func 28 [] [.ptr q 0])=true:=λn hn=>by
  show cond (Rv n []) (Rv n [.ptr q 0]) false=true
  rw[De,BO,De,ZJ hn];rfl
 have hs1:=h.keep0 k1
 have hqn:q<H.nx:=by
  obtain⟨w,_,_,_,_,h⟩:=h.bx
  omega
 have ad: ∀G,SG (nI .i64 i) (nI .i64 1) G=.val (nI .i64 (i+1)) G:=λG=>YB (by omega) G
 have ltz: ∀G,Tl Wd Xl (.int .i64 x.z) (nI .i64 0) G=.val (.bool (decide (x.z<((0:Nat):Int)))) G:=λG=>Xz .i64 x.z 0 G
 have gtz: ∀G,Tl Tq Vn (.int .i64 x.z) (nI .i64 x.most) G=.val (.bool (decide ((x.most:Int)<x.z))) G:=λG=>Xy .i64 x.z x.most G
 have ep:=λ{j}=>Zi0 E (k:=k) (n:=j) hk (z:=x.z) (H:=H1) hs1.g.g hs1.g.p.ro hz1 hz2
 by_cases hm:x.z<((0:Nat):Int)∨(x.most:Int)<x.z
 ·rw[show Cs x L=UV L x.at_ x.wid (SJ 0 x.wid) by unfold Cs;rw[if_pos hm],show QE x Rs=Rs++[(x.key,N6 x.z)] by unfold QE;rw[if_pos hm]]
  obtain⟨H2,e2,h2,n2,kx⟩:=FW E (k:=k) (n:=n+4) hs1 (by omega) (x:=x.key) (y:=N6 x.z)
  have g2:=kx H.nx _ (by omega) (by omega) g1 rfl
  have g2':H2.t.get H.nx=some (rH 75 [.str x.key,.int .i64 x.z,nI .i64 x.most]):=g2
  have h3:=h2.put (o:=rH 75 [.str x.key,nI .i64 0,nI .i64 x.most]) g2 rfl (by omega) (by omega)
  have VK:CC 1 (some (rH 75 [.str x.key,.int .i64 x.z,nI .i64 x.most])) H.nx 1 (nI .i64 0) H2=.val XL (H2.put H.nx (rH 75 [.str x.key,nI .i64 0,nI .i64 x.most])):=by
   rw[SE rfl (by show 1<3;decide) (by rw[h2.k.ro,<-h.k.ro];exact hroN) (ZA _)];rfl
  obtain⟨H3,hH3⟩:=SK (H2.put H.nx (rH 75 [.str x.key,nI .i64 0,nI .i64 x.most]))
  rw[hH3] at VK h3
  have g3:H3.t.get H.nx=some (rH 75 [.str x.key,nI .i64 0,nI .i64 x.most]):=by rw[<-hH3];exact Xv _ _ _
  have m0: ∀G,ld1 (some (rH 75 [.str x.key,nI .i64 0,nI .i64 x.most])) 0 G=.val (.str x.key) G:=λG=>rfl
  have m1: ∀G,ld1 (some (rH 75 [.str x.key,nI .i64 0,nI .i64 x.most])) 1 G=.val (nI .i64 0) G:=λG=>rfl
  obtain⟨H4,e4,h4'⟩:=zg E (k:=k) (n:=n+1) hk h3 F (u:=0) (by decide) hw3 h4
  by_cases hz:x.z<((0:Nat):Int)
  ·have d2:decide (x.z<((0:Nat):Int))=true:=Zi hz
   simp(disch:=omega) only[t5,t7,t65,t66,d1,ia,K9,sf,g1,l0,l1,smz,lwf,ad,ltz,nW,d2,ep,e2,g2',VK,g3,m0,m1,e4,Zu,decide_true,decide_false,Zd,Zb,ZX,Zn,Zb,Zd,ZJ,ZB,ZG,Zu,Zb,Zd,ZJ,MZ,Z9,Xg,ZY,Yu,Z3,Z6,Nat.reducePow,Nat.reduceDiv,Nat.reduceMod,reduceCtorEq,Xe,CK]
   exact⟨_,_,rfl,⟨t1',Jp,AC,CG,CH⟩,ZcS,rfl,h4'⟩
  ·have d2:decide (x.z<((0:Nat):Int))=false:=Ze hz
   have d3:decide ((x.most:Int)<x.z)=true:=Zi (hm.resolve_left hz)
   simp(disch:=omega) only[t5,t7,t65,t66,d1,ia,K9,sf,g1,l0,l1,l2,smz,lwf,ad,ltz,gtz,nW,d2,d3,ep,e2,g2',VK,g3,m0,m1,e4,Zu,decide_true,decide_false,Zd,Zb,ZX,Zn,Zb,Zd,ZJ,ZB,ZG,Zu,Zb,Zd,ZJ,MZ,Z9,Xg,ZY,Yu,Z3,Z6,Nat.reducePow,Nat.reduceDiv,Nat.reduceMod,reduceCtorEq,Xe,CK]
   exact⟨_,_,rfl,⟨t1',Jp,AC,CG,CH⟩,ZcS,rfl,h4'⟩
 ·rw[show Cs x L=UV L x.at_ x.wid (SJ x.z.toNat x.wid) by unfold Cs;rw[if_neg hm],show QE x Rs=Rs by unfold QE;rw[if_neg hm]]
  have d2:decide (x.z<((0:Nat):Int))=false:=Ze λh=>hm (.inl h)
  have d3:decide ((x.most:Int)<x.z)=false:=Ze λh=>hm (.inr h)
  have hz0:0<=x.z:=Int.not_lt.1 λh=>hm (.inl h)
  obtain⟨H4,e4,h4'⟩:=zg E (k:=k) (n:=n+1) hk hs1 F (u:=x.z.toNat) (by omega) hw3 h4
  rw[show nI .i64 x.z.toNat=.int .i64 x.z by show AV.int .i64 (Int.ofNat x.z.toNat)=_;rw[show Int.ofNat x.z.toNat=x.z from Int.toNat_of_nonneg hz0]] at e4
  simp only[t5,t65,t66,d1,ia,K9,sf,g1,l0,l1,l2,ad,ltz,gtz,d2,d3,e4,Zu,Zd,Zb,Zb,Zd,Zu,Zb,Zd,MZ,Z9,Xg,ZY,Xe,CK]
  exact⟨_,_,rfl,⟨t1',Jp,AC,CG,CH⟩,ZcS,rfl,h4'⟩
theorem eR(E:Env Zx fs fuel)(hk:4<=k){mb nd q:Nat}{p lk:List UInt8}{kd ti:Int}{mo ui gi:Nat}{av dv:AV}{L:List UInt8}{Rs:List NP}(hR:Rs.length<=90)(ve:ui<4294967296)(yX:gi<4294967296)(bE: -9223372036854775808<=ti)(bF:ti<=9223372036854775807)(y f dd qq)(X0:X)(m:Nat)(tm:TM)(H:Heap)(hI:HNI H0 mb nd b q p lk kd ti mo ui gi av dv L Rs m tm H):
  ∃o tm' H',MZ ⟨Z7 (LK Zx fs fuel k) fs fuel (n+5),y,f,dd,qq⟩ tm H X0=.ok o tm' H' X0∧((o=.normal∧ ∃k,k<m∧HNI H0 mb nd b q p lk kd ti mo ui gi av dv L Rs k tm' H')∨(o≠.normal∧HNQ H0 mb nd b q p lk kd ti mo ui gi av dv L Rs o tm' H')):=by
 obtain⟨ht,t65,i,t66,him,hs⟩:=hI
 cases m with
 |zero=>
  obtain rfl:i=3:=by omega
  simp only[aK] at t66
  obtain⟨t1,t4,t5,t6,t7⟩:=ht
  have d1: ∀G,Tl Wd Xl (nI .i64 3) (nI .i64 3) G=.val (.bool false) G:=λ_=>rfl
  simp only[t66,d1,MZ,Z9,Xg,CK]
  refine⟨_,_,_,rfl,?_⟩
  exact .inr ⟨by simp,rfl,⟨t1,t4,t5,t6,t7⟩,hs⟩
 |succ m=>
  have h3:i=0∨i=1∨i=2:=by omega
  rcases h3 with rfl|rfl|rfl
  ·obtain⟨tm',H',e,a1,a2,a3,a4⟩:=zf E hk hs (by show Rs.length<=100;omega) (by decide) (x:=⟨[117,105,100],108,8,ui,2097151⟩) af (by show 2<=8;decide) (by show 8<=20;decide) (by show -9223372036854775808<=(ui:Int);omega) (by show(ui:Int)<=9223372036854775807;omega) (λ_=>rfl) y f dd qq X0 tm ht t65 t66
   exact⟨_,tm',H',e,.inl ⟨rfl,m,by omega,a1,a2,1,a3,by omega,a4⟩⟩
  ·obtain⟨tm',H',e,a1,a2,a3,a4⟩:=zf E hk hs (by have h1:=QF ⟨[117,105,100],108,8,ui,2097151⟩ Rs;show(QE ⟨[117,105,100],108,8,ui,2097151⟩ Rs).length<=100;omega) (by decide) (x:=⟨[103,105,100],116,8,gi,2097151⟩) ae (by show 2<=8;decide) (by show 8<=20;decide) (by show -9223372036854775808<=(gi:Int);omega) (by show(gi:Int)<=9223372036854775807;omega) (λ_=>rfl) y f dd qq X0 tm ht t65 t66
   exact⟨_,tm',H',e,.inl ⟨rfl,m,by omega,a1,a2,2,a3,by omega,a4⟩⟩
  ·obtain⟨tm',H',e,a1,a2,a3,a4⟩:=zf E hk hs (by
    have h1:=QF ⟨[117,105,100],108,8,ui,2097151⟩ Rs
    have h2:=QF ⟨[103,105,100],116,8,gi,2097151⟩ (QE ⟨[117,105,100],108,8,ui,2097151⟩ Rs)
    show(QE ⟨[103,105,100],116,8,gi,2097151⟩ (QE ⟨[117,105,100],108,8,ui,2097151⟩ Rs)).length<=100;omega) (by decide) (x:=⟨[109,116,105,109,101],136,12,ti,8589934591⟩) sH (by show 2<=12;decide) (by show 12<=20;decide) bE bF (λ_=>rfl) y f dd qq X0 tm ht t65 t66
   exact⟨_,tm',H',e,.inl ⟨rfl,m,by omega,a1,a2,3,a3,by omega,a4⟩⟩
def hO(ui gi mo:Nat)(ti:Int)(da l0 L:List UInt8):List UInt8:=S6 (UV (UV ((zN ui gi ti).foldl (λl x=>Cs x l) (UV L 157 100 (QP l0 100))) 100 8 (SJ mo 8)) 124 12 (SJ da.length 12))
def hU(ui gi:Nat)(ti:Int)(as_ Rs:List NP):List NP:=(zN ui gi ti).foldl (λl x=>QE x l) Rs++as_.map yw
theorem iD(E:Env Zx fs fuel)(hk:4<=k){mb nd q:Nat}{p lk:List UInt8}{kd ti:Int}{mo ui gi:Nat}{av dv:AV}{L:List UInt8}{Rs:List NP}{as_:List NP}{da l0:List UInt8}(h:HS H0 mb nd b q p lk kd ti mo ui gi av dv L Rs H)(sz:Szd H0 av dv as_ da)(xH:mo<4294967296)(ve:ui<4294967296)(yX:gi<4294967296)(bE: -9223372036854775808<=ti)(bF:ti<=9223372036854775807)(hl0:l0.length<=90000)(hR:Rs.length<=90)(y f qq)(X0:X)(tm:TM)(ht:nK mb nd b q tm∧XQ tm=.str l0):
  ∃tm' H',vA ⟨Z7 (LK Zx fs fuel k) fs fuel (n+5),y,f,fuel,qq⟩ tm H X0=.ok .ret tm' H' X0∧CJ H0 mb nd b q p lk kd ti mo ui gi av dv (hO ui gi mo ti da l0 L) (hU ui gi ti as_ Rs) tm' H':=by
 obtain⟨ht,t11⟩:=ht
 obtain⟨t1,t4,t5,t6,t7⟩:=ht
 have t1':=t1;have Jp:=t4;have AC:=t5;have CG:=t6;have CH:=t7
 simp only[PD,A8,lU] at t4 t5 t11
 obtain⟨H1,e1,h1⟩:=zh E (k:=k) (n:=n+1) hk h vQ (s:=l0) hl0
 have g1:=h1.n
 have l2: ∀G,ld1 (some (rH 26 [.int .i64 kd,nI .u32 mo,nI .u32 ui,nI .u32 gi,.int .i64 ti,av,dv,.str lk])) 2 G=.val (nI .u32 ui) G:=λG=>rfl
 have l3: ∀G,ld1 (some (rH 26 [.int .i64 kd,nI .u32 mo,nI .u32 ui,nI .u32 gi,.int .i64 ti,av,dv,.str lk])) 3 G=.val (nI .u32 gi) G:=λG=>rfl
 have l4: ∀G,ld1 (some (rH 26 [.int .i64 kd,nI .u32 mo,nI .u32 ui,nI .u32 gi,.int .i64 ti,av,dv,.str lk])) 4 G=.val (.int .i64 ti) G:=λG=>rfl
 have iu: ∀G,OY .i64 (nI .u32 ui) G=.val (nI .i64 ui) G:=λG=>UT (by omega) G
 have ig: ∀G,OY .i64 (nI .u32 gi) G=.val (nI .i64 gi) G:=λG=>UT (by omega) G
 have bu: ∀G,SA [.str [],nI .i64 0,nI .i64 0] [(0,1,.str [117,105,100]),(1,1,nI .i64 ui),(2,1,nI .i64 2097151)] G=.val (.agg [.str [117,105,100],nI .i64 ui,nI .i64 2097151]) G:=λG=>rfl
 have bg: ∀G,SA [.str [],nI .i64 0,nI .i64 0] [(0,1,.str [103,105,100]),(1,1,nI .i64 gi),(2,1,nI .i64 2097151)] G=.val (.agg [.str [103,105,100],nI .i64 gi,nI .i64 2097151]) G:=λG=>rfl
 have bt: ∀G,SA [.str [],nI .i64 0,nI .i64 0] [(0,1,.str [109,116,105,109,101]),(1,1,.int .i64 ti),(2,1,nI .i64 8589934591)] G=.val (.agg [.str [109,116,105,109,101],.int .i64 ti,nI .i64 8589934591]) G:=λG=>rfl
 have b9: ∀G,SA [.str [],nI .i64 0,nI .i64 0,.str [],nI .i64 0,nI .i64 0,.str [],nI .i64 0,nI .i64 0] [(0,3,.agg [.str [117,105,100],nI .i64 ui,nI .i64 2097151]),(3,3,.agg [.str [103,105,100],nI .i64 gi,nI .i64 2097151]),(6,3,.agg [.str [109,116,105,109,101],.int .i64 ti,nI .i64 8589934591])] G=.val (wY ui gi ti) G:=λG=>rfl
 have hf:=E.big
 simp only[t4,t5,t11,e1,g1,l2,l3,l4,iu,ig,bu,bg,bt,b9,Te,Zb,Zb,ZB,ZG,Zb,vA,Z9,Xg,Xe,U4,CK]
 generalize hL:Ue (MZ _) fuel _ _ _=LL
 obtain⟨o,tm2,H2,rfl,_,rfl,ht2,hs2⟩:=XZ (P:=λT=>HNI H0 mb nd b q p lk kd ti mo ui gi av dv (UV L 157 100 (QP l0 100)) Rs 3 T H1) (Q:=HNQ H0 mb nd b q p lk kd ti mo ui gi av dv (UV L 157 100 (QP l0 100)) Rs)
  (λT hi=>We (HNI H0 mb nd b q p lk kd ti mo ui gi av dv (UV L 157 100 (QP l0 100)) Rs) (HNQ H0 mb nd b q p lk kd ti mo ui gi av dv (UV L 157 100 (QP l0 100)) Rs) (λm tm H' h=>eR E (k:=k) (n:=n) hk hR ve yX bE bF _ _ _ _ _ m tm H' h) fuel 3 T H1 (by omega) hi) hL
  (by exact⟨⟨t1',Jp,AC,CG,CH⟩,rfl,0,rfl,rfl,h1⟩)
 have n1:=QF ⟨[117,105,100],108,8,ui,2097151⟩ Rs
 have n2:=QF ⟨[103,105,100],116,8,gi,2097151⟩ (QE ⟨[117,105,100],108,8,ui,2097151⟩ Rs)
 have n3:=QF ⟨[109,116,105,109,101],136,12,ti,8589934591⟩ (QE ⟨[103,105,100],116,8,gi,2097151⟩ (QE ⟨[117,105,100],108,8,ui,2097151⟩ Rs))
 simp only[Z9,]
 exact ZcL E hk hs2 sz xH (by show(QE ⟨[109,116,105,109,101],136,12,ti,8589934591⟩ (QE ⟨[103,105,100],116,8,gi,2097151⟩ (QE ⟨[117,105,100],108,8,ui,2097151⟩ Rs))).length<=100;omega) y f qq X0 tm2 ht2
def dT(ui gi mo:Nat)(ti:Int)(da lk pr nm L:List UInt8):List UInt8:=hO ui gi mo ti da (if 100<lk.length then [] else lk) (UV (UV L 345 155 (QP pr 155)) 0 100 (QP nm 100))
def dU(ui gi:Nat)(ti:Int)(lk:List UInt8)(as_ Rs:List NP):List NP:=hU ui gi ti as_ (if 100<lk.length then Rs++[([108,105,110,107,112,97,116,104],lk)] else Rs)
theorem iC(E:Env Zx fs fuel)(hk:4<=k){mb nd q:Nat}{p lk:List UInt8}{kd ti:Int}{mo ui gi:Nat}{av dv:AV}{L:List UInt8}{Rs:List NP}{as_:List NP}{da pr nm:List UInt8}(h:HS H0 mb nd b q p lk kd ti mo ui gi av dv L Rs H)(sz:Szd H0 av dv as_ da)(xH:mo<4294967296)(ve:ui<4294967296)(yX:gi<4294967296)(bE: -9223372036854775808<=ti)(bF:ti<=9223372036854775807)(hlk:lk.length<=90000)(hpr:pr.length<=90000)(hnm:nm.length<=90000)(hR:Rs.length<=80)(y f qq)(X0:X)(tm:TM)(ht:nK mb nd b q tm∧Wi tm=.str pr∧WV tm=.str nm):
  ∃tm' H',I4 ⟨Z7 (LK Zx fs fuel k) fs fuel (n+5),y,f,fuel,qq⟩ tm H X0=.ok .ret tm' H' X0∧CJ H0 mb nd b q p lk kd ti mo ui gi av dv (dT ui gi mo ti da lk pr nm L) (dU ui gi ti lk as_ Rs) tm' H':=by
 obtain⟨ht,t8,t9⟩:=ht
 obtain⟨t1,t4,t5,t6,t7⟩:=ht
 have t1':=t1;have Jp:=t4;have AC:=t5;have CG:=t6;have CH:=t7
 simp only[PD,A8,A9,qY,eJ] at t4 t5 t7 t8 t9
 obtain⟨H1,e1,h1⟩:=zh E (k:=k) (n:=n+1) hk h lc (s:=pr) hpr
 obtain⟨H2,e2,h2⟩:=zh E (k:=k) (n:=n+1) hk h1 m9 (s:=nm) hnm
 have g2:=h2.n
 have l7: ∀G,ld1 (some (rH 26 [.int .i64 kd,nI .u32 mo,nI .u32 ui,nI .u32 gi,.int .i64 ti,av,dv,.str lk])) 7 G=.val (.str lk) G:=λG=>rfl
 unfold dT dU
 by_cases hl:100<lk.length
 ·have d1:decide (100<lk.length)=true:=Zi hl
  rw[if_pos hl,if_pos hl]
  obtain⟨H3,e3,h3,_⟩:=FW E (k:=k) (n:=n+4) h2 (by omega) (x:=[108,105,110,107,112,97,116,104]) (y:=lk)
  simp only[t4,t5,t7,t8,t9,e1,e2,g2,l7,d1,e3,nW,ZM,ZP,Zb,ZX,Zn,Zb,ZM,Zb,I4,Z9,Xg,ZY,Xe,U4]
  exact iD E hk h3 sz xH ve yX bE bF (l0:=[]) (ZA _) (by rw[Zk];show _+1<=_;omega) y f qq X0 _ ⟨⟨t1',Jp,AC,CG,CH⟩,rfl⟩
 ·have d1:decide (100<lk.length)=false:=Ze hl
  rw[if_neg hl,if_neg hl]
  simp only[t4,t5,t8,t9,e1,e2,g2,l7,d1,ZM,ZP,Zb,Zb,ZM,Zb,I4,Z9,Xg,Xe,U4]
  exact iD E hk h2 sz xH ve yX bE bF (l0:=lk) hlk (by omega) y f qq X0 _ ⟨⟨t1',Jp,AC,CG,CH⟩,rfl⟩
def sQ(p lk:List UInt8)(kd ti:Int)(mo ui gi:Nat)(da:List UInt8):List UInt8:=dT ui gi mo ti da lk (S0 (T7 kd p)).1 (S0 (T7 kd p)).2.1 (KO (nO kd))
def sR(p lk:List UInt8)(kd ti:Int)(ui gi:Nat)(as_:List NP):List NP:=dU ui gi ti lk as_ (if (S0 (T7 kd p)).2.2=true then [] else [([112,97,116,104],T7 kd p)])
theorem ZcY(z:Int):nO z<256:=by
 unfold nO
 split
 ·decide
 ·split
  ·decide
  ·split
   ·decide
   ·split<;>decide
theorem xy(kd:Int)(p:List UInt8):(T7 kd p).length<=p.length+1:=by
 unfold T7;split
 ·rw[Zk];exact Zz _
 ·omega
theorem jV(s:List UInt8)(hs:s.length<=90000):(S0 s).1.length<=90000∧(S0 s).2.1.length<=90000:=by
 unfold S0
 split
 ·exact⟨ZA _,hs⟩
 ·split
  ·exact⟨ZA _,by decide⟩
  ·split
   ·exact⟨ZA _,by decide⟩
   ·exact⟨by rw[Z2];omega,by rw[Xt];omega⟩
theorem ki(E:Env Zx fs fuel)(hk:4<=k){p lk:List UInt8}{kd ti:Int}{mo ui gi:Nat}{av dv:AV}{as_:List NP}{da:List UInt8}(gH:TL H)(sz:Szd H av dv as_ da)(xH:mo<4294967296)(ve:ui<4294967296)(yX:gi<4294967296)(bE: -9223372036854775808<=ti)(bF:ti<=9223372036854775807)(hp:p.length<=80000)(hlk:lk.length<=90000):
  ∃b q w H',Z7 (LK Zx fs fuel k) fs fuel (n+6) 15 [.agg [.str p,.int .i64 kd,nI .u32 mo,nI .u32 ui,nI .u32 gi,.int .i64 ti,av,dv,.str lk]] H=.ret (.tup [.ptr b 0,w]) H'∧H.nx<=b∧b<q∧ZK H H' []∧TL H'∧HR H' b (sQ p lk kd ti mo ui gi da)∧RP H' w 71 2 (S2 (sR p lk kd ti ui gi as_)) (q+1):=by
 rw[Z1 (ZU E.n15 (.inr rfl) _ _) E.f15]
 have hro:=gH.p.ro;have zb:=gH.p.nx
 have bx: ∀G:Heap,N2 28 (.agg [.str p,.int .i64 kd,nI .u32 mo,nI .u32 ui,nI .u32 gi,.int .i64 ti,av,dv,.str lk]) G=.val (.ptr G.nx 0) (G.new (rH 28 [.str p,.int .i64 kd,nI .u32 mo,nI .u32 ui,nI .u32 gi,.int .i64 ti,av,dv,.str lk])):=λG=>Vx (l:=[.str p,.int .i64 kd,nI .u32 mo,nI .u32 ui,nI .u32 gi,.int .i64 ti,av,dv,.str lk]) (show 1<=9 by decide) 28 G
 obtain⟨H1,hH1⟩:=SK (H.new (rH 28 [.str p,.int .i64 kd,nI .u32 mo,nI .u32 ui,nI .u32 gi,.int .i64 ti,av,dv,.str lk]))
 have k1:ZK H H1 []:=by rw[<-hH1];exact ZK.new _ _ _
 have Kn:H1.nx=H.nx+1:=by rw[<-hH1];rfl
 have FF:H1.ro=H.ro:=by rw[<-hH1];rfl
 have g1:H1.t.get H.nx=some (rH 28 [.str p,.int .i64 kd,nI .u32 mo,nI .u32 ui,nI .u32 gi,.int .i64 ti,av,dv,.str lk]):=by rw[<-hH1];exact YD rfl _
 have ld8: ∀G,zq 8 (some (rH 28 [.str p,.int .i64 kd,nI .u32 mo,nI .u32 ui,nI .u32 gi,.int .i64 ti,av,dv,.str lk])) 1 G=.val (.agg [.int .i64 kd,nI .u32 mo,nI .u32 ui,nI .u32 gi,.int .i64 ti,av,dv,.str lk]) G:=λG=>TJ (show 1+8<=9 by decide) ..
 have uj: ∀G,zq 9 (some (rH 28 [.str p,.int .i64 kd,nI .u32 mo,nI .u32 ui,nI .u32 gi,.int .i64 ti,av,dv,.str lk])) 0 G=.val (.agg [.str p,.int .i64 kd,nI .u32 mo,nI .u32 ui,nI .u32 gi,.int .i64 ti,av,dv,.str lk]) G:=λG=>TJ (show 0+9<=9 by decide) ..
 obtain⟨H2,hH2⟩:=SK (H1.new (rH 26 [.int .i64 kd,nI .u32 mo,nI .u32 ui,nI .u32 gi,.int .i64 ti,av,dv,.str lk]))
 have k12:ZK H1 H2 []:=by rw[<-hH2];exact ZK.new _ _ _
 have k2:ZK H H2 []:=k1.trans' k12
 have nx2:H2.nx=H1.nx+1:=by rw[<-hH2];rfl
 have g2:H2.t.get H1.nx=some (rH 26 [.int .i64 kd,nI .u32 mo,nI .u32 ui,nI .u32 gi,.int .i64 ti,av,dv,.str lk]):=by rw[<-hH2];exact YD rfl _
 have sf:=SD (n:=8) (b:=H1.nx) (l:=[nI .i64 0,nI .u32 0,nI .u32 0,nI .u32 0,nI .i64 0,.nils,.nils,.str []]) (vs:=[.int .i64 kd,nI .u32 mo,nI .u32 ui,nI .u32 gi,.int .i64 ti,av,dv,.str lk]) (H:=H1.new (rH 26 [nI .i64 0,nI .u32 0,nI .u32 0,nI .u32 0,nI .i64 0,.nils,.nils,.str []])) rfl rfl (by decide) (by show H1.ro<=_;omega) 26 1 false true
 rw[SC rfl,hH2] at sf
 have lk0: ∀G,ld1 (some (rH 26 [.int .i64 kd,nI .u32 mo,nI .u32 ui,nI .u32 gi,.int .i64 ti,av,dv,.str lk])) 0 G=.val (.int .i64 kd) G:=λG=>rfl
 have gI:=gH.keep0 k2
 obtain⟨rT,gT,lT0,lT1⟩:=gI.p.t
 have gTm:=gI.p.tm
 have lT: ∀G,ld1 (some (.row rT)) 0 G=.val (.map 12) G:=λG=>by rw[Y0 lT0,lT1]
 have lt:=λG=>dO kd G
 obtain⟨H3,e3,k23,R3⟩:=CN E (k:=k) (n:=n) hk (t:=nO kd) (ZcY kd) gI
 have k3:ZK H H3 []:=k2.trans' k23
 have nx3:=R3.lt
 obtain⟨H4,Kz⟩:=SK (H3.new (rH 48 [.nils]))
 have zk:ZK H3 H4 []:=by rw[<-Kz];exact ZK.new _ _ _
 have k4:ZK H H4 []:=k3.trans' zk
 have k24:ZK H2 H4 []:=k23.trans' zk
 have nx4:H4.nx=H3.nx+1:=by rw[<-Kz];rfl
 have ro4:=k4.ro
 have g14:H4.t.get H.nx=some (rH 28 [.str p,.int .i64 kd,nI .u32 mo,nI .u32 ui,nI .u32 gi,.int .i64 ti,av,dv,.str lk]):=by rw[(k12.trans' k24).get _ (by omega) (by simp)];exact g1
 have hs4:HS H H.nx H1.nx H2.nx H3.nx p lk kd ti mo ui gi av dv (KO (nO kd)) [] H4:=by
  refine⟨k4,gH.keep0 k4,g14,by rw[k24.get _ (by omega) (by simp)];exact g2,R3.keep0 zk,⟨.nils,by rw[<-Kz];exact YD rfl _,.inl ⟨rfl,rfl⟩,by omega,by omega,by omega⟩,zb,by omega,by omega,by omega,by omega⟩
 obtain⟨H5,e5,xq⟩:=xz E (k:=k) (n:=n+4) (H:=H4) (p:=p) (lk:=lk) (kd:=kd) (ti:=ti) (mo:=mo) (ui:=ui) (gi:=gi) (av:=av) (dv:=dv) (by omega)
 have hs5:=hs4.keep0 xq
 have g5:=hs5.m
 have hl:=xy kd p
 have ep:=λ{j}=>Ze2 E (k:=k) (n:=j) hk (s:=T7 kd p) (H:=H5) (by omega)
 obtain⟨hp1,hp2⟩:=jV (T7 kd p) (by omega)
 unfold sQ sR
 cases hfit:(S0 (T7 kd p)).2.2 with
 |true=>
  rw[hfit] at ep
  rw[if_pos rfl]
  simp only[bx,hH1,g1,ld8,uj,sf,g2,gT,gTm,lT,lt,lk0,e3,Kz,g14,e5,ep,Us,Zr,ZL,OH,Zd,Zb,Zb,Zd,Zr,ZL,Zb,Zd,Zr,ZL,c15,Z9,Xg,ZY,Yu,Xe,U4]
  generalize hS:I4 _ _ _ _=S
  obtain⟨tm',H',rfl,t2,hs',w,t3,rb⟩:=CM (P:=λT=>nK H.nx H1.nx H2.nx H3.nx T∧Wi T=.str (S0 (T7 kd p)).1∧WV T=.str (S0 (T7 kd p)).2.1) (Q:=λtm' H'=>CJ H H.nx H1.nx H2.nx H3.nx p lk kd ti mo ui gi av dv _ _ tm' H')
   (λT hi=>iC E (k:=k) (n:=n) hk hs5 sz xH ve yX bE bF hlk hp1 hp2 (ZA _) _ _ _ _ T hi) hS
   (by exact⟨⟨rfl,rfl,rfl,rfl,rfl⟩,rfl,rfl⟩)
  simp only[Cl,FC] at t2 t3
  simp only[t2,t3,Z9,ZY,Xe]
  refine⟨_,H3.nx,w,H',rfl,?_⟩
  exact⟨by omega,by omega,hs'.k,hs'.g,hs'.hr,rb⟩
 |false=>
  rw[hfit] at ep
  rw[if_neg (by simp)]
  obtain⟨H6,e6,yl⟩:=xz E (k:=k) (n:=n+4) (H:=H5) (p:=p) (lk:=lk) (kd:=kd) (ti:=ti) (mo:=mo) (ui:=ui) (gi:=gi) (av:=av) (dv:=dv) (by omega)
  obtain⟨H7,e7,hs7,_⟩:=FW E (k:=k) (n:=n+4) (hs5.keep0 yl) (ZA _) (x:=[112,97,116,104]) (y:=T7 kd p)
  simp only[bx,hH1,g1,ld8,uj,sf,g2,gT,gTm,lT,lt,lk0,e3,Kz,g14,e5,ep,Us,Zr,ZL,OH,Lw,ZX,nW,g5,e6,e7,Zd,Zb,ZX,Zn,Zb,Zd,Zr,ZL,Zb,Zd,Zr,ZL,c15,Z9,Xg,ZY,Yu,Xe,U4]
  generalize hS:I4 _ _ _ _=S
  obtain⟨tm',H',rfl,t2,hs',w,t3,rb⟩:=CM (P:=λT=>nK H.nx H1.nx H2.nx H3.nx T∧Wi T=.str (S0 (T7 kd p)).1∧WV T=.str (S0 (T7 kd p)).2.1) (Q:=λtm' H'=>CJ H H.nx H1.nx H2.nx H3.nx p lk kd ti mo ui gi av dv _ _ tm' H')
   (λT hi=>iC E (k:=k) (n:=n) hk hs7 sz xH ve yX bE bF hlk hp1 hp2 (by show 1<=80;decide) _ _ _ _ T hi) hS
   (by exact⟨⟨rfl,rfl,rfl,rfl,rfl⟩,rfl,rfl⟩)
  simp only[Cl,FC] at t2 t3
  simp only[t2,t3,Z9,ZY,Xe]
  refine⟨_,H3.nx,w,H',rfl,?_⟩
  exact⟨by omega,by omega,hs'.k,hs'.g,hs'.hr,rb⟩
end
end
end Go.AI
