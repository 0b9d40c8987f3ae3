/- A head of one block: walked: proved without conditions but those that each names. -/
import Derived.Test.YtbdmnfoadmfjpaaGreatDoorPC
set_option maxRecDepth 1000000
set_option maxHeartbeats 0
set_option linter.unusedVariables false
set_option linter.unusedSimpArgs false
namespace Go.AI
open Go
noncomputable section
def R0(s:List UInt8):List UInt8×List UInt8×Bool:=
 if s.length<=100 then([],s,true)
 else if PH 47 (s.take (min (s.length - 1) 156))=0 then([],[112,97,120],false)
 else if 100<s.length - (PH 47 (s.take (min (s.length - 1) 156)) - 1) - 1 then([],[112,97,120],false)
 else(s.take (PH 47 (s.take (min (s.length - 1) 156)) - 1),s.drop (PH 47 (s.take (min (s.length - 1) 156))),true)
def SW(kd:Int)(p:List UInt8):List UInt8:=if kd=1 then p++[47] else p
theorem iV{Zo:Lib}{fs:T CF}{fuel:Nat}(E:Env Zo fs fuel){n:Nat}{s:List UInt8}{H:Heap}(hs:s.length<=90000):
  ∃H',Z8 (LK Zo fs fuel 3) fs fuel (n+2) 37 [.str s] H=.ret (.tup [.str (R0 s).1,.str (R0 s).2.1,.bool (R0 s).2.2]) H'∧ZE H H' []:=by
 rw[Z7 (Z2 E.n37 (.inl (by decide)) _ _) E.f37]
 by_cases h1:s.length<=100
 ·have d1:decide (s.length<=100)=true:=Zj h1
  rw[show R0 s=([],s,true) by unfold R0;rw[if_pos h1]]
  simp only[d1,ZK,ZP,ZK,c37,Yf,Xr,ZV,Xq]
  refine⟨_,rfl,?_⟩
  exact ZE.refl _ _
 have d1:decide (s.length<=100)=false:=Ze h1
 have sb: ∀G,J8 (nI .i64 s.length) (nI .i64 1) G=.val (nI .i64 (s.length - 1)) G:=λG=>YR (by omega) (by omega) G
 have el:=λ{j}=>Zfw E (k:=3) (n:=j) (by decide) (s:=s.take (min (s.length - 1) 156)) (x:=47) (H:=H) (by rw[Z4];omega)
 have hc:=wC 47 (s.take (min (s.length - 1) 156))
 rw[Z4] at hc
 unfold R0
 rw[if_neg h1]
 generalize PH 47 (s.take (min (s.length - 1) 156))=q at*
 by_cases h2:q=0
 ·have d2:decide (q=0)=true:=Zj h2
  rw[if_pos h2]
  simp(disch:=omega) only[d1,sb,el,d2,ZK,ZP,Yb,Wc,ZK,TJ,Po,Yb,c37,Yf,Xr,ZV,Yv,Xq]
  refine⟨_,rfl,?_⟩
  exact ZE.refl _ _
 rw[if_neg h2]
 obtain⟨p,rfl⟩: ∃p,q=p+1:=⟨q - 1,by omega⟩
 have mi:mI (p+1)=nI .i64 p:=rfl
 rw[mi] at el
 have dz:decide (p<0)=false:=Ze (SH _)
 have sb2: ∀G,J8 (nI .i64 s.length) (nI .i64 p) G=.val (nI .i64 (s.length - p)) G:=λG=>YR (by omega) (by omega) G
 have sb3: ∀G,J8 (nI .i64 (s.length - p)) (nI .i64 1) G=.val (nI .i64 (s.length - p - 1)) G:=λG=>YR (by omega) (by omega) G
 rw[T8]
 by_cases h3:100<s.length - p - 1
 ·have d3:decide (100<s.length - p - 1)=true:=Zj h3
  rw[if_pos h3]
  simp(disch:=omega) only[d1,sb,el,dz,sb2,sb3,d3,ZK,Zy,ZJ,ZP,Yb,Zy,ZJ,ZK,TJ,Po,Yb,c37,Yf,Xr,ZV,Yv,Xq]
  refine⟨_,rfl,?_⟩
  exact ZE.refl _ _
 have d3:decide (100<s.length - p - 1)=false:=Ze h3
 rw[if_neg h3]
 simp(disch:=omega) only[d1,sb,el,dz,sb2,sb3,d3,ZK,Zy,ZJ,Yy,ZP,Ya,Yb,Zz,ZH,Zy,ZJ,ZK,TJ,Po,Yb,Ya,Yy,c37,Yf,Xr,ZV,Yv,Z0,Xq,TB]
 refine⟨_,rfl,?_⟩
 exact ZE.refl _ _
theorem ZkT{Zo:Lib}{fs:T CF}{fuel:Nat}(E:Env Zo fs fuel){k n:Nat}(hk:4<=k){s:List UInt8}{H:Heap}(hs:s.length<=90000):
  Z8 (LK Zo fs fuel k) fs fuel (n+1) 37 [.str s] H=.ret (.tup [.str (R0 s).1,.str (R0 s).2.1,.bool (R0 s).2.2]) H:=by
 obtain⟨H',e,g⟩:=iV E (n:=898) (H:=H) hs
 exact Xp (r:=3) rfl rfl e g (rfl) hk
theorem tE{Zo:Lib}{fs:T CF}{fuel:Nat}(E:Env Zo fs fuel){k n:Nat}{H:Heap}{p lk:List UInt8}{kd ti:Int}{mo ui gi:Nat}{av dv:AV}(hp:p.length<=90000):
  ∃H',Z8 (LK Zo fs fuel k) fs fuel (n+1) 38 [.agg [.str p,.int .i64 kd,nI .u32 mo,nI .u32 ui,nI .u32 gi,.int .i64 ti,av,dv,.str lk]] H=.ret (.str (SW kd p)) H'∧ZE H H' []:=by
 rw[Z7 (Z2 E.n38 (.inr rfl) _ _) E.f38]
 have bx: ∀G:Heap,II 36 (.agg [.str p,.int .i64 kd,nI .u32 mo,nI .u32 ui,nI .u32 gi,.int .i64 ti,av,dv,.str lk]) G=.val (.ptr G.nx 0) (G.new (rG 36 1 [.str p,.int .i64 kd,nI .u32 mo,nI .u32 ui,nI .u32 gi,.int .i64 ti,av,dv,.str lk] 0 false true true)):=λG=>V7 (l:=[.str p,.int .i64 kd,nI .u32 mo,nI .u32 ui,nI .u32 gi,.int .i64 ti,av,dv,.str lk]) (show 1<=9 by decide) 36 G
 have gz:=λ(G:Heap)=>YB (H:=G) rfl (rG 36 1 [.str p,.int .i64 kd,nI .u32 mo,nI .u32 ui,nI .u32 gi,.int .i64 ti,av,dv,.str lk] 0 false true true)
 have l0: ∀G,ld1 (some (rG 36 1 [.str p,.int .i64 kd,nI .u32 mo,nI .u32 ui,nI .u32 gi,.int .i64 ti,av,dv,.str lk] 0 false true true)) 0 G=.val (.str p) G:=λG=>rfl
 have l1: ∀G,ld1 (some (rG 36 1 [.str p,.int .i64 kd,nI .u32 mo,nI .u32 ui,nI .u32 gi,.int .i64 ti,av,dv,.str lk] 0 false true true)) 1 G=.val (.int .i64 kd) G:=λG=>rfl
 have ad:=λG=>Lu (a:=p) (b:=[47]) (by show _+1<=_;omega) G
 have eqk: ∀G,MU UB false (.int .i64 kd) (nI .i64 1) G=.val (.bool (decide (kd=1))) G:=λG=>XC _ _ _ _
 by_cases h1:kd=1
 ·have d1:decide (kd=1)=true:=Zj h1
  rw[show SW kd p=p++[47] by unfold SW;rw[if_pos h1]]
  simp only[bx,gz,l0,l1,ad,eqk,d1,SA,Zd,Zb,Zb,Zd,Zb,Zd,c38,Yf,Xr,ZV,Xq]
  refine⟨_,rfl,?_⟩
  exact ZE.new _ _ _
 ·have d1:decide (kd=1)=false:=Ze h1
  rw[show SW kd p=p by unfold SW;rw[if_neg h1]]
  simp only[bx,gz,l0,l1,eqk,d1,SA,Zd,Zb,Zb,Zd,Zb,Zd,c38,Yf,Xr,ZV,Xq]
  refine⟨_,rfl,?_⟩
  exact ZE.new _ _ _
theorem Zpa{Zo:Lib}{fs:T CF}{fuel:Nat}(E:Env Zo fs fuel){k n:Nat}(hk:4<=k){H:Heap}{z:Int}(g:P8 H)(hro:H.ro<=H.nx)(hz1: -9223372036854775808<=z)(hz2:z<=9223372036854775807):
  Z8 (LK Zo fs fuel k) fs fuel (n+2) 39 [.int .i64 z] H=.ret (.str (Km z)) H:=by
 rw[Z7 (Z2 E.n39 (.inr rfl) _ _) E.f39]
 have e1:=λ{j}=>dD E (k:=k) (n:=j) hk (z:=z) (H:=H) g hro hz1 (by omega)
 simp only[e1,c39,Yf,Xr,ZV,Xq]
def BxR(H:Heap)(q lo:Nat)(l:List NP):Prop:= ∃w,H.t.get q=some (rG 61 1 [w] 0 false true true)∧Py H w 85 2 (QG l) lo∧q<lo∧H.ro<=q∧lo<=H.nx
theorem BxR.keep{H H':Heap}{q lo:Nat}{l:List NP}{S:List Nat}(h:BxR H q lo l)(k:ZE H H' S)(hS: ∀x∈S,x<lo∧x≠q):BxR H' q lo l:=by
 obtain⟨w,h1,h2,h3,h4,h5⟩:=h
 refine⟨w,by rw[k.get q (by omega) (λh=>(hS q h).2 rfl)];exact h1,h2.below (λc hc hlt=>k.get c hlt λh=>by have:=(hS c h).1;omega) k.ro k.nx,h3,by rw[k.ro];exact h4,Yl h5 k.nx⟩
theorem BxR.put{H:Heap}{q lo c:Nat}{l:List NP}{r:Row}{o:Obj}(h:BxR H q lo l)(hc:H.t.get c=some (.row r))(he:r.exact=true)(hq:c≠q):BxR (H.put c o) q lo l:=by
 obtain⟨w,h1,h2,h3,h4,h5⟩:=h
 refine⟨w,by rw[Q7 hq];exact h1,?_,h3,h4,h5⟩
 rcases h2 with hw2|⟨g1,b0,r0,g2,g3,g4⟩
 ·exact .inl hw2
 ·refine .inr ⟨g1,b0,r0,g2,g3.moved (Q7 (λe=>?_) ..) rfl (Zq _),g4⟩
  rw[e] at hc
  have:=g3.at_.symm.trans hc
  cases this
  rw[g3.exact_] at he;cases he
theorem aD{Zo:Lib}{fs:T CF}{fuel:Nat}(E:Env Zo fs fuel){k n:Nat}{H:Heap}{q lo:Nat}{l:List NP}{a b:List UInt8}(h:BxR H q lo l)(hl:l.length<=1000):
  ∃H' S,Z8 (LK Zo fs fuel k) fs fuel (n+1) 36 [.str a,.str b,.ptr q 0] H=.ret (.tup []) H'∧ZE H H' S∧(∀x∈S,x=q∨lo<=x∧ ∃r,H.t.get x=some (.row r)∧r.exact=false)∧BxR H' q lo (l++[(a,b)]):=by
 rw[Z7 (Z2 E.n36 (.inr rfl) _ _) E.f36]
 obtain⟨w,h1,h2,h3,h4,h5⟩:=h
 obtain⟨lw,sw,cw,bw⟩:=TN h2
 obtain⟨w',H2,ea,w2,k2,hb2,n2⟩:=lG (bytes:=32) h2 (by decide) (by decide) (by rw[Sg];omega) (by omega) (by omega) (x:=[.str a,.str b]) rfl
 have bs: ∀G,UL 85 2 1 [.str [],.str []] [(0,2,.agg [.str a,.str b])] G=.val (.slice G.nx 0 1 none) (G.new (rG 85 2 [.str a,.str b] 0 false true true)):=λ_=>rfl
 have b2: ∀G,Rz [.str [],.str []] [(0,1,.str a),(1,1,.str b)] G=.val (.agg [.str a,.str b]) G:=λ_=>rfl
 have lq: ∀G,ld1 (some (rG 61 1 [w] 0 false true true)) 0 G=.val w G:=λG=>Vo (YK 0) ..
 have gq2:H2.t.get q=some (rG 61 1 [w] 0 false true true):=by rw[k2.get _ (by omega) (λh=>by have:=(bw _ h).1;omega)];exact h1
 obtain⟨_,_,cw',bw'⟩:=TN w2
 have sq:oA 1 (some (rG 61 1 [w] 0 false true true)) q 0 w' H2=.val XE (H2.put q (rG 61 1 [w'] 0 false true true)):=by
  rw[KK cw' (YK 0) (by rw[k2.ro];exact h4) (ZB _)];rfl
 simp only[h1,lq,bs,b2,ea,gq2,sq,ZX,TK,ZX,ZW,Zz,ZH,c36,Yf,Xr,ZV,Xq]
 refine⟨_,q::WK w,rfl,?_,λx hx=>?_,w',XY ..,?_,h3,?_,?_⟩
 ·exact(⟨k2.nx,k2.ro,λc hc hn=>k2.get c hc λh=>hn (ZQ _ h)⟩:ZE H H2 (q::WK w)).then_put (λ_=>ZF ..)
 ·rcases Yi.1 hx with rfl|hx
  ·exact .inl rfl
  ·refine .inr ⟨(bw _ hx).1,?_⟩
   rcases h2 with⟨_,rfl⟩|⟨_,b0,r0,rfl,hr,_⟩
   ·cases hx
   ·obtain rfl:x=b0:=by simpa [WK] using hx
    exact⟨r0,hr.at_,hr.exact_⟩
 ·rw[xk]
  rcases w2 with hw2|⟨h1,b0,r0,h2,h3,h4⟩
  ·exact .inl hw2
  ·exact .inr ⟨h1,b0,r0,h2,h3.moved (Q7 (by omega) ..) rfl (Zq _),h4⟩
 ·show H2.ro<=q;rw[k2.ro];exact h4
 ·have:=k2.nx;show lo<=H2.nx;omega
theorem qr(x y z:AV):[x,y]++[z]=[x,y,z]:=rfl
theorem zP{a:TM->Heap->X->WL}{H:Heap}{x:X}{S:WL}{P:TM->Prop}{Q:TM->Heap->Prop}(lp: ∀T,P T-> ∃tm' H',a T H x=.ok .ret tm' H' x∧Q tm' H'){T:TM}(hS:a T H x=S)(hi:P T):
  ∃tm' H',S=.ok .ret tm' H' x∧Q tm' H':=by
 obtain⟨b,c,e,j⟩:=lp T hi
 exact⟨b,c,hS.symm.trans e,j⟩
structure HS(H0:Heap)(mb nd b q:Nat)(p lk:List UInt8)(kd ti:Int)(mo ui gi:Nat)(av dv:AV)(L:List UInt8)(Rs:List NP)(H:Heap):Prop where
 k:ZE H0 H []
 g:Su H
 m:H.t.get mb=some (rG 36 1 [.str p,.int .i64 kd,nI .u32 mo,nI .u32 ui,nI .u32 gi,.int .i64 ti,av,dv,.str lk] 0 false true true)
 n:H.t.get nd=some (rG 34 1 [.int .i64 kd,nI .u32 mo,nI .u32 ui,nI .u32 gi,.int .i64 ti,av,dv,.str lk] 0 false true true)
 hr:HR H b L
 bx:BxR H q (q+1) Rs
 o0:100<=H0.nx
 o1:H0.nx<=mb
 o2:mb<nd
 o3:nd<b
 o4:b<q
theorem HS.upd{H0:Heap}{mb nd b q:Nat}{p lk:List UInt8}{kd ti:Int}{mo ui gi:Nat}{av dv:AV}{L L':List UInt8}{Rs Rs':List NP}{H H':Heap}{S:List Nat}(h:HS H0 mb nd b q p lk kd ti mo ui gi av dv L Rs H)(k:ZE H H' S)(hS: ∀x∈S,x=b∨x=q∨q+1<=x)(hr:HR H' b L')(bx:BxR H' q (q+1) Rs'):HS H0 mb nd b q p lk kd ti mo ui gi av dv L' Rs' H':=by
 obtain⟨h1,h2,h3,h4,h5,h6,h70,h7,h8,h9,h10⟩:=h
 have hlt:=h5.lt
 have GY:=h2.p.nx
 have hq:q<H.nx:=by
  obtain⟨w,_,_,_,_,h⟩:=h6
  omega
 have hk0:=h1.nx
 have ho: ∀x∈S,H0.nx<=x:=λx hx=>by rcases hS x hx with h|h|h<;>omega
 exact⟨h1.trans k (λc hc hlt=>by have:=ho c hc;omega),h2.keep k (λx hx=>by rcases hS x hx with h|h|h<;>omega),
  by rw[k.get mb (by omega) (λh=>by rcases hS _ h with h|h|h<;>omega)];exact h3,
  by rw[k.get nd (by omega) (λh=>by rcases hS _ h with h|h|h<;>omega)];exact h4,hr,bx,h70,h7,h8,h9,h10⟩
theorem HS.keep0{H0:Heap}{mb nd b q:Nat}{p lk:List UInt8}{kd ti:Int}{mo ui gi:Nat}{av dv:AV}{L:List UInt8}{Rs:List NP}{H H':Heap}(h:HS H0 mb nd b q p lk kd ti mo ui gi av dv L Rs H)(k:ZE H H' []):HS H0 mb nd b q p lk kd ti mo ui gi av dv L Rs H':=
 h.upd k (λx hx=>by cases hx) (h.hr.keep0 k) (h.bx.keep k λx hx=>by cases hx)
theorem wU{Zo:Lib}{fs:T CF}{fuel:Nat}(E:Env Zo fs fuel){k n:Nat}(hk:4<=k){H0 H:Heap}{mb nd b q:Nat}{p lk:List UInt8}{kd ti:Int}{mo ui gi:Nat}{av dv:AV}{L:List UInt8}{Rs:List NP}(h:HS H0 mb nd b q p lk kd ti mo ui gi av dv L Rs H){nm s:List UInt8}{a m:Nat}(F:zK nm a m)(hs:s.length<=90000):
  ∃H',Z8 (LK Zo fs fuel k) fs fuel (n+4) 23 [.ptr b 0,.str nm,.str s] H=.ret (.tup []) H'∧HS H0 mb nd b q p lk kd ti mo ui gi av dv (Sj L a m (Oj s m)) Rs H':=by
 obtain⟨H',e,k1,r⟩:=A4 E (n:=n) hk h.g F h.hr hs
 have:=h.o4
 exact⟨H',e,h.upd k1 (λx hx=>.inl (ZG.1 hx)) r (h.bx.keep k1 λx hx=>by have:=ZG.1 hx;omega)⟩
theorem wT{Zo:Lib}{fs:T CF}{fuel:Nat}(E:Env Zo fs fuel){k n:Nat}(hk:4<=k){H0 H:Heap}{mb nd b q:Nat}{p lk:List UInt8}{kd ti:Int}{mo ui gi:Nat}{av dv:AV}{L:List UInt8}{Rs:List NP}(h:HS H0 mb nd b q p lk kd ti mo ui gi av dv L Rs H){nm:List UInt8}{u a m:Nat}(F:zK nm a m)(hu:u<9223372036854775808)(h3:2<=m)(h4:m<=20):
  ∃H',Z8 (LK Zo fs fuel k) fs fuel (n+4) 24 [.ptr b 0,.str nm,nI .i64 u] H=.ret (.tup []) H'∧HS H0 mb nd b q p lk kd ti mo ui gi av dv (Sj L a m (Nu u m)) Rs H':=by
 obtain⟨H',e,k1,r⟩:=Is E (n:=n) hk h.g F h.hr hu h3 h4
 have:=h.o4
 exact⟨H',e,h.upd k1 (λx hx=>.inl (ZG.1 hx)) r (h.bx.keep k1 λx hx=>by have:=ZG.1 hx;omega)⟩
theorem CA{Zo:Lib}{fs:T CF}{fuel:Nat}(E:Env Zo fs fuel){k n:Nat}{H0 H:Heap}{mb nd b q:Nat}{p lk:List UInt8}{kd ti:Int}{mo ui gi:Nat}{av dv:AV}{L:List UInt8}{Rs:List NP}(h:HS H0 mb nd b q p lk kd ti mo ui gi av dv L Rs H)(hl:Rs.length<=1000){x y:List UInt8}:
  ∃H',Z8 (LK Zo fs fuel k) fs fuel (n+1) 36 [.str x,.str y,.ptr q 0] H=.ret (.tup []) H'∧HS H0 mb nd b q p lk kd ti mo ui gi av dv L (Rs++[(x,y)]) H'∧H.nx<=H'.nx∧ ∀c r,c<H.nx->c≠q->H.t.get c=some (.row r)->r.exact=true->H'.t.get c=some (.row r):=by
 obtain⟨H',S,e,k1,hS,r⟩:=aD E (n:=n) h.bx hl (a:=x) (b:=y)
 have:=h.o4
 refine⟨H',e,h.upd k1 (λx hx=>.inr ((hS x hx).imp id λh=>h.1)) (h.hr.keep k1 λhx=>by rcases hS _ hx with h|⟨h,_⟩<;>omega) r,k1.nx,λc r hc hq hr he=>?_⟩
 rw[k1.get c hc λhx=>?_]
 ·exact hr
 ·rcases hS c hx with h|⟨_,r',h1,h2⟩
  ·exact hq h
  ·rw[hr] at h1;cases h1;rw[he] at h2;cases h2
theorem HS.put{H0 H:Heap}{mb nd b q:Nat}{p lk:List UInt8}{kd ti:Int}{mo ui gi:Nat}{av dv:AV}{L:List UInt8}{Rs:List NP}{c:Nat}{r:Row}{o:Obj}(h:HS H0 mb nd b q p lk kd ti mo ui gi av dv L Rs H)(hc:H.t.get c=some (.row r))(he:r.exact=true)(hq:q+1<=c)(hlt:c<H.nx):HS H0 mb nd b q p lk kd ti mo ui gi av dv L Rs (H.put c o):=by
 have:=h.o4
 have kp:ZE H (H.put c o) [c]:=ZE.put λ_=>ZG.2 rfl
 exact h.upd kp (λx hx=>by have:=ZG.1 hx;omega) (h.hr.keep kp λhx=>by have:=ZG.1 hx;omega) (h.bx.put hc he (by omega))
theorem Zc8{Zo:Lib}{fs:T CF}{fuel:Nat}(E:Env Zo fs fuel){k n:Nat}(hk:4<=k){H0 H:Heap}{mb nd b q:Nat}{p lk:List UInt8}{kd ti:Int}{mo ui gi:Nat}{av dv:AV}{L:List UInt8}{Rs:List NP}(h:HS H0 mb nd b q p lk kd ti mo ui gi av dv L Rs H):
  ∃H',Z8 (LK Zo fs fuel k) fs fuel (n+5) 25 [.ptr b 0] H=.ret (.tup []) H'∧HS H0 mb nd b q p lk kd ti mo ui gi av dv (DQ L) Rs H':=by
 obtain⟨H',e,k1,r⟩:=sY E (n:=n) hk h.g h.hr
 have:=h.o4
 exact⟨H',e,h.upd k1 (λx hx=>.inl (ZG.1 hx)) r (h.bx.keep k1 λx hx=>by have:=ZG.1 hx;omega)⟩
structure ft(mb nd b q:Nat)(tm:TM):Prop where
 t1:Wv tm=.ptr mb 0
 t4:XQ tm=.ptr nd 0
 t5:Wa tm=.ptr b 0
 t6:Ve tm=.ptr q 0
 t7:WH tm=.func 36 [] [.ptr q 0]
def zL(H0:Heap)(mb nd b q:Nat)(p lk:List UInt8)(kd ti:Int)(mo ui gi:Nat)(av dv:AV)(L:List UInt8)(Rs:List NP)(tm:TM)(H:Heap):Prop:=Uv tm=.ptr b 0∧HS H0 mb nd b q p lk kd ti mo ui gi av dv L Rs H∧ ∃w,VL tm=w∧Py H w 85 2 (QG Rs) (q+1)
theorem ZhZ{Zo:Lib}{fs:T CF}{fuel:Nat}(E:Env Zo fs fuel){k n:Nat}(hk:4<=k){H0 H:Heap}{mb nd b q:Nat}{p lk:List UInt8}{kd ti:Int}{mo ui gi:Nat}{av dv:AV}{L:List UInt8}{Rs:List NP}(h:HS H0 mb nd b q p lk kd ti mo ui gi av dv L Rs H)(y f qq)(X0:X)(tm:TM)(ht:ft mb nd b q tm):
  ∃tm' H',qB ⟨Z8 (LK Zo fs fuel k) fs fuel (n+5),y,f,fuel,qq⟩ tm H X0=.ok .ret tm' H' X0∧zL H0 mb nd b q p lk kd ti mo ui gi av dv (DQ L) Rs tm' H':=by
 obtain⟨t1,t4,t5,t6,t7⟩:=ht
 simp only[QD] at t5
 simp only[JC] at t6
 obtain⟨H1,e1,h1⟩:=Zc8 E (n:=n) hk h
 obtain⟨w,g1,g2,g3,g4,g5⟩:=h1.bx
 obtain⟨lw,sw,cw,bw⟩:=TN g2
 have lw0:=lw H1.nx (Zq _)
 have lq: ∀G,ld1 (some (rG 61 1 [w] 0 false true true)) 0 G=.val w G:=λG=>Vo (YK 0) ..
 have lwb:=λo=>ZN (n:=H1.nx) (b:=b) h1.hr.lt o
 simp(maxSteps:=4000000) (disch:=first|assumption|omega|(simp -implicitDefEqProofs only[Xl,Xm]<;>first|assumption|omega)|decide) only[t5,t6,e1,g1,lq,lw0,lwb,sw,Us,Vk,Yx,Ye,ZM,ZK,Zy,ZJ,YN,Y7,YE,Xa,YR,Yy,ZP,Ya,Yb,YV,Nat.reduceSub,Nat.reduceAdd,Nat.reduceLeDiff,ZB,ZL,Nat.reduceEqDiff,decide_true,decide_false,Yq,Zd,Zb,X7,Wc,Y0,Yw,Yk,YQ,YP,Z6,Zx,Zr,Y8,ZY,Zb,Zd,Xg,ZD,ZR,Qp,ZN,Zu,ZC,Zw,ZI,Zs,Zv,Zl,ZO,XC,XJ,Xx,Xw,ZU,ZS,ZX,ZW,Zz,ZH,YC,YF,Zy,ZJ,ZK,ZM,Zb,Zd,ZD,ZR,ZN,YL,YA,YH,YZ,Yp,Yj,qB,Yf,Xr,ZV,Yv,Z0,Z1,Yc,Nat.reducePow,Nat.reduceDiv,Nat.reduceMod,Nat.reduceEqDiff,reduceCtorEq,Xq,IH]
 refine⟨_,_,rfl,?_⟩
 exact⟨(by simp only[Xq,Xr]),h1,w,(by simp only[Xq,Xr]),g2⟩
def uf(x:NP):NP:=([83,67,72,73,76,89,46,120,97,116,116,114,46]++x.1,x.2)
structure HAI(H0:Heap)(mb nd b q:Nat)(p lk:List UInt8)(kd ti:Int)(mo ui gi:Nat)(av dv:AV)(L:List UInt8)(Rs:List NP)(as_:List NP)(m:Nat)(tm:TM)(H:Heap):Prop where
 ht:ft mb nd b q tm
 t105:KT tm=av
 t106:NA tm=nI .i64 as_.length
 i: ∃i,Ly tm=nI .i64 i∧i+m=as_.length∧HS H0 mb nd b q p lk kd ti mo ui gi av dv L (Rs++(as_.take i).map uf) H
def HAQ(H0:Heap)(mb nd b q:Nat)(p lk:List UInt8)(kd ti:Int)(mo ui gi:Nat)(av dv:AV)(L:List UInt8)(Rs:List NP)(as_:List NP)(o:Out)(tm:TM)(H:Heap):Prop:=o=.exit 2∧ft mb nd b q tm∧HS H0 mb nd b q p lk kd ti mo ui gi av dv L (Rs++as_.map uf) H
theorem ZcZ{Zo:Lib}{fs:T CF}{fuel:Nat}(E:Env Zo fs fuel){k n:Nat}{H0:Heap}{mb nd b q:Nat}{p lk:List UInt8}{kd ti:Int}{mo ui gi:Nat}{av dv:AV}{L:List UInt8}{Rs as_:List NP}(hA:Sz H0 2 av (QG as_))(has:as_.length<=100)(hal: ∀x∈as_,x.1.length<=90000)(hR:Rs.length<=100)(y f dd qq)(X0:X)(m:Nat)(tm:TM)(H:Heap)(hI:HAI H0 mb nd b q p lk kd ti mo ui gi av dv L Rs as_ m tm H):
  ∃o tm' H',Bk ⟨Z8 (LK Zo fs fuel k) fs fuel (n+1),y,f,dd,qq⟩ tm H X0=.ok o tm' H' X0∧((o=.normal∧ ∃k,k<m∧HAI H0 mb nd b q p lk kd ti mo ui gi av dv L Rs as_ k tm' H')∨(o≠.normal∧HAQ H0 mb nd b q p lk kd ti mo ui gi av dv L Rs as_ o tm' H')):=by
 obtain⟨ht,t105,t106,i,t107,him,hs⟩:=hI
 have ht':=ht
 obtain⟨t1,t4,t5,t6,t7⟩:=ht
 have Zlx:=t105;have Zly:=t106
 have t1':=t1;have x7:=t4;have A1:=t5;have x8:=t6;have Cs:=t7
 simp only[LG] at t7
 simp only[ck] at t105
 simp only[cq] at t106
 simp only[cr] at t107
 cases m with
 |zero=>
  have d1:decide (i<as_.length)=false:=Ze (by omega)
  simp(maxSteps:=4000000) (disch:=first|assumption|omega|(simp -implicitDefEqProofs only[Xl,Xm]<;>first|assumption|omega)|decide) only[t106,t107,d1,Yx,Ye,ZM,ZK,Zy,ZJ,YN,Y7,YE,Xa,YR,Yy,ZP,Ya,Yb,YV,Nat.reduceSub,Nat.reduceAdd,Nat.reduceLeDiff,ZB,ZL,Nat.reduceEqDiff,decide_true,decide_false,Yq,Zd,Zb,X7,Wc,Y0,Yw,Yk,YQ,YP,Z6,Zx,Zr,Y8,ZY,Zb,Zd,Xg,ZD,ZR,Qp,ZN,Zu,ZC,Zw,ZI,Zs,Zv,Zl,ZO,XC,XJ,Xx,Xw,ZU,ZS,ZX,ZW,Zz,ZH,YC,YF,Zy,ZJ,ZK,ZM,Zb,Zd,ZD,ZR,ZN,YL,YA,YH,YZ,Yp,Yj,Bk,Yf,Xr,ZV,Yv,Z0,Z1,Yc,Nat.reduceEqDiff,reduceCtorEq,Xq,IH]
  rw[YS (by omega)] at hs
  refine⟨_,_,_,rfl,?_⟩
  exact .inr ⟨by simp,rfl,⟨t1',x7,A1,x8,Cs⟩,hs⟩
 |succ m=>
  have d1:decide (i<as_.length)=true:=Zj (by omega)
  have hi:i<as_.length:=by omega
  obtain⟨bb,o,r,eI,hb,gb,eL,_⟩:=(hA.keep0 hs.k).at_ (i:=i) (by rw[Sg];exact hi)
  rw[Ix hi] at eL
  have hm:as_.getD i ([],[])∈as_:=by rw[Zf,Zn hi];exact WN hi
  have hl1:=hal _ hm
  have htk:as_.take (i+1)=as_.take i++[as_.getD i ([],[])]:=by rw[UA,Zf,Zn hi];rfl
  generalize as_.getD i ([],[])=a at*
  obtain⟨H1,hH1⟩: ∃G,H.new (rG 46 1 [.str a.1,.str a.2] 0 false true true)=G:=⟨_,rfl⟩
  have k1:ZE H H1 []:=by rw[<-hH1];exact ZE.new _ _ _
  have g1:H1.t.get H.nx=some (rG 46 1 [.str a.1,.str a.2] 0 false true true):=by rw[<-hH1];exact YB rfl _
  have hroN:H.ro<=H.nx:=hs.g.p.ro
  have sf:=SB (n:=2) (b:=H.nx) (l:=[.str [],.str []]) (vs:=[.str a.1,.str a.2]) (H:=H.new (rG 46 1 [.str [],.str []] 0 false true true)) rfl rfl (by decide) hroN 46 1 false true
  rw[Sy rfl,hH1] at sf
  have gz:=λ(G:Heap)=>YB (H:=H) rfl (rG 46 1 [.str [],.str []] 0 false true true)
  have l0: ∀G,ld1 (some (rG 46 1 [.str a.1,.str a.2] 0 false true true)) 0 G=.val (.str a.1) G:=λG=>rfl
  have l1: ∀G,ld1 (some (rG 46 1 [.str a.1,.str a.2] 0 false true true)) 1 G=.val (.str a.2) G:=λG=>rfl
  have ad:=λG=>Lu (a:=[83,67,72,73,76,89,46,120,97,116,116,114,46]) (b:=a.1) (by show 13+_<=_;omega) G
  obtain⟨H2,e2,h2,_⟩:=CA E (k:=k) (n:=n) (hs.keep0 k1) (by rw[Zm,Zt,Z4];omega) (x:=[83,67,72,73,76,89,46,120,97,116,116,114,46]++a.1) (y:=a.2)
  simp(maxSteps:=4000000) (disch:=first|assumption|omega|(simp -implicitDefEqProofs only[Xl,Xm]<;>first|assumption|omega)|decide) only[t7,t105,t106,t107,d1,eI,gb,eL,gz,sf,g1,l0,l1,ad,e2,qr,Yx,Ye,ZM,ZK,Zy,ZJ,YN,Y7,YE,Xa,YR,Yy,ZP,Ya,Yb,YV,Nat.reduceSub,Nat.reduceAdd,Nat.reduceLeDiff,ZB,ZL,Nat.reduceEqDiff,decide_true,decide_false,Yq,Zd,Zb,X7,Wc,Y0,Yw,Yk,YQ,YP,Z6,Zx,Zr,Y8,ZY,Zb,Zd,Xg,ZD,ZR,Qp,ZN,Zu,ZC,Zw,ZI,Zs,Zv,Zl,ZO,XC,XJ,Xx,Xw,ZU,ZS,ZX,ZW,Zz,ZH,YC,YF,Zy,ZJ,ZK,ZM,Zb,Zd,ZD,ZR,ZN,YL,YA,YH,YZ,Yp,Yj,Bk,Yf,Xr,ZV,Yv,Z0,Z1,Yc,Nat.reduceEqDiff,reduceCtorEq,Xq,IH]
  refine⟨_,_,_,rfl,.inl ⟨rfl,m,by omega,⟨t1',x7,A1,x8,Cs⟩,Zlx,Zly,i+1,rfl,by omega,?_⟩⟩
  rw[htk,Xe,<-XB];exact h2
structure Szd(H0:Heap)(av dv:AV)(as_:List NP)(da:List UInt8):Prop where
 a:Sz H0 2 av (QG as_)
 d:Sz H0 1 dv (ND da)
 al:as_.length<=100
 ak: ∀x∈as_,x.1.length<=90000
 dl:da.length<=1073741824
theorem ZhY{Zo:Lib}{fs:T CF}{fuel:Nat}(E:Env Zo fs fuel){k n:Nat}(hk:4<=k){H0 H:Heap}{mb nd b q:Nat}{p lk:List UInt8}{kd ti:Int}{mo ui gi:Nat}{av dv:AV}{L:List UInt8}{Rs:List NP}{as_:List NP}{da:List UInt8}(h:HS H0 mb nd b q p lk kd ti mo ui gi av dv L Rs H)(sz:Szd H0 av dv as_ da)(tN:mo<4294967296)(hR:Rs.length<=100)(y f qq)(X0:X)(tm:TM)(ht:ft mb nd b q tm):
  ∃tm' H',wA ⟨Z8 (LK Zo fs fuel k) fs fuel (n+5),y,f,fuel,qq⟩ tm H X0=.ok .ret tm' H' X0∧zL H0 mb nd b q p lk kd ti mo ui gi av dv (DQ (Sj (Sj L 100 8 (Nu mo 8)) 124 12 (Nu da.length 12))) (Rs++as_.map uf) tm' H':=by
 have ht':=ht
 obtain⟨t1,t4,t5,t6,t7⟩:=ht
 have t1':=t1;have x7:=t4;have A1:=t5;have x8:=t6;have Cs:=t7
 simp only[TG] at t4
 simp only[QD] at t5
 obtain⟨H1,e1,h1⟩:=wT E (k:=k) (n:=n+1) hk h dt (u:=mo) (by omega) (by decide) (by decide)
 have dlen:=sz.dl
 obtain⟨H2,e2,h2⟩:=wT E (k:=k) (n:=n+1) hk h1 dy (u:=da.length) (by omega) (by decide) (by decide)
 have g0:=h.n;have g1:=h1.n;have g2:=h2.n
 have l1: ∀G,ld1 (some (rG 34 1 [.int .i64 kd,nI .u32 mo,nI .u32 ui,nI .u32 gi,.int .i64 ti,av,dv,.str lk] 0 false true true)) 1 G=.val (nI .u32 mo) G:=λG=>rfl
 have l5: ∀G,ld1 (some (rG 34 1 [.int .i64 kd,nI .u32 mo,nI .u32 ui,nI .u32 gi,.int .i64 ti,av,dv,.str lk] 0 false true true)) 5 G=.val av G:=λG=>rfl
 have l6: ∀G,ld1 (some (rG 34 1 [.int .i64 kd,nI .u32 mo,nI .u32 ui,nI .u32 gi,.int .i64 ti,av,dv,.str lk] 0 false true true)) 6 G=.val dv G:=λG=>rfl
 have iv: ∀G,PS .i64 (nI .u32 mo) G=.val (nI .i64 mo) G:=λG=>Sb (by omega) G
 have ld:=sz.d.len
 rw[SK] at ld
 have la:=sz.a.len
 rw[Sg] at la
 have hf:=E.big
 simp(maxSteps:=4000000) (disch:=first|assumption|omega|(simp -implicitDefEqProofs only[Xl,Xm]<;>first|assumption|omega)|decide) only[t4,t5,e1,e2,g0,g1,g2,l1,l5,l6,iv,ld,la,Yx,Ye,ZM,ZK,Zy,ZJ,YN,Y7,YE,Xa,YR,Yy,ZP,Ya,Yb,YV,Nat.reduceSub,Nat.reduceAdd,Nat.reduceLeDiff,ZB,ZL,Nat.reduceEqDiff,decide_true,decide_false,Yq,Zd,Zb,X7,Wc,Y0,Yw,Yk,YQ,YP,Z6,Zx,Zr,Y8,ZY,Zb,Zd,Xg,ZD,ZR,Qp,ZN,Zu,ZC,Zw,ZI,Zs,Zv,Zl,ZO,XC,XJ,Xx,Xw,ZU,ZS,ZX,ZW,Zz,ZH,YC,YF,Zy,ZJ,ZK,ZM,Zb,Zd,ZD,ZR,ZN,YL,YA,YH,YZ,Yp,Yj,wA,Yf,Xr,ZV,Yv,Z0,Z1,Yc,Nat.reduceEqDiff,reduceCtorEq,Xq,K1,IH]
 generalize hL:WP (Bk _) fuel _ _ _=LL
 obtain⟨o,tm3,H3,rfl,_,rfl,ht3,hs3⟩:=Wd (P:=λT=>HAI H0 mb nd b q p lk kd ti mo ui gi av dv _ Rs as_ as_.length T H2) (Q:=HAQ H0 mb nd b q p lk kd ti mo ui gi av dv _ Rs as_)
  (λT hi=>Wo (HAI H0 mb nd b q p lk kd ti mo ui gi av dv _ Rs as_) (HAQ H0 mb nd b q p lk kd ti mo ui gi av dv _ Rs as_) (λm tm H' h=>ZcZ E (k:=k) (n:=n+4) sz.a sz.al sz.ak hR _ _ _ _ _ m tm H' h) fuel as_.length T H2 (by have:=sz.al;omega) hi) hL
  (by exact⟨⟨t1',x7,A1,x8,Cs⟩,rfl,rfl,0,rfl,by omega,by rw[ZI,ZH,Zr];exact h2⟩)
 simp(maxSteps:=4000000) (disch:=first|assumption|omega|(simp -implicitDefEqProofs only[Xl,Xm]<;>first|assumption|omega)|decide) only[Yx,Ye,ZM,ZK,Zy,ZJ,YN,Y7,YE,Xa,YR,Yy,ZP,Ya,Yb,YV,Nat.reduceSub,Nat.reduceAdd,Nat.reduceLeDiff,ZB,ZL,Nat.reduceEqDiff,decide_true,decide_false,Yq,Zd,Zb,X7,Wc,Y0,Yw,Yk,YQ,YP,Z6,Zx,Zr,Y8,ZY,Zb,Zd,Xg,ZD,ZR,Qp,ZN,Zu,ZC,Zw,ZI,Zs,Zv,Zl,ZO,XC,XJ,Xx,Xw,ZU,ZS,ZX,ZW,Zz,ZH,YC,YF,Zy,ZJ,ZK,ZM,Zb,Zd,ZD,ZR,ZN,YL,YA,YH,YZ,Yp,Yj,wA,Yf,Xr,ZV,Yv,Z0,Z1,Yc,Nat.reduceEqDiff,reduceCtorEq,Xq,K1,IH]
 exact ZhZ E hk hs3 y f qq X0 tm3 ht3
def mD(n sz:Nat)(a i:AV)(H:Heap):OR:=SX i λi=>DJ a λcs=>Z3 (Nat.ble (Nat.succ i) n) (.val (.agg (Ng sz (Og (Nat.mul i sz) cs))) H)
theorem HU(x y:YG)(n sz:Nat)(tm:TM)(H:Heap):vB x y n sz tm H=mD n sz (x tm) (y tm) H:=rfl
structure qm where
 key:List UInt8
 at_:Nat
 wid:Nat
 z:Int
 most:Nat
def zy(x:qm)(L:List UInt8):List UInt8:=if x.z<((0:Nat):Int)∨(x.most:Int)<x.z then Sj L x.at_ x.wid (Nu 0 x.wid) else Sj L x.at_ x.wid (Nu x.z.toNat x.wid)
def PW(x:qm)(Rs:List NP):List NP:=if x.z<((0:Nat):Int)∨(x.most:Int)<x.z then Rs++[(x.key,Km x.z)] else Rs
theorem PX(x:qm)(Rs:List NP):(PW x Rs).length<=Rs.length+1:=by
 unfold PW;split
 ·rw[Zm];exact Zq _
 ·omega
def tR(ui gi:Nat)(ti:Int):List qm:=[⟨[117,105,100],108,8,ui,2097151⟩,⟨[103,105,100],116,8,gi,2097151⟩,⟨[109,116,105,109,101],136,12,ti,8589934591⟩]
def r9(ui gi:Nat)(ti:Int):AV:=.agg [.str [117,105,100],nI .i64 ui,nI .i64 2097151,.str [103,105,100],nI .i64 gi,nI .i64 2097151,.str [109,116,105,109,101],.int .i64 ti,nI .i64 8589934591]
structure HNI(H0:Heap)(mb nd b q:Nat)(p lk:List UInt8)(kd ti:Int)(mo ui gi:Nat)(av dv:AV)(L:List UInt8)(Rs:List NP)(m:Nat)(tm:TM)(H:Heap):Prop where
 ht:ft mb nd b q tm
 t65:Np tm=r9 ui gi ti
 i: ∃i,Nq tm=nI .i64 i∧i+m=3∧HS H0 mb nd b q p lk kd ti mo ui gi av dv (((tR ui gi ti).take i).foldl (λl x=>zy x l) L) (((tR ui gi ti).take i).foldl (λl x=>PW x l) Rs) H
def HNQ(H0:Heap)(mb nd b q:Nat)(p lk:List UInt8)(kd ti:Int)(mo ui gi:Nat)(av dv:AV)(L:List UInt8)(Rs:List NP)(o:Out)(tm:TM)(H:Heap):Prop:=o=.exit 0∧ft mb nd b q tm∧HS H0 mb nd b q p lk kd ti mo ui gi av dv ((tR ui gi ti).foldl (λl x=>zy x l) L) ((tR ui gi ti).foldl (λl x=>PW x l) Rs) H
theorem wS{Zo:Lib}{fs:T CF}{fuel:Nat}(E:Env Zo fs fuel){k n:Nat}(hk:4<=k){H0 H:Heap}{mb nd b q:Nat}{p lk:List UInt8}{kd ti:Int}{mo ui gi:Nat}{av dv:AV}{L:List UInt8}{Rs:List NP}(h:HS H0 mb nd b q p lk kd ti mo ui gi av dv L Rs H)(hR:Rs.length<=100){i:Nat}(hi:i<3){x:qm}(F:zK x.key x.at_ x.wid)(hw3:2<=x.wid)(h4:x.wid<=20)(hz1: -9223372036854775808<=x.z)(hz2:x.z<=9223372036854775807)
  (ia: ∀G,mD 3 3 (r9 ui gi ti) (nI .i64 i) G=.val (.agg [.str x.key,.int .i64 x.z,nI .i64 x.most]) G)(y f dd qq)(X0:X)(tm:TM)(ht:ft mb nd b q tm)(t65:Np tm=r9 ui gi ti)(t66:Nq tm=nI .i64 i):
  ∃tm' H',Jo ⟨Z8 (LK Zo fs fuel k) fs fuel (n+5),y,f,dd,qq⟩ tm H X0=.ok .normal tm' H' X0∧ft mb nd b q tm'∧Np tm'=r9 ui gi ti∧Nq tm'=nI .i64 (i+1)∧HS H0 mb nd b q p lk kd ti mo ui gi av dv (zy x L) (PW x Rs) H':=by
 obtain⟨t1,t4,t5,t6,t7⟩:=ht
 have t1':=t1;have x7:=t4;have A1:=t5;have x8:=t6;have Cs:=t7;have Zie:=t65
 simp only[QD] at t5
 simp only[LG] at t7
 simp only[mq] at t65
 simp only[uZ] at t66
 have d1:decide (i<3)=true:=Zj hi
 obtain⟨H1,hH1⟩: ∃G,H.new (rG 89 1 [.str x.key,.int .i64 x.z,nI .i64 x.most] 0 false true true)=G:=⟨_,rfl⟩
 have k1:ZE H H1 []:=by rw[<-hH1];exact ZE.new _ _ _
 have Jh:H1.nx=H.nx+1:=by rw[<-hH1];rfl
 have g1:H1.t.get H.nx=some (rG 89 1 [.str x.key,.int .i64 x.z,nI .i64 x.most] 0 false true true):=by rw[<-hH1];exact YB rfl _
 have hroN:H.ro<=H.nx:=h.g.p.ro
 have sf:=SB (n:=3) (b:=H.nx) (l:=[.str [],nI .i64 0,nI .i64 0]) (vs:=[.str x.key,.int .i64 x.z,nI .i64 x.most]) (H:=H.new (rG 89 1 [.str [],nI .i64 0,nI .i64 0] 0 false true true)) rfl rfl (by decide) hroN 89 1 false true
 rw[Sy rfl,hH1] at sf
 have gz:=λ(G:Heap)=>YB (H:=H) rfl (rG 89 1 [.str [],nI .i64 0,nI .i64 0] 0 false true true)
 have l0: ∀G,ld1 (some (rG 89 1 [.str x.key,.int .i64 x.z,nI .i64 x.most] 0 false true true)) 0 G=.val (.str x.key) G:=λG=>rfl
 have l1: ∀G,ld1 (some (rG 89 1 [.str x.key,.int .i64 x.z,nI .i64 x.most] 0 false true true)) 1 G=.val (.int .i64 x.z) G:=λG=>rfl
 have l2: ∀G,ld1 (some (rG 89 1 [.str x.key,.int .i64 x.z,nI .i64 x.most] 0 false true true)) 2 G=.val (nI .i64 x.most) G:=λG=>rfl
 have smz: ∀(n:Nat) (T:T Obj),UR (.val (.int .i64 x.z) ⟨n,T,n⟩) (.int .i64 x.z) n=true:=λn T=>Sp _ _ _ (JZ .i64 x.z)
 have lwz: ∀n:Nat,Wu n (.int .i64 x.z)=true:=λ_=>rfl
 have lwf: ∀n,q<n->Wu n (.func 36 [] [.ptr q 0])=true:=λn hn=>by
  show cond (RL n []) (RL n [.ptr q 0]) false=true
  rw[Ac,Ij,Ac,ZN hn];rfl
 have hs1:=h.keep0 k1
 have hqn:q<H.nx:=by
  obtain⟨w,_,_,_,_,h⟩:=h.bx
  omega
 have ad: ∀G,RI (nI .i64 i) (nI .i64 1) G=.val (nI .i64 (i+1)) G:=λG=>Yy (by omega) G
 have ltz: ∀G,Te Wf Xo (.int .i64 x.z) (nI .i64 0) G=.val (.bool (decide (x.z<((0:Nat):Int)))) G:=λG=>Xx .i64 x.z 0 G
 have gtz: ∀G,Te SQ VW (.int .i64 x.z) (nI .i64 x.most) G=.val (.bool (decide ((x.most:Int)<x.z))) G:=λG=>Xw .i64 x.z x.most G
 have ep:=λ{j}=>Zpa (Zo:=Zo) (fs:=fs) (fuel:=fuel) E (k:=k) (n:=j) hk (z:=x.z) (H:=H1) hs1.g.g hs1.g.p.ro hz1 hz2
 by_cases hm:x.z<((0:Nat):Int)∨(x.most:Int)<x.z
 ·rw[show zy x L=Sj L x.at_ x.wid (Nu 0 x.wid) by unfold zy;rw[if_pos hm],show PW x Rs=Rs++[(x.key,Km x.z)] by unfold PW;rw[if_pos hm]]
  obtain⟨H2,e2,h2,n2,kx⟩:=CA E (k:=k) (n:=n+4) hs1 (by omega) (x:=x.key) (y:=Km x.z)
  have g2:=kx H.nx _ (by omega) (by omega) g1 rfl
  have g2':H2.t.get H.nx=some (rG 89 1 [.str x.key,.int .i64 x.z,nI .i64 x.most] 0 false true true):=g2
  have h3:=h2.put (o:=rG 89 1 [.str x.key,nI .i64 0,nI .i64 x.most] 0 false true true) g2 rfl (by omega) (by omega)
  have Tc:oA 1 (some (rG 89 1 [.str x.key,.int .i64 x.z,nI .i64 x.most] 0 false true true)) H.nx 1 (nI .i64 0) H2=.val XE (H2.put H.nx (rG 89 1 [.str x.key,nI .i64 0,nI .i64 x.most] 0 false true true)):=by
   rw[KK rfl (by show 1<3;decide) (by rw[h2.k.ro,<-h.k.ro];exact hroN) (ZB _)];rfl
  obtain⟨H3,hH3⟩: ∃G,H2.put H.nx (rG 89 1 [.str x.key,nI .i64 0,nI .i64 x.most] 0 false true true)=G:=⟨_,rfl⟩
  rw[hH3] at Tc h3
  have g3:H3.t.get H.nx=some (rG 89 1 [.str x.key,nI .i64 0,nI .i64 x.most] 0 false true true):=by rw[<-hH3];exact XY _ _ _
  have m0: ∀G,ld1 (some (rG 89 1 [.str x.key,nI .i64 0,nI .i64 x.most] 0 false true true)) 0 G=.val (.str x.key) G:=λG=>rfl
  have m1: ∀G,ld1 (some (rG 89 1 [.str x.key,nI .i64 0,nI .i64 x.most] 0 false true true)) 1 G=.val (nI .i64 0) G:=λG=>rfl
  obtain⟨H4,e4,h4'⟩:=wT E (k:=k) (n:=n+1) hk h3 F (u:=0) (by decide) hw3 h4
  by_cases hz:x.z<((0:Nat):Int)
  ·have d2:decide (x.z<((0:Nat):Int))=true:=Zj hz
   simp(maxSteps:=4000000) (disch:=first|assumption|omega|(simp -implicitDefEqProofs only[Xl,Xm]<;>first|assumption|omega)|decide) only[t5,t7,t65,t66,d1,ia,HU,gz,sf,g1,l0,l1,l2,smz,lwz,lwf,ad,ltz,gtz,qr,d2,ep,e2,g2',Tc,g3,m0,m1,e4,Yx,Ye,ZM,ZK,Zy,ZJ,YN,Y7,YE,Xa,YR,Yy,ZP,Ya,Yb,YV,Nat.reduceSub,Nat.reduceAdd,Nat.reduceLeDiff,ZB,ZL,Nat.reduceEqDiff,decide_true,decide_false,Yq,Zd,Zb,X7,Wc,Y0,Yw,Yk,YQ,YP,Z6,Zx,Zr,Y8,ZY,Zb,Zd,Xg,ZD,ZR,Qp,ZN,Zu,ZC,Zw,ZI,Zs,Zv,Zl,ZO,XC,XJ,Xx,Xw,ZU,ZS,ZX,ZW,Zz,ZH,YC,YF,Zy,ZJ,ZK,ZM,Zb,Zd,ZD,ZR,ZN,YL,YA,YH,YZ,Yp,Yj,Jo,Yf,Xr,ZV,Yv,Z0,Z1,Yc,Nat.reducePow,Nat.reduceDiv,Nat.reduceMod,Nat.reduceEqDiff,reduceCtorEq,Xq,K1]
   exact⟨_,_,rfl,⟨t1',x7,A1,x8,Cs⟩,Zie,rfl,h4'⟩
  ·have d2:decide (x.z<((0:Nat):Int))=false:=Ze hz
   have d3:decide ((x.most:Int)<x.z)=true:=Zj (hm.resolve_left hz)
   simp(maxSteps:=4000000) (disch:=first|assumption|omega|(simp -implicitDefEqProofs only[Xl,Xm]<;>first|assumption|omega)|decide) only[t5,t7,t65,t66,d1,ia,HU,gz,sf,g1,l0,l1,l2,smz,lwz,lwf,ad,ltz,gtz,qr,d2,d3,ep,e2,g2',Tc,g3,m0,m1,e4,Yx,Ye,ZM,ZK,Zy,ZJ,YN,Y7,YE,Xa,YR,Yy,ZP,Ya,Yb,YV,Nat.reduceSub,Nat.reduceAdd,Nat.reduceLeDiff,ZB,ZL,Nat.reduceEqDiff,decide_true,decide_false,Yq,Zd,Zb,X7,Wc,Y0,Yw,Yk,YQ,YP,Z6,Zx,Zr,Y8,ZY,Zb,Zd,Xg,ZD,ZR,Qp,ZN,Zu,ZC,Zw,ZI,Zs,Zv,Zl,ZO,XC,XJ,Xx,Xw,ZU,ZS,ZX,ZW,Zz,ZH,YC,YF,Zy,ZJ,ZK,ZM,Zb,Zd,ZD,ZR,ZN,YL,YA,YH,YZ,Yp,Yj,Jo,Yf,Xr,ZV,Yv,Z0,Z1,Yc,Nat.reducePow,Nat.reduceDiv,Nat.reduceMod,Nat.reduceEqDiff,reduceCtorEq,Xq,K1]
   exact⟨_,_,rfl,⟨t1',x7,A1,x8,Cs⟩,Zie,rfl,h4'⟩
 ·rw[show zy x L=Sj L x.at_ x.wid (Nu x.z.toNat x.wid) by unfold zy;rw[if_neg hm],show PW x Rs=Rs by unfold PW;rw[if_neg hm]]
  have d2:decide (x.z<((0:Nat):Int))=false:=Ze λh=>hm (.inl h)
  have d3:decide ((x.most:Int)<x.z)=false:=Ze λh=>hm (.inr h)
  have hz0:0<=x.z:=Int.not_lt.1 λh=>hm (.inl h)
  obtain⟨H4,e4,h4'⟩:=wT E (k:=k) (n:=n+1) hk hs1 F (u:=x.z.toNat) (by omega) hw3 h4
  rw[show nI .i64 x.z.toNat=.int .i64 x.z by show AV.int .i64 (Int.ofNat x.z.toNat)=_;rw[show Int.ofNat x.z.toNat=x.z from Int.toNat_of_nonneg hz0]] at e4
  simp(maxSteps:=4000000) (disch:=first|assumption|omega|(simp -implicitDefEqProofs only[Xl,Xm]<;>first|assumption|omega)|decide) only[t5,t7,t65,t66,d1,ia,HU,gz,sf,g1,l0,l1,l2,smz,lwz,lwf,ad,ltz,gtz,qr,d2,d3,e4,Yx,Ye,ZM,ZK,Zy,ZJ,YN,Y7,YE,Xa,YR,Yy,ZP,Ya,Yb,YV,Nat.reduceSub,Nat.reduceAdd,Nat.reduceLeDiff,ZB,ZL,Nat.reduceEqDiff,decide_true,decide_false,Yq,Zd,Zb,X7,Wc,Y0,Yw,Yk,YQ,YP,Z6,Zx,Zr,Y8,ZY,Zb,Zd,Xg,ZD,ZR,Qp,ZN,Zu,ZC,Zw,ZI,Zs,Zv,Zl,ZO,XC,XJ,Xx,Xw,ZU,ZS,ZX,ZW,Zz,ZH,YC,YF,Zy,ZJ,ZK,ZM,Zb,Zd,ZD,ZR,ZN,YL,YA,YH,YZ,Yp,Yj,Jo,Yf,Xr,ZV,Yv,Z0,Z1,Yc,Nat.reducePow,Nat.reduceDiv,Nat.reduceMod,Nat.reduceEqDiff,reduceCtorEq,Xq,K1]
  exact⟨_,_,rfl,⟨t1',x7,A1,x8,Cs⟩,Zie,rfl,h4'⟩
theorem Zc4{Zo:Lib}{fs:T CF}{fuel:Nat}(E:Env Zo fs fuel){k n:Nat}(hk:4<=k){H0:Heap}{mb nd b q:Nat}{p lk:List UInt8}{kd ti:Int}{mo ui gi:Nat}{av dv:AV}{L:List UInt8}{Rs:List NP}(hR:Rs.length<=90)(qd:ui<4294967296)(uG:gi<4294967296)(ti1: -9223372036854775808<=ti)(ti2:ti<=9223372036854775807)(y f dd qq)(X0:X)(m:Nat)(tm:TM)(H:Heap)(hI:HNI H0 mb nd b q p lk kd ti mo ui gi av dv L Rs m tm H):
  ∃o tm' H',Jo ⟨Z8 (LK Zo fs fuel k) fs fuel (n+5),y,f,dd,qq⟩ tm H X0=.ok o tm' H' X0∧((o=.normal∧ ∃k,k<m∧HNI H0 mb nd b q p lk kd ti mo ui gi av dv L Rs k tm' H')∨(o≠.normal∧HNQ H0 mb nd b q p lk kd ti mo ui gi av dv L Rs o tm' H')):=by
 obtain⟨ht,t65,i,t66,him,hs⟩:=hI
 cases m with
 |zero=>
  obtain rfl:i=3:=by omega
  have t66':=t66
  simp only[uZ] at t66
  obtain⟨t1,t4,t5,t6,t7⟩:=ht
  have d1: ∀G,Te Wf Xo (nI .i64 3) (nI .i64 3) G=.val (.bool false) G:=λ_=>rfl
  simp(maxSteps:=4000000) (disch:=first|assumption|omega|(simp -implicitDefEqProofs only[Xl,Xm]<;>first|assumption|omega)|decide) only[t66,d1,Yx,Ye,ZM,ZK,Zy,ZJ,YN,Y7,YE,Xa,YR,Yy,ZP,Ya,Yb,YV,Nat.reduceSub,Nat.reduceAdd,Nat.reduceLeDiff,ZB,ZL,Nat.reduceEqDiff,decide_true,decide_false,Yq,Zd,Zb,X7,Wc,Y0,Yw,Yk,YQ,YP,Z6,Zx,Zr,Y8,ZY,Zb,Zd,Xg,ZD,ZR,Qp,ZN,Zu,ZC,Zw,ZI,Zs,Zv,Zl,ZO,XC,XJ,Xx,Xw,ZU,ZS,ZX,ZW,Zz,ZH,YC,YF,Zy,ZJ,ZK,ZM,Zb,Zd,ZD,ZR,ZN,YL,YA,YH,YZ,Yp,Yj,Jo,Yf,Xr,ZV,Yv,Z0,Z1,Yc,Nat.reducePow,Nat.reduceDiv,Nat.reduceMod,Nat.reduceEqDiff,reduceCtorEq,Xq,K1]
  refine⟨_,_,_,rfl,?_⟩
  exact .inr ⟨by simp,rfl,⟨t1,t4,t5,t6,t7⟩,hs⟩
 |succ m=>
  have h3:i=0∨i=1∨i=2:=by omega
  rcases h3 with rfl|rfl|rfl
  ·obtain⟨tm',H',e,a1,a2,a3,a4⟩:=wS E hk hs (by show Rs.length<=100;omega) (by decide) (x:=⟨[117,105,100],108,8,ui,2097151⟩) Ze8 (by show 2<=8;decide) (by show 8<=20;decide) (by show -9223372036854775808<=(ui:Int);omega) (by show(ui:Int)<=9223372036854775807;omega) (λ_=>rfl) y f dd qq X0 tm ht t65 t66
   exact⟨_,tm',H',e,.inl ⟨rfl,m,by omega,a1,a2,1,a3,by omega,a4⟩⟩
  ·obtain⟨tm',H',e,a1,a2,a3,a4⟩:=wS E hk hs (by have h1:=PX ⟨[117,105,100],108,8,ui,2097151⟩ Rs;show(PW ⟨[117,105,100],108,8,ui,2097151⟩ Rs).length<=100;omega) (by decide) (x:=⟨[103,105,100],116,8,gi,2097151⟩) Ze7 (by show 2<=8;decide) (by show 8<=20;decide) (by show -9223372036854775808<=(gi:Int);omega) (by show(gi:Int)<=9223372036854775807;omega) (λ_=>rfl) y f dd qq X0 tm ht t65 t66
   exact⟨_,tm',H',e,.inl ⟨rfl,m,by omega,a1,a2,2,a3,by omega,a4⟩⟩
  ·obtain⟨tm',H',e,a1,a2,a3,a4⟩:=wS E hk hs (by
    have h1:=PX ⟨[117,105,100],108,8,ui,2097151⟩ Rs
    have h2:=PX ⟨[103,105,100],116,8,gi,2097151⟩ (PW ⟨[117,105,100],108,8,ui,2097151⟩ Rs)
    show(PW ⟨[103,105,100],116,8,gi,2097151⟩ (PW ⟨[117,105,100],108,8,ui,2097151⟩ Rs)).length<=100;omega) (by decide) (x:=⟨[109,116,105,109,101],136,12,ti,8589934591⟩) nC (by show 2<=12;decide) (by show 12<=20;decide) ti1 ti2 (λ_=>rfl) y f dd qq X0 tm ht t65 t66
   exact⟨_,tm',H',e,.inl ⟨rfl,m,by omega,a1,a2,3,a3,by omega,a4⟩⟩
def ZbN(ui gi mo:Nat)(ti:Int)(da l0 L:List UInt8):List UInt8:=DQ (Sj (Sj ((tR ui gi ti).foldl (λl x=>zy x l) (Sj L 157 100 (Oj l0 100))) 100 8 (Nu mo 8)) 124 12 (Nu da.length 12))
def ZbO(ui gi:Nat)(ti:Int)(as_ Rs:List NP):List NP:=(tR ui gi ti).foldl (λl x=>PW x l) Rs++as_.map uf
theorem ZaA{Zo:Lib}{fs:T CF}{fuel:Nat}(E:Env Zo fs fuel){k n:Nat}(hk:4<=k){H0 H:Heap}{mb nd b q:Nat}{p lk:List UInt8}{kd ti:Int}{mo ui gi:Nat}{av dv:AV}{L:List UInt8}{Rs:List NP}{as_:List NP}{da l0:List UInt8}(h:HS H0 mb nd b q p lk kd ti mo ui gi av dv L Rs H)(sz:Szd H0 av dv as_ da)(tN:mo<4294967296)(qd:ui<4294967296)(uG:gi<4294967296)(ti1: -9223372036854775808<=ti)(ti2:ti<=9223372036854775807)(hl0:l0.length<=90000)(hR:Rs.length<=90)(y f qq)(X0:X)(tm:TM)(ht:ft mb nd b q tm∧XO tm=.str l0):
  ∃tm' H',wz ⟨Z8 (LK Zo fs fuel k) fs fuel (n+5),y,f,fuel,qq⟩ tm H X0=.ok .ret tm' H' X0∧zL H0 mb nd b q p lk kd ti mo ui gi av dv (ZbN ui gi mo ti da l0 L) (ZbO ui gi ti as_ Rs) tm' H':=by
 obtain⟨ht,t11⟩:=ht
 obtain⟨t1,t4,t5,t6,t7⟩:=ht
 have t1':=t1;have x7:=t4;have A1:=t5;have x8:=t6;have Cs:=t7
 simp only[TG] at t4
 simp only[QD] at t5
 simp only[QO] at t11
 obtain⟨H1,e1,h1⟩:=wU E (k:=k) (n:=n+1) hk h qP (s:=l0) hl0
 have g1:=h1.n
 have l2: ∀G,ld1 (some (rG 34 1 [.int .i64 kd,nI .u32 mo,nI .u32 ui,nI .u32 gi,.int .i64 ti,av,dv,.str lk] 0 false true true)) 2 G=.val (nI .u32 ui) G:=λG=>rfl
 have l3: ∀G,ld1 (some (rG 34 1 [.int .i64 kd,nI .u32 mo,nI .u32 ui,nI .u32 gi,.int .i64 ti,av,dv,.str lk] 0 false true true)) 3 G=.val (nI .u32 gi) G:=λG=>rfl
 have l4: ∀G,ld1 (some (rG 34 1 [.int .i64 kd,nI .u32 mo,nI .u32 ui,nI .u32 gi,.int .i64 ti,av,dv,.str lk] 0 false true true)) 4 G=.val (.int .i64 ti) G:=λG=>rfl
 have iu: ∀G,PS .i64 (nI .u32 ui) G=.val (nI .i64 ui) G:=λG=>Sb (by omega) G
 have ig: ∀G,PS .i64 (nI .u32 gi) G=.val (nI .i64 gi) G:=λG=>Sb (by omega) G
 have bu: ∀G,Rz [.str [],nI .i64 0,nI .i64 0] [(0,1,.str [117,105,100]),(1,1,nI .i64 ui),(2,1,nI .i64 2097151)] G=.val (.agg [.str [117,105,100],nI .i64 ui,nI .i64 2097151]) G:=λG=>rfl
 have bg: ∀G,Rz [.str [],nI .i64 0,nI .i64 0] [(0,1,.str [103,105,100]),(1,1,nI .i64 gi),(2,1,nI .i64 2097151)] G=.val (.agg [.str [103,105,100],nI .i64 gi,nI .i64 2097151]) G:=λG=>rfl
 have bt: ∀G,Rz [.str [],nI .i64 0,nI .i64 0] [(0,1,.str [109,116,105,109,101]),(1,1,.int .i64 ti),(2,1,nI .i64 8589934591)] G=.val (.agg [.str [109,116,105,109,101],.int .i64 ti,nI .i64 8589934591]) G:=λG=>rfl
 have b9: ∀G,Rz [.str [],nI .i64 0,nI .i64 0,.str [],nI .i64 0,nI .i64 0,.str [],nI .i64 0,nI .i64 0] [(0,3,.agg [.str [117,105,100],nI .i64 ui,nI .i64 2097151]),(3,3,.agg [.str [103,105,100],nI .i64 gi,nI .i64 2097151]),(6,3,.agg [.str [109,116,105,109,101],.int .i64 ti,nI .i64 8589934591])] G=.val (r9 ui gi ti) G:=λG=>rfl
 have hf:=E.big
 simp(maxSteps:=4000000) (disch:=first|assumption|omega|(simp -implicitDefEqProofs only[Xl,Xm]<;>first|assumption|omega)|decide) only[t4,t5,t11,e1,g1,l2,l3,l4,iu,ig,bu,bg,bt,b9,TK,Yx,Ye,ZM,ZK,Zy,ZJ,YN,Y7,YE,Xa,YR,Yy,ZP,Ya,Yb,YV,Nat.reduceSub,Nat.reduceAdd,Nat.reduceLeDiff,ZB,ZL,Nat.reduceEqDiff,decide_true,decide_false,Yq,Zd,Zb,X7,Wc,Y0,Yw,Yk,YQ,YP,Z6,Zx,Zr,Y8,ZY,Zb,Zd,Xg,ZD,ZR,Qp,ZN,Zu,ZC,Zw,ZI,Zs,Zv,Zl,ZO,XC,XJ,Xx,Xw,ZU,ZS,ZX,ZW,Zz,ZH,YC,YF,Zy,ZJ,ZK,ZM,Zb,Zd,ZD,ZR,ZN,YL,YA,YH,YZ,Yp,Yj,wz,Yf,Xr,ZV,Yv,Z0,Z1,Yc,Nat.reduceEqDiff,reduceCtorEq,Xq,TB,K1]
 generalize hL:WP (Jo _) fuel _ _ _=LL
 obtain⟨o,g9,H2,rfl,_,rfl,ht2,hs2⟩:=Wd (P:=λT=>HNI H0 mb nd b q p lk kd ti mo ui gi av dv (Sj L 157 100 (Oj l0 100)) Rs 3 T H1) (Q:=HNQ H0 mb nd b q p lk kd ti mo ui gi av dv (Sj L 157 100 (Oj l0 100)) Rs)
  (λT hi=>Wo (HNI H0 mb nd b q p lk kd ti mo ui gi av dv (Sj L 157 100 (Oj l0 100)) Rs) (HNQ H0 mb nd b q p lk kd ti mo ui gi av dv (Sj L 157 100 (Oj l0 100)) Rs) (λm tm H' h=>Zc4 E (k:=k) (n:=n) hk hR qd uG ti1 ti2 _ _ _ _ _ m tm H' h) fuel 3 T H1 (by omega) hi) hL
  (by exact⟨⟨t1',x7,A1,x8,Cs⟩,rfl,0,rfl,rfl,h1⟩)
 have n1:=PX ⟨[117,105,100],108,8,ui,2097151⟩ Rs
 have n2:=PX ⟨[103,105,100],116,8,gi,2097151⟩ (PW ⟨[117,105,100],108,8,ui,2097151⟩ Rs)
 have n3:=PX ⟨[109,116,105,109,101],136,12,ti,8589934591⟩ (PW ⟨[103,105,100],116,8,gi,2097151⟩ (PW ⟨[117,105,100],108,8,ui,2097151⟩ Rs))
 simp(maxSteps:=4000000) (disch:=first|assumption|omega|(simp -implicitDefEqProofs only[Xl,Xm]<;>first|assumption|omega)|decide) only[Yx,Ye,ZM,ZK,Zy,ZJ,YN,Y7,YE,Xa,YR,Yy,ZP,Ya,Yb,YV,Nat.reduceSub,Nat.reduceAdd,Nat.reduceLeDiff,ZB,ZL,Nat.reduceEqDiff,decide_true,decide_false,Yq,Zd,Zb,X7,Wc,Y0,Yw,Yk,YQ,YP,Z6,Zx,Zr,Y8,ZY,Zb,Zd,Xg,ZD,ZR,Qp,ZN,Zu,ZC,Zw,ZI,Zs,Zv,Zl,ZO,XC,XJ,Xx,Xw,ZU,ZS,ZX,ZW,Zz,ZH,YC,YF,Zy,ZJ,ZK,ZM,Zb,Zd,ZD,ZR,ZN,YL,YA,YH,YZ,Yp,Yj,wz,Yf,Xr,ZV,Yv,Z0,Z1,Yc,Nat.reduceEqDiff,reduceCtorEq,Xq,TB,K1]
 exact ZhY E hk hs2 sz tN (by show(PW ⟨[109,116,105,109,101],136,12,ti,8589934591⟩ (PW ⟨[103,105,100],116,8,gi,2097151⟩ (PW ⟨[117,105,100],108,8,ui,2097151⟩ Rs))).length<=100;omega) y f qq X0 g9 ht2
def ZdQ(ui gi mo:Nat)(ti:Int)(da lk pr nm L:List UInt8):List UInt8:=ZbN ui gi mo ti da (if 100<lk.length then [] else lk) (Sj (Sj L 345 155 (Oj pr 155)) 0 100 (Oj nm 100))
def ZdR(ui gi:Nat)(ti:Int)(lk:List UInt8)(as_ Rs:List NP):List NP:=ZbO ui gi ti as_ (if 100<lk.length then Rs++[([108,105,110,107,112,97,116,104],lk)] else Rs)
theorem Zaz{Zo:Lib}{fs:T CF}{fuel:Nat}(E:Env Zo fs fuel){k n:Nat}(hk:4<=k){H0 H:Heap}{mb nd b q:Nat}{p lk:List UInt8}{kd ti:Int}{mo ui gi:Nat}{av dv:AV}{L:List UInt8}{Rs:List NP}{as_:List NP}{da pr nm:List UInt8}(h:HS H0 mb nd b q p lk kd ti mo ui gi av dv L Rs H)(sz:Szd H0 av dv as_ da)(tN:mo<4294967296)(qd:ui<4294967296)(uG:gi<4294967296)(ti1: -9223372036854775808<=ti)(ti2:ti<=9223372036854775807)(hlk:lk.length<=90000)(hpr:pr.length<=90000)(hnm:nm.length<=90000)(hR:Rs.length<=80)(y f qq)(X0:X)(tm:TM)(ht:ft mb nd b q tm∧WD tm=.str pr∧Vc tm=.str nm):
  ∃tm' H',F8 ⟨Z8 (LK Zo fs fuel k) fs fuel (n+5),y,f,fuel,qq⟩ tm H X0=.ok .ret tm' H' X0∧zL H0 mb nd b q p lk kd ti mo ui gi av dv (ZdQ ui gi mo ti da lk pr nm L) (ZdR ui gi ti lk as_ Rs) tm' H':=by
 obtain⟨ht,t8,t9⟩:=ht
 obtain⟨t1,t4,t5,t6,t7⟩:=ht
 have t1':=t1;have x7:=t4;have A1:=t5;have x8:=t6;have Cs:=t7
 simp only[TG] at t4
 simp only[QD] at t5
 simp only[LG] at t7
 simp only[HH] at t8
 simp only[IK] at t9
 obtain⟨H1,e1,h1⟩:=wU E (k:=k) (n:=n+1) hk h dw (s:=pr) hpr
 obtain⟨H2,e2,h2⟩:=wU E (k:=k) (n:=n+1) hk h1 du (s:=nm) hnm
 have g2:=h2.n
 have l7: ∀G,ld1 (some (rG 34 1 [.int .i64 kd,nI .u32 mo,nI .u32 ui,nI .u32 gi,.int .i64 ti,av,dv,.str lk] 0 false true true)) 7 G=.val (.str lk) G:=λG=>rfl
 unfold ZdQ ZdR
 by_cases hl:100<lk.length
 ·have d1:decide (100<lk.length)=true:=Zj hl
  rw[if_pos hl,if_pos hl]
  obtain⟨H3,e3,h3,_⟩:=CA E (k:=k) (n:=n+4) h2 (by omega) (x:=[108,105,110,107,112,97,116,104]) (y:=lk)
  simp(maxSteps:=4000000) (disch:=first|assumption|omega|(simp -implicitDefEqProofs only[Xl,Xm]<;>first|assumption|omega)|decide) only[t4,t5,t7,t8,t9,e1,e2,g2,l7,d1,e3,qr,Yx,Ye,ZM,ZK,Zy,ZJ,YN,Y7,YE,Xa,YR,Yy,ZP,Ya,Yb,YV,Nat.reduceSub,Nat.reduceAdd,Nat.reduceLeDiff,ZB,ZL,Nat.reduceEqDiff,decide_true,decide_false,Yq,Zd,Zb,X7,Wc,Y0,Yw,Yk,YQ,YP,Z6,Zx,Zr,Y8,ZY,Zb,Zd,Xg,ZD,ZR,Qp,ZN,Zu,ZC,Zw,ZI,Zs,Zv,Zl,ZO,XC,XJ,Xx,Xw,ZU,ZS,ZX,ZW,Zz,ZH,YC,YF,Zy,ZJ,ZK,ZM,Zb,Zd,ZD,ZR,ZN,YL,YA,YH,YZ,Yp,Yj,F8,Yf,Xr,ZV,Yv,Z0,Z1,Yc,Nat.reduceEqDiff,reduceCtorEq,Xq,TB]
  exact ZaA E hk h3 sz tN qd uG ti1 ti2 (l0:=[]) (ZB _) (by rw[Zm];show _+1<=_;omega) y f qq X0 _ ⟨⟨t1',x7,A1,x8,Cs⟩,rfl⟩
 ·have d1:decide (100<lk.length)=false:=Ze hl
  rw[if_neg hl,if_neg hl]
  simp(maxSteps:=4000000) (disch:=first|assumption|omega|(simp -implicitDefEqProofs only[Xl,Xm]<;>first|assumption|omega)|decide) only[t4,t5,t7,t8,t9,e1,e2,g2,l7,d1,Yx,Ye,ZM,ZK,Zy,ZJ,YN,Y7,YE,Xa,YR,Yy,ZP,Ya,Yb,YV,Nat.reduceSub,Nat.reduceAdd,Nat.reduceLeDiff,ZB,ZL,Nat.reduceEqDiff,decide_true,decide_false,Yq,Zd,Zb,X7,Wc,Y0,Yw,Yk,YQ,YP,Z6,Zx,Zr,Y8,ZY,Zb,Zd,Xg,ZD,ZR,Qp,ZN,Zu,ZC,Zw,ZI,Zs,Zv,Zl,ZO,XC,XJ,Xx,Xw,ZU,ZS,ZX,ZW,Zz,ZH,YC,YF,Zy,ZJ,ZK,ZM,Zb,Zd,ZD,ZR,ZN,YL,YA,YH,YZ,Yp,Yj,F8,Yf,Xr,ZV,Yv,Z0,Z1,Yc,Nat.reduceEqDiff,reduceCtorEq,Xq,TB]
  exact ZaA E hk h2 sz tN qd uG ti1 ti2 (l0:=lk) hlk (by omega) y f qq X0 _ ⟨⟨t1',x7,A1,x8,Cs⟩,rfl⟩
def mu(p lk:List UInt8)(kd ti:Int)(mo ui gi:Nat)(da:List UInt8):List UInt8:=ZdQ ui gi mo ti da lk (R0 (SW kd p)).1 (R0 (SW kd p)).2.1 (F3 (tyN kd))
def mw(p lk:List UInt8)(kd ti:Int)(ui gi:Nat)(as_:List NP):List NP:=ZdR ui gi ti lk as_ (if (R0 (SW kd p)).2.2=true then [] else [([112,97,116,104],SW kd p)])
theorem Zij(z:Int):tyN z<256:=by
 unfold tyN
 split
 ·decide
 ·split
  ·decide
  ·split
   ·decide
   ·split<;>decide
theorem tD(kd:Int)(p:List UInt8):(SW kd p).length<=p.length+1:=by
 unfold SW;split
 ·rw[Zm];exact Zq _
 ·omega
theorem Zah(s:List UInt8)(hs:s.length<=90000):(R0 s).1.length<=90000∧(R0 s).2.1.length<=90000:=by
 unfold R0
 split
 ·exact⟨ZB _,hs⟩
 ·split
  ·exact⟨ZB _,by decide⟩
  ·split
   ·exact⟨ZB _,by decide⟩
   ·exact⟨by rw[Z4];omega,by rw[YW];omega⟩
theorem bA{Zo:Lib}{fs:T CF}{fuel:Nat}(E:Env Zo fs fuel){k n:Nat}(hk:4<=k){H:Heap}{p lk:List UInt8}{kd ti:Int}{mo ui gi:Nat}{av dv:AV}{as_:List NP}{da:List UInt8}(gH:Su H)(sz:Szd H av dv as_ da)(tN:mo<4294967296)(qd:ui<4294967296)(uG:gi<4294967296)(ti1: -9223372036854775808<=ti)(ti2:ti<=9223372036854775807)(hp:p.length<=80000)(hlk:lk.length<=90000):
  ∃b q w H',Z8 (LK Zo fs fuel k) fs fuel (n+6) 20 [.agg [.str p,.int .i64 kd,nI .u32 mo,nI .u32 ui,nI .u32 gi,.int .i64 ti,av,dv,.str lk]] H=.ret (.tup [.ptr b 0,w]) H'∧H.nx<=b∧b<q∧ZE H H' []∧Su H'∧HR H' b (mu p lk kd ti mo ui gi da)∧Py H' w 85 2 (QG (mw p lk kd ti ui gi as_)) (q+1):=by
 rw[Z7 (Z2 E.n20 (.inr rfl) _ _) E.f20]
 have hro:=gH.p.ro;have GY:=gH.p.nx
 have cv1:=sz.a.cells
 have cv2:=sz.d.cells
 have bx: ∀G:Heap,II 36 (.agg [.str p,.int .i64 kd,nI .u32 mo,nI .u32 ui,nI .u32 gi,.int .i64 ti,av,dv,.str lk]) G=.val (.ptr G.nx 0) (G.new (rG 36 1 [.str p,.int .i64 kd,nI .u32 mo,nI .u32 ui,nI .u32 gi,.int .i64 ti,av,dv,.str lk] 0 false true true)):=λG=>V7 (l:=[.str p,.int .i64 kd,nI .u32 mo,nI .u32 ui,nI .u32 gi,.int .i64 ti,av,dv,.str lk]) (show 1<=9 by decide) 36 G
 obtain⟨H1,hH1⟩: ∃G,H.new (rG 36 1 [.str p,.int .i64 kd,nI .u32 mo,nI .u32 ui,nI .u32 gi,.int .i64 ti,av,dv,.str lk] 0 false true true)=G:=⟨_,rfl⟩
 have k1:ZE H H1 []:=by rw[<-hH1];exact ZE.new _ _ _
 have Jh:H1.nx=H.nx+1:=by rw[<-hH1];rfl
 have FX:H1.ro=H.ro:=by rw[<-hH1];rfl
 have g1:H1.t.get H.nx=some (rG 36 1 [.str p,.int .i64 kd,nI .u32 mo,nI .u32 ui,nI .u32 gi,.int .i64 ti,av,dv,.str lk] 0 false true true):=by rw[<-hH1];exact YB rfl _
 have ld8: ∀G,wZ 8 (some (rG 36 1 [.str p,.int .i64 kd,nI .u32 mo,nI .u32 ui,nI .u32 gi,.int .i64 ti,av,dv,.str lk] 0 false true true)) 1 G=.val (.agg [.int .i64 kd,nI .u32 mo,nI .u32 ui,nI .u32 gi,.int .i64 ti,av,dv,.str lk]) G:=λG=>To (show 1+8<=9 by decide) ..
 have qk: ∀G,wZ 9 (some (rG 36 1 [.str p,.int .i64 kd,nI .u32 mo,nI .u32 ui,nI .u32 gi,.int .i64 ti,av,dv,.str lk] 0 false true true)) 0 G=.val (.agg [.str p,.int .i64 kd,nI .u32 mo,nI .u32 ui,nI .u32 gi,.int .i64 ti,av,dv,.str lk]) G:=λG=>To (show 0+9<=9 by decide) ..
 obtain⟨H2,hH2⟩: ∃G,H1.new (rG 34 1 [.int .i64 kd,nI .u32 mo,nI .u32 ui,nI .u32 gi,.int .i64 ti,av,dv,.str lk] 0 false true true)=G:=⟨_,rfl⟩
 have k12:ZE H1 H2 []:=by rw[<-hH2];exact ZE.new _ _ _
 have k2:ZE H H2 []:=k1.trans' k12
 have nx2:H2.nx=H1.nx+1:=by rw[<-hH2];rfl
 have gj:H2.ro=H1.ro:=by rw[<-hH2];rfl
 have g2:H2.t.get H1.nx=some (rG 34 1 [.int .i64 kd,nI .u32 mo,nI .u32 ui,nI .u32 gi,.int .i64 ti,av,dv,.str lk] 0 false true true):=by rw[<-hH2];exact YB rfl _
 have sf:=SB (n:=8) (b:=H1.nx) (l:=[nI .i64 0,nI .u32 0,nI .u32 0,nI .u32 0,nI .i64 0,.nils,.nils,.str []]) (vs:=[.int .i64 kd,nI .u32 mo,nI .u32 ui,nI .u32 gi,.int .i64 ti,av,dv,.str lk]) (H:=H1.new (rG 34 1 [nI .i64 0,nI .u32 0,nI .u32 0,nI .u32 0,nI .i64 0,.nils,.nils,.str []] 0 false true true)) rfl rfl (by decide) (by show H1.ro<=_;omega) 34 1 false true
 rw[Sy rfl,hH2] at sf
 have gz:=λ(G:Heap)=>YB (H:=H1) rfl (rG 34 1 [nI .i64 0,nI .u32 0,nI .u32 0,nI .u32 0,nI .i64 0,.nils,.nils,.str []] 0 false true true)
 have lk0: ∀G,ld1 (some (rG 34 1 [.int .i64 kd,nI .u32 mo,nI .u32 ui,nI .u32 gi,.int .i64 ti,av,dv,.str lk] 0 false true true)) 0 G=.val (.int .i64 kd) G:=λG=>rfl
 have fy:=gH.keep0 k2
 obtain⟨rT,gT,lT0,lT1⟩:=fy.p.t
 have gTm:=fy.p.tm
 have lT: ∀G,ld1 (some (.row rT)) 0 G=.val (.map 12) G:=λG=>by rw[Y8 lT0,lT1]
 have lt:=λG=>lkT kd G
 obtain⟨H3,e3,k23,R3⟩:=zR E (k:=k) (n:=n) hk (t:=tyN kd) (Zij kd) fy
 have k3:ZE H H3 []:=k2.trans' k23
 have nx3:=R3.lt
 obtain⟨H4,GZ⟩: ∃G,H3.new (rG 61 1 [.nils] 0 false true true)=G:=⟨_,rfl⟩
 have v7:ZE H3 H4 []:=by rw[<-GZ];exact ZE.new _ _ _
 have k4:ZE H H4 []:=k3.trans' v7
 have k24:ZE H2 H4 []:=k23.trans' v7
 have nx4:H4.nx=H3.nx+1:=by rw[<-GZ];rfl
 have ro4:=k4.ro
 have g14:H4.t.get H.nx=some (rG 36 1 [.str p,.int .i64 kd,nI .u32 mo,nI .u32 ui,nI .u32 gi,.int .i64 ti,av,dv,.str lk] 0 false true true):=by rw[(k12.trans' k24).get _ (by omega) (by simp)];exact g1
 have hs4:HS H H.nx H1.nx H2.nx H3.nx p lk kd ti mo ui gi av dv (F3 (tyN kd)) [] H4:=by
  refine⟨k4,gH.keep0 k4,g14,by rw[k24.get _ (by omega) (by simp)];exact g2,R3.keep0 v7,⟨.nils,by rw[<-GZ];exact YB rfl _,.inl ⟨rfl,rfl⟩,by omega,by omega,by omega⟩,GY,by omega,by omega,by omega,by omega⟩
 obtain⟨H5,e5,tu⟩:=tE E (k:=k) (n:=n+4) (H:=H4) (p:=p) (lk:=lk) (kd:=kd) (ti:=ti) (mo:=mo) (ui:=ui) (gi:=gi) (av:=av) (dv:=dv) (by omega)
 have hs5:=hs4.keep0 tu
 have g5:=hs5.m
 have hl:=tD kd p
 have ep:=λ{j}=>ZkT (Zo:=Zo) (fs:=fs) (fuel:=fuel) E (k:=k) (n:=j) hk (s:=SW kd p) (H:=H5) (by omega)
 obtain⟨hp1,hp2⟩:=Zah (SW kd p) (by omega)
 unfold mu mw
 cases hfit:(R0 (SW kd p)).2.2 with
 |true=>
  rw[hfit] at ep
  rw[if_pos rfl]
  simp(maxSteps:=4000000) (disch:=first|assumption|omega|(simp -implicitDefEqProofs only[Xl,Xm]<;>first|assumption|omega)|decide) only[bx,hH1,g1,ld8,qk,sf,gz,hH2,g2,gT,gTm,lT,lt,lk0,e3,GZ,g14,e5,ep,SA,ZD,ZR,Fc,LN,Z6,qr,Yx,Ye,ZM,ZK,Zy,ZJ,YN,Y7,YE,Xa,YR,Yy,ZP,Ya,Yb,YV,Nat.reduceSub,Nat.reduceAdd,Nat.reduceLeDiff,ZB,ZL,Nat.reduceEqDiff,decide_true,decide_false,Yq,Zd,Zb,X7,Wc,Y0,Yw,Yk,YQ,YP,Z6,Zx,Zr,Y8,ZY,Zb,Zd,Xg,ZD,ZR,Qp,ZN,Zu,ZC,Zw,ZI,Zs,Zv,Zl,ZO,XC,XJ,Xx,Xw,ZU,ZS,ZX,ZW,Zz,ZH,YC,YF,Zy,ZJ,ZK,ZM,Zb,Zd,ZD,ZR,ZN,YL,YA,YH,YZ,Yp,Yj,c20,Yf,Xr,ZV,Yv,Z0,Z1,Yc,Nat.reduceEqDiff,reduceCtorEq,Xq,TB]
  generalize hS:F8 _ _ _ _=S
  obtain⟨tm',H',rfl,t2,hs',w,t3,rb⟩:=zP (P:=λT=>ft H.nx H1.nx H2.nx H3.nx T∧WD T=.str (R0 (SW kd p)).1∧Vc T=.str (R0 (SW kd p)).2.1) (Q:=λtm' H'=>zL H H.nx H1.nx H2.nx H3.nx p lk kd ti mo ui gi av dv _ _ tm' H')
   (λT hi=>Zaz E (k:=k) (n:=n) hk hs5 sz tN qd uG ti1 ti2 hlk hp1 hp2 (ZB _) _ _ _ _ T hi) hS
   (by exact⟨⟨rfl,rfl,rfl,rfl,rfl⟩,rfl,rfl⟩)
  simp only[Oa] at t2
  simp only[RK] at t3
  simp(maxSteps:=4000000) (disch:=first|assumption|omega|(simp -implicitDefEqProofs only[Xl,Xm]<;>first|assumption|omega)|decide) only[t2,t3,Yx,Ye,ZM,ZK,Zy,ZJ,YN,Y7,YE,Xa,YR,Yy,ZP,Ya,Yb,YV,Nat.reduceSub,Nat.reduceAdd,Nat.reduceLeDiff,ZB,ZL,Nat.reduceEqDiff,decide_true,decide_false,Yq,Zd,Zb,X7,Wc,Y0,Yw,Yk,YQ,YP,Z6,Zx,Zr,Y8,ZY,Zb,Zd,Xg,ZD,ZR,Qp,ZN,Zu,ZC,Zw,ZI,Zs,Zv,Zl,ZO,XC,XJ,Xx,Xw,ZU,ZS,ZX,ZW,Zz,ZH,YC,YF,Zy,ZJ,ZK,ZM,Zb,Zd,ZD,ZR,ZN,YL,YA,YH,YZ,Yp,Yj,c20,Yf,Xr,ZV,Yv,Z0,Z1,Yc,Nat.reduceEqDiff,reduceCtorEq,Xq,TB]
  refine⟨_,H3.nx,w,H',rfl,?_⟩
  exact⟨by omega,by omega,hs'.k,hs'.g,hs'.hr,rb⟩
 |false=>
  rw[hfit] at ep
  rw[if_neg (by simp)]
  obtain⟨H6,e6,qj⟩:=tE E (k:=k) (n:=n+4) (H:=H5) (p:=p) (lk:=lk) (kd:=kd) (ti:=ti) (mo:=mo) (ui:=ui) (gi:=gi) (av:=av) (dv:=dv) (by omega)
  obtain⟨H7,e7,hs7,_⟩:=CA E (k:=k) (n:=n+4) (hs5.keep0 qj) (ZB _) (x:=[112,97,116,104]) (y:=SW kd p)
  simp(maxSteps:=4000000) (disch:=first|assumption|omega|(simp -implicitDefEqProofs only[Xl,Xm]<;>first|assumption|omega)|decide) only[bx,hH1,g1,ld8,qk,sf,gz,hH2,g2,gT,gTm,lT,lt,lk0,e3,GZ,g14,e5,ep,SA,ZD,ZR,Fc,LN,Z6,qr,g5,e6,e7,Yx,Ye,ZM,ZK,Zy,ZJ,YN,Y7,YE,Xa,YR,Yy,ZP,Ya,Yb,YV,Nat.reduceSub,Nat.reduceAdd,Nat.reduceLeDiff,ZB,ZL,Nat.reduceEqDiff,decide_true,decide_false,Yq,Zd,Zb,X7,Wc,Y0,Yw,Yk,YQ,YP,Z6,Zx,Zr,Y8,ZY,Zb,Zd,Xg,ZD,ZR,Qp,ZN,Zu,ZC,Zw,ZI,Zs,Zv,Zl,ZO,XC,XJ,Xx,Xw,ZU,ZS,ZX,ZW,Zz,ZH,YC,YF,Zy,ZJ,ZK,ZM,Zb,Zd,ZD,ZR,ZN,YL,YA,YH,YZ,Yp,Yj,c20,Yf,Xr,ZV,Yv,Z0,Z1,Yc,Nat.reduceEqDiff,reduceCtorEq,Xq,TB]
  generalize hS:F8 _ _ _ _=S
  obtain⟨tm',H',rfl,t2,hs',w,t3,rb⟩:=zP (P:=λT=>ft H.nx H1.nx H2.nx H3.nx T∧WD T=.str (R0 (SW kd p)).1∧Vc T=.str (R0 (SW kd p)).2.1) (Q:=λtm' H'=>zL H H.nx H1.nx H2.nx H3.nx p lk kd ti mo ui gi av dv _ _ tm' H')
   (λT hi=>Zaz E (k:=k) (n:=n) hk hs7 sz tN qd uG ti1 ti2 hlk hp1 hp2 (by show 1<=80;decide) _ _ _ _ T hi) hS
   (by exact⟨⟨rfl,rfl,rfl,rfl,rfl⟩,rfl,rfl⟩)
  simp only[Oa] at t2
  simp only[RK] at t3
  simp(maxSteps:=4000000) (disch:=first|assumption|omega|(simp -implicitDefEqProofs only[Xl,Xm]<;>first|assumption|omega)|decide) only[t2,t3,Yx,Ye,ZM,ZK,Zy,ZJ,YN,Y7,YE,Xa,YR,Yy,ZP,Ya,Yb,YV,Nat.reduceSub,Nat.reduceAdd,Nat.reduceLeDiff,ZB,ZL,Nat.reduceEqDiff,decide_true,decide_false,Yq,Zd,Zb,X7,Wc,Y0,Yw,Yk,YQ,YP,Z6,Zx,Zr,Y8,ZY,Zb,Zd,Xg,ZD,ZR,Qp,ZN,Zu,ZC,Zw,ZI,Zs,Zv,Zl,ZO,XC,XJ,Xx,Xw,ZU,ZS,ZX,ZW,Zz,ZH,YC,YF,Zy,ZJ,ZK,ZM,Zb,Zd,ZD,ZR,ZN,YL,YA,YH,YZ,Yp,Yj,c20,Yf,Xr,ZV,Yv,Z0,Z1,Yc,Nat.reduceEqDiff,reduceCtorEq,Xq,TB]
  refine⟨_,H3.nx,w,H',rfl,?_⟩
  exact⟨by omega,by omega,hs'.k,hs'.g,hs'.hr,rb⟩
end
end Go.AI
