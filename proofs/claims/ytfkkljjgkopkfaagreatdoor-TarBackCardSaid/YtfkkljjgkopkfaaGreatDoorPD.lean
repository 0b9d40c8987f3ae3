/- A head of one block: walked; proved, conditions as named. -/
import Derived.Test.YtfkkljjgkopkfaaGreatDoorPC
set_option maxRecDepth 1000000
set_option maxHeartbeats 0
set_option linter.all false
namespace Go.AI
open Go
noncomputable section
section
variable {Zq:Lib} {fs:T CF} {Zk k n i h b:Nat} {H H0:Heap} {s:Zd} {cs:List AV}
def Wx(s:Zd):Zd×Zd×Bool:=
 if s.length<=100 then([],s,true)
 else if TE 47 (s.take (min (s.length - 1) 156))=0 then([],[112,97,120],false)
 else if 100<s.length - (TE 47 (s.take (min (s.length - 1) 156)) - 1) - 1 then([],[112,97,120],false)
 else(s.take (TE 47 (s.take (min (s.length - 1) 156)) - 1),s.drop (TE 47 (s.take (min (s.length - 1) 156))),true)
def Wp(kd:Int)(p:Zd):Zd:=if kd=1 then p++[47] else p
def dr(E:Env Zq fs Zk)(hs:s.length<=90000):
  ∃H',ZA (LK Zq fs Zk 3) fs Zk (n+2) 31 [.str s] H=.ret (.tup [.str (Wx s).1,.str (Wx s).2.1,.bool (Wx s).2.2]) H'∧Zu H H' []:=by
 rw[Z5 E.f31 (.inl (by decide))]
 by_cases h1:s.length<=100
 ·have d1:decide (s.length<=100)=true:=Zi h1
  rw[show Wx s=([],s,true) by unfold Wx;rw[if_pos h1]];simp only[d1,Y4,ZZ,Y4,c31,ZG,Yj,Zz,Yg];refine⟨_,rfl,?_⟩;exact Zu.refl _ _
 have d1:decide (s.length<=100)=false:=Zc h1;have sb: ∀G,Mh (nI .i64 s.length) (nI .i64 1) G=.val (nI .i64 (s.length - 1)) G:=λG=>Wz (by omega) (by omega) G;have el:=λ{j}=>Zgb E (k:=3) (n:=j) (by decide) (s:=s.take (min (s.length - 1) 156)) (x:=47) (H:=H) (by rw[Zy];omega);have hc:=Ed 47 (s.take (min (s.length - 1) 156));rw[Zy] at hc;unfold Wx;rw[if_neg h1];generalize TE 47 (s.take (min (s.length - 1) 156))=q at*
 by_cases h2:q=0
 ·have d2:decide (q=0)=true:=Zi h2
  rw[if_pos h2];simp(disch:=omega) only[d1,sb,el,d2,Y4,ZZ,Tj,ZaL,Y4,N3,T5,Tj,c31,ZG,Yj,Zz,Yc,Yg];refine⟨_,rfl,?_⟩;exact Zu.refl _ _
 rw[if_neg h2];obtain⟨p,rfl⟩: ∃p,q=p+1:=⟨q - 1,by omega⟩;have mi:mI (p+1)=nI .i64 p:=rfl;rw[mi] at el;have dz:decide (p<0)=false:=Zc (UZ _);have sb2: ∀G,Mh (nI .i64 s.length) (nI .i64 p) G=.val (nI .i64 (s.length - p)) G:=λG=>Wz (by omega) (by omega) G;have sb3: ∀G,Mh (nI .i64 (s.length - p)) (nI .i64 1) G=.val (nI .i64 (s.length - p - 1)) G:=λG=>Wz (by omega) (by omega) G;rw[X8]
 by_cases h3:100<s.length - p - 1
 ·have d3:decide (100<s.length - p - 1)=true:=Zi h3
  rw[if_pos h3];simp(disch:=omega) only[d1,sb,el,dz,sb2,sb3,d3,Y4,ZE,Yn,ZZ,Tj,ZE,Yn,Y4,N3,T5,Tj,c31,ZG,Yj,Zz,Yc,Yg];refine⟨_,rfl,?_⟩;exact Zu.refl _ _
 have d3:decide (100<s.length - p - 1)=false:=Zc h3;rw[if_neg h3];simp(disch:=omega) only[d1,sb,el,dz,sb2,sb3,d3,Y4,ZE,Yn,Y0,ZZ,Vy,Tj,ZD,ZO,ZE,Yn,Y4,N3,T5,Tj,Vy,Y0,c31,ZG,Yj,Zz,Yc,Xc,Yg,UH];refine⟨_,rfl,?_⟩;exact Zu.refl _ _
def ZlT(E:Env Zq fs Zk)(hk:4<=k)(hs:s.length<=90000):
  ZA (LK Zq fs Zk k) fs Zk (n+1) 31 [.str s] H=.ret (.tup [.str (Wx s).1,.str (Wx s).2.1,.bool (Wx s).2.2]) H:=by
 obtain⟨H',e,g⟩:=dr E (n:=898) (H:=H) hs;exact Yh (r:=3) rfl rfl e g (rfl) hk
def qa(E:Env Zq fs Zk){p lk:Zd}{kd ti:Int}{mo ui gi:Nat}{av dv:AV}(hp:p.length<=90000):
  ∃H',ZA (LK Zq fs Zk k) fs Zk (n+1) 32 [.agg [.str p,.int .i64 kd,nI .u32 mo,nI .u32 ui,nI .u32 gi,.int .i64 ti,av,dv,.str lk]] H=.ret (.str (Wp kd p)) H'∧Zu H H' []:=by
 rw[Z5 E.f32 (.inr rfl)];have bx: ∀G:Heap,MW 34 (.agg [.str p,.int .i64 kd,nI .u32 mo,nI .u32 ui,nI .u32 gi,.int .i64 ti,av,dv,.str lk]) G=.val (.ptr G.nx 0) (G.new (rH 34 [.str p,.int .i64 kd,nI .u32 mo,nI .u32 ui,nI .u32 gi,.int .i64 ti,av,dv,.str lk])):=λG=>W4 (l:=[.str p,.int .i64 kd,nI .u32 mo,nI .u32 ui,nI .u32 gi,.int .i64 ti,av,dv,.str lk]) (show 1<=9 by decide) 34 G;have gz:=λ(G:Heap)=>ZR (H:=G) rfl (rH 34 [.str p,.int .i64 kd,nI .u32 mo,nI .u32 ui,nI .u32 gi,.int .i64 ti,av,dv,.str lk]);have l0: ∀G,ld1 (some (rH 34 [.str p,.int .i64 kd,nI .u32 mo,nI .u32 ui,nI .u32 gi,.int .i64 ti,av,dv,.str lk])) 0 G=.val (.str p) G:=λG=>rfl;have l1: ∀G,ld1 (some (rH 34 [.str p,.int .i64 kd,nI .u32 mo,nI .u32 ui,nI .u32 gi,.int .i64 ti,av,dv,.str lk])) 1 G=.val (.int .i64 kd) G:=λG=>rfl;have ad:=λG=>Q1 (a:=p) (b:=[47]) (by show _+1<=_;omega) G;have eqk: ∀G,NL WX false (.int .i64 kd) (nI .i64 1) G=.val (.bool (decide (kd=1))) G:=λG=>LA _ _ _ _
 by_cases h1:kd=1
 ·have d1:decide (kd=1)=true:=Zi h1
  rw[show Wp kd p=p++[47] by unfold Wp;rw[if_pos h1]];simp only[bx,gz,l0,l1,ad,eqk,d1,UJ,Zo,Zl,Zl,Zo,Zl,Zo,c32,ZG,Yj,Zz,Yg];refine⟨_,rfl,?_⟩;exact Zu.new _ _ _
 ·have d1:decide (kd=1)=false:=Zc h1
  rw[show Wp kd p=p by unfold Wp;rw[if_neg h1]];simp only[bx,gz,l0,l1,eqk,d1,UJ,Zo,Zl,Zl,Zo,Zl,Zo,c32,ZG,Yj,Zz,Yg];refine⟨_,rfl,?_⟩;exact Zu.new _ _ _
def ZlU(E:Env Zq fs Zk)(hk:4<=k){z:Int}(g:Qw H)(hro:H.ro<=H.nx)(hz1: -9223372036854775808<=z)(hz2:z<=9223372036854775807):
  ZA (LK Zq fs Zk k) fs Zk (n+2) 33 [.int .i64 z] H=.ret (.str (QC z)) H:=by
 rw[Z5 E.f33 (.inr rfl)];have e1:=λ{j}=>aG E (k:=k) (n:=j) hk (z:=z) (H:=H) g hro hz1 (by omega);simp only[e1,c33,ZG,Yj,Zz,Yg]
def BxR(H:Heap)(q lo:Nat)(l:List NP):Prop:= ∃w,H.t.get q=some (rH 48 [w])∧TZ H w 73 2 (TN l) lo∧q<lo∧H.ro<=q∧lo<=H.nx
def BxR.keep{H H':Heap}{q lo:Nat}{l:List NP}{S:List Nat}(h:BxR H q lo l)(k:Zu H H' S)(hS: ∀x∈S,x<lo∧x≠q):BxR H' q lo l:=by
 obtain⟨w,h1,h2,h3,h4,h5⟩:=h;refine⟨w,by rw[k.get q (by omega) (λh=>(hS q h).2 rfl)];exact h1,h2.below (λc hc hlt=>k.get c hlt λh=>by have:=(hS c h).1;omega) k.ro k.nx,h3,by rw[k.ro];exact h4,Yb h5 k.nx⟩
def BxR.put{q lo c:Nat}{l:List NP}{r:Row}{o:Obj}(h:BxR H q lo l)(hc:H.t.get c=some (.row r))(he:r.exact=true)(hq:c≠q):BxR (H.put c o) q lo l:=by
 obtain⟨w,h1,h2,h3,h4,h5⟩:=h;refine⟨w,by rw[UO hq];exact h1,?_,h3,h4,h5⟩;rcases h2 with hw2|⟨g1,b0,r0,g2,g3,g4⟩
 ·exact .inl hw2
 ·refine .inr ⟨g1,b0,r0,g2,g3.moved (UO (λe=>?_) ..) rfl (Zs _),g4⟩
  rw[e] at hc;have:=g3.at_.symm.trans hc;cases this;rw[g3.exact_] at he;cases he
def ZaW(E:Env Zq fs Zk){q lo:Nat}{l:List NP}{a b:Zd}(h:BxR H q lo l)(hl:l.length<=1000):
  ∃H' S,ZA (LK Zq fs Zk k) fs Zk (n+1) 30 [.str a,.str b,.ptr q 0] H=.ret (.tup []) H'∧Zu H H' S∧(∀x∈S,x=q∨lo<=x∧ ∃r,H.t.get x=some (.row r)∧r.exact=false)∧BxR H' q lo (l++[(a,b)]):=by
 rw[Z5 E.f30 (.inr rfl)];obtain⟨w,h1,h2,h3,h4,h5⟩:=h;obtain⟨lw,sw,cw,bw⟩:=Wb h2;obtain⟨w',H2,ea,w2,k2,hb2,n2⟩:=wj (bytes:=32) h2 (by decide) (by decide) (by rw[Vm];omega) (by omega) (by omega) (x:=[.str a,.str b]) rfl;have bs: ∀G,US 73 2 1 [.str [],.str []] [(0,2,.agg [.str a,.str b])] G=.val (.slice G.nx 0 1 none) (G.new (rG 73 2 [.str a,.str b] 0 false true true)):=λ_=>rfl;have b2: ∀G,TS [.str [],.str []] [(0,1,.str a),(1,1,.str b)] G=.val (.agg [.str a,.str b]) G:=λ_=>rfl;have lq: ∀G,ld1 (some (rH 48 [w])) 0 G=.val w G:=λG=>XQ (ZU 0) ..;have gq2:H2.t.get q=some (rH 48 [w]):=by rw[k2.get _ (by omega) (λh=>by have:=(bw _ h).1;omega)];exact h1
 obtain⟨_,_,cw',bw'⟩:=Wb w2;have sq:F3 1 (some (rH 48 [w])) q 0 w' H2=.val Y9 (H2.put q (rH 48 [w'])):=by
  rw[Te cw' (ZU 0) (by rw[k2.ro];exact h4) (ZN _)];rfl
 simp only[h1,lq,bs,b2,ea,gq2,sq,YO,Ud,YO,Ys,ZD,ZO,c30,ZG,Yj,Zz,Yg];refine⟨_,q::Xk w,rfl,?_,λx hx=>?_,w',Yp ..,?_,h3,?_,?_⟩
 ·exact(⟨k2.nx,k2.ro,λc hc hn=>k2.get c hc λh=>hn (ZC _ h)⟩:Zu H H2 (q::Xk w)).then_put (λ_=>Zw ..)
 ·rcases ZY.1 hx with rfl|hx
  ·exact .inl rfl
  ·refine .inr ⟨(bw _ hx).1,?_⟩
   rcases h2 with⟨_,rfl⟩|⟨_,b0,r0,rfl,hr,_⟩
   ·cases hx
   ·obtain rfl:x=b0:=by simpa [Xk] using hx
    exact⟨r0,hr.at_,hr.exact_⟩
 ·rw[J4]
  rcases w2 with hw2|⟨h1,b0,r0,h2,h3,h4⟩
  ·exact .inl hw2
  ·exact .inr ⟨h1,b0,r0,h2,h3.moved (UO (by omega) ..) rfl (Zs _),h4⟩
 ·show H2.ro<=q;rw[k2.ro];exact h4
 ·have:=k2.nx;show lo<=H2.nx;omega
def cP(x y z:AV):[x,y]++[z]=[x,y,z]:=rfl
def yl{a:TM->Heap->X->UG}{x:X}{S:UG}{P:TM->Prop}{Q:TM->Heap->Prop}(lp: ∀T,P T-> ∃tm' H',a T H x=.ok .ret tm' H' x∧Q tm' H'){T:TM}(hS:a T H x=S)(hi:P T):
  ∃tm' H',S=.ok .ret tm' H' x∧Q tm' H':=by
 obtain⟨b,c,e,j⟩:=lp T hi;exact⟨b,c,hS.symm.trans e,j⟩
structure HS(H0:Heap)(mb nd b q:Nat)(p lk:Zd)(kd ti:Int)(mo ui gi:Nat)(av dv:AV)(L:Zd)(Rs:List NP)(H:Heap):Prop where
 k:Zu H0 H []
 g:V8 H
 m:H.t.get mb=some (rH 34 [.str p,.int .i64 kd,nI .u32 mo,nI .u32 ui,nI .u32 gi,.int .i64 ti,av,dv,.str lk])
 n:H.t.get nd=some (rH 32 [.int .i64 kd,nI .u32 mo,nI .u32 ui,nI .u32 gi,.int .i64 ti,av,dv,.str lk])
 hr:HR H b L
 bx:BxR H q (q+1) Rs
 o0:100<=H0.nx
 o1:H0.nx<=mb
 o2:mb<nd
 o3:nd<b
 o4:b<q
def HS.upd{mb nd q:Nat}{p lk:Zd}{kd ti:Int}{mo ui gi:Nat}{av dv:AV}{L L':Zd}{Rs Rs':List NP}{H H':Heap}{S:List Nat}(h:HS H0 mb nd b q p lk kd ti mo ui gi av dv L Rs H)(k:Zu H H' S)(hS: ∀x∈S,x=b∨x=q∨q+1<=x)(hr:HR H' b L')(bx:BxR H' q (q+1) Rs'):HS H0 mb nd b q p lk kd ti mo ui gi av dv L' Rs' H':=by
 obtain⟨h1,h2,h3,h4,h5,h6,h70,h7,h8,h9,h10⟩:=h;have hlt:=h5.lt;have hq:q<H.nx:=by
  obtain⟨w,_,_,_,_,h⟩:=h6;omega
 have ho: ∀x∈S,H0.nx<=x:=λx hx=>by rcases hS x hx with h|h|h<;>omega
 exact⟨h1.trans k (λc hc hlt=>by have:=ho c hc;omega),h2.keep k (λx hx=>by rcases hS x hx with h|h|h<;>omega),
  by rw[k.get mb (by omega) (λh=>by rcases hS _ h with h|h|h<;>omega)];exact h3,
  by rw[k.get nd (by omega) (λh=>by rcases hS _ h with h|h|h<;>omega)];exact h4,hr,bx,h70,h7,h8,h9,h10⟩
def HS.keep0{mb nd q:Nat}{p lk:Zd}{kd ti:Int}{mo ui gi:Nat}{av dv:AV}{L:Zd}{Rs:List NP}{H H':Heap}(h:HS H0 mb nd b q p lk kd ti mo ui gi av dv L Rs H)(k:Zu H H' []):HS H0 mb nd b q p lk kd ti mo ui gi av dv L Rs H':=
 h.upd k (λx hx=>by cases hx) (h.hr.keep0 k) (h.bx.keep k λx hx=>by cases hx)
def vY(E:Env Zq fs Zk)(hk:4<=k){mb nd q:Nat}{p lk:Zd}{kd ti:Int}{mo ui gi:Nat}{av dv:AV}{L:Zd}{Rs:List NP}(h:HS H0 mb nd b q p lk kd ti mo ui gi av dv L Rs H){nm:Zd}{a m:Nat}(F:CQ nm a m)(hs:s.length<=90000):
  ∃H',ZA (LK Zq fs Zk k) fs Zk (n+4) 18 [.ptr b 0,.str nm,.str s] H=.ret (.tup []) H'∧HS H0 mb nd b q p lk kd ti mo ui gi av dv (Un L a m (UK s m)) Rs H':=by
 obtain⟨H',e,k1,r⟩:=zz E (n:=n) hk h.g F h.hr hs;have:=h.o4;exact⟨H',e,h.upd k1 (λx hx=>.inl (Zn.1 hx)) r (h.bx.keep k1 λx hx=>by have:=Zn.1 hx;omega)⟩
def vX(E:Env Zq fs Zk)(hk:4<=k){mb nd q:Nat}{p lk:Zd}{kd ti:Int}{mo ui gi:Nat}{av dv:AV}{L:Zd}{Rs:List NP}(h:HS H0 mb nd b q p lk kd ti mo ui gi av dv L Rs H){nm:Zd}{u a m:Nat}(F:CQ nm a m)(hu:u<9223372036854775808)(h3:2<=m)(h4:m<=20):
  ∃H',ZA (LK Zq fs Zk k) fs Zk (n+4) 19 [.ptr b 0,.str nm,nI .i64 u] H=.ret (.tup []) H'∧HS H0 mb nd b q p lk kd ti mo ui gi av dv (Un L a m (UR u m)) Rs H':=by
 obtain⟨H',e,k1,r⟩:=JY E (n:=n) hk h.g F h.hr hu h3 h4;have:=h.o4;exact⟨H',e,h.upd k1 (λx hx=>.inl (Zn.1 hx)) r (h.bx.keep k1 λx hx=>by have:=Zn.1 hx;omega)⟩
def Cv(E:Env Zq fs Zk){mb nd q:Nat}{p lk:Zd}{kd ti:Int}{mo ui gi:Nat}{av dv:AV}{L:Zd}{Rs:List NP}(h:HS H0 mb nd b q p lk kd ti mo ui gi av dv L Rs H)(hl:Rs.length<=1000){x y:Zd}:
  ∃H',ZA (LK Zq fs Zk k) fs Zk (n+1) 30 [.str x,.str y,.ptr q 0] H=.ret (.tup []) H'∧HS H0 mb nd b q p lk kd ti mo ui gi av dv L (Rs++[(x,y)]) H'∧H.nx<=H'.nx∧ ∀c r,c<H.nx->c≠q->H.t.get c=some (.row r)->r.exact=true->H'.t.get c=some (.row r):=by
 obtain⟨H',S,e,k1,hS,r⟩:=ZaW E (n:=n) h.bx hl (a:=x) (b:=y);have:=h.o4;refine⟨H',e,h.upd k1 (λx hx=>.inr ((hS x hx).imp id λh=>h.1)) (h.hr.keep k1 λhx=>by rcases hS _ hx with h|⟨h,_⟩<;>omega) r,k1.nx,λc r hc hq hr he=>?_⟩
 rw[k1.get c hc λhx=>?_]
 ·exact hr
 ·rcases hS c hx with h|⟨_,r',h1,h2⟩
  ·exact hq h
  ·rw[hr] at h1;cases h1;rw[he] at h2;cases h2
def HS.put{mb nd q:Nat}{p lk:Zd}{kd ti:Int}{mo ui gi:Nat}{av dv:AV}{L:Zd}{Rs:List NP}{c:Nat}{r:Row}{o:Obj}(h:HS H0 mb nd b q p lk kd ti mo ui gi av dv L Rs H)(hc:H.t.get c=some (.row r))(he:r.exact=true)(hq:q+1<=c)(hlt:c<H.nx):HS H0 mb nd b q p lk kd ti mo ui gi av dv L Rs (H.put c o):=by
 have:=h.o4;have kp:Zu H (H.put c o) [c]:=Zu.put λ_=>Zn.2 rfl;exact h.upd kp (λx hx=>by have:=Zn.1 hx;omega) (h.hr.keep kp λhx=>by have:=Zn.1 hx;omega) (h.bx.put hc he (by omega))
def ZdP(E:Env Zq fs Zk)(hk:4<=k){mb nd q:Nat}{p lk:Zd}{kd ti:Int}{mo ui gi:Nat}{av dv:AV}{L:Zd}{Rs:List NP}(h:HS H0 mb nd b q p lk kd ti mo ui gi av dv L Rs H):
  ∃H',ZA (LK Zq fs Zk k) fs Zk (n+5) 20 [.ptr b 0] H=.ret (.tup []) H'∧HS H0 mb nd b q p lk kd ti mo ui gi av dv (PB L) Rs H':=by
 obtain⟨H',e,k1,r⟩:=pF E (n:=n) hk h.g h.hr;have:=h.o4;exact⟨H',e,h.upd k1 (λx hx=>.inl (Zn.1 hx)) r (h.bx.keep k1 λx hx=>by have:=Zn.1 hx;omega)⟩
structure cB(mb nd b q:Nat)(tm:TM):Prop where
 t1:Xn tm=.ptr mb 0
 t4:Xo tm=.ptr nd 0
 t5:Xi tm=.ptr b 0
 t6:XL tm=.ptr q 0
 t7:XE tm=.func 30 [] [.ptr q 0]
def yh(H0:Heap)(mb nd b q:Nat)(p lk:Zd)(kd ti:Int)(mo ui gi:Nat)(av dv:AV)(L:Zd)(Rs:List NP)(tm:TM)(H:Heap):Prop:=Va tm=.ptr b 0∧HS H0 mb nd b q p lk kd ti mo ui gi av dv L Rs H∧ ∃w,V0 tm=w∧TZ H w 73 2 (TN Rs) (q+1)
def Zjl(E:Env Zq fs Zk)(hk:4<=k){mb nd q:Nat}{p lk:Zd}{kd ti:Int}{mo ui gi:Nat}{av dv:AV}{L:Zd}{Rs:List NP}(h:HS H0 mb nd b q p lk kd ti mo ui gi av dv L Rs H)(y f qq)(X0:X)(tm:TM)(ht:cB mb nd b q tm):
  ∃tm' H',oT ⟨ZA (LK Zq fs Zk k) fs Zk (n+5),y,f,Zk,qq⟩ tm H X0=.ok .ret tm' H' X0∧yh H0 mb nd b q p lk kd ti mo ui gi av dv (PB L) Rs tm' H':=by
 obtain⟨t1,t4,t5,t6,t7⟩:=ht;simp only[G7,re] at t5 t6;obtain⟨H1,e1,h1⟩:=ZdP E (n:=n) hk h;obtain⟨w,g1,g2,g3,g4,g5⟩:=h1.bx;obtain⟨lw,sw,cw,bw⟩:=Wb g2;have lq: ∀G,ld1 (some (rH 48 [w])) 0 G=.val w G:=λG=>XQ (ZU 0) ..;have lwb:=λo=>YW (n:=H1.nx) (b:=b) h1.hr.lt o;simp only[t5,t6,e1,g1,lq,lwb,sw,XA,XR,decide_true,decide_false,Zo,Zo,ZD,ZO,Zo,oT,ZG,Yj,Yc,Xc,XZ,Nat.reducePow,Nat.reduceDiv,Nat.reduceMod,reduceCtorEq,Yg,Ca];refine⟨_,_,rfl,?_⟩;exact⟨rfl,h1,w,rfl,g2⟩
def tH(x:NP):NP:=([83,67,72,73,76,89,46,120,97,116,116,114,46]++x.1,x.2)
structure HAI(H0:Heap)(mb nd b q:Nat)(p lk:Zd)(kd ti:Int)(mo ui gi:Nat)(av dv:AV)(L:Zd)(Rs:List NP)(as_:List NP)(m:Nat)(tm:TM)(H:Heap):Prop where
 ht:cB mb nd b q tm
 t105:Kd tm=av
 t106:KX tm=nI .i64 as_.length
 i: ∃i,M1 tm=nI .i64 i∧i+m=as_.length∧HS H0 mb nd b q p lk kd ti mo ui gi av dv L (Rs++(as_.take i).map tH) H
def HAQ(H0:Heap)(mb nd b q:Nat)(p lk:Zd)(kd ti:Int)(mo ui gi:Nat)(av dv:AV)(L:Zd)(Rs:List NP)(as_:List NP)(o:Out)(tm:TM)(H:Heap):Prop:=o=.exit 2∧cB mb nd b q tm∧HS H0 mb nd b q p lk kd ti mo ui gi av dv L (Rs++as_.map tH) H
def ZdF(E:Env Zq fs Zk){mb nd q:Nat}{p lk:Zd}{kd ti:Int}{mo ui gi:Nat}{av dv:AV}{L:Zd}{Rs as_:List NP}(hA:Sz H0 2 av (TN as_))(has:as_.length<=100)(hal: ∀x∈as_,x.1.length<=90000)(hR:Rs.length<=100)(y f dd qq)(X0:X)(m:Nat)(tm:TM)(H:Heap)(hI:HAI H0 mb nd b q p lk kd ti mo ui gi av dv L Rs as_ m tm H):
  ∃o tm' H',Bf ⟨ZA (LK Zq fs Zk k) fs Zk (n+1),y,f,dd,qq⟩ tm H X0=.ok o tm' H' X0∧((o=.normal∧ ∃k,k<m∧HAI H0 mb nd b q p lk kd ti mo ui gi av dv L Rs as_ k tm' H')∨(o≠.normal∧HAQ H0 mb nd b q p lk kd ti mo ui gi av dv L Rs as_ o tm' H')):=by
 obtain⟨ht,t105,t106,i,t107,him,hs⟩:=hI;obtain⟨t1,t4,t5,t6,t7⟩:=ht;have Zmj:=t105;have Zmk:=t106;have t1':=t1;have Gk:=t4;have D8:=t5;have Cl:=t6;have Cm:=t7;simp only[G8,Zh0,Zh1,Zh2] at t7 t105 t106 t107;cases m with
 |zero=>
  have d1:decide (i<as_.length)=false:=Zc (by omega);simp only[t106,t107,d1,ZE,ZE,Bf,ZG,Yj,Ca];rw[Z1 (by omega)] at hs;refine⟨_,_,_,rfl,?_⟩;exact .inr ⟨by simp,rfl,⟨t1',Gk,D8,Cl,Cm⟩,hs⟩
 |succ m=>
  have d1:decide (i<as_.length)=true:=Zi (by omega);have hi:i<as_.length:=by omega
  obtain⟨bb,o,r,eI,hb,gb,eL,_⟩:=(hA.keep0 hs.k).at_ (i:=i) (by rw[Vm];exact hi);rw[Np hi] at eL;have hm:as_.getD i ([],[])∈as_:=by rw[Ze,Zm hi];exact XD hi
  have hl1:=hal _ hm;have htk:as_.take (i+1)=as_.take i++[as_.getD i ([],[])]:=by rw[WF,Ze,Zm hi];rfl
  generalize as_.getD i ([],[])=a at*;obtain⟨H1,hH1⟩:=TO (H.new (rH 44 [.str a.1,.str a.2]));have k1:Zu H H1 []:=by rw[<-hH1];exact Zu.new _ _ _
  have g1:H1.t.get H.nx=some (rH 44 [.str a.1,.str a.2]):=by rw[<-hH1];exact ZR rfl _
  have hroN:H.ro<=H.nx:=hs.g.p.ro;have sf:=TL (n:=2) (b:=H.nx) (l:=[.str [],.str []]) (vs:=[.str a.1,.str a.2]) (H:=H.new (rH 44 [.str [],.str []])) rfl rfl (by decide) hroN 44 1 false true;rw[TJ rfl,hH1] at sf;have l0: ∀G,ld1 (some (rH 44 [.str a.1,.str a.2])) 0 G=.val (.str a.1) G:=λG=>rfl;have l1: ∀G,ld1 (some (rH 44 [.str a.1,.str a.2])) 1 G=.val (.str a.2) G:=λG=>rfl;have ad:=λG=>Q1 (a:=[83,67,72,73,76,89,46,120,97,116,116,114,46]) (b:=a.1) (by show 13+_<=_;omega) G;obtain⟨H2,e2,h2,_⟩:=Cv E (k:=k) (n:=n) (hs.keep0 k1) (by rw[Zh,Zx,Zy];omega) (x:=[83,67,72,73,76,89,46,120,97,116,116,114,46]++a.1) (y:=a.2);simp(disch:=omega) only[t7,t105,t106,t107,d1,eI,gb,eL,sf,g1,l0,l1,ad,e2,cP,ZE,Y0,Zo,Zl,Y3,ZQ,Zl,Zo,ZE,Zl,Zo,Bf,ZG,Yj,Zz,Yg,Ca];refine⟨_,_,_,rfl,.inl ⟨rfl,m,by omega,⟨t1',Gk,D8,Cl,Cm⟩,Zmj,Zmk,i+1,rfl,by omega,?_⟩⟩;rw[htk,Xg,<-Yq];exact h2
structure Szd(H0:Heap)(av dv:AV)(as_:List NP)(da:Zd):Prop where
 a:Sz H0 2 av (TN as_)
 d:Sz H0 1 dv (ML da)
 al:as_.length<=100
 ak: ∀x∈as_,x.1.length<=90000
 dl:da.length<=1073741824
def Zjk(E:Env Zq fs Zk)(hk:4<=k){mb nd q:Nat}{p lk:Zd}{kd ti:Int}{mo ui gi:Nat}{av dv:AV}{L:Zd}{Rs:List NP}{as_:List NP}{da:Zd}(h:HS H0 mb nd b q p lk kd ti mo ui gi av dv L Rs H)(sz:Szd H0 av dv as_ da)(qr:mo<4294967296)(hR:Rs.length<=100)(y f qq)(X0:X)(tm:TM)(ht:cB mb nd b q tm):
  ∃tm' H',oS ⟨ZA (LK Zq fs Zk k) fs Zk (n+5),y,f,Zk,qq⟩ tm H X0=.ok .ret tm' H' X0∧yh H0 mb nd b q p lk kd ti mo ui gi av dv (PB (Un (Un L 100 8 (UR mo 8)) 124 12 (UR da.length 12))) (Rs++as_.map tH) tm' H':=by
 obtain⟨t1,t4,t5,t6,t7⟩:=ht;have t1':=t1;have Gk:=t4;have D8:=t5;have Cl:=t6;have Cm:=t7;simp only[Pt,G7] at t4 t5;obtain⟨H1,e1,h1⟩:=vX E (k:=k) (n:=n+1) hk h vM (u:=mo) (by omega) (by decide) (by decide);have dlen:=sz.dl;obtain⟨H2,e2,h2⟩:=vX E (k:=k) (n:=n+1) hk h1 BA (u:=da.length) (by omega) (by decide) (by decide);have g0:=h.n;have g1:=h1.n;have g2:=h2.n;have l1: ∀G,ld1 (some (rH 32 [.int .i64 kd,nI .u32 mo,nI .u32 ui,nI .u32 gi,.int .i64 ti,av,dv,.str lk])) 1 G=.val (nI .u32 mo) G:=λG=>rfl;have l5: ∀G,ld1 (some (rH 32 [.int .i64 kd,nI .u32 mo,nI .u32 ui,nI .u32 gi,.int .i64 ti,av,dv,.str lk])) 5 G=.val av G:=λG=>rfl;have l6: ∀G,ld1 (some (rH 32 [.int .i64 kd,nI .u32 mo,nI .u32 ui,nI .u32 gi,.int .i64 ti,av,dv,.str lk])) 6 G=.val dv G:=λG=>rfl;have iv: ∀G,O1 .i64 (nI .u32 mo) G=.val (nI .i64 mo) G:=λG=>V1 (by omega) G;have ld:=sz.d.len;rw[U2] at ld;have la:=sz.a.len;rw[Vm] at la;have hf:=E.big;simp only[t4,t5,e1,e2,g0,g1,g2,l1,l5,l6,iv,ld,la,Zl,Zl,Zl,oS,ZG,Yj,Yg,KA,Ca];generalize hL:Vq (Bf _) Zk _ _ _=LL;obtain⟨o,tm3,H3,rfl,_,rfl,ht3,hs3⟩:=YP (P:=λT=>HAI H0 mb nd b q p lk kd ti mo ui gi av dv _ Rs as_ as_.length T H2) (Q:=HAQ H0 mb nd b q p lk kd ti mo ui gi av dv _ Rs as_)
  (λT hi=>Y5 (HAI H0 mb nd b q p lk kd ti mo ui gi av dv _ Rs as_) (HAQ H0 mb nd b q p lk kd ti mo ui gi av dv _ Rs as_) (λm tm H' h=>ZdF E (k:=k) (n:=n+4) sz.a sz.al sz.ak hR _ _ _ _ _ m tm H' h) Zk as_.length T H2 (by have:=sz.al;omega) hi) hL
  (by exact⟨⟨t1',Gk,D8,Cl,Cm⟩,rfl,rfl,0,rfl,by omega,by rw[Xd,ZO,ZM];exact h2⟩)
 simp only[ZG,];exact Zjl E hk hs3 y f qq X0 tm3 ht3
def jA(n sz:Nat)(a i:AV)(H:Heap):OR:=SA i λi=>Fu a λcs=>ZJ (Nat.ble (Nat.succ i) n) (.val (.agg (OQ sz (Py (Nat.mul i sz) cs))) H)
def HT(x y:WI)(n sz:Nat)(tm:TM)(H:Heap):uw x y n sz tm H=jA n sz (x tm) (y tm) H:=rfl
structure If where
 key:Zd
 at_:Nat
 wid:Nat
 z:Int
 most:Nat
def Ce(x:If)(L:Zd):Zd:=if x.z<((0:Nat):Int)∨(x.most:Int)<x.z then Un L x.at_ x.wid (UR 0 x.wid) else Un L x.at_ x.wid (UR x.z.toNat x.wid)
def RT(x:If)(Rs:List NP):List NP:=if x.z<((0:Nat):Int)∨(x.most:Int)<x.z then Rs++[(x.key,QC x.z)] else Rs
def Pe(x:If)(Rs:List NP):(RT x Rs).length<=Rs.length+1:=by
 unfold RT;split
 ·rw[Zh];exact Zs _
 ·omega
def uu(ui gi:Nat)(ti:Int):List If:=[⟨[117,105,100],108,8,ui,2097151⟩,⟨[103,105,100],116,8,gi,2097151⟩,⟨[109,116,105,109,101],136,12,ti,8589934591⟩]
def og(ui gi:Nat)(ti:Int):AV:=.agg [.str [117,105,100],nI .i64 ui,nI .i64 2097151,.str [103,105,100],nI .i64 gi,nI .i64 2097151,.str [109,116,105,109,101],.int .i64 ti,nI .i64 8589934591]
structure HNI(H0:Heap)(mb nd b q:Nat)(p lk:Zd)(kd ti:Int)(mo ui gi:Nat)(av dv:AV)(L:Zd)(Rs:List NP)(m:Nat)(tm:TM)(H:Heap):Prop where
 ht:cB mb nd b q tm
 t65:Ps tm=og ui gi ti
 i: ∃i,RR tm=nI .i64 i∧i+m=3∧HS H0 mb nd b q p lk kd ti mo ui gi av dv (((uu ui gi ti).take i).foldl (λl x=>Ce x l) L) (((uu ui gi ti).take i).foldl (λl x=>RT x l) Rs) H
def HNQ(H0:Heap)(mb nd b q:Nat)(p lk:Zd)(kd ti:Int)(mo ui gi:Nat)(av dv:AV)(L:Zd)(Rs:List NP)(o:Out)(tm:TM)(H:Heap):Prop:=o=.exit 0∧cB mb nd b q tm∧HS H0 mb nd b q p lk kd ti mo ui gi av dv ((uu ui gi ti).foldl (λl x=>Ce x l) L) ((uu ui gi ti).foldl (λl x=>RT x l) Rs) H
def vW(E:Env Zq fs Zk)(hk:4<=k){mb nd q:Nat}{p lk:Zd}{kd ti:Int}{mo ui gi:Nat}{av dv:AV}{L:Zd}{Rs:List NP}(h:HS H0 mb nd b q p lk kd ti mo ui gi av dv L Rs H)(hR:Rs.length<=100)(hi:i<3){x:If}(F:CQ x.key x.at_ x.wid)(hw3:2<=x.wid)(h4:x.wid<=20)(hz1: -9223372036854775808<=x.z)(hz2:x.z<=9223372036854775807)
  (ia: ∀G,jA 3 3 (og ui gi ti) (nI .i64 i) G=.val (.agg [.str x.key,.int .i64 x.z,nI .i64 x.most]) G)(y f dd qq)(X0:X)(tm:TM)(ht:cB mb nd b q tm)(t65:Ps tm=og ui gi ti)(t66:RR tm=nI .i64 i):
  ∃tm' H',KJ ⟨ZA (LK Zq fs Zk k) fs Zk (n+5),y,f,dd,qq⟩ tm H X0=.ok .normal tm' H' X0∧cB mb nd b q tm'∧Ps tm'=og ui gi ti∧RR tm'=nI .i64 (i+1)∧HS H0 mb nd b q p lk kd ti mo ui gi av dv (Ce x L) (RT x Rs) H':=by
 obtain⟨t1,t4,t5,t6,t7⟩:=ht;have t1':=t1;have Gk:=t4;have D8:=t5;have Cl:=t6;have Cm:=t7;have Zjv:=t65;simp only[G7,G8,ZfX,ZfY] at t5 t7 t65 t66;have d1:decide (i<3)=true:=Zi hi;obtain⟨H1,hH1⟩:=TO (H.new (rH 77 [.str x.key,.int .i64 x.z,nI .i64 x.most]));have k1:Zu H H1 []:=by rw[<-hH1];exact Zu.new _ _ _
 have NB:H1.nx=H.nx+1:=by rw[<-hH1];rfl
 have g1:H1.t.get H.nx=some (rH 77 [.str x.key,.int .i64 x.z,nI .i64 x.most]):=by rw[<-hH1];exact ZR rfl _
 have hroN:H.ro<=H.nx:=h.g.p.ro;have sf:=TL (n:=3) (b:=H.nx) (l:=[.str [],nI .i64 0,nI .i64 0]) (vs:=[.str x.key,.int .i64 x.z,nI .i64 x.most]) (H:=H.new (rH 77 [.str [],nI .i64 0,nI .i64 0])) rfl rfl (by decide) hroN 77 1 false true;rw[TJ rfl,hH1] at sf;have l0: ∀G,ld1 (some (rH 77 [.str x.key,.int .i64 x.z,nI .i64 x.most])) 0 G=.val (.str x.key) G:=λG=>rfl;have l1: ∀G,ld1 (some (rH 77 [.str x.key,.int .i64 x.z,nI .i64 x.most])) 1 G=.val (.int .i64 x.z) G:=λG=>rfl;have l2: ∀G,ld1 (some (rH 77 [.str x.key,.int .i64 x.z,nI .i64 x.most])) 2 G=.val (nI .i64 x.most) G:=λG=>rfl;have smz: ∀(n:Nat) (T:T Obj),Vo (.val (.int .i64 x.z) ⟨n,T,n⟩) (.int .i64 x.z) n=true:=λn T=>VM _ _ _ (Li .i64 x.z);have lwf: ∀n,q<n->WZ n (.func 30 [] [.ptr q 0])=true:=λn hn=>by
  show cond (Pu n []) (Pu n [.ptr q 0]) false=true;rw[Fi,Ex,Fi,YW hn];rfl
 have hs1:=h.keep0 k1;have Fc:q<H.nx:=by
  obtain⟨w,_,_,_,_,h⟩:=h.bx;omega
 have ad: ∀G,Sr (nI .i64 i) (nI .i64 1) G=.val (nI .i64 (i+1)) G:=λG=>Y0 (by omega) G;have ltz: ∀G,T2 XF Yt (.int .i64 x.z) (nI .i64 0) G=.val (.bool (decide (x.z<((0:Nat):Int)))) G:=λG=>Ziy .i64 x.z 0 G;have gtz: ∀G,T2 U9 W1 (.int .i64 x.z) (nI .i64 x.most) G=.val (.bool (decide ((x.most:Int)<x.z))) G:=λG=>ZhW .i64 x.z x.most G;have ep:=λ{j}=>ZlU E (k:=k) (n:=j) hk (z:=x.z) (H:=H1) hs1.g.g hs1.g.p.ro hz1 hz2
 by_cases hm:x.z<((0:Nat):Int)∨(x.most:Int)<x.z
 ·rw[show Ce x L=Un L x.at_ x.wid (UR 0 x.wid) by unfold Ce;rw[if_pos hm],show RT x Rs=Rs++[(x.key,QC x.z)] by unfold RT;rw[if_pos hm]]
  obtain⟨H2,e2,h2,n2,kx⟩:=Cv E (k:=k) (n:=n+4) hs1 (by omega) (x:=x.key) (y:=QC x.z);have g2:=kx H.nx _ (by omega) (by omega) g1 rfl;have g2':H2.t.get H.nx=some (rH 77 [.str x.key,.int .i64 x.z,nI .i64 x.most]):=g2;have h3:=h2.put (o:=rH 77 [.str x.key,nI .i64 0,nI .i64 x.most]) g2 rfl (by omega) (by omega);have VS:F3 1 (some (rH 77 [.str x.key,.int .i64 x.z,nI .i64 x.most])) H.nx 1 (nI .i64 0) H2=.val Y9 (H2.put H.nx (rH 77 [.str x.key,nI .i64 0,nI .i64 x.most])):=by
   rw[Te rfl (by show 1<3;decide) (by rw[h2.k.ro,<-h.k.ro];exact hroN) (ZN _)];rfl
  obtain⟨H3,hH3⟩:=TO (H2.put H.nx (rH 77 [.str x.key,nI .i64 0,nI .i64 x.most]));rw[hH3] at VS h3;have g3:H3.t.get H.nx=some (rH 77 [.str x.key,nI .i64 0,nI .i64 x.most]):=by rw[<-hH3];exact Yp _ _ _
  have m0: ∀G,ld1 (some (rH 77 [.str x.key,nI .i64 0,nI .i64 x.most])) 0 G=.val (.str x.key) G:=λG=>rfl;have m1: ∀G,ld1 (some (rH 77 [.str x.key,nI .i64 0,nI .i64 x.most])) 1 G=.val (nI .i64 0) G:=λG=>rfl;obtain⟨H4,e4,h4'⟩:=vX E (k:=k) (n:=n+1) hk h3 F (u:=0) (by decide) hw3 h4
  by_cases hz:x.z<((0:Nat):Int)
  ·have d2:decide (x.z<((0:Nat):Int))=true:=Zi hz
   simp(disch:=omega) only[t5,t7,t65,t66,d1,ia,HT,sf,g1,l0,l1,smz,lwf,ad,ltz,cP,d2,ep,e2,g2',VS,g3,m0,m1,e4,ZE,decide_true,decide_false,Zo,Zl,Y3,ZQ,Zl,Zo,YW,ZD,ZO,ZE,Zl,Zo,YW,KJ,ZG,Yj,Zz,Yc,Xc,XZ,Nat.reducePow,Nat.reduceDiv,Nat.reduceMod,reduceCtorEq,Yg,KA];exact⟨_,_,rfl,⟨t1',Gk,D8,Cl,Cm⟩,Zjv,rfl,h4'⟩
  ·have d2:decide (x.z<((0:Nat):Int))=false:=Zc hz
   have d3:decide ((x.most:Int)<x.z)=true:=Zi (hm.resolve_left hz);simp(disch:=omega) only[t5,t7,t65,t66,d1,ia,HT,sf,g1,l0,l1,l2,smz,lwf,ad,ltz,gtz,cP,d2,d3,ep,e2,g2',VS,g3,m0,m1,e4,ZE,decide_true,decide_false,Zo,Zl,Y3,ZQ,Zl,Zo,YW,ZD,ZO,ZE,Zl,Zo,YW,KJ,ZG,Yj,Zz,Yc,Xc,XZ,Nat.reducePow,Nat.reduceDiv,Nat.reduceMod,reduceCtorEq,Yg,KA];exact⟨_,_,rfl,⟨t1',Gk,D8,Cl,Cm⟩,Zjv,rfl,h4'⟩
 ·rw[show Ce x L=Un L x.at_ x.wid (UR x.z.toNat x.wid) by unfold Ce;rw[if_neg hm],show RT x Rs=Rs by unfold RT;rw[if_neg hm]]
  have d2:decide (x.z<((0:Nat):Int))=false:=Zc λh=>hm (.inl h);have d3:decide ((x.most:Int)<x.z)=false:=Zc λh=>hm (.inr h);have hz0:0<=x.z:=Int.not_lt.1 λh=>hm (.inl h);obtain⟨H4,e4,h4'⟩:=vX E (k:=k) (n:=n+1) hk hs1 F (u:=x.z.toNat) (by omega) hw3 h4;rw[show nI .i64 x.z.toNat=.int .i64 x.z by show AV.int .i64 (Int.ofNat x.z.toNat)=_;rw[show Int.ofNat x.z.toNat=x.z from Int.toNat_of_nonneg hz0]] at e4;simp only[t5,t65,t66,d1,ia,HT,sf,g1,l0,l1,l2,ad,ltz,gtz,d2,d3,e4,ZE,Zo,Zl,Zl,Zo,ZE,Zl,Zo,KJ,ZG,Yj,Zz,Yg,KA];exact⟨_,_,rfl,⟨t1',Gk,D8,Cl,Cm⟩,Zjv,rfl,h4'⟩
def ZdL(E:Env Zq fs Zk)(hk:4<=k){mb nd q:Nat}{p lk:Zd}{kd ti:Int}{mo ui gi:Nat}{av dv:AV}{L:Zd}{Rs:List NP}(hR:Rs.length<=90)(oz:ui<4294967296)(sS:gi<4294967296)(ti1: -9223372036854775808<=ti)(ti2:ti<=9223372036854775807)(y f dd qq)(X0:X)(m:Nat)(tm:TM)(H:Heap)(hI:HNI H0 mb nd b q p lk kd ti mo ui gi av dv L Rs m tm H):
  ∃o tm' H',KJ ⟨ZA (LK Zq fs Zk k) fs Zk (n+5),y,f,dd,qq⟩ tm H X0=.ok o tm' H' X0∧((o=.normal∧ ∃k,k<m∧HNI H0 mb nd b q p lk kd ti mo ui gi av dv L Rs k tm' H')∨(o≠.normal∧HNQ H0 mb nd b q p lk kd ti mo ui gi av dv L Rs o tm' H')):=by
 obtain⟨ht,t65,i,t66,him,hs⟩:=hI;cases m with
 |zero=>
  obtain rfl:i=3:=by omega
  simp only[ZfY] at t66;obtain⟨t1,t4,t5,t6,t7⟩:=ht;have d1: ∀G,T2 XF Yt (nI .i64 3) (nI .i64 3) G=.val (.bool false) G:=λ_=>rfl;simp only[t66,d1,KJ,ZG,Yj,KA];refine⟨_,_,_,rfl,?_⟩;exact .inr ⟨by simp,rfl,⟨t1,t4,t5,t6,t7⟩,hs⟩
 |succ m=>
  have h3:i=0∨i=1∨i=2:=by omega
  rcases h3 with rfl|rfl|rfl
  ·obtain⟨tm',H',e,a1,a2,a3,a4⟩:=vW E hk hs (by show Rs.length<=100;omega) (by decide) (x:=⟨[117,105,100],108,8,ui,2097151⟩) ax (by show 2<=8;decide) (by show 8<=20;decide) (by show -9223372036854775808<=(ui:Int);omega) (by show(ui:Int)<=9223372036854775807;omega) (λ_=>rfl) y f dd qq X0 tm ht t65 t66
   exact⟨_,tm',H',e,.inl ⟨rfl,m,by omega,a1,a2,1,a3,by omega,a4⟩⟩
  ·obtain⟨tm',H',e,a1,a2,a3,a4⟩:=vW E hk hs (by have h1:=Pe ⟨[117,105,100],108,8,ui,2097151⟩ Rs;show(RT ⟨[117,105,100],108,8,ui,2097151⟩ Rs).length<=100;omega) (by decide) (x:=⟨[103,105,100],116,8,gi,2097151⟩) aw (by show 2<=8;decide) (by show 8<=20;decide) (by show -9223372036854775808<=(gi:Int);omega) (by show(gi:Int)<=9223372036854775807;omega) (λ_=>rfl) y f dd qq X0 tm ht t65 t66
   exact⟨_,tm',H',e,.inl ⟨rfl,m,by omega,a1,a2,2,a3,by omega,a4⟩⟩
  ·obtain⟨tm',H',e,a1,a2,a3,a4⟩:=vW E hk hs (by
    have h1:=Pe ⟨[117,105,100],108,8,ui,2097151⟩ Rs
    have h2:=Pe ⟨[103,105,100],116,8,gi,2097151⟩ (RT ⟨[117,105,100],108,8,ui,2097151⟩ Rs)
    show(RT ⟨[103,105,100],116,8,gi,2097151⟩ (RT ⟨[117,105,100],108,8,ui,2097151⟩ Rs)).length<=100;omega) (by decide) (x:=⟨[109,116,105,109,101],136,12,ti,8589934591⟩) vN (by show 2<=12;decide) (by show 12<=20;decide) ti1 ti2 (λ_=>rfl) y f dd qq X0 tm ht t65 t66
   exact⟨_,tm',H',e,.inl ⟨rfl,m,by omega,a1,a2,3,a3,by omega,a4⟩⟩
def iM(ui gi mo:Nat)(ti:Int)(da l0 L:Zd):Zd:=PB (Un (Un ((uu ui gi ti).foldl (λl x=>Ce x l) (Un L 157 100 (UK l0 100))) 100 8 (UR mo 8)) 124 12 (UR da.length 12))
def iN(ui gi:Nat)(ti:Int)(as_ Rs:List NP):List NP:=(uu ui gi ti).foldl (λl x=>RT x l) Rs++as_.map tH
def ZbV(E:Env Zq fs Zk)(hk:4<=k){mb nd q:Nat}{p lk:Zd}{kd ti:Int}{mo ui gi:Nat}{av dv:AV}{L:Zd}{Rs:List NP}{as_:List NP}{da l0:Zd}(h:HS H0 mb nd b q p lk kd ti mo ui gi av dv L Rs H)(sz:Szd H0 av dv as_ da)(qr:mo<4294967296)(oz:ui<4294967296)(sS:gi<4294967296)(ti1: -9223372036854775808<=ti)(ti2:ti<=9223372036854775807)(hl0:l0.length<=90000)(hR:Rs.length<=90)(y f qq)(X0:X)(tm:TM)(ht:cB mb nd b q tm∧Y1 tm=.str l0):
  ∃tm' H',oR ⟨ZA (LK Zq fs Zk k) fs Zk (n+5),y,f,Zk,qq⟩ tm H X0=.ok .ret tm' H' X0∧yh H0 mb nd b q p lk kd ti mo ui gi av dv (iM ui gi mo ti da l0 L) (iN ui gi ti as_ Rs) tm' H':=by
 obtain⟨ht,t11⟩:=ht;obtain⟨t1,t4,t5,t6,t7⟩:=ht;have t1':=t1;have Gk:=t4;have D8:=t5;have Cl:=t6;have Cm:=t7;simp only[Pt,G7,jt] at t4 t5 t11;obtain⟨H1,e1,h1⟩:=vY E (k:=k) (n:=n+1) hk h Bz (s:=l0) hl0;have g1:=h1.n;have l2: ∀G,ld1 (some (rH 32 [.int .i64 kd,nI .u32 mo,nI .u32 ui,nI .u32 gi,.int .i64 ti,av,dv,.str lk])) 2 G=.val (nI .u32 ui) G:=λG=>rfl;have l3: ∀G,ld1 (some (rH 32 [.int .i64 kd,nI .u32 mo,nI .u32 ui,nI .u32 gi,.int .i64 ti,av,dv,.str lk])) 3 G=.val (nI .u32 gi) G:=λG=>rfl;have l4: ∀G,ld1 (some (rH 32 [.int .i64 kd,nI .u32 mo,nI .u32 ui,nI .u32 gi,.int .i64 ti,av,dv,.str lk])) 4 G=.val (.int .i64 ti) G:=λG=>rfl;have iu: ∀G,O1 .i64 (nI .u32 ui) G=.val (nI .i64 ui) G:=λG=>V1 (by omega) G;have ig: ∀G,O1 .i64 (nI .u32 gi) G=.val (nI .i64 gi) G:=λG=>V1 (by omega) G;have bu: ∀G,TS [.str [],nI .i64 0,nI .i64 0] [(0,1,.str [117,105,100]),(1,1,nI .i64 ui),(2,1,nI .i64 2097151)] G=.val (.agg [.str [117,105,100],nI .i64 ui,nI .i64 2097151]) G:=λG=>rfl;have bg: ∀G,TS [.str [],nI .i64 0,nI .i64 0] [(0,1,.str [103,105,100]),(1,1,nI .i64 gi),(2,1,nI .i64 2097151)] G=.val (.agg [.str [103,105,100],nI .i64 gi,nI .i64 2097151]) G:=λG=>rfl;have bt: ∀G,TS [.str [],nI .i64 0,nI .i64 0] [(0,1,.str [109,116,105,109,101]),(1,1,.int .i64 ti),(2,1,nI .i64 8589934591)] G=.val (.agg [.str [109,116,105,109,101],.int .i64 ti,nI .i64 8589934591]) G:=λG=>rfl;have b9: ∀G,TS [.str [],nI .i64 0,nI .i64 0,.str [],nI .i64 0,nI .i64 0,.str [],nI .i64 0,nI .i64 0] [(0,3,.agg [.str [117,105,100],nI .i64 ui,nI .i64 2097151]),(3,3,.agg [.str [103,105,100],nI .i64 gi,nI .i64 2097151]),(6,3,.agg [.str [109,116,105,109,101],.int .i64 ti,nI .i64 8589934591])] G=.val (og ui gi ti) G:=λG=>rfl;have hf:=E.big;simp only[t4,t5,t11,e1,g1,l2,l3,l4,iu,ig,bu,bg,bt,b9,Ud,Zl,Zl,ZD,ZO,Zl,oR,ZG,Yj,Yg,UH,KA];generalize hL:Vq (KJ _) Zk _ _ _=LL;obtain⟨o,tm2,H2,rfl,_,rfl,ht2,hs2⟩:=YP (P:=λT=>HNI H0 mb nd b q p lk kd ti mo ui gi av dv (Un L 157 100 (UK l0 100)) Rs 3 T H1) (Q:=HNQ H0 mb nd b q p lk kd ti mo ui gi av dv (Un L 157 100 (UK l0 100)) Rs)
  (λT hi=>Y5 (HNI H0 mb nd b q p lk kd ti mo ui gi av dv (Un L 157 100 (UK l0 100)) Rs) (HNQ H0 mb nd b q p lk kd ti mo ui gi av dv (Un L 157 100 (UK l0 100)) Rs) (λm tm H' h=>ZdL E (k:=k) (n:=n) hk hR oz sS ti1 ti2 _ _ _ _ _ m tm H' h) Zk 3 T H1 (by omega) hi) hL
  (by exact⟨⟨t1',Gk,D8,Cl,Cm⟩,rfl,0,rfl,rfl,h1⟩)
 have n1:=Pe ⟨[117,105,100],108,8,ui,2097151⟩ Rs;have n2:=Pe ⟨[103,105,100],116,8,gi,2097151⟩ (RT ⟨[117,105,100],108,8,ui,2097151⟩ Rs);have n3:=Pe ⟨[109,116,105,109,101],136,12,ti,8589934591⟩ (RT ⟨[103,105,100],116,8,gi,2097151⟩ (RT ⟨[117,105,100],108,8,ui,2097151⟩ Rs));simp only[ZG,];exact Zjk E hk hs2 sz qr (by show(RT ⟨[109,116,105,109,101],136,12,ti,8589934591⟩ (RT ⟨[103,105,100],116,8,gi,2097151⟩ (RT ⟨[117,105,100],108,8,ui,2097151⟩ Rs))).length<=100;omega) y f qq X0 tm2 ht2
def ZaT(ui gi mo:Nat)(ti:Int)(da lk pr nm L:Zd):Zd:=iM ui gi mo ti da (if 100<lk.length then [] else lk) (Un (Un L 345 155 (UK pr 155)) 0 100 (UK nm 100))
def ZaU(ui gi:Nat)(ti:Int)(lk:Zd)(as_ Rs:List NP):List NP:=iN ui gi ti as_ (if 100<lk.length then Rs++[([108,105,110,107,112,97,116,104],lk)] else Rs)
def ZbU(E:Env Zq fs Zk)(hk:4<=k){mb nd q:Nat}{p lk:Zd}{kd ti:Int}{mo ui gi:Nat}{av dv:AV}{L:Zd}{Rs:List NP}{as_:List NP}{da pr nm:Zd}(h:HS H0 mb nd b q p lk kd ti mo ui gi av dv L Rs H)(sz:Szd H0 av dv as_ da)(qr:mo<4294967296)(oz:ui<4294967296)(sS:gi<4294967296)(ti1: -9223372036854775808<=ti)(ti2:ti<=9223372036854775807)(hlk:lk.length<=90000)(hpr:pr.length<=90000)(hnm:nm.length<=90000)(hR:Rs.length<=80)(y f qq)(X0:X)(tm:TM)(ht:cB mb nd b q tm∧Xt tm=.str pr∧Wv tm=.str nm):
  ∃tm' H',F9 ⟨ZA (LK Zq fs Zk k) fs Zk (n+5),y,f,Zk,qq⟩ tm H X0=.ok .ret tm' H' X0∧yh H0 mb nd b q p lk kd ti mo ui gi av dv (ZaT ui gi mo ti da lk pr nm L) (ZaU ui gi ti lk as_ Rs) tm' H':=by
 obtain⟨ht,t8,t9⟩:=ht;obtain⟨t1,t4,t5,t6,t7⟩:=ht;have t1':=t1;have Gk:=t4;have D8:=t5;have Cl:=t6;have Cm:=t7;simp only[Pt,G7,G8,G9,fx] at t4 t5 t7 t8 t9;obtain⟨H1,e1,h1⟩:=vY E (k:=k) (n:=n+1) hk h sI (s:=pr) hpr;obtain⟨H2,e2,h2⟩:=vY E (k:=k) (n:=n+1) hk h1 nA (s:=nm) hnm;have g2:=h2.n;have l7: ∀G,ld1 (some (rH 32 [.int .i64 kd,nI .u32 mo,nI .u32 ui,nI .u32 gi,.int .i64 ti,av,dv,.str lk])) 7 G=.val (.str lk) G:=λG=>rfl;unfold ZaT ZaU
 by_cases hl:100<lk.length
 ·have d1:decide (100<lk.length)=true:=Zi hl
  rw[if_pos hl,if_pos hl];obtain⟨H3,e3,h3,_⟩:=Cv E (k:=k) (n:=n+4) h2 (by omega) (x:=[108,105,110,107,112,97,116,104]) (y:=lk);simp only[t4,t5,t7,t8,t9,e1,e2,g2,l7,d1,e3,cP,Yn,ZZ,Zl,Y3,ZQ,Zl,Yn,Zl,F9,ZG,Yj,Zz,Yg,UH];exact ZbV E hk h3 sz qr oz sS ti1 ti2 (l0:=[]) (ZN _) (by rw[Zh];show _+1<=_;omega) y f qq X0 _ ⟨⟨t1',Gk,D8,Cl,Cm⟩,rfl⟩
 ·have d1:decide (100<lk.length)=false:=Zc hl
  rw[if_neg hl,if_neg hl];simp only[t4,t5,t8,t9,e1,e2,g2,l7,d1,Yn,ZZ,Zl,Zl,Yn,Zl,F9,ZG,Yj,Yg,UH];exact ZbV E hk h2 sz qr oz sS ti1 ti2 (l0:=lk) hlk (by omega) y f qq X0 _ ⟨⟨t1',Gk,D8,Cl,Cm⟩,rfl⟩
def ri(p lk:Zd)(kd ti:Int)(mo ui gi:Nat)(da:Zd):Zd:=ZaT ui gi mo ti da lk (Wx (Wp kd p)).1 (Wx (Wp kd p)).2.1 (NK (E1 kd))
def rj(p lk:Zd)(kd ti:Int)(ui gi:Nat)(as_:List NP):List NP:=ZaU ui gi ti lk as_ (if (Wx (Wp kd p)).2.2=true then [] else [([112,97,116,104],Wp kd p)])
def ZjB(z:Int):E1 z<256:=by
 unfold E1
 split
 ·decide
 ·split
  ·decide
  ·split
   ·decide
   ·split<;>decide
def r8(kd:Int)(p:Zd):(Wp kd p).length<=p.length+1:=by
 unfold Wp;split
 ·rw[Zh];exact Zs _
 ·omega
def Zbx(s:Zd)(hs:s.length<=90000):(Wx s).1.length<=90000∧(Wx s).2.1.length<=90000:=by
 unfold Wx
 split
 ·exact⟨ZN _,hs⟩
 ·split
  ·exact⟨ZN _,by decide⟩
  ·split
   ·exact⟨ZN _,by decide⟩
   ·exact⟨by rw[Zy];omega,by rw[Ye];omega⟩
def Zag(E:Env Zq fs Zk)(hk:4<=k){p lk:Zd}{kd ti:Int}{mo ui gi:Nat}{av dv:AV}{as_:List NP}{da:Zd}(gH:V8 H)(sz:Szd H av dv as_ da)(qr:mo<4294967296)(oz:ui<4294967296)(sS:gi<4294967296)(ti1: -9223372036854775808<=ti)(ti2:ti<=9223372036854775807)(hp:p.length<=80000)(hlk:lk.length<=90000):
  ∃b q w H',ZA (LK Zq fs Zk k) fs Zk (n+6) 15 [.agg [.str p,.int .i64 kd,nI .u32 mo,nI .u32 ui,nI .u32 gi,.int .i64 ti,av,dv,.str lk]] H=.ret (.tup [.ptr b 0,w]) H'∧H.nx<=b∧b<q∧Zu H H' []∧V8 H'∧HR H' b (ri p lk kd ti mo ui gi da)∧TZ H' w 73 2 (TN (rj p lk kd ti ui gi as_)) (q+1):=by
 rw[Z5 E.f15 (.inr rfl)];have hro:=gH.p.ro;have rf:=gH.p.nx;have bx: ∀G:Heap,MW 34 (.agg [.str p,.int .i64 kd,nI .u32 mo,nI .u32 ui,nI .u32 gi,.int .i64 ti,av,dv,.str lk]) G=.val (.ptr G.nx 0) (G.new (rH 34 [.str p,.int .i64 kd,nI .u32 mo,nI .u32 ui,nI .u32 gi,.int .i64 ti,av,dv,.str lk])):=λG=>W4 (l:=[.str p,.int .i64 kd,nI .u32 mo,nI .u32 ui,nI .u32 gi,.int .i64 ti,av,dv,.str lk]) (show 1<=9 by decide) 34 G;obtain⟨H1,hH1⟩:=TO (H.new (rH 34 [.str p,.int .i64 kd,nI .u32 mo,nI .u32 ui,nI .u32 gi,.int .i64 ti,av,dv,.str lk]));have k1:Zu H H1 []:=by rw[<-hH1];exact Zu.new _ _ _
 have NB:H1.nx=H.nx+1:=by rw[<-hH1];rfl
 have FI:H1.ro=H.ro:=by rw[<-hH1];rfl
 have g1:H1.t.get H.nx=some (rH 34 [.str p,.int .i64 kd,nI .u32 mo,nI .u32 ui,nI .u32 gi,.int .i64 ti,av,dv,.str lk]):=by rw[<-hH1];exact ZR rfl _
 have ld8: ∀G,zI 8 (some (rH 34 [.str p,.int .i64 kd,nI .u32 mo,nI .u32 ui,nI .u32 gi,.int .i64 ti,av,dv,.str lk])) 1 G=.val (.agg [.int .i64 kd,nI .u32 mo,nI .u32 ui,nI .u32 gi,.int .i64 ti,av,dv,.str lk]) G:=λG=>Tg (show 1+8<=9 by decide) ..;have n7: ∀G,zI 9 (some (rH 34 [.str p,.int .i64 kd,nI .u32 mo,nI .u32 ui,nI .u32 gi,.int .i64 ti,av,dv,.str lk])) 0 G=.val (.agg [.str p,.int .i64 kd,nI .u32 mo,nI .u32 ui,nI .u32 gi,.int .i64 ti,av,dv,.str lk]) G:=λG=>Tg (show 0+9<=9 by decide) ..;obtain⟨H2,hH2⟩:=TO (H1.new (rH 32 [.int .i64 kd,nI .u32 mo,nI .u32 ui,nI .u32 gi,.int .i64 ti,av,dv,.str lk]));have k12:Zu H1 H2 []:=by rw[<-hH2];exact Zu.new _ _ _
 have k2:Zu H H2 []:=k1.trans' k12;have nx2:H2.nx=H1.nx+1:=by rw[<-hH2];rfl
 have g2:H2.t.get H1.nx=some (rH 32 [.int .i64 kd,nI .u32 mo,nI .u32 ui,nI .u32 gi,.int .i64 ti,av,dv,.str lk]):=by rw[<-hH2];exact ZR rfl _
 have sf:=TL (n:=8) (b:=H1.nx) (l:=[nI .i64 0,nI .u32 0,nI .u32 0,nI .u32 0,nI .i64 0,.nils,.nils,.str []]) (vs:=[.int .i64 kd,nI .u32 mo,nI .u32 ui,nI .u32 gi,.int .i64 ti,av,dv,.str lk]) (H:=H1.new (rH 32 [nI .i64 0,nI .u32 0,nI .u32 0,nI .u32 0,nI .i64 0,.nils,.nils,.str []])) rfl rfl (by decide) (by show H1.ro<=_;omega) 32 1 false true;rw[TJ rfl,hH2] at sf;have lk0: ∀G,ld1 (some (rH 32 [.int .i64 kd,nI .u32 mo,nI .u32 ui,nI .u32 gi,.int .i64 ti,av,dv,.str lk])) 0 G=.val (.int .i64 kd) G:=λG=>rfl;have fi:=gH.keep0 k2;obtain⟨rT,gT,lT0,lT1⟩:=fi.p.t;have gTm:=fi.p.tm;have lT: ∀G,ld1 (some (.row rT)) 0 G=.val (.map 12) G:=λG=>by rw[Qt lT0,lT1]
 have lt:=λG=>lkT kd G;obtain⟨H3,e3,k23,R3⟩:=yn E (k:=k) (n:=n) hk (t:=E1 kd) (ZjB kd) fi;have k3:Zu H H3 []:=k2.trans' k23;have nx3:=R3.lt;obtain⟨H4,MR⟩:=TO (H3.new (rH 48 [.nils]));have Fg:Zu H3 H4 []:=by rw[<-MR];exact Zu.new _ _ _
 have k4:Zu H H4 []:=k3.trans' Fg;have k24:Zu H2 H4 []:=k23.trans' Fg;have nx4:H4.nx=H3.nx+1:=by rw[<-MR];rfl
 have ro4:=k4.ro;have g14:H4.t.get H.nx=some (rH 34 [.str p,.int .i64 kd,nI .u32 mo,nI .u32 ui,nI .u32 gi,.int .i64 ti,av,dv,.str lk]):=by rw[(k12.trans' k24).get _ (by omega) (by simp)];exact g1
 have hs4:HS H H.nx H1.nx H2.nx H3.nx p lk kd ti mo ui gi av dv (NK (E1 kd)) [] H4:=by
  refine⟨k4,gH.keep0 k4,g14,by rw[k24.get _ (by omega) (by simp)];exact g2,R3.keep0 Fg,⟨.nils,by rw[<-MR];exact ZR rfl _,.inl ⟨rfl,rfl⟩,by omega,by omega,by omega⟩,rf,by omega,by omega,by omega,by omega⟩
 obtain⟨H5,e5,Dy⟩:=qa E (k:=k) (n:=n+4) (H:=H4) (p:=p) (lk:=lk) (kd:=kd) (ti:=ti) (mo:=mo) (ui:=ui) (gi:=gi) (av:=av) (dv:=dv) (by omega);have hs5:=hs4.keep0 Dy;have g5:=hs5.m;have hl:=r8 kd p;have ep:=λ{j}=>ZlT E (k:=k) (n:=j) hk (s:=Wp kd p) (H:=H5) (by omega);obtain⟨hp1,hp2⟩:=Zbx (Wp kd p) (by omega);unfold ri rj;cases hfit:(Wx (Wp kd p)).2.2 with
 |true=>
  rw[hfit] at ep;rw[if_pos rfl];simp only[bx,hH1,g1,ld8,n7,sf,g2,gT,gTm,lT,lt,lk0,e3,MR,g14,e5,ep,UJ,YM,Xz,OA,Zo,Zl,Zl,Zo,YM,Xz,Zl,Zo,YM,Xz,c15,ZG,Yj,Zz,Yc,Yg,UH];generalize hS:F9 _ _ _ _=S;obtain⟨tm',H',rfl,t2,hs',w,t3,rb⟩:=yl (P:=λT=>cB H.nx H1.nx H2.nx H3.nx T∧Xt T=.str (Wx (Wp kd p)).1∧Wv T=.str (Wx (Wp kd p)).2.1) (Q:=λtm' H'=>yh H H.nx H1.nx H2.nx H3.nx p lk kd ti mo ui gi av dv _ _ tm' H')
   (λT hi=>ZbU E (k:=k) (n:=n) hk hs5 sz qr oz sS ti1 ti2 hlk hp1 hp2 (ZN _) _ _ _ _ T hi) hS
   (by exact⟨⟨rfl,rfl,rfl,rfl,rfl⟩,rfl,rfl⟩)
  simp only[zU,Il] at t2 t3;simp only[t2,t3,ZG,Zz,Yg];refine⟨_,H3.nx,w,H',rfl,?_⟩;exact⟨by omega,by omega,hs'.k,hs'.g,hs'.hr,rb⟩
 |false=>
  rw[hfit] at ep;rw[if_neg (by simp)];obtain⟨H6,e6,v5⟩:=qa E (k:=k) (n:=n+4) (H:=H5) (p:=p) (lk:=lk) (kd:=kd) (ti:=ti) (mo:=mo) (ui:=ui) (gi:=gi) (av:=av) (dv:=dv) (by omega);obtain⟨H7,e7,hs7,_⟩:=Cv E (k:=k) (n:=n+4) (hs5.keep0 v5) (ZN _) (x:=[112,97,116,104]) (y:=Wp kd p);simp only[bx,hH1,g1,ld8,n7,sf,g2,gT,gTm,lT,lt,lk0,e3,MR,g14,e5,ep,UJ,YM,Xz,OA,La,Y3,cP,g5,e6,e7,Zo,Zl,Y3,ZQ,Zl,Zo,YM,Xz,Zl,Zo,YM,Xz,c15,ZG,Yj,Zz,Yc,Yg,UH];generalize hS:F9 _ _ _ _=S;obtain⟨tm',H',rfl,t2,hs',w,t3,rb⟩:=yl (P:=λT=>cB H.nx H1.nx H2.nx H3.nx T∧Xt T=.str (Wx (Wp kd p)).1∧Wv T=.str (Wx (Wp kd p)).2.1) (Q:=λtm' H'=>yh H H.nx H1.nx H2.nx H3.nx p lk kd ti mo ui gi av dv _ _ tm' H')
   (λT hi=>ZbU E (k:=k) (n:=n) hk hs7 sz qr oz sS ti1 ti2 hlk hp1 hp2 (by show 1<=80;decide) _ _ _ _ T hi) hS
   (by exact⟨⟨rfl,rfl,rfl,rfl,rfl⟩,rfl,rfl⟩)
  simp only[zU,Il] at t2 t3;simp only[t2,t3,ZG,Zz,Yg];refine⟨_,H3.nx,w,H',rfl,?_⟩;exact⟨by omega,by omega,hs'.k,hs'.g,hs'.hr,rb⟩
end
end
end Go.AI
