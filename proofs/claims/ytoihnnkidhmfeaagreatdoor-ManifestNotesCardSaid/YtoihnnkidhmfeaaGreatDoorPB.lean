/- Descriptors and notes, by the document's code and the program's: walked: proved without conditions but those that each names. -/
import Derived.Test.YtoihnnkidhmfeaaGreatDoorPA
import Derived.Test.YtoihnnkidhmfeaaGreatDoorP9
import Derived.KernelRfl
set_option maxRecDepth 1000000
set_option maxHeartbeats 0
set_option linter.unusedVariables false
set_option linter.unusedSimpArgs false
namespace Go.AI
open Go
noncomputable section
abbrev NP:=List UInt8×List UInt8
def NT(H:Heap)(v:AV)(l:List NP):Prop:=(l=[]∧v=.nils)∨ ∃b r,v=.slice b 0 l.length none∧b<H.nx∧H.t.get b=some (.row r)∧ ∀i p,l[i]? =some p->(∀G,ld1 (some (.row r)) (i*2) G=.val (.str p.1) G)∧(∀G,ld1 (some (.row r)) (i*2+1) G=.val (.str p.2) G)
theorem NT.keep{H H':Heap}{v:AV}{l:List NP}(h:NT H v l)(k:ZE H H' []):NT H' v l:=by
 rcases h with h|⟨b,r,e,hb,g,w⟩
 ·exact .inl h
 ·exact .inr ⟨b,r,e,ZI hb k.nx,by rw[k.get b hb (by simp)];exact g,w⟩
theorem NT.len{H:Heap}{v:AV}{l:List NP}(h:NT H v l)(G:Heap):Ko v G=.val (nI .i64 l.length) G:=by
 rcases h with⟨rfl,rfl⟩|⟨b,r,rfl,hb,g,w⟩
 ·rfl
 ·exact Z5 ..
theorem NT.at{H:Heap}{v:AV}{l:List NP}(h:NT H v l){i:Nat}{p:NP}(hi:l[i]? =some p): ∃b,b<H.nx∧(∀G,CP 2 v (nI .i64 i) G=.val (.ptr b (i*2)) G)∧(∀G,G.t.get b=H.t.get b->UQ (.ptr b (i*2)) G=.val (.str p.1) G∧UQ (.ptr b (i*2+1)) G=.val (.str p.2) G)∧(∀n,H.nx<=n->Va n v=true):=by
 obtain⟨hl,_⟩:=XH.1 hi
 rcases h with⟨rfl,rfl⟩|⟨b,r,rfl,hb,g,w⟩
 ·exact absurd hl (by simp)
 ·refine⟨b,hb,λG=>?_,λG hG=>?_,λn hn=>UR (by omega) _ _ _⟩
  ·have:=RA (sz:=2) hl b 0 none .i64 G
   rw[Zn] at this;exact this
  ·rw[J0,J0,hG,g];exact⟨(w i p hi).1 G,(w i p hi).2 G⟩
def qt(s:List UInt8):List UInt8:=cond (vu s) (quo s) []
theorem FY(s:List UInt8):(qt s).length<=6*s.length+2:=by
 unfold qt
 cases vu s
 ·exact Yv _
 ·have:=qU s
  show([34]++s.flatMap qB++[34]).length<=_
  simp only[Zo,Zw,ZZ];omega
def sep(i:Nat):List UInt8:=if i=0 then [34,97,110,110,111,116,97,116,105,111,110,115,34,58,123] else [44]
def tx(l:List NP):Nat->List UInt8
 |0=>[123]
 |i+1=>tx l i++sep i++qt (l.getD i ([],[])).1++[58]++qt (l.getD i ([],[])).2
theorem eX(i:Nat):(sep i).length<=15:=by unfold sep;split<;>simp
theorem rx{l:List NP}(h: ∀i,(l.getD i ([],[])).1.length<=1000∧(l.getD i ([],[])).2.length<=1000): ∀i,(tx l i).length<=1+13000*i
 |0=>by simp[tx]
 |i+1=>by
  have:=rx h i
  have a:=FY (l.getD i ([],[])).1
  have b:=FY (l.getD i ([],[])).2
  have e:=eX i
  obtain⟨h1,h2⟩:=h i
  show(tx l i++sep i++qt (l.getD i ([],[])).1++[58]++qt (l.getD i ([],[])).2).length<=_
  rw[Zo,Zo,Zo,Zo]
  show _+1+_<=_
  omega
structure TXI(H0:Heap)(l:List NP)(b:Nat)(m:Nat)(tm:TM)(H:Heap):Prop where
 i: ∃i,YT tm=nI .i64 i∧i<=l.length∧m=l.length - i∧Xa tm=.str (tx l i)
 t1:YL tm=.ptr b 0
 k:ZE H0 H []
 ro:H.ro<=H.nx
theorem di{ZM:Lib}{fs:T CF}{fuel:Nat}(E:Env ZM fs fuel){k n:Nat}{H0:Heap}{l:List NP}{b:Nat}{v:AV}{cs:List AV}(hN:NT H0 v l)(hL:l.length<=100)(hS: ∀i,(l.getD i ([],[])).1.length<=1000∧(l.getD i ([],[])).2.length<=1000)
  (hbn:b<H0.nx)(hb:H0.t.get b=some (rG 34 1 cs 0 false true true))(EC: ∀G,ld1 (some (rG 34 1 cs 0 false true true)) 34 G=.val v G)(y f d r)(x:X)(m:Nat)(tm:TM)(H:Heap)(hI:TXI H0 l b m tm H):
  ∃o tm' H',Fy ⟨Yo (LK ZM fs fuel k) fs fuel (n+6),y,f,d,r⟩ tm H x=.ok o tm' H' x∧((o=.normal∧ ∃q,q<m∧TXI H0 l b q tm' H')∨(o≠.normal∧(o=.exit 0∧ZE H0 H' []∧H'.ro<=H'.nx∧YL tm'=.ptr b 0∧Xa tm'=.str (tx l l.length)))):=by
 obtain⟨⟨i,t4,hi,rfl,t3⟩,t1,k0,hro⟩:=hI
 have nx0:=k0.nx
 have gB:H.t.get b=some (rG 34 1 cs 0 false true true):=by rw[k0.get b hbn (by simp)];exact hb
 have lnn:=λG=>hN.len G
 have lw:=Z6 (n:=H.nx) (b:=b) (by omega) 0
 have t1':=t1
 have AS:=t3
 simp only[T7] at t4
 simp only[Od] at t1
 simp only[TB] at t3
 by_cases hlt:i<l.length
 ·have d1:decide (i<l.length)=true:=Zg hlt
  rcases hN with⟨rfl,rfl⟩|⟨bn,rr,rfl,hbb,gI,wN⟩
  ·exact absurd hlt (by simp)
  have gN:H.t.get bn=some (.row rr):=by rw[k0.get bn hbb (by simp)];exact gI
  have hgd:l.getD i ([],[])=l[i]:=by rw[Zh,Zr hlt];rfl
  obtain⟨p,hp⟩: ∃p,l[i]=p:=⟨_,rfl⟩
  rw[hp] at hgd
  obtain⟨w1,w2⟩:=wN i p (by rw[Zr hlt,hp])
  obtain⟨s1,s2⟩:=hS i
  rw[hgd] at s1 s2
  have ix:=λG=>RA (sz:=2) hlt bn 0 none .i64 G
  have kN:=UR (n:=H.nx) (b:=bn) (by omega) 0 l.length none
  have lw3:=Z6 (n:=H.nx) (b:=bn) (by omega) (0+i*2)
  have lw4:=Z6 (n:=H.nx) (b:=bn) (by omega) (0+i*2+1)
  have lw5:=Z6 (n:=H.nx) (b:=bn) (by omega) (i*2)
  have lw7:=Z6 (n:=H.nx) (b:=bn) (by omega) (i*2+1)
  have lw6:=Z6 (n:=H.nx) (b:=b) (by omega) (0+34)
  have dx: ∀G,ld1 (some (.row rr)) (i*2+0) G=.val (.str p.1) G:=w1
  have lw8:=Z6 (n:=H.nx) (b:=bn) (by omega) (i*2+0)
  have u1: ∀G,ld1 (some (.row rr)) (0+i*2+0) G=.val (.str p.1) G:=by rw[Zn];exact w1
  have u2: ∀G,ld1 (some (.row rr)) (0+i*2+1) G=.val (.str p.2) G:=by rw[Zn];exact w2
  obtain⟨H1,e1,k1⟩:=MK E (k:=k) (n:=n) (s:=p.1) (H:=H) (by omega) hro
  have n1:=k1.nx
  have r1:=k1.ro
  obtain⟨H2,e2,k2⟩:=MK E (k:=k) (n:=n) (s:=p.2) (H:=H1) (by omega) (by omega)
  have n2:=k2.nx
  have r2:=k2.ro
  have e1:Yo (LK ZM fs fuel k) fs fuel (n+6) 21 [.str p.1] H=.ret (.str (qt p.1)) H1:=e1
  have e2:Yo (LK ZM fs fuel k) fs fuel (n+6) 21 [.str p.2] H1=.ret (.str (qt p.2)) H2:=e2
  have wO:H1.t.get b=some (rG 34 1 cs 0 false true true):=by rw[k1.get b (by omega) (by simp)];exact gB
  have wP:H1.t.get bn=some (.row rr):=by rw[k1.get bn (by omega) (by simp)];exact gN
  have gB2:H2.t.get b=some (rG 34 1 cs 0 false true true):=by rw[k2.get b (by omega) (by simp)];exact wO
  have gN2:H2.t.get bn=some (.row rr):=by rw[k2.get bn (by omega) (by simp)];exact wP
  have hT:=rx hS i
  obtain⟨P,hP⟩: ∃P,tx l i=P:=⟨_,rfl⟩
  rw[hP] at t3 hT
  have hT:P.length<=1300001:=by omega
  have q1:=FY p.1
  have q2:=FY p.2
  have p2:=λS (hS:S.length<=2000000) G=>Vi (a:=S) (b:=qt p.1) (by omega) G
  have p3:=λS (hS:S.length<=2000000) G=>Vi (a:=S) (b:=[58]) (by simp only[Zw,ZZ];omega) G
  have p4:=λS (hS:S.length<=2000000) G=>Vi (a:=S) (b:=qt p.2) (by omega) G
  have ad:=λG=>WM (a:=i) (b:=1) (by omega) G
  have fin: ∀S,S=P++sep i->S++qt p.1++[58]++qt p.2=tx l (i+1):=λS h=>by
   show _=tx l i++sep i++qt (l.getD i ([],[])).1++[58]++qt (l.getD i ([],[])).2
   rw[hgd,hP,h]
  have kk:=(k0.trans k1 (by simp)).trans k2 (by simp)
  by_cases h0:i=0
  ·have d2:decide (i=0)=true:=Zg h0
   have fin:=fin _ (by rw[sep,if_pos h0])
   have p1:=λG=>Vi (a:=P) (b:=[34,97,110,110,111,116,97,116,105,111,110,115,34,58,123]) (by simp only[Zw,ZZ];omega) G
   obtain⟨S,hS'⟩: ∃S,P++[34,97,110,110,111,116,97,116,105,111,110,115,34,58,123]=S:=⟨_,rfl⟩
   have hSl:S.length<=1300020:=by rw[<-hS',Zo];simp only[Zw,ZZ];omega
   have p2:=p2 S (by omega)
   have p3:=p3 (S++qt p.1) (by rw[Zo];omega)
   have p4:=p4 (S++qt p.1++[58]) (by rw[Zo,Zo];simp only[Zw,ZZ];omega)
   rw[hS'] at p1 fin
   simp(maxSteps:=4000000) (disch:=first|assumption|omega|(simp -implicitDefEqProofs only[ZA,ZB]<;>first|assumption|omega)|decide) only[t1,t3,t4,d1,d2,gB,wO,gB2,gN,wP,gN2,EC,lnn,Z5,lw,kN,lw3,lw4,lw5,lw6,lw7,lw8,w1,dx,w2,ix,u1,u2,e1,e2,p1,p2,p3,p4,ad,Zx,YK,Fy,Z4,Yr,Zy,Zz,Zk,Zm,Zl,Nat.reducePow,Nat.reduceDiv,Nat.reduceMod,Nat.reduceEqDiff,reduceCtorEq,Yu,VW]
   refine⟨_,_,_,rfl,?_⟩
   exact .inl ⟨rfl,l.length - (i+1),by omega,⟨⟨i+1,(by simp only[Yu,Yr]),by omega,rfl,by rw[<-fin];exact(by simp only[Yu,Yr])⟩,(by simp only[Yu,Yr];exact t1'),kk,by omega⟩⟩
  ·have d2:decide (i=0)=false:=Zd h0
   have fin:=fin _ (by rw[sep,if_neg h0])
   have p1:=λG=>Vi (a:=P) (b:=[44]) (by simp only[Zw,ZZ];omega) G
   obtain⟨S,hS'⟩: ∃S,P++[44]=S:=⟨_,rfl⟩
   have hSl:S.length<=1300020:=by rw[<-hS',Zo];simp only[Zw,ZZ];omega
   have p2:=p2 S (by omega)
   have p3:=p3 (S++qt p.1) (by rw[Zo];omega)
   have p4:=p4 (S++qt p.1++[58]) (by rw[Zo,Zo];simp only[Zw,ZZ];omega)
   rw[hS'] at p1 fin
   simp(maxSteps:=4000000) (disch:=first|assumption|omega|(simp -implicitDefEqProofs only[ZA,ZB]<;>first|assumption|omega)|decide) only[t1,t3,t4,d1,d2,gB,wO,gB2,gN,wP,gN2,EC,lnn,Z5,lw,kN,lw3,lw4,lw5,lw6,lw7,lw8,w1,dx,w2,ix,u1,u2,e1,e2,p1,p2,p3,p4,ad,Zx,YK,Fy,Z4,Yr,Zy,Zz,Zk,Zm,Zl,Nat.reducePow,Nat.reduceDiv,Nat.reduceMod,Nat.reduceEqDiff,reduceCtorEq,Yu,VW]
   refine⟨_,_,_,rfl,?_⟩
   exact .inl ⟨rfl,l.length - (i+1),by omega,⟨⟨i+1,(by simp only[Yu,Yr]),by omega,rfl,by rw[<-fin];exact(by simp only[Yu,Yr])⟩,(by simp only[Yu,Yr];exact t1'),kk,by omega⟩⟩
 ·have d1:decide (i<l.length)=false:=Zd hlt
  have he:i=l.length:=by omega
  simp(maxSteps:=4000000) (disch:=first|assumption|omega|(simp -implicitDefEqProofs only[ZA,ZB]<;>first|assumption|omega)|decide) only[t1,t4,d1,gB,EC,lnn,Zx,Fy,Z4,Yr,Zy,Zz,Zk,Zm,Zl,Nat.reducePow,Nat.reduceDiv,Nat.reduceMod,Nat.reduceEqDiff,reduceCtorEq,Yu,VW]
  refine⟨_,_,_,rfl,?_⟩
  exact .inr ⟨by simp,rfl,k0,hro,(by simp only[Yu,Yr];exact t1'),by rw[he] at AS;exact(by simp only[Yu,Yr];exact AS)⟩
def clo(l:List NP):List UInt8:=if 0<l.length then [125,44] else []
def dtx(md s:List UInt8)(u:Nat)(l:List NP):List UInt8:=tx l l.length++clo l++[34,100,105,103,101,115,116,34,58]++qt (qL s)++[44,34,109,101,100,105,97,84,121,112,101,34,58]++qt md++[44,34,115,105,122,101,34,58]++Ii (u:Int)++[125]
theorem F4: ∀l:List UInt8,RN (l.map Y6) (l.map Y6)=true
 |[]=>by unfold RN;rfl
 |x::l=>by rw[Ym];unfold RN;rw[xQ,F4 l];rfl
theorem lE{u:Nat}(h:u<9223372036854775808):(Ii (u:Int)).length<=20:=by
 unfold Ii
 rw[if_neg (by omega),Int.natAbs_natCast]
 exact mY u (by omega)
theorem zi{ZM:Lib}{fs:T CF}{fuel:Nat}(E:Env ZM fs fuel){k n u:Nat}{md s:List UInt8}{v:AV}{l:List NP}{H:Heap}(hs:s.length=32)(hm:md.length<900000)(hu:u<9223372036854775808)(hN:NT H v l)(hL:l.length<=100)(hS: ∀i,(l.getD i ([],[])).1.length<=1000∧(l.getD i ([],[])).2.length<=1000)(hro:H.ro<=H.nx):
  ∃H',Yo (LK ZM fs fuel k) fs fuel (n+7) 11 [.agg (.str md::(s.map Y6++[nI .i64 u,v]))] H=.ret (.str (dtx md s u l)) H'∧ZE H H' []:=by
 rw[YM (YW E.n11 (.inr rfl) _ _) E.f11]
 obtain⟨cs,hcs⟩: ∃cs,(.str md::(s.map Y6++[nI .i64 u,v]))=cs:=⟨_,rfl⟩
 have ln:cs.length=35:=by rw[<-hcs,Zw,Zo,Zi,hs];rfl
 have Fo: ∀G,ld1 (some (rG 34 1 cs 0 false true true)) 34 G=.val v G:=λG=>by
  rw[ZX (by omega),<-hcs,Zh,Y7,ZY (by rw[Zi];omega),Zi,hs];rfl
 have xx: ∀G,ld1 (some (rG 34 1 cs 0 false true true)) 33 G=.val (nI .i64 u) G:=λG=>by
  rw[ZX (by omega),<-hcs,Zh,Y7,ZY (by rw[Zi];omega),Zi,hs];rfl
 have o0: ∀G,ld1 (some (rG 34 1 cs 0 false true true)) 0 G=.val (.str md) G:=λG=>by
  rw[ZX (by omega),<-hcs];rfl
 have o1: ∀G,Gv 32 (some (rG 34 1 cs 0 false true true)) 1 G=.val (.agg (s.map Y6)) G:=λG=>by
  rw[N5 (by omega),<-hcs,NR,Y8,Uk (by rw[Zi];omega),YH (by rw[Zi];omega)]
 rw[hcs]
 obtain⟨H1,hH1⟩: ∃G,H.new (rG 34 1 cs 0 false true true)=G:=⟨_,rfl⟩
 have bx:=Vt (l:=cs) (by omega) 34 H
 rw[hH1] at bx
 have k1:ZE H H1 []:=by rw[<-hH1];exact ZE.new H _ _
 have J8:H1.nx=H.nx+1:=by rw[<-hH1];rfl
 have qX:H1.ro=H.ro:=by rw[<-hH1];rfl
 have g1:H1.t.get H.nx=some (rG 34 1 cs 0 false true true):=by rw[<-hH1,Z3 rfl]
 have hN1:=hN.keep k1
 simp(maxSteps:=4000000) (disch:=first|assumption|omega|(simp -implicitDefEqProofs only[ZA,ZB]<;>first|assumption|omega)|decide) only[bx,c11,Z4,Yr,Zy,Zz,Zk,Zm,Zl,Nat.reducePow,Nat.reduceDiv,Nat.reduceMod,Nat.reduceEqDiff,reduceCtorEq,Yu,VW]
 generalize hLp:Wu (Fy _) fuel _ _ _=L
 obtain⟨o,Pi,H2,rfl,_,rfl,k2,ro2,t1,t3⟩:=X9 (P:=λT'=>TXI H1 l H.nx l.length T' H1) (Q:=λo tm' H'=>o=.exit 0∧ZE H1 H' []∧H'.ro<=H'.nx∧YL tm'=.ptr H.nx 0∧Xa tm'=.str (tx l l.length))
  (λT' hi'=>Wv (TXI H1 l H.nx) _ (λm tm H' h'=>di E (n:=n) hN1 hL hS (by omega) g1 Fo _ _ _ _ _ m tm H' h') fuel l.length T' H1 (by have:=E.big;omega) hi') hLp
  ⟨⟨0,(by simp only[Yu,Yr]),Yv _,rfl,(by simp only[Yu,Yr];rfl)⟩,(by simp only[Yu,Yr]),ZE.refl _ _,by omega⟩
 simp only[TB] at t3
 simp only[Od] at t1
 have n2:=k2.nx
 have g2:H2.t.get H.nx=some (rG 34 1 cs 0 false true true):=by rw[k2.get _ (by omega) (by simp)];exact g1
 have lnn:=λG=>hN.len G
 obtain⟨H3,e3,k3⟩:=kS E (k:=k) (n:=n+5) (s:=s) (H:=H2) hs
 have n3:=k3.nx
 have r3:=k3.ro
 have nl:(qL s).length=71:=by
  show([115,104,97,50,53,54,58]++s.flatMap hx).length=_
  rw[Zo,xa,hs];rfl
 obtain⟨H4,e4,k4⟩:=MK E (k:=k) (n:=n) (s:=qL s) (H:=H3) (by omega) (by omega)
 have n4:=k4.nx
 have r4:=k4.ro
 obtain⟨H5,e5,k5⟩:=MK E (k:=k) (n:=n) (s:=md) (H:=H4) (by omega) (by omega)
 have n5:=k5.nx
 have r5:=k5.ro
 obtain⟨H6,e6,k6⟩:=xw E (k:=k) (n:=n) (u:=u) (H:=H5) hu (by omega)
 have e4:Yo (LK ZM fs fuel k) fs fuel (n+6) 21 [.str (qL s)] H3=.ret (.str (qt (qL s))) H4:=e4
 have e5:Yo (LK ZM fs fuel k) fs fuel (n+6) 21 [.str md] H4=.ret (.str (qt md)) H5:=e5
 have n6:=k6.nx
 have g3:H3.t.get H.nx=some (rG 34 1 cs 0 false true true):=by rw[k3.get _ (by omega) (by simp)];exact g2
 have g4:H4.t.get H.nx=some (rG 34 1 cs 0 false true true):=by rw[k4.get _ (by omega) (by simp)];exact g3
 have g5:H5.t.get H.nx=some (rG 34 1 cs 0 false true true):=by rw[k5.get _ (by omega) (by simp)];exact g4
 have g6:H6.t.get H.nx=some (rG 34 1 cs 0 false true true):=by rw[k6.get _ (by omega) (by simp)];exact g5
 have lw:=Z6 (n:=H2.nx) (b:=H.nx) (by omega) 0
 have bF:=Z6 (n:=H2.nx) (b:=H.nx) (by omega) 1
 have kN:=Z6 (n:=H2.nx) (b:=H.nx) (by omega) 33
 have sa: ∀n t,To (.val (.agg (s.map Y6)) ⟨n,t,n⟩) (.agg (s.map Y6)) n=true:=λn t=>Oe (F4 s) n t
 have hT:=rx hS l.length
 have fl:=lE hu
 have q1:=FY (qL s)
 have q2:=FY md
 obtain⟨P,hP⟩: ∃P,tx l l.length=P:=⟨_,rfl⟩
 rw[hP] at t3 hT
 have b0:P.length<=1300001:=by omega
 have goal:dtx md s u l=P++clo l++[34,100,105,103,101,115,116,34,58]++qt (qL s)++[44,34,109,101,100,105,97,84,121,112,101,34,58]++qt md++[44,34,115,105,122,101,34,58]++Ii (u:Int)++[125]:=by rw[<-hP];rfl
 rw[goal]
 have kk:=(((((k1.trans k2 (by simp)).trans k3 (by simp)).trans k4 (by simp)).trans k5 (by simp)).trans k6 (by simp))
 by_cases h0:0<l.length
 ·have d0:decide (0<l.length)=true:=Zg h0
  rw[clo,if_pos h0]
  have p0:=λG=>Vi (a:=P) (b:=[125,44]) (by simp only[Zw,ZZ];omega) G
  obtain⟨Q,hQ⟩: ∃Q,P++[125,44]=Q:=⟨_,rfl⟩
  have bQ:Q.length<=1300003:=by rw[<-hQ,Zo];simp only[Zw,ZZ];omega
  rw[hQ];rw[hQ] at p0
  have p1:=λG=>Vi (a:=Q) (b:=[34,100,105,103,101,115,116,34,58]) (by simp only[Zw,ZZ];omega) G
  obtain⟨A1,hA1⟩: ∃A,Q++[34,100,105,103,101,115,116,34,58]=A:=⟨_,rfl⟩
  have b1:A1.length<=1300023:=by rw[<-hA1,Zo];simp only[Zw,ZZ];omega
  rw[hA1];rw[hA1] at p1
  have p2:=λG=>Vi (a:=A1) (b:=(qt (qL s))) (by omega) G
  obtain⟨A2,hA2⟩: ∃A,A1++(qt (qL s))=A:=⟨_,rfl⟩
  have b2:A2.length<=7300023:=by rw[<-hA2,Zo];omega
  rw[hA2];rw[hA2] at p2
  have p3:=λG=>Vi (a:=A2) (b:=[44,34,109,101,100,105,97,84,121,112,101,34,58]) (by simp only[Zw,ZZ];omega) G
  obtain⟨A3,hA3⟩: ∃A,A2++[44,34,109,101,100,105,97,84,121,112,101,34,58]=A:=⟨_,rfl⟩
  have b3:A3.length<=7300043:=by rw[<-hA3,Zo];simp only[Zw,ZZ];omega
  rw[hA3];rw[hA3] at p3
  have p4:=λG=>Vi (a:=A3) (b:=(qt md)) (by omega) G
  obtain⟨A4,hA4⟩: ∃A,A3++(qt md)=A:=⟨_,rfl⟩
  have b4:A4.length<=13300043:=by rw[<-hA4,Zo];omega
  rw[hA4];rw[hA4] at p4
  have p5:=λG=>Vi (a:=A4) (b:=[44,34,115,105,122,101,34,58]) (by simp only[Zw,ZZ];omega) G
  obtain⟨A5,hA5⟩: ∃A,A4++[44,34,115,105,122,101,34,58]=A:=⟨_,rfl⟩
  have b5:A5.length<=13300063:=by rw[<-hA5,Zo];simp only[Zw,ZZ];omega
  rw[hA5];rw[hA5] at p5
  have p6:=λG=>Vi (a:=A5) (b:=(Ii (u:Int))) (by omega) G
  obtain⟨A6,hA6⟩: ∃A,A5++(Ii (u:Int))=A:=⟨_,rfl⟩
  have b6:A6.length<=19300063:=by rw[<-hA6,Zo];omega
  rw[hA6];rw[hA6] at p6
  have p7:=λG=>Vi (a:=A6) (b:=[125]) (by simp only[Zw,ZZ];omega) G
  obtain⟨A7,hA7⟩: ∃A,A6++[125]=A:=⟨_,rfl⟩
  have b7:A7.length<=19300083:=by rw[<-hA7,Zo];simp only[Zw,ZZ];omega
  rw[hA7];rw[hA7] at p7
  simp(maxSteps:=4000000) (disch:=first|assumption|omega|(simp -implicitDefEqProofs only[ZA,ZB]<;>first|assumption|omega)|decide) only[t1,t3,d0,g2,g3,g4,g5,g6,o0,o1,xx,Fo,lnn,lw,bF,kN,sa,e3,e4,e5,e6,p0,p1,p2,p3,p4,p5,p6,p7,Z2,c11,Z4,Yr,Zy,Zz,Zk,Zm,Zl,Nat.reducePow,Nat.reduceDiv,Nat.reduceMod,Nat.reduceEqDiff,reduceCtorEq,Yu,VW]
  refine⟨_,rfl,?_⟩
  exact kk
 ·have d0:decide (0<l.length)=false:=Zd h0
  rw[clo,if_neg h0,WQ]
  obtain⟨Q,hQ⟩: ∃Q,P=Q:=⟨_,rfl⟩
  have bQ:Q.length<=1300003:=by rw[<-hQ];omega
  rw[hQ];rw[hQ] at t3
  have p1:=λG=>Vi (a:=Q) (b:=[34,100,105,103,101,115,116,34,58]) (by simp only[Zw,ZZ];omega) G
  obtain⟨A1,hA1⟩: ∃A,Q++[34,100,105,103,101,115,116,34,58]=A:=⟨_,rfl⟩
  have b1:A1.length<=1300023:=by rw[<-hA1,Zo];simp only[Zw,ZZ];omega
  rw[hA1];rw[hA1] at p1
  have p2:=λG=>Vi (a:=A1) (b:=(qt (qL s))) (by omega) G
  obtain⟨A2,hA2⟩: ∃A,A1++(qt (qL s))=A:=⟨_,rfl⟩
  have b2:A2.length<=7300023:=by rw[<-hA2,Zo];omega
  rw[hA2];rw[hA2] at p2
  have p3:=λG=>Vi (a:=A2) (b:=[44,34,109,101,100,105,97,84,121,112,101,34,58]) (by simp only[Zw,ZZ];omega) G
  obtain⟨A3,hA3⟩: ∃A,A2++[44,34,109,101,100,105,97,84,121,112,101,34,58]=A:=⟨_,rfl⟩
  have b3:A3.length<=7300043:=by rw[<-hA3,Zo];simp only[Zw,ZZ];omega
  rw[hA3];rw[hA3] at p3
  have p4:=λG=>Vi (a:=A3) (b:=(qt md)) (by omega) G
  obtain⟨A4,hA4⟩: ∃A,A3++(qt md)=A:=⟨_,rfl⟩
  have b4:A4.length<=13300043:=by rw[<-hA4,Zo];omega
  rw[hA4];rw[hA4] at p4
  have p5:=λG=>Vi (a:=A4) (b:=[44,34,115,105,122,101,34,58]) (by simp only[Zw,ZZ];omega) G
  obtain⟨A5,hA5⟩: ∃A,A4++[44,34,115,105,122,101,34,58]=A:=⟨_,rfl⟩
  have b5:A5.length<=13300063:=by rw[<-hA5,Zo];simp only[Zw,ZZ];omega
  rw[hA5];rw[hA5] at p5
  have p6:=λG=>Vi (a:=A5) (b:=(Ii (u:Int))) (by omega) G
  obtain⟨A6,hA6⟩: ∃A,A5++(Ii (u:Int))=A:=⟨_,rfl⟩
  have b6:A6.length<=19300063:=by rw[<-hA6,Zo];omega
  rw[hA6];rw[hA6] at p6
  have p7:=λG=>Vi (a:=A6) (b:=[125]) (by simp only[Zw,ZZ];omega) G
  obtain⟨A7,hA7⟩: ∃A,A6++[125]=A:=⟨_,rfl⟩
  have b7:A7.length<=19300083:=by rw[<-hA7,Zo];simp only[Zw,ZZ];omega
  rw[hA7];rw[hA7] at p7
  simp(maxSteps:=4000000) (disch:=first|assumption|omega|(simp -implicitDefEqProofs only[ZA,ZB]<;>first|assumption|omega)|decide) only[t1,t3,d0,g2,g3,g4,g5,g6,o0,o1,xx,Fo,lnn,lw,bF,kN,sa,e3,e4,e5,e6,p1,p2,p3,p4,p5,p6,p7,Z2,c11,Z4,Yr,Zy,Zz,Zk,Zm,Zl,Nat.reducePow,Nat.reduceDiv,Nat.reduceMod,Nat.reduceEqDiff,reduceCtorEq,Yu,VW]
  refine⟨_,rfl,?_⟩
  exact kk
theorem geS(a b:List UInt8)(H:Heap):K7 T0 WY (.str a) (.str b) H=.val (.bool (WY a b)) H:=by
 show PL (WY a b) H=_
 cases WY a b<;>rfl
def Lf(l:List NP)(i:Nat):Bool:=!decide ((l.getD i ([],[])).1=[])&&((decide ((l.getD i ([],[])).1.length<=255)&&vu (l.getD i ([],[])).1)&&((decide ((l.getD i ([],[])).2.length<=4096)&&vu (l.getD i ([],[])).2)&&(decide (i=0)||!WY (l.getD (i - 1) ([],[])).1 (l.getD i ([],[])).1)))
structure iA(H0:Heap)(l:List NP)(b:Nat)(m:Nat)(tm:TM)(H:Heap):Prop where
 i: ∃i,Xa tm=nI .i64 i∧i<=l.length∧m=l.length - i∧ ∀j,j<i->Lf l j=true
 t1:YL tm=.ptr b 0
 k:ZE H0 H []
 ro:H.ro<=H.nx
theorem Dg{ZM:Lib}{fs:T CF}{fuel:Nat}(E:Env ZM fs fuel){k n:Nat}{H0:Heap}{l:List NP}{b:Nat}{v:AV}{cs:List AV}(hN:NT H0 v l)(hL:l.length<=100)(hS: ∀i,(l.getD i ([],[])).1.length<=1000∧(l.getD i ([],[])).2.length<=1000)
  (hbn:b<H0.nx)(hb:H0.t.get b=some (rG 34 1 cs 0 false true true))(EC: ∀G,ld1 (some (rG 34 1 cs 0 false true true)) 34 G=.val v G)(y f d r)(x:X)(m:Nat)(tm:TM)(H:Heap)(hI:iA H0 l b m tm H):
  ∃o tm' H',Lk ⟨Yo (LK ZM fs fuel k) fs fuel (n+5),y,f,d,r⟩ tm H x=.ok o tm' H' x∧((o=.normal∧ ∃q,q<m∧iA H0 l b q tm' H')∨(o≠.normal∧(ZE H0 H' []∧((o=.exit 0∧ ∀j,j<l.length->Lf l j=true)∨(o=.ret∧Xw tm'=.bool false∧ ∃j,j<l.length∧Lf l j=false))))):=by
 obtain⟨⟨i,t3,hi,rfl,hok⟩,t1,k0,hro⟩:=hI
 have nx0:=k0.nx
 have gB:H.t.get b=some (rG 34 1 cs 0 false true true):=by rw[k0.get b hbn (by simp)];exact hb
 have lnn:=λG=>hN.len G
 have t1':=t1
 simp only[TB] at t3
 simp only[Od] at t1
 by_cases hlt:i<l.length
 ·have d1:decide (i<l.length)=true:=Zg hlt
  rcases hN with⟨rfl,rfl⟩|⟨bn,rr,rfl,hbb,gI,wN⟩
  ·exact absurd hlt (by simp)
  have gN:H.t.get bn=some (.row rr):=by rw[k0.get bn hbb (by simp)];exact gI
  have hat: ∀i,i<l.length->l[i]? =some (l.getD i ([],[])):=λi h=>by rw[Zh,Zr h];rfl
  have hP:=hat i hlt
  obtain⟨s1,s2⟩:=hS i
  obtain⟨O,tN⟩: ∃O,Lf l i=O:=⟨_,rfl⟩
  have hO:=tN
  rw[Lf] at hO
  generalize hp:l.getD i ([],[])=p at hP s1 s2 hO
  obtain⟨w1,w2⟩:=wN i p hP
  have dx: ∀G,ld1 (some (.row rr)) (i*2+0) G=.val (.str p.1) G:=w1
  have u1: ∀G,ld1 (some (.row rr)) (0+i*2+0) G=.val (.str p.1) G:=by rw[Zn];exact w1
  have u2: ∀G,ld1 (some (.row rr)) (0+i*2+1) G=.val (.str p.2) G:=by rw[Zn];exact w2
  have ix:=λG=>RA (sz:=2) hlt bn 0 none .i64 G
  obtain⟨H1,e1,k1⟩:=EY E (k:=k) (n:=n) (m:=255) (s:=p.1) (H:=H) (by omega) hro
  have n1:=k1.nx
  have r1:=k1.ro
  obtain⟨H2,e2,k2⟩:=EY E (k:=k) (n:=n) (m:=4096) (s:=p.2) (H:=H1) (by omega) (by omega)
  have n2:=k2.nx
  have r2:=k2.ro
  have wO:H1.t.get b=some (rG 34 1 cs 0 false true true):=by rw[k1.get b (by omega) (by simp)];exact gB
  have wP:H1.t.get bn=some (.row rr):=by rw[k1.get bn (by omega) (by simp)];exact gN
  have gB2:H2.t.get b=some (rG 34 1 cs 0 false true true):=by rw[k2.get b (by omega) (by simp)];exact wO
  have gN2:H2.t.get bn=some (.row rr):=by rw[k2.get bn (by omega) (by simp)];exact wP
  generalize hB1:(decide (p.1.length<=255)&&vu p.1)=B1 at e1 hO
  generalize hB2:(decide (p.2.length<=4096)&&vu p.2)=B2 at e2 hO
  have ad:=λG=>WM (a:=i) (b:=1) (by omega) G
  have cf: ∀x y:Bool,cond true x y=x:=λ_ _=>rfl
  have ct: ∀x y:Bool,cond false x y=y:=λ_ _=>rfl
  have lw:=Z6 (n:=H2.nx) (b:=b) (by omega) 0
  have kN:=UR (n:=H2.nx) (b:=bn) (by omega) 0 l.length none
  have lwp:=λo=>Z6 (n:=H2.nx) (b:=bn) (by omega) o
  have lw6:=Z6 (n:=H2.nx) (b:=b) (by omega) 34
  have kk1:=k0.trans k1 (by simp)
  have kk:=kk1.trans k2 (by simp)
  by_cases hz:p.1=[]
  ·have dz:=Zg hz
   rw[dz] at hO
   simp(maxSteps:=4000000) (disch:=first|assumption|omega|(simp -implicitDefEqProofs only[ZA,ZB]<;>first|assumption|omega)|decide) only[t1,t3,d1,dz,gB,gN,EC,lnn,Z5,ix,u1,w1,dx,cf,ct,Zx,TL,Lk,Z4,Yr,Zy,Zz,Zk,Zm,Zl,Nat.reducePow,Nat.reduceDiv,Nat.reduceMod,Nat.reduceEqDiff,reduceCtorEq,Yu,VW,SF]
   refine⟨_,_,_,rfl,?_⟩
   exact .inr ⟨by simp,k0,.inr ⟨rfl,(by simp only[Yu,Yr]),i,hlt,tN.trans hO.symm⟩⟩
  have dz:=Zd hz
  rw[dz] at hO
  cases B1
  ·
   simp(maxSteps:=4000000) (disch:=first|assumption|omega|(simp -implicitDefEqProofs only[ZA,ZB]<;>first|assumption|omega)|decide) only[t1,t3,d1,dz,gB,gN,wO,wP,EC,lnn,Z5,ix,u1,u2,w1,w2,dx,e1,e2,cf,ct,Zx,TL,Lk,Z4,Yr,Zy,Zz,Zk,Zm,Zl,Nat.reducePow,Nat.reduceDiv,Nat.reduceMod,Nat.reduceEqDiff,reduceCtorEq,Yu,VW,SF]
   refine⟨_,_,_,rfl,?_⟩
   exact .inr ⟨by simp,kk1,.inr ⟨rfl,(by simp only[Yu,Yr]),i,hlt,tN.trans hO.symm⟩⟩
  cases B2
  ·
   simp(maxSteps:=4000000) (disch:=first|assumption|omega|(simp -implicitDefEqProofs only[ZA,ZB]<;>first|assumption|omega)|decide) only[t1,t3,d1,dz,gB,gN,wO,wP,EC,lnn,Z5,ix,u1,u2,w1,w2,dx,e1,e2,cf,ct,Zx,TL,Lk,Z4,Yr,Zy,Zz,Zk,Zm,Zl,Nat.reducePow,Nat.reduceDiv,Nat.reduceMod,Nat.reduceEqDiff,reduceCtorEq,Yu,VW,SF]
   refine⟨_,_,_,rfl,?_⟩
   exact .inr ⟨by simp,kk,.inr ⟨rfl,(by simp only[Yu,Yr]),i,hlt,tN.trans hO.symm⟩⟩
  by_cases h0:i=0
  ·have dp:decide (0<i)=false:=Zd (by omega)
   rw[Zg h0] at hO
   simp(maxSteps:=4000000) (disch:=first|assumption|omega|(simp -implicitDefEqProofs only[ZA,ZB]<;>first|assumption|omega)|decide) only[t1,t3,d1,dz,dp,gB,gN,wO,wP,gB2,gN2,EC,lnn,Z5,ix,u1,u2,w1,w2,dx,e1,e2,ad,cf,ct,lw,kN,lw6,Zx,Z2,TL,Lk,Z4,Yr,Zy,Zz,Zk,Zm,Zl,Nat.reducePow,Nat.reduceDiv,Nat.reduceMod,Nat.reduceEqDiff,reduceCtorEq,Yu,VW,SF]
   refine⟨_,_,_,rfl,?_⟩
   exact .inl ⟨rfl,l.length - (i+1),by omega,⟨⟨i+1,(by simp only[Yu,Yr]),by omega,rfl,λj hj=>if e:j=i then by rw[e];exact tN.trans hO.symm else hok j (by omega)⟩,(by simp only[Yu,Yr];exact t1'),kk,by omega⟩⟩
  have dp:decide (0<i)=true:=Zg (by omega)
  rw[Zd h0] at hO
  have hQ:=hat (i - 1) (by omega)
  generalize hq:l.getD (i - 1) ([],[])=q at hQ hO
  obtain⟨x1,_⟩:=wN (i - 1) q hQ
  have dy: ∀G,ld1 (some (.row rr)) ((i - 1)*2+0) G=.val (.str q.1) G:=x1
  have ix1:=λG=>RA (sz:=2) (i:=i - 1) (n:=l.length) (by omega) bn 0 none .i64 G
  have sb:=λG=>Ot (a:=i) (b:=1) (by omega) (by omega) G
  generalize hg:WY q.1 p.1=g at hO
  have ge:=λG=>geS q.1 p.1 G
  rw[hg] at ge
  cases g
  ·
   simp(maxSteps:=4000000) (disch:=first|assumption|omega|(simp -implicitDefEqProofs only[ZA,ZB]<;>first|assumption|omega)|decide) only[t1,t3,d1,dz,dp,gB,gN,wO,wP,gB2,gN2,EC,lnn,Z5,ix,ix1,sb,ge,u1,u2,w1,w2,dx,x1,dy,e1,e2,ad,cf,ct,lw,kN,lwp,lw6,Zx,Z2,TL,Lk,Z4,Yr,Zy,Zz,Zk,Zm,Zl,Nat.reducePow,Nat.reduceDiv,Nat.reduceMod,Nat.reduceEqDiff,reduceCtorEq,Yu,VW,SF]
   refine⟨_,_,_,rfl,?_⟩
   exact .inl ⟨rfl,l.length - (i+1),by omega,⟨⟨i+1,(by simp only[Yu,Yr]),by omega,rfl,λj hj=>if e:j=i then by rw[e];exact tN.trans hO.symm else hok j (by omega)⟩,(by simp only[Yu,Yr];exact t1'),kk,by omega⟩⟩
  ·
   simp(maxSteps:=4000000) (disch:=first|assumption|omega|(simp -implicitDefEqProofs only[ZA,ZB]<;>first|assumption|omega)|decide) only[t1,t3,d1,dz,dp,gB,gN,wO,wP,gB2,gN2,EC,lnn,Z5,ix,ix1,sb,ge,u1,u2,w1,w2,dx,x1,dy,e1,e2,ad,cf,ct,lw,kN,lwp,lw6,Zx,Z2,TL,Lk,Z4,Yr,Zy,Zz,Zk,Zm,Zl,Nat.reducePow,Nat.reduceDiv,Nat.reduceMod,Nat.reduceEqDiff,reduceCtorEq,Yu,VW,SF]
   refine⟨_,_,_,rfl,?_⟩
   exact .inr ⟨by simp,kk,.inr ⟨rfl,(by simp only[Yu,Yr]),i,hlt,tN.trans hO.symm⟩⟩
 ·have d1:decide (i<l.length)=false:=Zd hlt
  simp(maxSteps:=4000000) (disch:=first|assumption|omega|(simp -implicitDefEqProofs only[ZA,ZB]<;>first|assumption|omega)|decide) only[t1,t3,d1,gB,EC,lnn,Zx,Lk,Z4,Yr,Zy,Zz,Zk,Zm,Zl,Nat.reducePow,Nat.reduceDiv,Nat.reduceMod,Nat.reduceEqDiff,reduceCtorEq,Yu,VW,SF]
  refine⟨_,_,_,rfl,?_⟩
  exact .inr ⟨by simp,k0,.inl ⟨rfl,λj hj=>hok j (by omega)⟩⟩
def NF(md:List UInt8):Bool:=!decide (md=CY)&&(!decide (md=CZ)&&(!decide (md=C0)&&!decide (md=C1)))
theorem la{ZM:Lib}{fs:T CF}{fuel:Nat}(E:Env ZM fs fuel){k n u:Nat}{md s:List UInt8}{v:AV}{H:Heap}(hs:s.length=32)(hm:NF md=true):
  ∃H',Yo (LK ZM fs fuel k) fs fuel (n+6) 7 [.agg (.str md::(s.map Y6++[nI .i64 u,v]))] H=.ret (.bool false) H'∧ZE H H' []:=by
 rw[YM (YW E.n7 (.inr rfl) _ _) E.f7]
 obtain⟨cs,hcs⟩: ∃cs,(.str md::(s.map Y6++[nI .i64 u,v]))=cs:=⟨_,rfl⟩
 have ln:cs.length=35:=by rw[<-hcs,Zw,Zo,Zi,hs];rfl
 have o0: ∀G,ld1 (some (rG 34 1 cs 0 false true true)) 0 G=.val (.str md) G:=λG=>by
  rw[ZX (by omega),<-hcs];rfl
 rw[hcs]
 obtain⟨H1,hH1⟩: ∃G,H.new (rG 34 1 cs 0 false true true)=G:=⟨_,rfl⟩
 have bx:=Vt (l:=cs) (by omega) 34 H
 rw[hH1] at bx
 have k1:ZE H H1 []:=by rw[<-hH1];exact ZE.new H _ _
 have g1:H1.t.get H.nx=some (rG 34 1 cs 0 false true true):=by rw[<-hH1,Z3 rfl]
 rw[NF,Xn,Xn,Xn] at hm
 obtain⟨m0,m1,m2,m3⟩:=hm
 simp(maxSteps:=4000000) (disch:=first|assumption|omega|(simp -implicitDefEqProofs only[ZA,ZB]<;>first|assumption|omega)|decide) only[bx,g1,o0,m0,m1,m2,m3,SY,c7,Z4,Yr,Zy,Zz,Zk,Zm,Zl,Nat.reduceEqDiff,reduceCtorEq,Yu,VW]
 refine⟨_,rfl,?_⟩
 exact k1
def Jy(l:List NP):Bool:=decide (l.length<=16)&&(List.range l.length).all (Lf l)
theorem HK{l:List NP}(h: ∀j,j<l.length->Lf l j=true):(List.range l.length).all (Lf l)=true:=Xc.2 λj hj=>h j (List.mem_range.1 hj)
theorem GD{l:List NP}(h: ∃j,j<l.length∧Lf l j=false):(List.range l.length).all (Lf l)=false:=by
 obtain⟨j,hj,e⟩:=h
 cases hh:(List.range l.length).all (Lf l) with
 |false=>rfl
 |true=>rw[Xc.1 hh j (List.mem_range.2 hj)] at e;cases e
theorem hU{ZM:Lib}{fs:T CF}{fuel:Nat}(E:Env ZM fs fuel){k n u:Nat}{md s:List UInt8}{l:List NP}{v:AV}{H:Heap}(hs:s.length=32)(hm:NF md=false)(hu:u<=1000)(hro:H.ro<=H.nx)(hN:NT H v l)(hLn:l.length<=100)(hS: ∀i,(l.getD i ([],[])).1.length<=1000∧(l.getD i ([],[])).2.length<=1000):
  ∃H',Yo (LK ZM fs fuel k) fs fuel (n+6) 7 [.agg (.str md::(s.map Y6++[nI .i64 u,v]))] H=.ret (.bool (Jy l)) H'∧ZE H H' []:=by
 rw[YM (YW E.n7 (.inr rfl) _ _) E.f7]
 obtain⟨cs,hcs⟩: ∃cs,(.str md::(s.map Y6++[nI .i64 u,v]))=cs:=⟨_,rfl⟩
 have ln:cs.length=35:=by rw[<-hcs,Zw,Zo,Zi,hs];rfl
 have o0: ∀G,ld1 (some (rG 34 1 cs 0 false true true)) 0 G=.val (.str md) G:=λG=>by
  rw[ZX (by omega),<-hcs];rfl
 have hc1:cs.getD 33 .unk=nI .i64 u∧cs.getD 34 .unk=v:=by
  rw[<-hcs,Zh,Zh,Y7,Y7,ZY (by rw[Zi,hs];exact Zq _),ZY (by rw[Zi,hs];decide),Zi,hs];exact⟨rfl,rfl⟩
 have xx: ∀G,ld1 (some (rG 34 1 cs 0 false true true)) 33 G=.val (nI .i64 u) G:=λG=>by rw[ZX (by omega),hc1.1]
 have Fo: ∀G,ld1 (some (rG 34 1 cs 0 false true true)) 34 G=.val v G:=λG=>by rw[ZX (by omega),hc1.2]
 rw[hcs]
 obtain⟨H1,hH1⟩: ∃G,H.new (rG 34 1 cs 0 false true true)=G:=⟨_,rfl⟩
 have bx:=Vt (l:=cs) (by omega) 34 H
 rw[hH1] at bx
 have k1:ZE H H1 []:=by rw[<-hH1];exact ZE.new H _ _
 have J8:H1.nx=H.nx+1:=by rw[<-hH1];rfl
 have g1:H1.t.get H.nx=some (rG 34 1 cs 0 false true true):=by rw[<-hH1,Z3 rfl]
 have hN1:=hN.keep k1
 have lnn:=λG=>hN.len G
 have d1:decide (u<0)=false:=Zd (Dw u)
 have d2:decide (1099511627776<u)=false:=Zd (by omega)
 by_cases hl:l.length<=16
 ·have d3:decide (16<l.length)=false:=Zd (by omega)
  have hnn:Jy l=(List.range l.length).all (Lf l):=by unfold Jy;rw[Zg hl];rfl
  cases m0:(!decide (md=CY))
  ·skip
   simp(maxSteps:=4000000) (disch:=first|assumption|omega|(simp -implicitDefEqProofs only[ZA,ZB]<;>first|assumption|omega)|decide) only[bx,g1,o0,xx,Fo,lnn,d1,d2,d3,SY,Zx,Z2,m0,c7,Z4,Yr,Zy,Zz,Zk,Zm,Zl,Nat.reduceEqDiff,reduceCtorEq,Yu,VW]
   generalize hL:Wu (Lk _) fuel _ _ _=L
   obtain⟨o,Pi,H2,rfl,_,k2,z⟩:=X9 (P:=λT=>iA H1 l H.nx l.length T H1) (Q:=λo tm' H'=>ZE H1 H' []∧((o=.exit 0∧ ∀j,j<l.length->Lf l j=true)∨(o=.ret∧Xw tm'=.bool false∧ ∃j,j<l.length∧Lf l j=false)))
    (λT hi=>Wv (iA H1 l H.nx) (λo tm' H'=>ZE H1 H' []∧((o=.exit 0∧ ∀j,j<l.length->Lf l j=true)∨(o=.ret∧Xw tm'=.bool false∧ ∃j,j<l.length∧Lf l j=false))) (λm tm H' h=>Dg E hN1 hLn hS (by omega) g1 Fo _ _ _ _ _ m tm H' h) fuel l.length T H1 (by have:=E.big;omega) hi) hL
    (by exact⟨⟨0,rfl,Yv _,by omega,λj hj=>by omega⟩,rfl,ZE.refl _ _,by rw[k1.ro];omega⟩)
   rcases z with⟨rfl,hall⟩|⟨rfl,u2,hbad⟩
   ·rw[hnn,HK hall]
    simp(maxSteps:=4000000) (disch:=first|assumption|omega|(simp -implicitDefEqProofs only[ZA,ZB]<;>first|assumption|omega)|decide) only[SY,c7,Z4,Yr,Zy,Zz,Zk,Zm,Zl,Nat.reduceEqDiff,reduceCtorEq,Yu,VW]
    refine⟨_,rfl,?_⟩
    exact k1.trans' k2
   ·rw[hnn,GD hbad]
    simp only[Ru] at u2
    simp(maxSteps:=4000000) (disch:=first|assumption|omega|(simp -implicitDefEqProofs only[ZA,ZB]<;>first|assumption|omega)|decide) only[u2,c7,Z4,Yr,Zy,Zz,Zk,Zm,Zl,Nat.reduceEqDiff,reduceCtorEq,Yu,VW]
    refine⟨_,rfl,?_⟩
    exact k1.trans' k2
  ·skip
   cases m1:(!decide (md=CZ))
   ·skip
    simp(maxSteps:=4000000) (disch:=first|assumption|omega|(simp -implicitDefEqProofs only[ZA,ZB]<;>first|assumption|omega)|decide) only[bx,g1,o0,xx,Fo,lnn,d1,d2,d3,SY,Zx,Z2,m0,m1,c7,Z4,Yr,Zy,Zz,Zk,Zm,Zl,Nat.reduceEqDiff,reduceCtorEq,Yu,VW]
    generalize hL:Wu (Lk _) fuel _ _ _=L
    obtain⟨o,Pi,H2,rfl,_,k2,z⟩:=X9 (P:=λT=>iA H1 l H.nx l.length T H1) (Q:=λo tm' H'=>ZE H1 H' []∧((o=.exit 0∧ ∀j,j<l.length->Lf l j=true)∨(o=.ret∧Xw tm'=.bool false∧ ∃j,j<l.length∧Lf l j=false)))
     (λT hi=>Wv (iA H1 l H.nx) (λo tm' H'=>ZE H1 H' []∧((o=.exit 0∧ ∀j,j<l.length->Lf l j=true)∨(o=.ret∧Xw tm'=.bool false∧ ∃j,j<l.length∧Lf l j=false))) (λm tm H' h=>Dg E hN1 hLn hS (by omega) g1 Fo _ _ _ _ _ m tm H' h) fuel l.length T H1 (by have:=E.big;omega) hi) hL
     (by exact⟨⟨0,rfl,Yv _,by omega,λj hj=>by omega⟩,rfl,ZE.refl _ _,by rw[k1.ro];omega⟩)
    rcases z with⟨rfl,hall⟩|⟨rfl,u2,hbad⟩
    ·rw[hnn,HK hall]
     simp(maxSteps:=4000000) (disch:=first|assumption|omega|(simp -implicitDefEqProofs only[ZA,ZB]<;>first|assumption|omega)|decide) only[SY,c7,Z4,Yr,Zy,Zz,Zk,Zm,Zl,Nat.reduceEqDiff,reduceCtorEq,Yu,VW]
     refine⟨_,rfl,?_⟩
     exact k1.trans' k2
    ·rw[hnn,GD hbad]
     simp only[Ru] at u2
     simp(maxSteps:=4000000) (disch:=first|assumption|omega|(simp -implicitDefEqProofs only[ZA,ZB]<;>first|assumption|omega)|decide) only[u2,c7,Z4,Yr,Zy,Zz,Zk,Zm,Zl,Nat.reduceEqDiff,reduceCtorEq,Yu,VW]
     refine⟨_,rfl,?_⟩
     exact k1.trans' k2
   ·skip
    cases m2:(!decide (md=C0))
    ·skip
     simp(maxSteps:=4000000) (disch:=first|assumption|omega|(simp -implicitDefEqProofs only[ZA,ZB]<;>first|assumption|omega)|decide) only[bx,g1,o0,xx,Fo,lnn,d1,d2,d3,SY,Zx,Z2,m0,m1,m2,c7,Z4,Yr,Zy,Zz,Zk,Zm,Zl,Nat.reduceEqDiff,reduceCtorEq,Yu,VW]
     generalize hL:Wu (Lk _) fuel _ _ _=L
     obtain⟨o,Pi,H2,rfl,_,k2,z⟩:=X9 (P:=λT=>iA H1 l H.nx l.length T H1) (Q:=λo tm' H'=>ZE H1 H' []∧((o=.exit 0∧ ∀j,j<l.length->Lf l j=true)∨(o=.ret∧Xw tm'=.bool false∧ ∃j,j<l.length∧Lf l j=false)))
      (λT hi=>Wv (iA H1 l H.nx) (λo tm' H'=>ZE H1 H' []∧((o=.exit 0∧ ∀j,j<l.length->Lf l j=true)∨(o=.ret∧Xw tm'=.bool false∧ ∃j,j<l.length∧Lf l j=false))) (λm tm H' h=>Dg E hN1 hLn hS (by omega) g1 Fo _ _ _ _ _ m tm H' h) fuel l.length T H1 (by have:=E.big;omega) hi) hL
      (by exact⟨⟨0,rfl,Yv _,by omega,λj hj=>by omega⟩,rfl,ZE.refl _ _,by rw[k1.ro];omega⟩)
     rcases z with⟨rfl,hall⟩|⟨rfl,u2,hbad⟩
     ·rw[hnn,HK hall]
      simp(maxSteps:=4000000) (disch:=first|assumption|omega|(simp -implicitDefEqProofs only[ZA,ZB]<;>first|assumption|omega)|decide) only[SY,c7,Z4,Yr,Zy,Zz,Zk,Zm,Zl,Nat.reduceEqDiff,reduceCtorEq,Yu,VW]
      refine⟨_,rfl,?_⟩
      exact k1.trans' k2
     ·rw[hnn,GD hbad]
      simp only[Ru] at u2
      simp(maxSteps:=4000000) (disch:=first|assumption|omega|(simp -implicitDefEqProofs only[ZA,ZB]<;>first|assumption|omega)|decide) only[u2,c7,Z4,Yr,Zy,Zz,Zk,Zm,Zl,Nat.reduceEqDiff,reduceCtorEq,Yu,VW]
      refine⟨_,rfl,?_⟩
      exact k1.trans' k2
    ·skip
     have m3:(!decide (md=C1))=false:=by rw[NF,m0,m1,m2] at hm;simpa using hm
     simp(maxSteps:=4000000) (disch:=first|assumption|omega|(simp -implicitDefEqProofs only[ZA,ZB]<;>first|assumption|omega)|decide) only[bx,g1,o0,xx,Fo,lnn,d1,d2,d3,SY,Zx,Z2,m0,m1,m2,m3,c7,Z4,Yr,Zy,Zz,Zk,Zm,Zl,Nat.reduceEqDiff,reduceCtorEq,Yu,VW]
     generalize hL:Wu (Lk _) fuel _ _ _=L
     obtain⟨o,Pi,H2,rfl,_,k2,z⟩:=X9 (P:=λT=>iA H1 l H.nx l.length T H1) (Q:=λo tm' H'=>ZE H1 H' []∧((o=.exit 0∧ ∀j,j<l.length->Lf l j=true)∨(o=.ret∧Xw tm'=.bool false∧ ∃j,j<l.length∧Lf l j=false)))
      (λT hi=>Wv (iA H1 l H.nx) (λo tm' H'=>ZE H1 H' []∧((o=.exit 0∧ ∀j,j<l.length->Lf l j=true)∨(o=.ret∧Xw tm'=.bool false∧ ∃j,j<l.length∧Lf l j=false))) (λm tm H' h=>Dg E hN1 hLn hS (by omega) g1 Fo _ _ _ _ _ m tm H' h) fuel l.length T H1 (by have:=E.big;omega) hi) hL
      (by exact⟨⟨0,rfl,Yv _,by omega,λj hj=>by omega⟩,rfl,ZE.refl _ _,by rw[k1.ro];omega⟩)
     rcases z with⟨rfl,hall⟩|⟨rfl,u2,hbad⟩
     ·rw[hnn,HK hall]
      simp(maxSteps:=4000000) (disch:=first|assumption|omega|(simp -implicitDefEqProofs only[ZA,ZB]<;>first|assumption|omega)|decide) only[SY,c7,Z4,Yr,Zy,Zz,Zk,Zm,Zl,Nat.reduceEqDiff,reduceCtorEq,Yu,VW]
      refine⟨_,rfl,?_⟩
      exact k1.trans' k2
     ·rw[hnn,GD hbad]
      simp only[Ru] at u2
      simp(maxSteps:=4000000) (disch:=first|assumption|omega|(simp -implicitDefEqProofs only[ZA,ZB]<;>first|assumption|omega)|decide) only[u2,c7,Z4,Yr,Zy,Zz,Zk,Zm,Zl,Nat.reduceEqDiff,reduceCtorEq,Yu,VW]
      refine⟨_,rfl,?_⟩
      exact k1.trans' k2
 ·have d3:decide (16<l.length)=true:=Zg (by omega)
  have hnn:Jy l=false:=by unfold Jy;rw[Zd hl];rfl
  rw[hnn]
  cases m0:(!decide (md=CY))
  ·skip
   simp(maxSteps:=4000000) (disch:=first|assumption|omega|(simp -implicitDefEqProofs only[ZA,ZB]<;>first|assumption|omega)|decide) only[bx,g1,o0,xx,Fo,lnn,d1,d2,d3,SY,Zx,Z2,m0,c7,Z4,Yr,Zy,Zz,Zk,Zm,Zl,Nat.reduceEqDiff,reduceCtorEq,Yu,VW]
   refine⟨_,rfl,?_⟩
   exact k1
  ·skip
   cases m1:(!decide (md=CZ))
   ·skip
    simp(maxSteps:=4000000) (disch:=first|assumption|omega|(simp -implicitDefEqProofs only[ZA,ZB]<;>first|assumption|omega)|decide) only[bx,g1,o0,xx,Fo,lnn,d1,d2,d3,SY,Zx,Z2,m0,m1,c7,Z4,Yr,Zy,Zz,Zk,Zm,Zl,Nat.reduceEqDiff,reduceCtorEq,Yu,VW]
    refine⟨_,rfl,?_⟩
    exact k1
   ·skip
    cases m2:(!decide (md=C0))
    ·skip
     simp(maxSteps:=4000000) (disch:=first|assumption|omega|(simp -implicitDefEqProofs only[ZA,ZB]<;>first|assumption|omega)|decide) only[bx,g1,o0,xx,Fo,lnn,d1,d2,d3,SY,Zx,Z2,m0,m1,m2,c7,Z4,Yr,Zy,Zz,Zk,Zm,Zl,Nat.reduceEqDiff,reduceCtorEq,Yu,VW]
     refine⟨_,rfl,?_⟩
     exact k1
    ·skip
     have m3:(!decide (md=C1))=false:=by rw[NF,m0,m1,m2] at hm;simpa using hm
     simp(maxSteps:=4000000) (disch:=first|assumption|omega|(simp -implicitDefEqProofs only[ZA,ZB]<;>first|assumption|omega)|decide) only[bx,g1,o0,xx,Fo,lnn,d1,d2,d3,SY,Zx,Z2,m0,m1,m2,m3,c7,Z4,Yr,Zy,Zz,Zk,Zm,Zl,Nat.reduceEqDiff,reduceCtorEq,Yu,VW]
     refine⟨_,rfl,?_⟩
     exact k1
theorem uO{ZM:Lib}{fs:T CF}{fuel:Nat}(E:Env ZM fs fuel){k n m:Nat}(hk:2<=k){s:List UInt8}{H:Heap}(g:Pj H)(hro:H.ro<=H.nx)(hs:s.length<99998):
  Yo (LK ZM fs fuel k) fs fuel (n+2) 25 [.str s,nI .i64 m] H=.ret (.bool (decide (s.length<=m)&&vu s)) H:=by
 rw[YM (YW E.n25 (.inr rfl) _ _) E.f25]
 have e:=λ{j}=>Zhs (ZM:=ZM) (fs:=fs) (fuel:=fuel) E (k:=k) (n:=j) hk (H:=H) g hro hs
 by_cases h:s.length<=m
 ·have d:decide (s.length<=m)=true:=Zg h
  rw[d,VX]
  simp(maxSteps:=4000000) (disch:=first|assumption|omega|(simp -implicitDefEqProofs only[ZA,ZB]<;>first|assumption|omega)|decide) only[e,d,Ue,c25,Z4,Yr,Zy,Zz,Zk,Zm,Zl,Nat.reduceEqDiff,reduceCtorEq,Yu]
 ·have d:decide (s.length<=m)=false:=Zd h
  rw[d,SU]
  simp(maxSteps:=4000000) (disch:=first|assumption|omega|(simp -implicitDefEqProofs only[ZA,ZB]<;>first|assumption|omega)|decide) only[e,d,Ue,c25,Z4,Yr,Zy,Zz,Zk,Zm,Zl,Nat.reduceEqDiff,reduceCtorEq,Yu]
def vx:List AV:=[.str CZ,.str CY,.str C0,.str C1]
theorem ot{ZM:Lib}{fs:T CF}{fuel:Nat}(E:Env ZM fs fuel){k n b:Nat}{md:List UInt8}{H:Heap}(hb:H.t.get b=some (rG 9 1 vx 0 false true true)):
  ∃z:Int,Yo (LK ZM fs fuel k) fs fuel (n+1) 39 [.slice b 0 4 none,.str md] H=.ret (.int .i64 z) H∧((NF md=false∧ ∃j:Nat,z=j)∨(NF md=true∧z=.negSucc 0)):=by
 rw[YM (YW E.n39 (.inr rfl) _ _) E.f39]
 obtain⟨F,hF⟩: ∃F,fuel=F+5:=⟨fuel - 5,by have:=E.big;omega⟩
 subst hF
 have lm: ∀j,j<4-> ∀G,ld1 (some (rG 9 1 vx 0 false true true)) j G=.val (vx.getD j .unk) G:=λj hj G=>ZX hj ..
 have l0:=lm 0 (by decide);have l1:=lm 1 (by decide);have l2:=lm 2 (by decide);have l3:=lm 3 (by decide)
 simp only[vx,List.getD_cons_zero,List.getD_cons_succ] at l0 l1 l2 l3
 unfold vx at hb
 have z0:decide (0<4)=true:=rfl
 have z1:decide (1<4)=true:=rfl
 have z2:decide (2<4)=true:=rfl
 have z3:decide (3<4)=true:=rfl
 have z4:decide (4<4)=false:=rfl
 by_cases h0:md=CZ
 ·have d0:decide (md=CZ)=true:=Zg h0
  refine⟨(0:Nat),?_,.inl ⟨by unfold NF;rw[h0];simp,0,rfl⟩⟩
  simp(maxSteps:=4000000) (disch:=first|assumption|omega|(simp -implicitDefEqProofs only[ZA,ZB]<;>first|assumption|omega)|decide) only[d0,Oh,hb,l0,l1,l2,l3,z0,z1,z2,z3,z4,Td,Z5,WM,Zx,TL,Zn,Nat.reduceAdd,Nat.reduceLeDiff,dF,FD,Z4,Yr,Zy,Zz,Zk,Zm,Zl,Nat.reduceEqDiff,reduceCtorEq,Yu]
  all_goals rfl
 have d0:decide (md=CZ)=false:=Zd h0
 by_cases h1:md=CY
 ·have d1:decide (md=CY)=true:=Zg h1
  refine⟨(1:Nat),?_,.inl ⟨by unfold NF;rw[h1];simp,1,rfl⟩⟩
  simp(maxSteps:=4000000) (disch:=first|assumption|omega|(simp -implicitDefEqProofs only[ZA,ZB]<;>first|assumption|omega)|decide) only[d0,d1,Oh,hb,l0,l1,l2,l3,z0,z1,z2,z3,z4,Td,Z5,WM,Zx,TL,Zn,Nat.reduceAdd,Nat.reduceLeDiff,dF,FD,Z4,Yr,Zy,Zz,Zk,Zm,Zl,Nat.reduceEqDiff,reduceCtorEq,Yu]
  all_goals rfl
 have d1:decide (md=CY)=false:=Zd h1
 by_cases h2:md=C0
 ·have d2:decide (md=C0)=true:=Zg h2
  refine⟨(2:Nat),?_,.inl ⟨by unfold NF;rw[h2];simp,2,rfl⟩⟩
  simp(maxSteps:=4000000) (disch:=first|assumption|omega|(simp -implicitDefEqProofs only[ZA,ZB]<;>first|assumption|omega)|decide) only[d0,d1,d2,Oh,hb,l0,l1,l2,l3,z0,z1,z2,z3,z4,Td,Z5,WM,Zx,TL,Zn,Nat.reduceAdd,Nat.reduceLeDiff,dF,FD,Z4,Yr,Zy,Zz,Zk,Zm,Zl,Nat.reduceEqDiff,reduceCtorEq,Yu]
  all_goals rfl
 have d2:decide (md=C0)=false:=Zd h2
 by_cases h3:md=C1
 ·have d3:decide (md=C1)=true:=Zg h3
  refine⟨(3:Nat),?_,.inl ⟨by unfold NF;rw[h3];simp,3,rfl⟩⟩
  simp(maxSteps:=4000000) (disch:=first|assumption|omega|(simp -implicitDefEqProofs only[ZA,ZB]<;>first|assumption|omega)|decide) only[d0,d1,d2,d3,Oh,hb,l0,l1,l2,l3,z0,z1,z2,z3,z4,Td,Z5,WM,Zx,TL,Zn,Nat.reduceAdd,Nat.reduceLeDiff,dF,FD,Z4,Yr,Zy,Zz,Zk,Zm,Zl,Nat.reduceEqDiff,reduceCtorEq,Yu]
  all_goals rfl
 have d3:decide (md=C1)=false:=Zd h3
 refine⟨.negSucc 0,?_,.inr ⟨by unfold NF;simp[h0,h1,h2,h3],rfl⟩⟩
 simp(maxSteps:=4000000) (disch:=first|assumption|omega|(simp -implicitDefEqProofs only[ZA,ZB]<;>first|assumption|omega)|decide) only[d0,d1,d2,d3,Oh,hb,l0,l1,l2,l3,z0,z1,z2,z3,z4,Td,Z5,WM,Zx,TL,Zn,Nat.reduceAdd,Nat.reduceLeDiff,dF,FD,Z4,Yr,Zy,Zz,Zk,Zm,Zl,Nat.reduceEqDiff,reduceCtorEq,Yu]
theorem yP{ZM:Lib}{fs:T CF}{fuel:Nat}(E:Env ZM fs fuel){k n b:Nat}{md:List UInt8}{H:Heap}(hb:H.t.get b=some (rG 9 1 vx 0 false true true)):
  Yo (LK ZM fs fuel k) fs fuel (n+2) 26 [.slice b 0 4 none,.str md] H=.ret (.bool (!NF md)) H:=by
 rw[YM (YW E.n26 (.inr rfl) _ _) E.f26]
 obtain⟨z,e,hz⟩:=ot E (k:=k) (n:=n) (md:=md) hb
 have c1: ∀G,K7 T0 WY (.int .i64 z) (nI .i64 0) G=.val (.bool (!NF md)) G:=λG=>by
  rcases hz with⟨hm,j,rfl⟩|⟨hm,rfl⟩
  ·rw[hm]
   have:AV.int .i64 (j:Int)=nI .i64 j:=rfl
   rw[this,Wn,Zg (Yv j)];rfl
  ·rw[hm];rfl
 simp(maxSteps:=4000000) (disch:=first|assumption|omega|(simp -implicitDefEqProofs only[ZA,ZB]<;>first|assumption|omega)|decide) only[e,c1,c26,Z4,Yr,Zy,Zz,Zk,Zm,Zl,Nat.reduceEqDiff,reduceCtorEq,Yu]
def Dt(H:Heap)(v:AV)(l:List NP):Prop:=(l=[]∧v=.nils)∨ ∃b r,v=.slice b 0 l.length none∧b<H.nx∧H.t.get b=some (.row r)∧r.sz=2∧2*l.length<=r.size∧ ∀i p,l[i]? =some p->r.get (i*2)=.str p.1∧r.get (i*2+1)=.str p.2
theorem Dt.keep{H H':Heap}{v:AV}{l:List NP}(h:Dt H v l)(k:ZE H H' []):Dt H' v l:=by
 rcases h with h|⟨b,r,e,hb,g,w⟩
 ·exact .inl h
 ·exact .inr ⟨b,r,e,ZI hb k.nx,by rw[k.get b hb (by simp)];exact g,w⟩
theorem Dt.nt{H:Heap}{v:AV}{l:List NP}(h:Dt H v l):NT H v l:=by
 rcases h with h|⟨b,r,e,hb,g,_,hs,w⟩
 ·exact .inl h
 ·refine .inr ⟨b,r,e,hb,g,λi p hp=>?_⟩
  obtain⟨hl,_⟩:=XH.1 hp
  obtain⟨w1,w2⟩:=w i p hp
  exact⟨λG=>by rw[Qr (by omega),w1],λG=>by rw[Qr (by omega),w2]⟩
structure PMI(H0:Heap)(l:List NP)(v:AV)(b:Nat)(m:Nat)(tm:TM)(H:Heap):Prop where
 i: ∃i,Wq tm=nI .i64 i∧i<=l.length∧m=l.length - i∧ ∀j,j<i->Lf l j=true
 t1:YL tm=.ptr b 0
 t7:Wp tm=v
 t8:XG tm=nI .i64 l.length
 k:ZE H0 H []
 ro:H.ro<=H.nx
theorem eJ{ZM:Lib}{fs:T CF}{fuel:Nat}(E:Env ZM fs fuel){k n:Nat}(hk:2<=k){H0:Heap}{l:List NP}{b:Nat}{v:AV}{cs:List AV}(gU: ∀G,ZE H0 G []->Pj G)(hN:Dt H0 v l)(hLn:l.length<=100)(hS: ∀i,(l.getD i ([],[])).1.length<=1000∧(l.getD i ([],[])).2.length<=1000)
  (hbn:b<H0.nx)(hb:H0.t.get b=some (rG 27 1 cs 0 false true true))(EC: ∀G,ld1 (some (rG 27 1 cs 0 false true true)) 34 G=.val v G)(y f d r)(x:X)(m:Nat)(tm:TM)(H:Heap)(hI:PMI H0 l v b m tm H):
  ∃o tm' H',M6 ⟨Yo (LK ZM fs fuel k) fs fuel (n+5),y,f,d,r⟩ tm H x=.ok o tm' H' x∧((o=.normal∧ ∃q,q<m∧PMI H0 l v b q tm' H')∨(o≠.normal∧(ZE H0 H' []∧((o=.exit 0∧YL tm'=.ptr b 0∧ ∀j,j<l.length->Lf l j=true)∨(o=.ret∧Xw tm'=.bool false∧ ∃j,j<l.length∧Lf l j=false))))):=by
 obtain⟨⟨i,t9,hi,rfl,hok⟩,t1,t7,t8,k0,hro⟩:=hI
 have nx0:=k0.nx
 have t1':=t1;have pv:=t7;have mj:=t8
 simp only[Od,N2,Kh,Ji] at t1 t7 t8 t9
 by_cases hlt:i<l.length
 ·have d1:decide (i<l.length)=true:=Zg hlt
  rcases hN with⟨rfl,rfl⟩|⟨bn,rr,rfl,hbb,gI,szr,hsr,wN⟩
  ·exact absurd hlt (by simp)
  have gN:H.t.get bn=some (.row rr):=by rw[k0.get bn hbb (by simp)];exact gI
  have hat: ∀i,i<l.length->l[i]? =some (l.getD i ([],[])):=λi h=>by rw[Zh,Zr h];rfl
  have hP:=hat i hlt
  obtain⟨s1,s2⟩:=hS i
  obtain⟨O,tN⟩: ∃O,Lf l i=O:=⟨_,rfl⟩
  have hO:=tN
  rw[Lf] at hO
  generalize hp:l.getD i ([],[])=p at hP s1 s2 hO
  obtain⟨w1,w2⟩:=wN i p hP
  have l2: ∀G,Gv 2 (some (.row rr)) (i*2) G=.val (.agg [.str p.1,.str p.2]) G:=λG=>by
   show ZR (Nat.ble (i*2+2) rr.size) (.val (.agg [rr.get (i*2),rr.get (i*2+1)]) G)=_
   rw[Zj (by omega),w1,w2];rfl
  have ix:=λG=>RA (sz:=2) hlt bn 0 none .i64 G
  obtain⟨H1,hH1⟩: ∃G,H.new (rG 39 1 [.str p.1,.str p.2] 0 false true true)=G:=⟨_,rfl⟩
  have n1:H1.nx=H.nx+1:=by rw[<-hH1];rfl
  have k1:ZE H H1 []:=by rw[<-hH1];exact ZE.new _ _ _
  have r1:=k1.ro
  have st:re 2 (some (rG 39 1 [.str [],.str []] 0 false true true)) H.nx 0 (.agg [.str p.1,.str p.2]) (H.new (rG 39 1 [.str [],.str []] 0 false true true))=.val YZ H1:=by
   rw[PJ (n:=2) (l:=[.str [],.str []]) (vs:=[.str p.1,.str p.2]) (H:=H.new (rG 39 1 [.str [],.str []] 0 false true true)) rfl rfl (by decide) hro,Py rfl,hH1]
  have gnn: ∀ob,(H.new ob).t.get H.nx=some ob:=λob=>Z3 rfl ob
  have gq:H1.t.get H.nx=some (rG 39 1 [.str p.1,.str p.2] 0 false true true):=by rw[<-hH1];exact gnn _
  have q0: ∀G,ld1 (some (rG 39 1 [.str p.1,.str p.2] 0 false true true)) 0 G=.val (.str p.1) G:=λG=>ZX (show 0<2 by decide) ..
  have q1: ∀G,ld1 (some (rG 39 1 [.str p.1,.str p.2] 0 false true true)) 1 G=.val (.str p.2) G:=λG=>ZX (show 1<2 by decide) ..
  have wO:H1.t.get b=some (rG 27 1 cs 0 false true true):=by rw[k1.get b (by omega) (by simp),k0.get b hbn (by simp)];exact hb
  have wP:H1.t.get bn=some (.row rr):=by rw[k1.get bn (by omega) (by simp)];exact gN
  have kk:=k0.trans k1 (by simp)
  have gu1:=gU H1 kk
  have e1:=uO E (k:=k) (n:=n+3) (m:=255) hk (s:=p.1) (H:=H1) gu1 (by omega) (by omega)
  have e2:=uO E (k:=k) (n:=n+3) (m:=4096) hk (s:=p.2) (H:=H1) gu1 (by omega) (by omega)
  generalize hB1:(decide (p.1.length<=255)&&vu p.1)=B1 at e1 hO
  generalize hB2:(decide (p.2.length<=4096)&&vu p.2)=B2 at e2 hO
  have ad:=λG=>WM (a:=i) (b:=1) (by omega) G
  have cf: ∀x y:Bool,cond true x y=x:=λ_ _=>rfl
  have ct: ∀x y:Bool,cond false x y=y:=λ_ _=>rfl
  have lwq:=λo=>Z6 (n:=H1.nx) (b:=H.nx) (by omega) o
  have lwb:=λo=>Z6 (n:=H1.nx) (b:=b) (by omega) o
  have lwn:=λo=>Z6 (n:=H1.nx) (b:=bn) (by omega) o
  have lws:=UR (n:=H1.nx) (b:=bn) (by omega) 0 l.length none
  by_cases hz:p.1=[]
  ·have dz:=Zg hz
   rw[dz] at hO
   simp(maxSteps:=4000000) (disch:=first|assumption|omega|(simp -implicitDefEqProofs only[ZA,ZB]<;>first|assumption|omega)|decide) only[t1,t7,t8,t9,d1,dz,gN,ix,l2,st,gnn,gq,q0,q1,wO,wP,EC,cf,ct,lwq,lwb,lwn,lws,Pw,Vv,Zn,Zx,TL,M6,Z4,Yr,Zy,Zz,Zk,Zm,Zl,Nat.reducePow,Nat.reduceDiv,Nat.reduceMod,Nat.reduceEqDiff,reduceCtorEq,Yu,VW]
   refine⟨_,_,_,rfl,.inr ⟨by simp,kk,.inr ⟨rfl,(by simp only[Yu,Yr]),i,hlt,tN.trans hO.symm⟩⟩⟩
  have dz:=Zd hz
  rw[dz] at hO
  cases B1
  ·
   simp(maxSteps:=4000000) (disch:=first|assumption|omega|(simp -implicitDefEqProofs only[ZA,ZB]<;>first|assumption|omega)|decide) only[t1,t7,t8,t9,d1,dz,gN,ix,l2,st,gnn,gq,q0,q1,wO,wP,EC,cf,ct,lwq,lwb,lwn,lws,Pw,Vv,Zn,e1,e2,Zx,TL,M6,Z4,Yr,Zy,Zz,Zk,Zm,Zl,Nat.reducePow,Nat.reduceDiv,Nat.reduceMod,Nat.reduceEqDiff,reduceCtorEq,Yu,VW]
   refine⟨_,_,_,rfl,.inr ⟨by simp,kk,.inr ⟨rfl,(by simp only[Yu,Yr]),i,hlt,tN.trans hO.symm⟩⟩⟩
  cases B2
  ·
   simp(maxSteps:=4000000) (disch:=first|assumption|omega|(simp -implicitDefEqProofs only[ZA,ZB]<;>first|assumption|omega)|decide) only[t1,t7,t8,t9,d1,dz,gN,ix,l2,st,gnn,gq,q0,q1,wO,wP,EC,cf,ct,lwq,lwb,lwn,lws,Pw,Vv,Zn,e1,e2,Zx,TL,M6,Z4,Yr,Zy,Zz,Zk,Zm,Zl,Nat.reducePow,Nat.reduceDiv,Nat.reduceMod,Nat.reduceEqDiff,reduceCtorEq,Yu,VW]
   refine⟨_,_,_,rfl,.inr ⟨by simp,kk,.inr ⟨rfl,(by simp only[Yu,Yr]),i,hlt,tN.trans hO.symm⟩⟩⟩
  by_cases h0:i=0
  ·have dp:decide (0<i)=false:=Zd (by omega)
   rw[Zg h0] at hO
   simp(maxSteps:=4000000) (disch:=first|assumption|omega|(simp -implicitDefEqProofs only[ZA,ZB]<;>first|assumption|omega)|decide) only[t1,t7,t8,t9,d1,dz,gN,ix,l2,st,gnn,gq,q0,q1,wO,wP,EC,cf,ct,lwq,lwb,lwn,lws,Pw,Vv,Zn,dp,e1,e2,ad,Zx,Z2,TL,M6,Z4,Yr,Zy,Zz,Zk,Zm,Zl,Nat.reducePow,Nat.reduceDiv,Nat.reduceMod,Nat.reduceEqDiff,reduceCtorEq,Yu,VW]
   refine⟨_,_,_,rfl,.inl ⟨rfl,l.length - (i+1),by omega,⟨⟨i+1,(by simp only[Yu,Yr]),by omega,rfl,λj hj=>if e:j=i then by rw[e];exact tN.trans hO.symm else hok j (by omega)⟩,(by simp only[Yu,Yr];exact t1'),(by simp only[Yu,Yr];exact pv),(by simp only[Yu,Yr];exact mj),kk,by omega⟩⟩⟩
  have dp:decide (0<i)=true:=Zg (by omega)
  rw[Zd h0] at hO
  have hQ:=hat (i - 1) (by omega)
  generalize hq:l.getD (i - 1) ([],[])=q at hQ hO
  obtain⟨x1,_⟩:=wN (i - 1) q hQ
  have dy: ∀G,ld1 (some (.row rr)) ((i - 1)*2) G=.val (.str q.1) G:=λG=>by rw[Qr (by omega),x1]
  have x11: ∀G,ld1 (some (.row rr)) ((i - 1)*2+0) G=.val (.str q.1) G:=dy
  have ix1:=λG=>RA (sz:=2) (i:=i - 1) (n:=l.length) (by omega) bn 0 none .i64 G
  have sb:=λG=>Ot (a:=i) (b:=1) (by omega) (by omega) G
  generalize hg:WY q.1 p.1=g at hO
  have ge:=λG=>geS q.1 p.1 G
  rw[hg] at ge
  cases g
  ·
   simp(maxSteps:=4000000) (disch:=first|assumption|omega|(simp -implicitDefEqProofs only[ZA,ZB]<;>first|assumption|omega)|decide) only[t1,t7,t8,t9,d1,dz,gN,ix,l2,st,gnn,gq,q0,q1,wO,wP,EC,cf,ct,lwq,lwb,lwn,lws,Pw,Vv,Zn,dp,e1,e2,ad,ix1,sb,ge,dy,x11,Zx,Z2,TL,M6,Z4,Yr,Zy,Zz,Zk,Zm,Zl,Nat.reducePow,Nat.reduceDiv,Nat.reduceMod,Nat.reduceEqDiff,reduceCtorEq,Yu,VW]
   refine⟨_,_,_,rfl,.inl ⟨rfl,l.length - (i+1),by omega,⟨⟨i+1,(by simp only[Yu,Yr]),by omega,rfl,λj hj=>if e:j=i then by rw[e];exact tN.trans hO.symm else hok j (by omega)⟩,(by simp only[Yu,Yr];exact t1'),(by simp only[Yu,Yr];exact pv),(by simp only[Yu,Yr];exact mj),kk,by omega⟩⟩⟩
  ·
   simp(maxSteps:=4000000) (disch:=first|assumption|omega|(simp -implicitDefEqProofs only[ZA,ZB]<;>first|assumption|omega)|decide) only[t1,t7,t8,t9,d1,dz,gN,ix,l2,st,gnn,gq,q0,q1,wO,wP,EC,cf,ct,lwq,lwb,lwn,lws,Pw,Vv,Zn,dp,e1,e2,ad,ix1,sb,ge,dy,x11,Zx,Z2,TL,M6,Z4,Yr,Zy,Zz,Zk,Zm,Zl,Nat.reducePow,Nat.reduceDiv,Nat.reduceMod,Nat.reduceEqDiff,reduceCtorEq,Yu,VW]
   refine⟨_,_,_,rfl,.inr ⟨by simp,kk,.inr ⟨rfl,(by simp only[Yu,Yr]),i,hlt,tN.trans hO.symm⟩⟩⟩
 ·have d1:decide (i<l.length)=false:=Zd hlt
  simp(maxSteps:=4000000) (disch:=first|assumption|omega|(simp -implicitDefEqProofs only[ZA,ZB]<;>first|assumption|omega)|decide) only[t8,t9,d1,Zx,M6,Z4,Yr,Zy,Zz,Zk,Zm,Zl,Nat.reducePow,Nat.reduceDiv,Nat.reduceMod,Nat.reduceEqDiff,reduceCtorEq,Yu,VW]
  refine⟨_,_,_,rfl,.inr ⟨by simp,k0,.inl ⟨rfl,t1',λj hj=>hok j (by omega)⟩⟩⟩
def Ln(md:List UInt8)(l:List NP):Bool:=(List.range l.length).all (Lf l)&&(!NF md&&decide (l.length<=16))
theorem wF(md:List UInt8)(l:List NP):Ln md l=(!NF md&&Jy l):=by
 unfold Ln Jy
 cases(List.range l.length).all (Lf l)<;>cases NF md<;>cases decide (l.length<=16)<;>rfl
theorem jx{ZM:Lib}{fs:T CF}{fuel:Nat}(E:Env ZM fs fuel){k n u:Nat}(hk:2<=k){md s:List UInt8}{l:List NP}{v:AV}{H:Heap}(hs:s.length=32)(hu:u<=1000)(hro:H.ro<=H.nx)(gU: ∀G,ZE H G []->Pj G)(hN:Dt H v l)(hLn:l.length<=100)(hS: ∀i,(l.getD i ([],[])).1.length<=1000∧(l.getD i ([],[])).2.length<=1000):
  ∃H',Yo (LK ZM fs fuel k) fs fuel (n+6) 15 [.agg (.str md::(s.map Y6++[nI .i64 u,v]))] H=.ret (.bool (Ln md l)) H'∧ZE H H' []:=by
 rw[YM (YW E.n15 (.inr rfl) _ _) E.f15]
 obtain⟨cs,hcs⟩: ∃cs,(.str md::(s.map Y6++[nI .i64 u,v]))=cs:=⟨_,rfl⟩
 have ln:cs.length=35:=by rw[<-hcs,Zw,Zo,Zi,hs];rfl
 have o0: ∀G,ld1 (some (rG 27 1 cs 0 false true true)) 0 G=.val (.str md) G:=λG=>by
  rw[ZX (by omega),<-hcs];rfl
 have hc1:cs.getD 33 .unk=nI .i64 u∧cs.getD 34 .unk=v:=by
  rw[<-hcs,Zh,Zh,Y7,Y7,ZY (by rw[Zi,hs];exact Zq _),ZY (by rw[Zi,hs];decide),Zi,hs];exact⟨rfl,rfl⟩
 have xx: ∀G,ld1 (some (rG 27 1 cs 0 false true true)) 33 G=.val (nI .i64 u) G:=λG=>by rw[ZX (by omega),hc1.1]
 have Fo: ∀G,ld1 (some (rG 27 1 cs 0 false true true)) 34 G=.val v G:=λG=>by rw[ZX (by omega),hc1.2]
 rw[hcs]
 obtain⟨H1,hH1⟩: ∃G,H.new (rG 27 1 cs 0 false true true)=G:=⟨_,rfl⟩
 have bx:=Vt (l:=cs) (by omega) 27 H
 rw[hH1] at bx
 have k1:ZE H H1 []:=by rw[<-hH1];exact ZE.new H _ _
 have J8:H1.nx=H.nx+1:=by rw[<-hH1];rfl
 have g1:H1.t.get H.nx=some (rG 27 1 cs 0 false true true):=by rw[<-hH1,Z3 rfl]
 have hN1:=hN.keep k1
 have lnn:=λG=>hN.nt.len G
 simp(maxSteps:=4000000) (disch:=first|assumption|omega|(simp -implicitDefEqProofs only[ZA,ZB]<;>first|assumption|omega)|decide) only[bx,g1,Fo,lnn,c15,Z4,Yr,Zy,Zz,Zk,Zm,Zl,Nat.reduceEqDiff,reduceCtorEq,Yu,VW,SF]
 generalize hL:Wu (M6 _) fuel _ _ _=L
 obtain⟨o,Pi,H2,rfl,_,k2,z⟩:=X9 (P:=λT=>PMI H1 l v H.nx l.length T H1) (Q:=λo tm' H'=>ZE H1 H' []∧((o=.exit 0∧YL tm'=.ptr H.nx 0∧ ∀j,j<l.length->Lf l j=true)∨(o=.ret∧Xw tm'=.bool false∧ ∃j,j<l.length∧Lf l j=false)))
  (λT hi=>Wv (PMI H1 l v H.nx) (λo tm' H'=>ZE H1 H' []∧((o=.exit 0∧YL tm'=.ptr H.nx 0∧ ∀j,j<l.length->Lf l j=true)∨(o=.ret∧Xw tm'=.bool false∧ ∃j,j<l.length∧Lf l j=false))) (λm tm H' h=>eJ E hk (λG hG=>gU G (k1.trans' hG)) hN1 hLn hS (by omega) g1 Fo _ _ _ _ _ m tm H' h) fuel l.length T H1 (by have:=E.big;omega) hi) hL
  (by exact⟨⟨0,rfl,Yv _,by omega,λj hj=>by omega⟩,rfl,rfl,rfl,ZE.refl _ _,by rw[k1.ro];omega⟩)
 have n2:=k2.nx
 rcases z with⟨rfl,t1,hall⟩|⟨rfl,u2,hbad⟩
 ·have hd:Ln md l=(!NF md&&decide (l.length<=16)):=by unfold Ln;rw[HK hall];rfl
  simp only[Od] at t1
  obtain⟨H3,hH3⟩: ∃G,H2.new (rG 9 1 vx 0 false true true)=G:=⟨_,rfl⟩
  have k3:ZE H2 H3 []:=by rw[<-hH3];exact ZE.new _ _ _
  have g3:H3.t.get H2.nx=some (rG 9 1 vx 0 false true true):=by rw[<-hH3];exact Z3 rfl _
  have gb3:H3.t.get H.nx=some (rG 27 1 cs 0 false true true):=by rw[k3.get _ (by omega) (by simp),k2.get _ (by omega) (by simp)];exact g1
  have bs:Su 9 1 4 (List.replicate 4 [(.str [])]).flatten [(0,1,.str CZ),(1,1,.str CY),(2,1,.str C0),(3,1,.str C1)] H2=.val (.slice H2.nx 0 4 none) H3:=by rw[<-hH3];rfl
  have ec:=yP E (k:=k) (n:=n+3) (md:=md) g3
  have d1:decide (0<=u)=true:=Zg (Yv u)
  have d2:decide (u<=1099511627776)=true:=Zg (by omega)
  rw[hd]
  cases hm:NF md
  ·rw[hm] at ec
   have ec:Yo (LK ZM fs fuel k) fs fuel (n+3+2) 26 [.slice H2.nx 0 4 none,.str md] H3=.ret (.bool true) H3:=ec
   by_cases hl:l.length<=16
   ·have d3:decide (l.length<=16)=true:=Zg hl
    rw[d3]
    simp(maxSteps:=4000000) (disch:=first|assumption|omega|(simp -implicitDefEqProofs only[ZA,ZB]<;>first|assumption|omega)|decide) only[t1,bs,gb3,o0,xx,Fo,ec,d1,d2,d3,lnn,Ux,Ym,YY,Wn,Ue,Bool.and_true,Bool.and_false,Wa,Wi,VX,SU,c15,Z4,Yr,Zy,Zz,Zk,Zm,Zl,Nat.reduceEqDiff,reduceCtorEq,Yu,VW,SF]
    refine⟨_,rfl,?_⟩
    exact(k1.trans' k2).trans' k3
   ·have d3:decide (l.length<=16)=false:=Zd hl
    rw[d3]
    simp(maxSteps:=4000000) (disch:=first|assumption|omega|(simp -implicitDefEqProofs only[ZA,ZB]<;>first|assumption|omega)|decide) only[t1,bs,gb3,o0,xx,Fo,ec,d1,d2,d3,lnn,Ux,Ym,YY,Wn,Ue,Bool.and_true,Bool.and_false,Wa,Wi,VX,SU,c15,Z4,Yr,Zy,Zz,Zk,Zm,Zl,Nat.reduceEqDiff,reduceCtorEq,Yu,VW,SF]
    refine⟨_,rfl,?_⟩
    exact(k1.trans' k2).trans' k3
  ·rw[hm] at ec
   have ec:Yo (LK ZM fs fuel k) fs fuel (n+3+2) 26 [.slice H2.nx 0 4 none,.str md] H3=.ret (.bool false) H3:=ec
   simp(maxSteps:=4000000) (disch:=first|assumption|omega|(simp -implicitDefEqProofs only[ZA,ZB]<;>first|assumption|omega)|decide) only[t1,bs,gb3,o0,xx,Fo,ec,d1,d2,lnn,Ux,Ym,YY,Wn,Ue,Wa,Wi,VX,SU,c15,Z4,Yr,Zy,Zz,Zk,Zm,Zl,Nat.reduceEqDiff,reduceCtorEq,Yu,VW,SF]
   refine⟨_,rfl,?_⟩
   exact(k1.trans' k2).trans' k3
 ·have hd:Ln md l=false:=by unfold Ln;rw[GD hbad];rfl
  rw[hd]
  simp only[Ru] at u2
  simp(maxSteps:=4000000) (disch:=first|assumption|omega|(simp -implicitDefEqProofs only[ZA,ZB]<;>first|assumption|omega)|decide) only[u2,c15,Z4,Yr,Zy,Zz,Zk,Zm,Zl,Nat.reduceEqDiff,reduceCtorEq,Yu,VW,SF]
  refine⟨_,rfl,?_⟩
  exact k1.trans' k2
theorem Zau{H:Heap}{b n:Nat}{r:Row}(hn:0<n)(hl:n<=9000)(hb:b<H.nx)(g:H.t.get b=some (.row r))(hs:2*n<=r.size):
  V2 39 2 32 (.slice H.nx 0 0 none) (.slice b 0 n none) (H.new (rG 39 2 [] 0 false true true))=.val (.slice (H.nx+1) 0 n none) ((H.new (rG 39 2 [] 0 false true true)).new (rG 39 2 (loadN r 0 (n*2)) 0 false true false)):=by
 have gc:(H.new (rG 39 2 [] 0 false true true)).t.get b=some (.row r):=by rw[I1 (by omega)];exact g
 have gn:(H.new (rG 39 2 [] 0 false true true)).t.get H.nx=some (rG 39 2 [] 0 false true true):=Z3 rfl _
 show UF (H.new (rG 39 2 [] 0 false true true)) 2 (.slice b 0 n none) n (λnew=>HM (.slice H.nx 0 0 none) 39 2 32 (H.new (rG 39 2 [] 0 false true true)) n new)=_
 unfold UF
 rw[Yx,Zd (by omega)]
 show X6 (H.new (rG 39 2 [] 0 false true true)) b (λr=>ZR (Nat.ble (0+n*2) r.size) (HM (.slice H.nx 0 0 none) 39 2 32 (H.new (rG 39 2 [] 0 false true true)) n (AI.loadN r 0 (n*2))))=_
 unfold X6
 simp only[gc]
 rw[Zj (by omega)]
 show X6 (H.new (rG 39 2 [] 0 false true true)) H.nx _=_
 unfold X6
 simp only[gn]
 show cond (Nat.ble (0+n) 0) _ (tf (H.new (rG 39 2 [] 0 false true true)) 39 H.nx 0 0 n 2 32 none ⟨39,2,YF ([]:List AV),T.ofList [],.unk,0,false,true,true⟩ (loadN r 0 (n*2)))=_
 rw[show Nat.ble (0+n) 0=false by
  cases h:Nat.ble (0+n) 0 with
  |false=>rfl
  |true=>have:=ZQ h;omega]
 show ZR (Nat.ble ((0+n)*32) 140737488355328) (OR.val (.slice (H.nx+1) 0 (0+n) none) (Heap.newRow (H.new (rG 39 2 [] 0 false true true)) 39 2 ([]++loadN r 0 (n*2)) false))=_
 rw[Zj (by omega),Zn];rfl
theorem ZbV{ZM:Lib}{fs:T CF}{fuel:Nat}(E:Env ZM fs fuel){k n:Nat}{H:Heap}{v:AV}{l:List NP}(hN:Dt H v l)(hv:v=.nils∨l≠[])(hl:l.length<=100):
  ∃v' H',Yo (LK ZM fs fuel k) fs fuel (n+1) 14 [v] H=.ret v' H'∧ZE H H' []∧Dt H' v' l:=by
 rw[YM (YW E.n14 (.inr rfl) _ _) E.f14]
 rcases hN with⟨rfl,rfl⟩|⟨b,r,rfl,hb,g,sz,hs,w⟩
 ·have en: ∀G:Heap,Eo gu false .nils .nils G=.val (.bool true) G:=λ_=>rfl
  simp(maxSteps:=4000000) (disch:=first|assumption|omega|(simp -implicitDefEqProofs only[ZA,ZB]<;>first|assumption|omega)|decide) only[en,c14,Z4,Yr,Zy,Zz,Zk,Zm,Zl,Nat.reduceEqDiff,reduceCtorEq,Yu]
  refine⟨_,_,rfl,ZE.refl _ _,.inl ⟨rfl,rfl⟩⟩
 ·have hne:l≠[]:=hv.elim (λh=>by cases h) (λh=>h)
  have hp:0<l.length:=UN.2 hne
  have en: ∀(n:Nat) (G:Heap),Eo gu false (.slice b 0 n none) .nils G=.val (.bool false) G:=λ_ _=>rfl
  have bs:Su 39 2 0 (List.replicate 0 [(.str []),(.str [])]).flatten [] H=.val (.slice H.nx 0 0 none) (H.new (rG 39 2 [] 0 false true true)):=rfl
  have ea:=Zau hp (by omega) hb g hs
  simp(maxSteps:=4000000) (disch:=first|assumption|omega|(simp -implicitDefEqProofs only[ZA,ZB]<;>first|assumption|omega)|decide) only[en,bs,ea,Ux,TW,YY,c14,Z4,Yr,Zy,Zz,Zk,Zm,Zl,Nat.reduceEqDiff,reduceCtorEq,Yu]
  refine⟨_,_,rfl,(ZE.new H _ _).then_new _,.inr ⟨H.nx+1,_,rfl,Yq _,Z3 rfl _,rfl,?_,λi p hp=>?_⟩⟩
  ·show 2*l.length<=YF (loadN r 0 (l.length*2));rw[Yt,Sz];omega
  ·obtain⟨hi,_⟩:=XH.1 hp
   obtain⟨w1,w2⟩:=w i p hp
   have hc:Cells ⟨39,2,YF (loadN r 0 (l.length*2)),T.ofList (loadN r 0 (l.length*2)),.unk,0,false,true,false⟩ (loadN r 0 (l.length*2)):=Cells.new ..
   have gt: ∀j,j<l.length*2->(loadN r 0 (l.length*2)).getD j .unk=r.get j:=λj hj=>by
    rw[Zh,Qs r _ 0 j hj,Zn];rfl
   refine⟨?_,?_⟩
   ·rw[<-w1,<-gt _ (by omega)];exact hc.get _ (by rw[Sz];omega)
   ·rw[<-w2,<-gt _ (by omega)];exact hc.get _ (by rw[Sz];omega)
structure NOI(H0:Heap)(l:List NP)(nm:List UInt8)(v:AV)(m:Nat)(tm:TM)(H:Heap):Prop where
 i: ∃i,Ye tm=nI .i64 i∧i<=l.length∧m=l.length - i∧ ∀j,j<i->(l.getD j ([],[])).1≠nm
 t1:YL tm=.str nm
 t9:Wq tm=v
 t10:YA tm=nI .i64 l.length
 k:ZE H0 H []
 ro:H.ro<=H.nx
def NOQ(H0:Heap)(l:List NP)(nm:List UInt8)(o:Out)(tm:TM)(H:Heap):Prop:=ZE H0 H []∧((o=.exit 0∧ ∀j,j<l.length->(l.getD j ([],[])).1≠nm)∨(o=.ret∧ ∃j,j<l.length∧(l.getD j ([],[])).1=nm∧YT tm=.str (l.getD j ([],[])).2∧XW tm=.bool true))
theorem fN{H0:Heap}{l:List NP}{nm:List UInt8}{v:AV}(hN:Dt H0 v l)(hLn:l.length<=100)(cx:Ctx)(x:X)(m:Nat)(tm:TM)(H:Heap)(hI:NOI H0 l nm v m tm H):
  ∃o tm' H',A8 cx tm H x=.ok o tm' H' x∧((o=.normal∧ ∃q,q<m∧NOI H0 l nm v q tm' H')∨(o≠.normal∧NOQ H0 l nm o tm' H')):=by
 obtain⟨⟨i,t11,hi,rfl,hok⟩,t1,t9,t10,k0,hro⟩:=hI
 have nx0:=k0.nx
 have t1':=t1;have t9':=t9;have rj:=t10
 simp only[Od,Ji,Nu,R3] at t1 t9 t10 t11
 by_cases hlt:i<l.length
 ·have d1:decide (i<l.length)=true:=Zg hlt
  rcases hN with⟨rfl,rfl⟩|⟨bn,rr,rfl,hbb,gI,szr,hsr,wN⟩
  ·exact absurd hlt (by simp)
  have gN:H.t.get bn=some (.row rr):=by rw[k0.get bn hbb (by simp)];exact gI
  have hP:l[i]? =some (l.getD i ([],[])):=by rw[Zh,Zr hlt];rfl
  obtain⟨w1,w2⟩:=wN i _ hP
  generalize hp:l.getD i ([],[])=p at w1 w2
  have l2: ∀G,Gv 2 (some (.row rr)) (i*2) G=.val (.agg [.str p.1,.str p.2]) G:=λG=>by
   show ZR (Nat.ble (i*2+2) rr.size) (.val (.agg [rr.get (i*2),rr.get (i*2+1)]) G)=_
   rw[Zj (by omega),w1,w2];rfl
  have ix:=λG=>RA (sz:=2) hlt bn 0 none .i64 G
  obtain⟨H1,hH1⟩: ∃G,H.new (rG 39 1 [.str p.1,.str p.2] 0 false true true)=G:=⟨_,rfl⟩
  have n1:H1.nx=H.nx+1:=by rw[<-hH1];rfl
  have k1:ZE H H1 []:=by rw[<-hH1];exact ZE.new _ _ _
  have r1:=k1.ro
  have st:re 2 (some (rG 39 1 [.str [],.str []] 0 false true true)) H.nx 0 (.agg [.str p.1,.str p.2]) (H.new (rG 39 1 [.str [],.str []] 0 false true true))=.val YZ H1:=by
   rw[PJ (n:=2) (l:=[.str [],.str []]) (vs:=[.str p.1,.str p.2]) (H:=H.new (rG 39 1 [.str [],.str []] 0 false true true)) rfl rfl (by decide) hro,Py rfl,hH1]
  have gnn: ∀ob,(H.new ob).t.get H.nx=some ob:=λob=>Z3 rfl ob
  have gq:H1.t.get H.nx=some (rG 39 1 [.str p.1,.str p.2] 0 false true true):=by rw[<-hH1];exact gnn _
  have q0: ∀G,ld1 (some (rG 39 1 [.str p.1,.str p.2] 0 false true true)) 0 G=.val (.str p.1) G:=λG=>ZX (show 0<2 by decide) ..
  have q1: ∀G,ld1 (some (rG 39 1 [.str p.1,.str p.2] 0 false true true)) 1 G=.val (.str p.2) G:=λG=>ZX (show 1<2 by decide) ..
  have kk:=k0.trans k1 (by simp)
  have ad:=λG=>WM (a:=i) (b:=1) (by omega) G
  by_cases hz:p.1=nm
  ·have dz:decide (p.1=nm)=true:=Zg hz
   simp(maxSteps:=4000000) (disch:=first|assumption|omega|(simp -implicitDefEqProofs only[ZA,ZB]<;>first|assumption|omega)|decide) only[t1,t9,t10,t11,d1,dz,gN,ix,l2,st,gnn,gq,q0,q1,ad,Vv,Zx,TL,Zn,A8,Z4,Yr,Zy,Zz,Zk,Zm,Zl,Nat.reduceEqDiff,reduceCtorEq,Yu]
   refine⟨_,_,_,rfl,.inr ⟨by simp,kk,.inr ⟨rfl,i,hlt,by rw[hp];exact hz,by rw[hp];rfl,rfl⟩⟩⟩
  ·have dz:decide (p.1=nm)=false:=Zd hz
   simp(maxSteps:=4000000) (disch:=first|assumption|omega|(simp -implicitDefEqProofs only[ZA,ZB]<;>first|assumption|omega)|decide) only[t1,t9,t10,t11,d1,dz,gN,ix,l2,st,gnn,gq,q0,q1,ad,Vv,Zx,TL,Zn,A8,Z4,Yr,Zy,Zz,Zk,Zm,Zl,Nat.reduceEqDiff,reduceCtorEq,Yu]
   refine⟨_,_,_,rfl,.inl ⟨rfl,l.length - (i+1),by omega,⟨⟨i+1,rfl,by omega,rfl,λj hj=>if e:j=i then by rw[e,hp];exact hz else hok j (by omega)⟩,t1',t9',rj,kk,by omega⟩⟩⟩
 ·have d1:decide (i<l.length)=false:=Zd hlt
  simp(maxSteps:=4000000) (disch:=first|assumption|omega|(simp -implicitDefEqProofs only[ZA,ZB]<;>first|assumption|omega)|decide) only[t10,t11,d1,Zx,A8,Z4,Yr,Zy,Zz,Zk,Zm,Zl,Nat.reduceEqDiff,reduceCtorEq,Yu]
  refine⟨_,_,_,rfl,.inr ⟨by simp,k0,.inl ⟨rfl,λj hj=>hok j (by omega)⟩⟩⟩
theorem kU{ZM:Lib}{fs:T CF}{fuel:Nat}(E:Env ZM fs fuel){k n u:Nat}{md s nm:List UInt8}{l:List NP}{v:AV}{H:Heap}(hs:s.length=32)(hro:H.ro<=H.nx)(hN:Dt H v l)(hLn:l.length<=100):
  ∃H' w is,Yo (LK ZM fs fuel k) fs fuel (n+1) 9 [.agg (.str md::(s.map Y6++[nI .i64 u,v])),.str nm] H=.ret (.tup [.str w,.bool is]) H'∧ZE H H' []∧((is=false∧w=[]∧ ∀j,j<l.length->(l.getD j ([],[])).1≠nm)∨(is=true∧ ∃j,j<l.length∧(l.getD j ([],[])).1=nm∧w=(l.getD j ([],[])).2)):=by
 rw[YM (YW E.n9 (.inr rfl) _ _) E.f9]
 obtain⟨cs,hcs⟩: ∃cs,(.str md::(s.map Y6++[nI .i64 u,v]))=cs:=⟨_,rfl⟩
 have ln:cs.length=35:=by rw[<-hcs,Zw,Zo,Zi,hs];rfl
 have hc1:cs.getD 34 .unk=v:=by
  rw[<-hcs,Zh,Y7,ZY (by rw[Zi,hs];decide),Zi,hs];rfl
 have Fo: ∀G,ld1 (some (rG 27 1 cs 0 false true true)) 34 G=.val v G:=λG=>by rw[ZX (by omega),hc1]
 rw[hcs]
 obtain⟨H1,hH1⟩: ∃G,H.new (rG 27 1 cs 0 false true true)=G:=⟨_,rfl⟩
 have bx:=Vt (l:=cs) (by omega) 27 H
 rw[hH1] at bx
 have k1:ZE H H1 []:=by rw[<-hH1];exact ZE.new H _ _
 have J8:H1.nx=H.nx+1:=by rw[<-hH1];rfl
 have g1:H1.t.get H.nx=some (rG 27 1 cs 0 false true true):=by rw[<-hH1,Z3 rfl]
 have hN1:=hN.keep k1
 have lnn:=λG=>hN.nt.len G
 simp(maxSteps:=4000000) (disch:=first|assumption|omega|(simp -implicitDefEqProofs only[ZA,ZB]<;>first|assumption|omega)|decide) only[bx,g1,Fo,lnn,c9,Z4,Yr,Zy,Zz,Zk,Zm,Zl,Nat.reduceEqDiff,reduceCtorEq,Yu]
 generalize hL:Wu (A8 _) fuel _ _ _=L
 obtain⟨o,Pi,H2,rfl,_,k2,z⟩:=X9 (P:=λT=>NOI H1 l nm v l.length T H1) (Q:=NOQ H1 l nm)
  (λT hi=>Wv (NOI H1 l nm v) (NOQ H1 l nm) (λm tm H' h=>fN hN1 hLn _ _ m tm H' h) fuel l.length T H1 (by have:=E.big;omega) hi) hL
  (by exact⟨⟨0,rfl,Yv _,by omega,λj hj=>by omega⟩,rfl,rfl,rfl,ZE.refl _ _,by rw[k1.ro];omega⟩)
 rcases z with⟨rfl,hall⟩|⟨rfl,j,hj,he,u4,u5⟩
 ·refine⟨H2,[],false,?_,k1.trans' k2,.inl ⟨rfl,rfl,hall⟩⟩
  simp(maxSteps:=4000000) (disch:=first|assumption|omega|(simp -implicitDefEqProofs only[ZA,ZB]<;>first|assumption|omega)|decide) only[Zx,c9,Z4,Yr,Zy,Zz,Zk,Zm,Zl,Nat.reduceEqDiff,reduceCtorEq,Yu]
 ·refine⟨H2,_,true,?_,k1.trans' k2,.inr ⟨rfl,j,hj,he,rfl⟩⟩
  simp only[T7,Pc] at u4 u5
  simp(maxSteps:=4000000) (disch:=first|assumption|omega|(simp -implicitDefEqProofs only[ZA,ZB]<;>first|assumption|omega)|decide) only[u4,u5,c9,Z4,Yr,Zy,Zz,Zk,Zm,Zl,Nat.reduceEqDiff,reduceCtorEq,Yu]
def M5:List AV:=[.str [],nI .u8 0,nI .u8 0,nI .u8 0,nI .u8 0,nI .u8 0,nI .u8 0,nI .u8 0,nI .u8 0,nI .u8 0,nI .u8 0,nI .u8 0,nI .u8 0,nI .u8 0,nI .u8 0,nI .u8 0,nI .u8 0,nI .u8 0,nI .u8 0,nI .u8 0,nI .u8 0,nI .u8 0,nI .u8 0,nI .u8 0,nI .u8 0,nI .u8 0,nI .u8 0,nI .u8 0,nI .u8 0,nI .u8 0,nI .u8 0,nI .u8 0,nI .u8 0,nI .i64 0,.nils]
theorem Fs:[.str [],nI .u8 0,nI .u8 0,nI .u8 0,nI .u8 0,nI .u8 0,nI .u8 0,nI .u8 0,nI .u8 0,nI .u8 0,nI .u8 0,nI .u8 0,nI .u8 0,nI .u8 0,nI .u8 0,nI .u8 0,nI .u8 0,nI .u8 0,nI .u8 0,nI .u8 0,nI .u8 0,nI .u8 0,nI .u8 0,nI .u8 0,nI .u8 0,nI .u8 0,nI .u8 0,nI .u8 0,nI .u8 0,nI .u8 0,nI .u8 0,nI .u8 0,nI .u8 0,nI .i64 0,.nils]=M5:=rfl
def P2(md:List UInt8)(X:List UInt8)(u:Nat)(v:AV):List AV:=.str md::(X.map Y6++[nI .i64 u,v])
theorem HD{md X:List UInt8}{u:Nat}{v:AV}(h:X.length=32):(P2 md X u v).length=35:=by
 unfold P2;rw[Zw,Zo,Zi,h];rfl
theorem yL{md X:List UInt8}{u:Nat}{v:AV}(hX:X.length=32)(hv:v.cells=[v])(G:Heap):RW M5 [(0,1,.str md),(1,32,.agg (X.map Y6)),(33,1,nI .i64 u),(34,1,v)] G=.val (.agg (P2 md X u v)) G:=by
 have hl:(X.map Y6).length=32:=by rw[Zi,hX]
 unfold M5 P2
 rw[K2,Lr (FG md) (by simp),pR hl (by decide) (by simp),xf _ _ _ (by rw[hl];simp),hl]
 generalize X.map Y6=Y at hl
 rw[show((.str []::[nI .u8 0,nI .u8 0,nI .u8 0,nI .u8 0,nI .u8 0,nI .u8 0,nI .u8 0,nI .u8 0,nI .u8 0,nI .u8 0,nI .u8 0,nI .u8 0,nI .u8 0,nI .u8 0,nI .u8 0,nI .u8 0,nI .u8 0,nI .u8 0,nI .u8 0,nI .u8 0,nI .u8 0,nI .u8 0,nI .u8 0,nI .u8 0,nI .u8 0,nI .u8 0,nI .u8 0,nI .u8 0,nI .u8 0,nI .u8 0,nI .u8 0,nI .u8 0,nI .i64 0,.nils]:List AV).set 0 (.str md)).take 1=[.str md] from rfl,show((.str []::[nI .u8 0,nI .u8 0,nI .u8 0,nI .u8 0,nI .u8 0,nI .u8 0,nI .u8 0,nI .u8 0,nI .u8 0,nI .u8 0,nI .u8 0,nI .u8 0,nI .u8 0,nI .u8 0,nI .u8 0,nI .u8 0,nI .u8 0,nI .u8 0,nI .u8 0,nI .u8 0,nI .u8 0,nI .u8 0,nI .u8 0,nI .u8 0,nI .u8 0,nI .u8 0,nI .u8 0,nI .u8 0,nI .u8 0,nI .u8 0,nI .u8 0,nI .u8 0,nI .i64 0,.nils]:List AV).set 0 (.str md)).drop (1+32)=[nI .i64 0,.nils] from rfl]
 rw[Lr (HR .i64 u) (by simp[hl]),Lr hv (by simp[hl])]
 show OR.val (.agg _) G=_
 congr 2
 show((.str md::(Y++[nI .i64 0,.nils]):List AV).set 33 (nI .i64 u)).set 34 v=_
 rw[VQ,VQ,Ua _ _ (by omega),Ua _ _ (by omega),hl];rfl
theorem FP{e n o:Nat}{cs l:List AV}(h:o+n<=cs.length)(hl:(cs.drop o).take n=l)(G:Heap):Gv n (some (rG e 1 cs 0 false true true)) o G=.val (.agg l) G:=by
 have hc:Cells ⟨e,1,YF cs,T.ofList cs,.unk,0,false,true,true⟩ cs:=Cells.new ..
 show ZR (Nat.ble (o+n) (YF cs)) (.val (.agg (loadN ⟨e,1,YF cs,T.ofList cs,.unk,0,false,true,true⟩ o n)) G)=_
 rw[hc.load h,hl,Yt,Zj h];rfl
theorem rH{md X:List UInt8}{u:Nat}{v:AV}(h:X.length=32):((P2 md X u v).drop 1).take 32=X.map Y6:=by
 unfold P2
 show(X.map Y6++[nI .i64 u,v]).take 32=_
 rw[Uk (by rw[Zi,h];exact Zq _),YH (by rw[Zi,h];exact Zq _)]
theorem uX{md X:List UInt8}{u:Nat}{v:AV}(h:X.length=32):(P2 md X u v).getD 33 .unk=nI .i64 u∧(P2 md X u v).getD 34 .unk=v:=by
 unfold P2
 rw[Zh,Zh,Y7,Y7,ZY (by rw[Zi,h];exact Zq _),ZY (by rw[Zi,h];decide),Zi,h];exact⟨rfl,rfl⟩
theorem vp(n:Nat): ∀l:List UInt8,Pd n (l.map Y6)=true
 |[]=>rfl
 |_::l=>vp n l
theorem LF(e:Nat)(tm:TM)(H:Heap):Ws e M5 tm H=.val (.ptr H.nx 0) (H.new (rG e 1 M5 0 false true true)):=Vv ..
theorem Dt.put{H:Heap}{v:AV}{l:List NP}{q:Nat}{r0:Row}(h:Dt H v l)(g:H.t.get q=some (.row r0))(hs:r0.sz=1)(o:Obj):Dt (H.put q o) v l:=by
 rcases h with h|⟨b,r,e,hb,gb,sz,w⟩
 ·exact .inl h
 ·refine .inr ⟨b,r,e,hb,?_,sz,w⟩
  rw[R0 (λe=>?_)]
  ·exact gb
  ·subst e;rw[g] at gb;cases gb;omega
theorem hJ:Go.Proofs.Tryz.prog.underlying 25=some (.array 32 5):=Go.Proofs.Tryz.underlying25
theorem Zcc:Go.Proofs.Tryz.prog.underlying 5=some (.int .u8):=Go.Proofs.Tryz.underlying5
theorem dq: ∃i,Go.Proofs.Tryz.prog.info? 5=some i∧i.size=1:=by
 have h:((Go.Proofs.Tryz.prog.info? 5).map (·.size))=some 1:=by kernel_rfl
 obtain⟨i,h1,h2⟩:=Option.map_eq_some_iff.1 h
 exact⟨i,h1,h2⟩
theorem mZ{l:List UInt8}(hl:l.length=32)(H:Heap):Eo (zj Go.Proofs.Tryz.prog 10 25) false (.agg (l.map Y6)) (.agg (l.map Y6)) H=.val (.bool true) H:=by
 obtain⟨i,h1,h2⟩:=dq
 have:=pQ (d:=8) hJ Zcc h1 h2 l l hl hl H
 rw[Zg rfl] at this;exact this
theorem vw{ZM:Lib}{fs:T CF}{fuel:Nat}(E:Env ZM fs fuel){k n:Nat}{md dg:List UInt8}{v bv:AV}{u:Nat}{H:Heap}(hd:dg.length=32)(hro:H.ro<=H.nx)(lv: ∀G,Ko bv G=.val (nI .i64 u) G)(lb: ∀m,H.nx<=m->Va m bv=true)(sb: ∀m T,To (.val bv ⟨m,T,m⟩) bv m=true)(sh: ∀G,ZE H G []->ZM 13 [bv] G=some (.ret (.agg (dg.map Y6)) G)):
  ∃H',Yo (LK ZM fs fuel k) fs fuel (n+2) 12 [.agg (P2 md dg u v),bv] H=.ret (.bool true) H'∧ZE H H' []:=by
 rw[YM (YW E.n12 (.inr rfl) _ _) E.f12]
 obtain⟨cs,hcs⟩: ∃cs,P2 md dg u v=cs:=⟨_,rfl⟩
 have ln:cs.length=35:=by rw[<-hcs];exact HD hd
 have xx: ∀G,ld1 (some (rG 27 1 cs 0 false true true)) 33 G=.val (nI .i64 u) G:=λG=>by rw[ZX (by omega),<-hcs,(uX hd).1]
 have o32: ∀G,Gv 32 (some (rG 27 1 cs 0 false true true)) 1 G=.val (.agg (dg.map Y6)) G:=λG=>FP (by omega) (by rw[<-hcs];exact rH hd) G
 rw[hcs]
 obtain⟨H1,hH1⟩: ∃G,H.new (rG 27 1 cs 0 false true true)=G:=⟨_,rfl⟩
 have bx:=Vt (l:=cs) (by omega) 27 H
 rw[hH1] at bx
 have k1:ZE H H1 []:=by rw[<-hH1];exact ZE.new H _ _
 have J8:H1.nx=H.nx+1:=by rw[<-hH1];rfl
 have g1:H1.t.get H.nx=some (rG 27 1 cs 0 false true true):=by rw[<-hH1,Z3 rfl]
 have es: ∀{j},Yo (LK ZM fs fuel k) fs fuel (j+1) 13 [bv] H1=.ret (.agg (dg.map Y6)) H1:=λ{j}=>HN rfl (sh H1 k1)
 have eq1:=mZ hd
 have sm:=Oe (F4 dg)
 have lb1:=lb H1.nx (by omega)
 have lwp:=λo=>Z6 (n:=H1.nx) (b:=H.nx) (by omega) o
 have lwd:=vp H1.nx dg
 have du:decide (u=u)=true:=Zg rfl
 simp(maxSteps:=4000000) (disch:=first|assumption|omega|(simp -implicitDefEqProofs only[ZA,ZB]<;>first|assumption|omega)|decide) only[bx,g1,xx,o32,lv,es,eq1,sm,sb,lb1,lwp,lwd,du,YK,Pw,Gx,c12,Z4,Yr,Zy,Zz,Zk,Zm,Zl,Nat.reducePow,Nat.reduceDiv,Nat.reduceMod,Nat.reduceEqDiff,reduceCtorEq,Yu]
 refine⟨_,rfl,?_⟩
 exact k1
theorem yT{ZM:Lib}{fs:T CF}{fuel:Nat}(E:Env ZM fs fuel){k n:Nat}(hk:2<=k){md dg:List UInt8}{l:List NP}{nv bv:AV}{u:Nat}{H:Heap}(hd:dg.length=32)(hu:u<=1000)(hro:H.ro<=H.nx)(gU: ∀G,ZE H G []->Pj G)(lv: ∀G,Ko bv G=.val (nI .i64 u) G)(sh: ∀G,ZE H G []->ZM 13 [bv] G=some (.ret (.agg (dg.map Y6)) G))
  (hN:Dt H nv l)(hv:nv=.nils∨l≠[])(hLn:l.length<=100)(hS: ∀i,(l.getD i ([],[])).1.length<=1000∧(l.getD i ([],[])).2.length<=1000):
  ∃H' v',Yo (LK ZM fs fuel k) fs fuel (n+7) 5 [.str md,bv,nv] H=.ret (if Ln md l then .tup [.agg (P2 md dg u v'),nI .i64 0] else .tup [.agg M5,nI .i64 1]) H'∧ZE H H' []∧Dt H' v' l∧v'.cells=[v']:=by
 rw[YM (YW E.n5 (.inr rfl) _ _) E.f5]
 obtain⟨H1,hH1⟩: ∃G,H.new (rG 27 1 M5 0 false true true)=G:=⟨_,rfl⟩
 have k1:ZE H H1 []:=by rw[<-hH1];exact ZE.new H _ _
 have J8:H1.nx=H.nx+1:=by rw[<-hH1];rfl
 have g1:H1.t.get H.nx=some (rG 27 1 M5 0 false true true):=by rw[<-hH1,Z3 rfl]
 have es: ∀{j},Yo (LK ZM fs fuel k) fs fuel (j+1) 13 [bv] H1=.ret (.agg (dg.map Y6)) H1:=λ{j}=>HN rfl (sh H1 k1)
 obtain⟨v',H2,ec,k2,hN2⟩:=ZbV E (k:=k) (n:=n+5) (hN.keep k1) hv hLn
 have hvc:v'.cells=[v']:=by rcases hN2 with⟨_,rfl⟩|⟨_,_,rfl,_⟩<;>rfl
 have n2:=k2.nx
 have bd:=yL (md:=md) (u:=u) hd hvc
 obtain⟨H3,hH3⟩: ∃G,H2.new (rG 27 1 (P2 md dg u v') 0 false true true)=G:=⟨_,rfl⟩
 have k3:ZE H2 H3 []:=by rw[<-hH3];exact ZE.new _ _ _
 have bJ:H3.nx=H2.nx+1:=by rw[<-hH3];rfl
 have g3:H3.t.get H2.nx=some (rG 27 1 (P2 md dg u v') 0 false true true):=by rw[<-hH3];exact Z3 rfl _
 have gn2: ∀ob,(H2.new ob).t.get H2.nx=some ob:=λob=>Z3 rfl ob
 have hl:=HD (md:=md) (u:=u) (v:=v') hd
 have WZ:re 35 (some (rG 27 1 M5 0 false true true)) H2.nx 0 (.agg (P2 md dg u v')) (H2.new (rG 27 1 M5 0 false true true))=.val YZ H3:=by
  rw[PJ (n:=35) (l:=M5) (vs:=P2 md dg u v') (H:=H2.new (rG 27 1 M5 0 false true true)) rfl hl (by decide) (by show H2.ro<=_;rw[k2.ro,k1.ro];omega),Py rfl,hH3]
 have l35: ∀G,Gv 35 (some (rG 27 1 (P2 md dg u v') 0 false true true)) 0 G=.val (.agg (P2 md dg u v')) G:=λG=>FP (by omega) (by rw[Y8,YH (by omega)]) G
 have k03:ZE H H3 []:=(k1.trans' k2).trans' k3
 obtain⟨H4,em,k4⟩:=jx E (k:=k) (n:=n) hk (md:=md) (u:=u) (s:=dg) (l:=l) (v:=v') (H:=H3) hd hu (by rw[k03.ro];have:=k03.nx;omega) (λG hG=>gU G (k03.trans' hG)) (hN2.keep k3) hLn hS
 have em:Yo (LK ZM fs fuel k) fs fuel (n+6) 15 [.agg (P2 md dg u v')] H3=.ret (.bool (Ln md l)) H4:=em
 have n4:=k4.nx
 have g4:H4.t.get H2.nx=some (rG 27 1 (P2 md dg u v') 0 false true true):=by rw[k4.get _ (by omega) (by simp)];exact g3
 have g41:H4.t.get H.nx=some (rG 27 1 M5 0 false true true):=by rw[k4.get _ (by omega) (by simp),k3.get _ (by omega) (by simp),k2.get _ (by omega) (by simp)];exact g1
 have k04:=k03.trans' k4
 have ro4:H4.ro<=H.nx:=by rw[k04.ro];exact hro
 have bz: ∀G,RW M5 [] G=.val (.agg M5) G:=λ_=>rfl
 have stA:=λvs (h:vs.length=35)=>PJ (n:=35) (b:=H.nx) (l:=M5) (vs:=vs) (H:=H4) rfl h (by decide) ro4 27 1 false true
 have sA:=stA _ hl
 have sB:=stA M5 rfl
 have rv:=λ(l:List AV) (h:l.length=35) k=>xK (n:=35) (e:=27) (sz:=1) (l:=l) (fz:=0) (sm:=false) (own:=true) (ex:=true) h k
 have rA:=rv _ hl
 have rB:=rv M5 rfl
 generalize hb:Ln md l=bo at em
 refine⟨H4.put H.nx (rG 27 1 (if bo then P2 md dg u v' else M5) 0 false true true),v',?_,k04.then_put λh=>by omega,(hN2.keep (k3.trans' k4)).put g41 rfl _,hvc⟩
 cases bo
 ·simp only[XA,if_false]
  simp(maxSteps:=4000000) (disch:=first|assumption|omega|(simp -implicitDefEqProofs only[ZA,ZB]<;>first|assumption|omega)|decide) only[Fs,LF,hH1,es,ec,lv,bd,WZ,hH3,gn2,g3,l35,em,g4,g41,bz,SG,Vv,Tq,Ym,YY,sB,rB,c5,Z4,Yr,Zy,Zz,Zk,Zm,Zl,Nat.reduceEqDiff,reduceCtorEq,Yu]
 ·simp only[if_true]
  simp(maxSteps:=4000000) (disch:=first|assumption|omega|(simp -implicitDefEqProofs only[ZA,ZB]<;>first|assumption|omega)|decide) only[Fs,LF,hH1,es,ec,lv,bd,WZ,hH3,gn2,g3,l35,em,g4,g41,bz,SG,Vv,Tq,Ym,YY,sA,rA,c5,Z4,Yr,Zy,Zz,Zk,Zm,Zl,Nat.reduceEqDiff,reduceCtorEq,Yu]
def iB(H:Heap)(v:AV)(l:List NP):Prop:=(l=[]∧(v=.nils∨ ∃b o c,v=.slice b o 0 c))∨ ∃b c r,v=.slice b 0 l.length c∧b<H.nx∧H.t.get b=some (.row r)∧2*l.length<=r.size∧ ∀i p,l[i]? =some p->r.get (i*2)=.str p.1∧r.get (i*2+1)=.str p.2
theorem iB.len{H:Heap}{v:AV}{l:List NP}(h:iB H v l)(G:Heap):Ko v G=.val (nI .i64 l.length) G:=by
 rcases h with⟨rfl,rfl|⟨b,o,c,rfl⟩⟩|⟨b,c,r,rfl,_⟩
 ·rfl
 ·exact Z5 ..
 ·exact Z5 ..
theorem iB.keep{H H':Heap}{v:AV}{l:List NP}(h:iB H v l)(k:ZE H H' []):iB H' v l:=by
 rcases h with h|⟨b,c,r,e,hb,g,w⟩
 ·exact .inl h
 ·exact .inr ⟨b,c,r,e,ZI hb k.nx,by rw[k.get b hb (by simp)];exact g,w⟩
def mU(p:NP):NP:=(p.1.take 300,p.2.take 600)
def DO(l:List NP):List NP:=(l.take 20).map mU
def Hl(l:List NP):List (List AV):=l.map λp=>[.str p.1,.str p.2]
structure FWI(H0:Heap)(l:List NP)(v:AV)(b lo:Nat)(m:Nat)(tm:TM)(H:Heap):Prop where
 i: ∃i,YT tm=nI .i64 i∧i<=l.length∧i<=20∧m=20 - i∧KY H (Xa tm) 39 2 (Hl ((l.take i).map mU)) lo
 t1:YL tm=.ptr b 0
 t2:Xw tm=.ptr (b+1) 0
 k:Below lo H0 H
def FWQ(H0:Heap)(l:List NP)(b lo:Nat)(o:Out)(tm:TM)(H:Heap):Prop:=o=.exit 0∧YL tm=.ptr b 0∧Xw tm=.ptr (b+1) 0∧Below lo H0 H∧KY H (Xa tm) 39 2 (Hl (DO l)) lo
theorem gG{H0:Heap}{l:List NP}{v:AV}{b lo:Nat}{cs:List AV}(hN:iB H0 v l)(hbn:b<lo)(hlo:lo<=H0.nx)(hro:H0.ro<=H0.nx)(hb:H0.t.get b=some (rG 27 1 cs 0 false true true))(EC: ∀G,ld1 (some (rG 27 1 cs 0 false true true)) 34 G=.val v G)(bj: ∀bn o n c,v=.slice bn o n c->bn<lo)(cx:Ctx)(x:X)(m:Nat)(tm:TM)(H:Heap)(hI:FWI H0 l v b lo m tm H):
  ∃o tm' H',AZ cx tm H x=.ok o tm' H' x∧((o=.normal∧ ∃q,q<m∧FWI H0 l v b lo q tm' H')∨(o≠.normal∧FWQ H0 l b lo o tm' H')):=by
 obtain⟨⟨i,t4,hi,h20,rfl,hbuf⟩,t1,t2,k0⟩:=hI
 have nx0:=k0.nx
 have t1':=t1;have t2':=t2
 obtain⟨w,hw⟩: ∃w,Xa tm=w:=⟨_,rfl⟩
 rw[hw] at hbuf
 have hw':=hw
 simp only[TB] at hw
 simp only[Od,T7] at t1 t4
 have lnn:=λG=>hN.len G
 have gB:H.t.get b=some (rG 27 1 cs 0 false true true):=by rw[k0.get b hbn (by omega)];exact hb
 have hroH:H.ro<=H.nx:=by rw[k0.ro];omega
 by_cases hlt:i<l.length
 ·have d1:decide (i<l.length)=true:=Zg hlt
  by_cases h2:i<20
  ·have d2:decide (i<20)=true:=Zg h2
   rcases hN with⟨rfl,_⟩|⟨bn,cp,rr,rfl,hbb,gI,hsr,wN⟩
   ·exact absurd hlt (by simp)
   have gN:H.t.get bn=some (.row rr):=by rw[k0.get bn (bj _ _ _ _ rfl) (by omega)];exact gI
   have hP:l[i]? =some (l.getD i ([],[])):=by rw[Zh,Zr hlt];rfl
   obtain⟨w1,w2⟩:=wN i _ hP
   have htk:(l.take (i+1)).map mU=(l.take i).map mU++[mU (l.getD i ([],[]))]:=by
    rw[List.take_add_one,Zr hlt,YX,Zh,Zr hlt];rfl
   generalize hp:l.getD i ([],[])=p at w1 w2 htk
   have u1: ∀G,ld1 (some (.row rr)) (i*2) G=.val (.str p.1) G:=λG=>by rw[Qr (by omega),w1]
   have u10: ∀G,ld1 (some (.row rr)) (i*2+0) G=.val (.str p.1) G:=u1
   have u2: ∀G,ld1 (some (.row rr)) (i*2+1) G=.val (.str p.2) G:=λG=>by rw[Qr (by omega),w2]
   have ix:=λG=>RA (sz:=2) hlt bn 0 cp .i64 G
   have mn1:=λG=>C4 p.1.length 300 G
   have mn2:=λG=>C4 p.2.length 600 G
   have sl1: ∀G,Ky (.str p.1) none (some (nI .i64 (min p.1.length 300))) G=.val (.str (p.1.take 300)) G:=λG=>by
    rw[Bz (Nat.min_le_left _ _)];congr 2;rw[Pm,<-List.take_take,WT]
   have sl2: ∀G,Ky (.str p.2) none (some (nI .i64 (min p.2.length 600))) G=.val (.str (p.2.take 600)) G:=λG=>by
    rw[Bz (Nat.min_le_left _ _)];congr 2;rw[Pm,<-List.take_take,WT]
   have bs: ∀G,Su 39 2 1 [.str [],.str []] [(0,2,.agg [.str (p.1.take 300),.str (p.2.take 600)])] G=.val (.slice G.nx 0 1 none) (G.new (rG 39 2 [.str (p.1.take 300),.str (p.2.take 600)] 0 false true true)):=λ_=>rfl
   have b2: ∀G,RW [.str [],.str []] [(0,1,.str (p.1.take 300)),(1,1,.str (p.2.take 600))] G=.val (.agg [.str (p.1.take 300),.str (p.2.take 600)]) G:=λ_=>rfl
   obtain⟨w',H',ea,hb',k'⟩:=nr (bytes:=32) (e:=39) (sz:=2) hbuf (by decide) (by decide) (by unfold Hl;rw[Zi,Zi,Ys];omega) hroH (by omega) (x:=[.str (p.1.take 300),.str (p.2.take 600)]) rfl
   have ea:V2 39 2 32 w (.slice H.nx 0 1 none) (H.new (rG 39 2 [.str (p.1.take 300),.str (p.2.take 600)] 0 false true true))=.val w' H':=ea
   have ad:=λG=>WM (a:=i) (b:=1) (by omega) G
   have lwb:=λo=>Z6 (n:=H.nx) (b:=b) (by omega) o
   have lwn:=λo=>Z6 (n:=H.nx) (b:=bn) (by have:=bj _ _ _ _ rfl;omega) o
   have lws:=UR (n:=H.nx) (b:=bn) (by have:=bj _ _ _ _ rfl;omega) 0 l.length cp
   have lww:(∀n,H.nx<=n->Va n w=true)∧ ∀n T,To (.val w ⟨n,T,n⟩) w n=true:=by
    rcases hbuf with⟨_,rfl⟩|⟨_,b0,r0,rfl,rc,_⟩
    ·exact⟨λ_ _=>rfl,λn T=>OQ n T⟩
    ·exact⟨λn hn=>UR (by have:=rc.low;omega) _ _ _,λn T=>Rk ..⟩
   have bF:=lww.1 H.nx (Zq _)
   have kN:=lww.2
   simp(maxSteps:=4000000) (disch:=first|assumption|omega|(simp -implicitDefEqProofs only[ZA,ZB]<;>first|assumption|omega)|decide) only[t1,t4,hw,d1,d2,gB,gN,EC,lnn,Z5,ix,u1,u10,u2,mn1,mn2,sl1,sl2,bs,b2,ea,ad,lwb,lwn,lws,bF,kN,Rk,MJ,Ux,Tq,TW,Ym,YY,Zx,Z9,Zn,AZ,Z4,Yr,Zy,Zz,Zk,Zm,Zl,Nat.reducePow,Nat.reduceDiv,Nat.reduceMod,Nat.reduceEqDiff,reduceCtorEq,Yu,VW]
   refine⟨_,_,_,rfl,.inl ⟨rfl,20 - (i+1),by omega,⟨⟨i+1,rfl,by omega,by omega,rfl,?_⟩,t1',t2',k0.trans k'⟩⟩⟩
   rw[htk]
   unfold Hl at hb' ⊢
   rw[YX];exact hb'
  ·have d2:decide (i<20)=false:=Zd h2
   obtain rfl:i=20:=by omega
   simp(maxSteps:=4000000) (disch:=first|assumption|omega|(simp -implicitDefEqProofs only[ZA,ZB]<;>first|assumption|omega)|decide) only[t1,t4,d1,d2,gB,EC,lnn,Zx,AZ,Z4,Yr,Zy,Zz,Zk,Zm,Zl,Nat.reducePow,Nat.reduceDiv,Nat.reduceMod,Nat.reduceEqDiff,reduceCtorEq,Yu,VW]
   refine⟨_,_,_,rfl,.inr ⟨by simp,rfl,t1',t2',k0,?_⟩⟩
   show KY H (N8.a3 (N8.a0 (N8.a0 tm))) 39 2 (Hl (DO l)) lo
   rw[hw];exact hbuf
 ·have d1:decide (i<l.length)=false:=Zd hlt
  obtain rfl:i=l.length:=by omega
  simp(maxSteps:=4000000) (disch:=first|assumption|omega|(simp -implicitDefEqProofs only[ZA,ZB]<;>first|assumption|omega)|decide) only[t1,t4,d1,gB,EC,lnn,Pw,Zx,AZ,Z4,Yr,Zy,Zz,Zk,Zm,Zl,Nat.reducePow,Nat.reduceDiv,Nat.reduceMod,Nat.reduceEqDiff,reduceCtorEq,Yu,VW]
  refine⟨_,_,_,rfl,.inr ⟨by simp,rfl,t1',t2',k0,?_⟩⟩
  show KY H (N8.a3 (N8.a0 (N8.a0 tm))) 39 2 (Hl (DO l)) lo
  rw[hw]
  unfold DO
  rw[YH h20]
  rw[WT] at hbuf
  exact hbuf
def pB(v:AV):List AV:=M5.set 34 v
theorem rJ(v:AV):(pB v).length=35:=rfl
theorem Zam{v:AV}(hv:v.cells=[v])(G:Heap):RW M5 [(34,1,v)] G=.val (.agg (pB v)) G:=by
 unfold M5
 rw[K2,Lr hv (by simp)];rfl
theorem gE{ZM:Lib}{fs:T CF}{fuel:Nat}(E:Env ZM fs fuel){k n:Nat}{l:List NP}{v:AV}{H:Heap}(hro:H.ro<=H.nx)(hN:iB H v l)(hv:v.cells=[v])(bj: ∀bn o n c,v=.slice bn o n c->bn<H.nx):
  ∃H' v',Yo (LK ZM fs fuel k) fs fuel (n+1) 4 [.agg (pB v)] H=.ret (.agg (pB v')) H'∧ZE H H' []∧KY H' v' 39 2 (Hl (DO l)) (H.nx+2):=by
 rw[YM (YW E.n4 (.inr rfl) _ _) E.f4]
 obtain⟨cs,hcs⟩: ∃cs,pB v=cs:=⟨_,rfl⟩
 have ln:cs.length=35:=by rw[<-hcs];rfl
 have Fo: ∀G,ld1 (some (rG 27 1 cs 0 false true true)) 34 G=.val v G:=λG=>by rw[ZX (by omega),<-hcs];rfl
 rw[hcs]
 obtain⟨H1,hH1⟩: ∃G,H.new (rG 27 1 cs 0 false true true)=G:=⟨_,rfl⟩
 have bx:=Vt (l:=cs) (by omega) 27 H
 rw[hH1] at bx
 have k1:ZE H H1 []:=by rw[<-hH1];exact ZE.new H _ _
 have J8:H1.nx=H.nx+1:=by rw[<-hH1];rfl
 have g1:H1.t.get H.nx=some (rG 27 1 cs 0 false true true):=by rw[<-hH1,Z3 rfl]
 obtain⟨H2,hH2⟩: ∃G,H1.new (rG 27 1 M5 0 false true true)=G:=⟨_,rfl⟩
 have k2:ZE H1 H2 []:=by rw[<-hH2];exact ZE.new _ _ _
 have nx2:H2.nx=H.nx+2:=by rw[<-hH2];show H1.nx+1=_;rw[J8]
 have g2:H2.t.get (H.nx+1)=some (rG 27 1 M5 0 false true true):=by rw[<-hH2];exact Z3 J8 _
 have g21:H2.t.get H.nx=some (rG 27 1 cs 0 false true true):=by rw[k2.get _ (by omega) (by simp)];exact g1
 have k02:=k1.trans' k2
 simp(maxSteps:=4000000) (disch:=first|assumption|omega|(simp -implicitDefEqProofs only[ZA,ZB]<;>first|assumption|omega)|decide) only[Fs,LF,bx,hH2,c4,Z4,Yr,Zy,Zz,Zk,Zm,Zl,Nat.reduceEqDiff,reduceCtorEq,Yu,VW]
 generalize hL:Wu (AZ _) fuel _ _ _=L
 obtain⟨o,Pi,H3,rfl,_,rfl,t1,t2,k3,hbuf⟩:=X9 (P:=λT=>FWI H2 l v H.nx (H.nx+2) 20 T H2) (Q:=FWQ H2 l H.nx (H.nx+2))
  (λT hi=>Wv (FWI H2 l v H.nx (H.nx+2)) (FWQ H2 l H.nx (H.nx+2)) (λm tm H' h=>gG (hN.keep k02) (by omega) (by omega) (by rw[k02.ro];omega) g21 Fo (λbn o n c e=>by have:=bj bn o n c e;omega) _ _ m tm H' h) fuel 20 T H2 (by have:=E.big;omega) hi) hL
  (by exact⟨⟨0,rfl,Yv _,by decide,rfl,.inl ⟨by simp[Hl],rfl⟩⟩,rfl,by rw[<-J8];rfl,Below.refl _ _⟩)
 obtain⟨w,hw⟩: ∃w,Xa Pi=w:=⟨_,rfl⟩
 rw[hw] at hbuf
 simp only[Od,Ru,TB] at t1 t2 hw
 have n3:=k3.nx
 have hwc:w.cells=[w]:=by rcases hbuf with⟨_,rfl⟩|⟨_,_,_,rfl,_⟩<;>rfl
 have g3:H3.t.get H.nx=some (rG 27 1 cs 0 false true true):=by rw[k3.get _ (by omega) (by omega)];exact g21
 have g32:H3.t.get (H.nx+1)=some (rG 27 1 M5 0 false true true):=by rw[k3.get _ (by omega) (by omega)];exact g2
 have ro3:H3.ro<=H.nx:=by rw[k3.ro,k02.ro];exact hro
 have st1:=pq (b:=H.nx) (o:=34) (l:=cs) (v:=w) (H:=H3) (fz:=0) hwc (by omega) ro3 (Yv _) 27 1 false true
 have e34:cs.set 34 w=pB w:=by rw[<-hcs];rfl
 rw[e34] at st1
 have l35: ∀G,Gv 35 (some (rG 27 1 (pB w) 0 false true true)) 0 G=.val (.agg (pB w)) G:=λG=>FP (by rw[rJ];decide) (by rw[Y8,YH (by rw[rJ];exact Zq _)]) G
 have gne:(H3.put H.nx (rG 27 1 (pB w) 0 false true true)).t.get (H.nx+1)=some (rG 27 1 M5 0 false true true):=by rw[R0 (by omega)];exact g32
 have st2:=PJ (n:=35) (b:=H.nx+1) (l:=M5) (vs:=pB w) (H:=H3.put H.nx (rG 27 1 (pB w) 0 false true true)) rfl rfl (by decide) (by show H3.ro<=_;omega) 27 1 false true
 have rv:=λk=>xK (n:=35) (e:=27) (sz:=1) (l:=pB w) (fz:=0) (sm:=false) (own:=true) (ex:=true) rfl k
 simp(maxSteps:=4000000) (disch:=first|assumption|omega|(simp -implicitDefEqProofs only[ZA,ZB]<;>first|assumption|omega)|decide) only[t1,t2,hw,g3,st1,l35,gne,st2,rv,SG,c4,Z4,Yr,Zy,Zz,Zk,Zm,Zl,Nat.reduceEqDiff,reduceCtorEq,Yu,VW]
 refine⟨_,w,rfl,?_,?_⟩
 ·refine⟨by show H.nx<=H3.nx;omega,by show H3.ro=_;rw[k3.ro,k02.ro],λc hc _=>?_⟩
  rw[R0 (by omega),R0 (by omega),k3.get c (by omega) (by omega),k02.get c hc (by simp)]
 ·rcases hbuf with h|⟨hne,b,r,e,rc,hlo⟩
  ·exact .inl h
  ·exact .inr ⟨hne,b,r,e,rc.moved (by rw[R0 (by omega),R0 (by omega)]) rfl (Zq _),hlo⟩
theorem mr{H:Heap}{v:AV}{l:List NP}{lo:Nat}(h:KY H v 39 2 (Hl l) lo):Dt H v l∧(v=.nils∨l≠[]):=by
 have hl:(Hl l).length=l.length:=by unfold Hl;rw[Zi]
 rcases h with⟨e,rfl⟩|⟨hne,b,r,rfl,rc,_⟩
 ·have:l=[]:=by unfold Hl at e;exact List.map_eq_nil_iff.1 e
  exact⟨.inl ⟨this,rfl⟩,.inl rfl⟩
 ·have hl0:l≠[]:=λe=>hne (by rw[e];rfl)
  refine⟨.inr ⟨b,r,by rw[hl],rc.low,rc.at_,rc.szr,by rw[rc.size,hl];omega,λi p hp=>?_⟩,.inr hl0⟩
  obtain⟨hi,_⟩:=XH.1 hp
  have hg:(Hl l).getD i []=[.str p.1,.str p.2]:=by unfold Hl;rw[Zh,Z1,hp];rfl
  have q: ∀j,j<2->r.get (i*2+j)=((Hl l).getD i []).getD j .unk:=λj hj=>by
   have h1:=rc.load1 (H':=H) rfl (i:=i) (j:=j) (by rw[hl];exact hi) hj
   have h2:UQ (.ptr b (i*2+j)) H=.val (r.get (i*2+j)) H:=by
    rw[J0,rc.at_,Qr (by rw[rc.size,hl];omega)]
   rw[h2] at h1;exact(OR.val.inj h1).1
  have q0:=q 0 (by decide);have q1:=q 1 (by decide)
  rw[hg] at q0 q1
  exact⟨q0,q1⟩
theorem ZbB{ZM:Lib}{fs:T CF}{fuel:Nat}(E:Env ZM fs fuel){k n:Nat}{md X:List UInt8}{u:Nat}{v:AV}{H:Heap}(hd:X.length=32)(hro:H.ro<=H.nx)(hv:v.cells=[v]):
  ∃H',Yo (LK ZM fs fuel k) fs fuel (n+1) 10 [.agg (P2 md X u v)] H=.ret (.agg (P2 md X u v)) H'∧ZE H H' []:=by
 rw[YM (YW E.n10 (.inr rfl) _ _) E.f10]
 obtain⟨cs,hcs⟩: ∃cs,P2 md X u v=cs:=⟨_,rfl⟩
 have ln:cs.length=35:=by rw[<-hcs];exact HD hd
 have o0: ∀G,ld1 (some (rG 27 1 cs 0 false true true)) 0 G=.val (.str md) G:=λG=>by rw[ZX (by omega),<-hcs];rfl
 have xx: ∀G,ld1 (some (rG 27 1 cs 0 false true true)) 33 G=.val (nI .i64 u) G:=λG=>by rw[ZX (by omega),<-hcs,(uX hd).1]
 have Fo: ∀G,ld1 (some (rG 27 1 cs 0 false true true)) 34 G=.val v G:=λG=>by rw[ZX (by omega),<-hcs,(uX hd).2]
 have o32: ∀G,Gv 32 (some (rG 27 1 cs 0 false true true)) 1 G=.val (.agg (X.map Y6)) G:=λG=>FP (by omega) (by rw[<-hcs];exact rH hd) G
 have bd:=yL (md:=md) (u:=u) hd hv
 rw[hcs] at bd ⊢
 obtain⟨H1,hH1⟩: ∃G,H.new (rG 27 1 cs 0 false true true)=G:=⟨_,rfl⟩
 have bx:=Vt (l:=cs) (by omega) 27 H
 rw[hH1] at bx
 have k1:ZE H H1 []:=by rw[<-hH1];exact ZE.new H _ _
 have J8:H1.nx=H.nx+1:=by rw[<-hH1];rfl
 have g1:H1.t.get H.nx=some (rG 27 1 cs 0 false true true):=by rw[<-hH1,Z3 rfl]
 have g2: ∀ob,(H1.new ob).t.get H.nx=some (rG 27 1 cs 0 false true true):=λob=>by rw[I1 (by omega)];exact g1
 have gn: ∀ob,(H1.new ob).t.get H1.nx=some ob:=λob=>Z3 rfl ob
 have st:=PJ (n:=35) (b:=H1.nx) (l:=M5) (vs:=cs) (H:=H1.new (rG 34 1 M5 0 false true true)) rfl ln (by decide) (by show H1.ro<=_;rw[k1.ro];omega) 34 1 false true
 have rv:=λk=>xK (n:=35) (e:=34) (sz:=1) (l:=cs) (fz:=0) (sm:=false) (own:=true) (ex:=true) ln k
 simp(maxSteps:=4000000) (disch:=first|assumption|omega|(simp -implicitDefEqProofs only[ZA,ZB]<;>first|assumption|omega)|decide) only[Fs,LF,bx,g1,g2,gn,o0,xx,Fo,o32,bd,st,rv,Tq,Py,Ym,YY,c10,Z4,Yr,Zy,Zz,Zk,Zm,Zl,Nat.reduceEqDiff,reduceCtorEq,Yu]
 refine⟨_,rfl,?_⟩
 exact k1.then_new _
theorem pG(x y:UInt8):K3 x y=decide (x=y):=by
 show Nat.beq x.toNat y.toNat=_
 by_cases h:x=y
 ·subst h;rw[Zg rfl];exact YC _
 ·rw[Zd h]
  cases hb:Nat.beq x.toNat y.toNat with
  |false=>rfl
  |true=>exact absurd (Rq.1 (ZJ hb)) h
theorem KF(a b:UInt8)(x y:List UInt8):Yj (a::x) (b::y)=true↔a.toNat<b.toNat∨(a=b∧Yj x y=true):=by
 show cond (Nat.ble (Nat.succ a.toNat) b.toNat) true (cond (K3 a b) (Yj x y) false)=true↔_
 rw[pG]
 by_cases h:a.toNat<b.toNat
 ·rw[Zj h];simp[h]
 ·have h1:Nat.ble (Nat.succ a.toNat) b.toNat=false:=by
   cases hb:Nat.ble (Nat.succ a.toNat) b.toNat with
   |false=>rfl
   |true=>exact absurd (ZQ hb) h
  rw[h1]
  by_cases e:a=b
  ·subst e;simp
  ·rw[Zd e];simp[h,e]
theorem Ea: ∀a:List UInt8,Yj a a≠true
 |[],h=>by cases h
 |a::x,h=>by
  rcases(KF ..).1 h with h|⟨_,h⟩
  ·omega
  ·exact Ea x h
theorem EW: ∀a b d:List UInt8,Yj a b=true->Yj b d=true->Yj a d=true
 |[],[],_,h,_=>by cases h
 |_::_,[],_,h,_=>by cases h
 |_,_::_,[],_,h=>by cases h
 |[],_::_,_::_,_,_=>rfl
 |a::x,b::y,d::z,h1,h2=>by
  refine(KF ..).2 ?_
  rcases(KF ..).1 h1 with p1|⟨p1,p2⟩<;>rcases(KF ..).1 h2 with q1|⟨q1,q2⟩
  ·exact .inl (by omega)
  ·exact .inl (by rw[<-q1];exact p1)
  ·exact .inl (by rw[p1];exact q1)
  ·exact .inr ⟨p1.trans q1,EW x y z p2 q2⟩
theorem C6{l:List NP}(h: ∀j,j<l.length->Lf l j=true){i:Nat}: ∀j,i<j->j<l.length->Yj (l.getD i ([],[])).1 (l.getD j ([],[])).1=true
 |0,h1,_=>by omega
 |j+1,h1,h2=>by
  have hs:Yj (l.getD j ([],[])).1 (l.getD (j+1) ([],[])).1=true:=by
   have:=h (j+1) h2
   unfold Lf at this
   rw[Xn,Xn,Xn (_&&_) (_||_)] at this
   have:=this.2.2.2
   rw[Zd (by omega),Bool.false_or,HJ] at this
   unfold WY at this
   rw[Bool.not_not] at this
   exact this
  by_cases e:i=j
  ·subst e;exact hs
  ·exact EW _ _ _ (C6 h j (by omega) (by omega)) hs
theorem oE{l:List NP}(h: ∀j,j<l.length->Lf l j=true){nm:List UInt8}{i j:Nat}(hi:i<l.length)(hj:j<l.length)(ei:(l.getD i ([],[])).1=nm)(ej:(l.getD j ([],[])).1=nm):i=j:=by
 rcases Nat.lt_trichotomy i j with h1|h1|h1
 ·have:=C6 h j h1 hj;rw[ei,ej] at this;exact absurd this (Ea _)
 ·exact h1
 ·have:=C6 h i h1 hi;rw[ei,ej] at this;exact absurd this (Ea _)
structure SEI(H0:Heap)(l:List NP)(nm:List UInt8)(v v1 v10 v12 v13 v14:AV)(m:Nat)(tm:TM)(H:Heap):Prop where
 heap:H=H0
 t3:Xa tm=.str nm
 t9:Wq tm=v
 t1:YL tm=v1
 t10:YA tm=v10
 t12:Yi tm=v12
 t13:YE tm=v13
 t14:XY tm=v14
 i: ∃i,X7 tm=nI .i64 i∧i<=l.length∧m=l.length - i∧((XQ tm=.str []∧XZ tm=.bool false∧ ∀j,j<i->(l.getD j ([],[])).1≠nm)∨ ∃j,j<i∧(l.getD j ([],[])).1=nm∧XQ tm=.str (l.getD j ([],[])).2∧XZ tm=.bool true)
def SEQ(H0:Heap)(l:List NP)(nm:List UInt8)(v v1 v10 v12 v13 v14:AV)(o:Out)(tm:TM)(H:Heap):Prop:=o=.exit 0∧SEI H0 l nm v v1 v10 v12 v13 v14 0 tm H
theorem eW{H0:Heap}{l:List NP}{nm:List UInt8}{v v1 v10 v12 v13 v14:AV}(hN:Dt H0 v l)(hL:l.length<=100)(cx:Ctx)(x:X)(m:Nat)(tm:TM)(H:Heap)(hI:SEI H0 l nm v v1 v10 v12 v13 v14 m tm H):
  ∃o tm' H',AY cx tm H x=.ok o tm' H' x∧((o=.normal∧ ∃q,q<m∧SEI H0 l nm v v1 v10 v12 v13 v14 q tm' H')∨(o≠.normal∧SEQ H0 l nm v v1 v10 v12 v13 v14 o tm' H')):=by
 obtain⟨rfl,t3,t9,t1,t10,t12,t13,t14,i,t17,hi,rfl,hw⟩:=hI
 have AS:=t3;have t9':=t9;have Zb5:=t17
 have lnn:=λG=>hN.nt.len G
 simp only[TB,Ji,Jg] at t3 t9 t17
 by_cases hlt:i<l.length
 ·have d1:decide (i<l.length)=true:=Zg hlt
  rcases hN with⟨rfl,rfl⟩|⟨bn,rr,rfl,hbb,gN,szr,hsr,wN⟩
  ·exact absurd hlt (by simp)
  have hP:l[i]? =some (l.getD i ([],[])):=by rw[Zh,Zr hlt];rfl
  obtain⟨w1,w2⟩:=wN i _ hP
  generalize hp:l.getD i ([],[])=p at w1 w2
  have u1: ∀G,ld1 (some (.row rr)) (i*2) G=.val (.str p.1) G:=λG=>by rw[Qr (by omega),w1]
  have u10: ∀G,ld1 (some (.row rr)) (i*2+0) G=.val (.str p.1) G:=u1
  have u2: ∀G,ld1 (some (.row rr)) (i*2+1) G=.val (.str p.2) G:=λG=>by rw[Qr (by omega),w2]
  have ix:=λG=>RA (sz:=2) hlt bn 0 none .i64 G
  have ad:=λG=>WM (a:=i) (b:=1) (by omega) G
  by_cases hz:p.1=nm
  ·have dz:decide (p.1=nm)=true:=Zg hz
   simp(maxSteps:=4000000) (disch:=first|assumption|omega|(simp -implicitDefEqProofs only[ZA,ZB]<;>first|assumption|omega)|decide) only[t3,t9,t17,d1,dz,gN,ix,u1,u10,u2,ad,lnn,Z5,Zx,TL,Zn,AY,Z4,Yr,Zy,Zz,Zk,Zm,Zl,Nat.reduceEqDiff,reduceCtorEq,Yu,SF,Nq]
   refine⟨_,_,_,rfl,.inl ⟨rfl,l.length - (i+1),by omega,⟨rfl,AS,t9',t1,t10,t12,t13,t14,i+1,rfl,by omega,rfl,.inr ⟨i,by omega,by rw[hp];exact hz,by rw[hp];rfl,rfl⟩⟩⟩⟩
  ·have dz:decide (p.1=nm)=false:=Zd hz
   simp(maxSteps:=4000000) (disch:=first|assumption|omega|(simp -implicitDefEqProofs only[ZA,ZB]<;>first|assumption|omega)|decide) only[t3,t9,t17,d1,dz,gN,ix,u1,u10,u2,ad,lnn,Z5,Zx,TL,Zn,AY,Z4,Yr,Zy,Zz,Zk,Zm,Zl,Nat.reduceEqDiff,reduceCtorEq,Yu,SF,Nq]
   refine⟨_,_,_,rfl,.inl ⟨rfl,l.length - (i+1),by omega,⟨rfl,AS,t9',t1,t10,t12,t13,t14,i+1,rfl,by omega,rfl,?_⟩⟩⟩
   rcases hw with⟨e15,e16,h⟩|⟨j,hj,ej,e15,e16⟩
   ·exact .inl ⟨e15,e16,λj hj=>if e:j=i then by rw[e,hp];exact hz else h j (by omega)⟩
   ·exact .inr ⟨j,by omega,ej,e15,e16⟩
 ·have d1:decide (i<l.length)=false:=Zd hlt
  simp(maxSteps:=4000000) (disch:=first|assumption|omega|(simp -implicitDefEqProofs only[ZA,ZB]<;>first|assumption|omega)|decide) only[t9,t17,d1,lnn,Zx,AY,Z4,Yr,Zy,Zz,Zk,Zm,Zl,Nat.reduceEqDiff,reduceCtorEq,Yu,SF,Nq]
  refine⟨_,_,_,rfl,.inr ⟨by simp,rfl,rfl,AS,t9',t1,t10,t12,t13,t14,i,Zb5,hi,by omega,hw⟩⟩
end
end Go.AI
