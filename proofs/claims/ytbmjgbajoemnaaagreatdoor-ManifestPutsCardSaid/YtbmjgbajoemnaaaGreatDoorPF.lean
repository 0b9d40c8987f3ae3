/- Descriptors and notes, by the document's code and the program's: walked: proved without conditions but those that each names. -/
import Derived.Test.YtbmjgbajoemnaaaGreatDoorPD
import Derived.Test.YtbmjgbajoemnaaaGreatDoorP8
import Derived.Test.YtbmjgbajoemnaaaGreatDoorP9
import Derived.Test.YtbmjgbajoemnaaaGreatDoorPC
import Derived.Test.YtbmjgbajoemnaaaGreatDoorP7
import Derived.Test.YtbmjgbajoemnaaaGreatDoorPA
set_option maxRecDepth 1000000
set_option maxHeartbeats 0
set_option linter.unusedVariables false
set_option linter.unusedSimpArgs false
namespace Go.AI
open Go
noncomputable section
abbrev NP:=List UInt8×List UInt8
def NT(H:Heap)(v:AV)(l:List NP):Prop:=(l=[]∧v=.nils)∨ ∃b r,v=.slice b 0 l.length none∧b<H.nx∧H.t.get b=some (.row r)∧ ∀i p,l[i]? =some p->(∀G,ld1 (some (.row r)) (i*2) G=.val (.str p.1) G)∧(∀G,ld1 (some (.row r)) (i*2+1) G=.val (.str p.2) G)
theorem NT.keep{H H':Heap}{v:AV}{l:List NP}(h:NT H v l)(k:Zq H H' []):NT H' v l:=by
 rcases h with h|⟨b,r,e,hb,g,w⟩
 ·exact .inl h
 ·exact .inr ⟨b,r,e,ZO hb k.nx,by rw[k.get b hb (by simp)];exact g,w⟩
theorem NT.len{H:Heap}{v:AV}{l:List NP}(h:NT H v l)(G:Heap):RV v G=.val (nI .i64 l.length) G:=by
 rcases h with⟨rfl,rfl⟩|⟨b,r,rfl,hb,g,w⟩
 ·rfl
 ·exact XP ..
theorem NT.at{H:Heap}{v:AV}{l:List NP}(h:NT H v l){i:Nat}{p:NP}(hi:l[i]? =some p): ∃b,b<H.nx∧(∀G,EJ 2 v (nI .i64 i) G=.val (.ptr b (i*2)) G)∧(∀G,G.t.get b=H.t.get b->OM (.ptr b (i*2)) G=.val (.str p.1) G∧OM (.ptr b (i*2+1)) G=.val (.str p.2) G)∧(∀n,H.nx<=n->Xm n v=true):=by
 obtain⟨hl,_⟩:=Xh.1 hi
 rcases h with⟨rfl,rfl⟩|⟨b,r,rfl,hb,g,w⟩
 ·exact absurd hl (by simp)
 ·refine⟨b,hb,λG=>?_,λG hG=>?_,λn hn=>Xk (by omega) _ _ _⟩
  ·have:=Ua (sz:=2) hl b 0 none .i64 G
   rw[Zs] at this;exact this
  ·rw[Mh,Mh,hG,g];exact⟨(w i p hi).1 G,(w i p hi).2 G⟩
def qt(s:List UInt8):List UInt8:=cond (vu s) (quo s) []
theorem NN(s:List UInt8):(qt s).length<=6*s.length+2:=by
 unfold qt
 cases vu s
 ·exact Z8 _
 ·have:=Bn s
  show([34]++s.flatMap qB++[34]).length<=_
  simp only[Zf,Zh,Zv];omega
def sep(i:Nat):List UInt8:=if i=0 then [34,97,110,110,111,116,97,116,105,111,110,115,34,58,123] else [44]
def tx(l:List NP):Nat->List UInt8
 |0=>[123]
 |i+1=>tx l i++sep i++qt (l.getD i ([],[])).1++[58]++qt (l.getD i ([],[])).2
theorem aq(i:Nat):(sep i).length<=15:=by unfold sep;split<;>simp
theorem rY{l:List NP}(h: ∀i,(l.getD i ([],[])).1.length<=1000∧(l.getD i ([],[])).2.length<=1000): ∀i,(tx l i).length<=1+13000*i
 |0=>by simp[tx]
 |i+1=>by
  have:=rY h i
  have a:=NN (l.getD i ([],[])).1
  have b:=NN (l.getD i ([],[])).2
  have e:=aq i
  obtain⟨h1,h2⟩:=h i
  show(tx l i++sep i++qt (l.getD i ([],[])).1++[58]++qt (l.getD i ([],[])).2).length<=_
  rw[Zf,Zf,Zf,Zf]
  show _+1+_<=_
  omega
section
variable {Zp:Lib} {fs:T CF} {fuel k n i h b:Nat} {H H0:Heap} {s:List UInt8} {cs:List AV}
structure TXI(H0:Heap)(l:List NP)(b:Nat)(m:Nat)(tm:TM)(H:Heap):Prop where
 i: ∃i,Xf tm=nI .i64 i∧i<=l.length∧m=l.length - i∧XK tm=.str (tx l i)
 t1:Y2 tm=.ptr b 0
 k:Zq H0 H []
 ro:H.ro<=H.nx
theorem aF(E:Env Zp fs fuel){l:List NP}{v:AV}(hN:NT H0 v l)(hL:l.length<=100)(hS: ∀i,(l.getD i ([],[])).1.length<=1000∧(l.getD i ([],[])).2.length<=1000)
  (hbn:b<H0.nx)(hb:H0.t.get b=some (rH 42 cs))(EH: ∀G,ld1 (some (rH 42 cs)) 34 G=.val v G)(y f d r)(x:X)(m:Nat)(tm:TM)(H:Heap)(hI:TXI H0 l b m tm H):
  ∃o tm' H',Fo ⟨ZJ (LK Zp fs fuel k) fs fuel (n+6),y,f,d,r⟩ tm H x=.ok o tm' H' x∧((o=.normal∧ ∃q,q<m∧TXI H0 l b q tm' H')∨(o≠.normal∧(o=.exit 0∧Zq H0 H' []∧H'.ro<=H'.nx∧Y2 tm'=.ptr b 0∧XK tm'=.str (tx l l.length)))):=by
 obtain⟨⟨i,t4,hi,rfl,t3⟩,t1,k0,hro⟩:=hI
 have nx0:=k0.nx
 have gB:H.t.get b=some (rH 42 cs):=by rw[k0.get b hbn (by simp)];exact hb
 have lnn:=λG=>hN.len G
 have lw:=Yp (n:=H.nx) (b:=b) (by omega) 0
 have t1':=t1
 have O9:=t3
 simp only[OI,PM,Qg] at t4 t1 t3
 by_cases hlt:i<l.length
 ·have d1:decide (i<l.length)=true:=Ze hlt
  rcases hN with⟨rfl,rfl⟩|⟨bn,rr,rfl,hbb,gN0,wN⟩
  ·exact absurd hlt (by simp)
  have gN:H.t.get bn=some (.row rr):=by rw[k0.get bn hbb (by simp)];exact gN0
  have hgd:l.getD i ([],[])=l[i]:=by rw[Za,Zg hlt];rfl
  obtain⟨p,hp⟩:=XZ (l[i])
  rw[hp] at hgd
  obtain⟨w1,w2⟩:=wN i p (by rw[Zg hlt,hp])
  obtain⟨s1,s2⟩:=hS i
  rw[hgd] at s1 s2
  have ix:=λG=>Ua (sz:=2) hlt bn 0 none .i64 G
  have lw2:=Xk (n:=H.nx) (b:=bn) (by omega) 0 l.length none
  have lw3:=Yp (n:=H.nx) (b:=bn) (by omega) (0+i*2)
  have lw4:=Yp (n:=H.nx) (b:=bn) (by omega) (0+i*2+1)
  have lw5:=Yp (n:=H.nx) (b:=bn) (by omega) (i*2)
  have lw7:=Yp (n:=H.nx) (b:=bn) (by omega) (i*2+1)
  have lw6:=Yp (n:=H.nx) (b:=b) (by omega) (0+34)
  have aL: ∀G,ld1 (some (.row rr)) (i*2+0) G=.val (.str p.1) G:=w1
  have lw8:=Yp (n:=H.nx) (b:=bn) (by omega) (i*2+0)
  have u1: ∀G,ld1 (some (.row rr)) (0+i*2+0) G=.val (.str p.1) G:=by rw[Zs];exact w1
  have u2: ∀G,ld1 (some (.row rr)) (0+i*2+1) G=.val (.str p.2) G:=by rw[Zs];exact w2
  obtain⟨H1,e1,k1⟩:=Tl E (k:=k) (n:=n) (s:=p.1) (H:=H) (by omega) hro
  have n1:=k1.nx
  have r1:=k1.ro
  obtain⟨H2,e2,k2⟩:=Tl E (k:=k) (n:=n) (s:=p.2) (H:=H1) (by omega) (by omega)
  have n2:=k2.nx
  have r2:=k2.ro
  have e1:ZJ (LK Zp fs fuel k) fs fuel (n+6) 22 [.str p.1] H=.ret (.str (qt p.1)) H1:=e1
  have e2:ZJ (LK Zp fs fuel k) fs fuel (n+6) 22 [.str p.2] H1=.ret (.str (qt p.2)) H2:=e2
  have oO:H1.t.get b=some (rH 42 cs):=by rw[k1.get b (by omega) (by simp)];exact gB
  have oP:H1.t.get bn=some (.row rr):=by rw[k1.get bn (by omega) (by simp)];exact gN
  have gB2:H2.t.get b=some (rH 42 cs):=by rw[k2.get b (by omega) (by simp)];exact oO
  have gN2:H2.t.get bn=some (.row rr):=by rw[k2.get bn (by omega) (by simp)];exact oP
  have hT:=rY hS i
  obtain⟨P,hP⟩:=XZ (tx l i)
  rw[hP] at t3 hT
  have hT:P.length<=1300001:=by omega
  have q1:=NN p.1
  have q2:=NN p.2
  have p2:=λS (hS:S.length<=2000000) G=>YI (a:=S) (b:=qt p.1) (by omega) G
  have p3:=λS (hS:S.length<=2000000) G=>YI (a:=S) (b:=[58]) (by simp only[Zh,Zv];omega) G
  have p4:=λS (hS:S.length<=2000000) G=>YI (a:=S) (b:=qt p.2) (by omega) G
  have ad:=λG=>YZ (a:=i) (b:=1) (by omega) G
  have fin: ∀S,S=P++sep i->S++qt p.1++[58]++qt p.2=tx l (i+1):=λS h=>by
   show _=tx l i++sep i++qt (l.getD i ([],[])).1++[58]++qt (l.getD i ([],[])).2
   rw[hgd,hP,h]
  have kk:=(k0.trans k1 (by simp)).trans k2 (by simp)
  by_cases h0:i=0
  ·have d2:decide (i=0)=true:=Ze h0
   have fin:=fin _ (by rw[sep,if_pos h0])
   have p1:=λG=>YI (a:=P) (b:=[34,97,110,110,111,116,97,116,105,111,110,115,34,58,123]) (by simp only[Zh,Zv];omega) G
   obtain⟨S,hS'⟩:=XZ (P++[34,97,110,110,111,116,97,116,105,111,110,115,34,58,123])
   have hSl:S.length<=1300020:=by rw[<-hS',Zf];simp only[Zh,Zv];omega
   have p2:=p2 S (by omega)
   have p3:=p3 (S++qt p.1) (by rw[Zf];omega)
   have p4:=p4 (S++qt p.1++[58]) (by rw[Zf,Zf];simp only[Zh,Zv];omega)
   rw[hS'] at p1 fin
   simp(maxSteps:=4000000) (disch:=first|assumption|omega|(simp -implicitDefEqProofs only[ZQ,ZR]<;>first|assumption|omega)|decide) only[t1,t3,t4,d1,d2,gB,oO,gB2,gN,oP,gN2,EH,lnn,XP,lw,lw2,lw3,lw4,lw5,lw6,lw7,lw8,w1,aL,w2,ix,u1,u2,e1,e2,p1,p2,p3,p4,ad,ZH,YD,Fo,ZC,ZY,Zz,Zw,Zr,Zt,ZA,Nat.reducePow,Nat.reduceDiv,Nat.reduceMod,Nat.reduceEqDiff,reduceCtorEq,Z4,WG]
   refine⟨_,_,_,rfl,?_⟩
   exact .inl ⟨rfl,l.length - (i+1),by omega,⟨⟨i+1,(by simp only[Z4,ZY]),by omega,rfl,by rw[<-fin];exact(by simp only[Z4,ZY])⟩,(by simp only[Z4,ZY];exact t1'),kk,by omega⟩⟩
  ·have d2:decide (i=0)=false:=Zb h0
   have fin:=fin _ (by rw[sep,if_neg h0])
   have p1:=λG=>YI (a:=P) (b:=[44]) (by simp only[Zh,Zv];omega) G
   obtain⟨S,hS'⟩:=XZ (P++[44])
   have hSl:S.length<=1300020:=by rw[<-hS',Zf];simp only[Zh,Zv];omega
   have p2:=p2 S (by omega)
   have p3:=p3 (S++qt p.1) (by rw[Zf];omega)
   have p4:=p4 (S++qt p.1++[58]) (by rw[Zf,Zf];simp only[Zh,Zv];omega)
   rw[hS'] at p1 fin
   simp(maxSteps:=4000000) (disch:=first|assumption|omega|(simp -implicitDefEqProofs only[ZQ,ZR]<;>first|assumption|omega)|decide) only[t1,t3,t4,d1,d2,gB,oO,gB2,gN,oP,gN2,EH,lnn,XP,lw,lw2,lw3,lw4,lw5,lw6,lw7,lw8,w1,aL,w2,ix,u1,u2,e1,e2,p1,p2,p3,p4,ad,ZH,YD,Fo,ZC,ZY,Zz,Zw,Zr,Zt,ZA,Nat.reducePow,Nat.reduceDiv,Nat.reduceMod,Nat.reduceEqDiff,reduceCtorEq,Z4,WG]
   refine⟨_,_,_,rfl,?_⟩
   exact .inl ⟨rfl,l.length - (i+1),by omega,⟨⟨i+1,(by simp only[Z4,ZY]),by omega,rfl,by rw[<-fin];exact(by simp only[Z4,ZY])⟩,(by simp only[Z4,ZY];exact t1'),kk,by omega⟩⟩
 ·have d1:decide (i<l.length)=false:=Zb hlt
  have he:i=l.length:=by omega
  simp(maxSteps:=4000000) (disch:=first|assumption|omega|(simp -implicitDefEqProofs only[ZQ,ZR]<;>first|assumption|omega)|decide) only[t1,t4,d1,gB,EH,lnn,ZH,Fo,ZC,ZY,Zz,Zw,Zr,Zt,ZA,Nat.reducePow,Nat.reduceDiv,Nat.reduceMod,Nat.reduceEqDiff,reduceCtorEq,Z4,WG]
  refine⟨_,_,_,rfl,?_⟩
  exact .inr ⟨by simp,rfl,k0,hro,(by simp only[Z4,ZY];exact t1'),by rw[he] at O9;exact(by simp only[Z4,ZY];exact O9)⟩
def clo(l:List NP):List UInt8:=if 0<l.length then [125,44] else []
def dtx(md s:List UInt8)(u:Nat)(l:List NP):List UInt8:=tx l l.length++clo l++[34,100,105,103,101,115,116,34,58]++qt (R6 s)++[44,34,109,101,100,105,97,84,121,112,101,34,58]++qt md++[44,34,115,105,122,101,34,58]++SF (u:Int)++[125]
theorem zN: ∀l:List UInt8,XB (l.map XM) (l.map XM)=true
 |[]=>by unfold XB;rfl
 |x::l=>by rw[ZE];unfold XB;rw[xG,zN l];rfl
theorem jq{u:Nat}(h:u<9223372036854775808):(SF (u:Int)).length<=20:=by
 unfold SF
 rw[if_neg (by omega),Int.natAbs_natCast]
 exact Ev u (by omega)
theorem oB(E:Env Zp fs fuel){u:Nat}{md:List UInt8}{v:AV}{l:List NP}(hs:s.length=32)(hm:md.length<900000)(hu:u<9223372036854775808)(hN:NT H v l)(hL:l.length<=100)(hS: ∀i,(l.getD i ([],[])).1.length<=1000∧(l.getD i ([],[])).2.length<=1000)(hro:H.ro<=H.nx):
  ∃H',ZJ (LK Zp fs fuel k) fs fuel (n+7) 38 [.agg (.str md::(s.map XM++[nI .i64 u,v]))] H=.ret (.str (dtx md s u l)) H'∧Zq H H' []:=by
 rw[ZL (ZF E.n38 (.inr rfl) _ _) E.f38]
 obtain⟨cs,hcs⟩:=XZ ((.str md::(s.map XM++[nI .i64 u,v])))
 have ln:cs.length=35:=by rw[<-hcs,Zh,Zf,Zi,hs];rfl
 have Jj: ∀G,ld1 (some (rH 42 cs)) 34 G=.val v G:=λG=>by
  rw[Z2 (by omega),<-hcs,Za,Yq,Zu (by rw[Zi];omega),Zi,hs];rfl
 have JB: ∀G,ld1 (some (rH 42 cs)) 33 G=.val (nI .i64 u) G:=λG=>by
  rw[Z2 (by omega),<-hcs,Za,Yq,Zu (by rw[Zi];omega),Zi,hs];rfl
 have o0: ∀G,ld1 (some (rH 42 cs)) 0 G=.val (.str md) G:=λG=>by
  rw[Z2 (by omega),<-hcs];rfl
 have o1: ∀G,ldN 32 (some (rH 42 cs)) 1 G=.val (.agg (s.map XM)) G:=λG=>by
  rw[X8 (by omega),<-hcs,WS,Z6,WV (by rw[Zi];omega),ZB (by rw[Zi];omega)]
 rw[hcs]
 obtain⟨H1,hH1⟩:=XZ (H.new (rH 42 cs))
 have bx:=YU (l:=cs) (by omega) 42 H
 rw[hH1] at bx
 have k1:Zq H H1 []:=by rw[<-hH1];exact Zq.new H _ _
 have U2:H1.nx=H.nx+1:=by rw[<-hH1];rfl
 have Rm:H1.ro=H.ro:=by rw[<-hH1];rfl
 have g1:H1.t.get H.nx=some (rH 42 cs):=by rw[<-hH1,Zx rfl]
 have hN1:=hN.keep k1
 simp only[bx,c38,ZC,ZY,Z4]
 generalize hLp:XQ (Fo _) fuel _ _ _=L
 obtain⟨o,Tx,H2,rfl,_,rfl,k2,Qw,t1,t3⟩:=YA (P:=λT'=>TXI H1 l H.nx l.length T' H1) (Q:=λo tm' H'=>o=.exit 0∧Zq H1 H' []∧H'.ro<=H'.nx∧Y2 tm'=.ptr H.nx 0∧XK tm'=.str (tx l l.length))
  (λT' hi'=>YK (TXI H1 l H.nx) _ (λm tm H' h'=>aF E (n:=n) hN1 hL hS (by omega) g1 Jj _ _ _ _ _ m tm H' h') fuel l.length T' H1 (by have:=E.big;omega) hi') hLp
  ⟨⟨0,rfl,Z8 _,rfl,(by simp only[Z4,ZY];rfl)⟩,rfl,Zq.refl _ _,by omega⟩
 simp only[Qg,PM] at t3 t1
 have n2:=k2.nx
 have g2:H2.t.get H.nx=some (rH 42 cs):=by rw[k2.get _ (by omega) (by simp)];exact g1
 have lnn:=λG=>hN.len G
 obtain⟨H3,e3,k3⟩:=vx E (k:=k) (n:=n+5) (s:=s) (H:=H2) hs
 have n3:=k3.nx
 have r3:=k3.ro
 have nl:(R6 s).length=71:=by
  show([115,104,97,50,53,54,58]++s.flatMap hx).length=_
  rw[Zf,Jb,hs];rfl
 obtain⟨H4,e4,k4⟩:=Tl E (k:=k) (n:=n) (s:=R6 s) (H:=H3) (by omega) (by omega)
 have n4:=k4.nx
 have r4:=k4.ro
 obtain⟨H5,e5,k5⟩:=Tl E (k:=k) (n:=n) (s:=md) (H:=H4) (by omega) (by omega)
 have n5:=k5.nx
 have r5:=k5.ro
 obtain⟨H6,e6,k6⟩:=xg E (k:=k) (n:=n) (u:=u) (H:=H5) hu (by omega)
 have e4:ZJ (LK Zp fs fuel k) fs fuel (n+6) 22 [.str (R6 s)] H3=.ret (.str (qt (R6 s))) H4:=e4
 have e5:ZJ (LK Zp fs fuel k) fs fuel (n+6) 22 [.str md] H4=.ret (.str (qt md)) H5:=e5
 have g3:H3.t.get H.nx=some (rH 42 cs):=by rw[k3.get _ (by omega) (by simp)];exact g2
 have g4:H4.t.get H.nx=some (rH 42 cs):=by rw[k4.get _ (by omega) (by simp)];exact g3
 have g5:H5.t.get H.nx=some (rH 42 cs):=by rw[k5.get _ (by omega) (by simp)];exact g4
 have lw:=Yp (n:=H2.nx) (b:=H.nx) (by omega) 0
 have lw2:=Yp (n:=H2.nx) (b:=H.nx) (by omega) 33
 have sa: ∀n t,Vv (.val (.agg (s.map XM)) ⟨n,t,n⟩) (.agg (s.map XM)) n=true:=λn t=>VE (zN s) n t
 have hT:=rY hS l.length
 have fl:=jq hu
 have q1:=NN (R6 s)
 have q2:=NN md
 obtain⟨P,hP⟩:=XZ (tx l l.length)
 rw[hP] at t3 hT
 have b0:P.length<=1300001:=by omega
 have goal:dtx md s u l=P++clo l++[34,100,105,103,101,115,116,34,58]++qt (R6 s)++[44,34,109,101,100,105,97,84,121,112,101,34,58]++qt md++[44,34,115,105,122,101,34,58]++SF (u:Int)++[125]:=by rw[<-hP];rfl
 rw[goal]
 have kk:=(((((k1.trans k2 (by simp)).trans k3 (by simp)).trans k4 (by simp)).trans k5 (by simp)).trans k6 (by simp))
 by_cases h0:0<l.length
 ·have d0:decide (0<l.length)=true:=Ze h0
  rw[clo,if_pos h0]
  have p0:=λG=>YI (a:=P) (b:=[125,44]) (by simp only[Zh,Zv];omega) G
  obtain⟨Q,hQ⟩:=XZ (P++[125,44])
  have bQ:Q.length<=1300003:=by rw[<-hQ,Zf];simp only[Zh,Zv];omega
  rw[hQ];rw[hQ] at p0
  have p1:=λG=>YI (a:=Q) (b:=[34,100,105,103,101,115,116,34,58]) (by simp only[Zh,Zv];omega) G
  obtain⟨A1,hA1⟩:=XZ (Q++[34,100,105,103,101,115,116,34,58])
  have b1:A1.length<=1300023:=by rw[<-hA1,Zf];simp only[Zh,Zv];omega
  rw[hA1];rw[hA1] at p1
  have p2:=λG=>YI (a:=A1) (b:=(qt (R6 s))) (by omega) G
  obtain⟨A2,hA2⟩:=XZ (A1++(qt (R6 s)))
  have b2:A2.length<=7300023:=by rw[<-hA2,Zf];omega
  rw[hA2];rw[hA2] at p2
  have p3:=λG=>YI (a:=A2) (b:=[44,34,109,101,100,105,97,84,121,112,101,34,58]) (by simp only[Zh,Zv];omega) G
  obtain⟨A3,hA3⟩:=XZ (A2++[44,34,109,101,100,105,97,84,121,112,101,34,58])
  have b3:A3.length<=7300043:=by rw[<-hA3,Zf];simp only[Zh,Zv];omega
  rw[hA3];rw[hA3] at p3
  have p4:=λG=>YI (a:=A3) (b:=(qt md)) (by omega) G
  obtain⟨A4,hA4⟩:=XZ (A3++(qt md))
  have b4:A4.length<=13300043:=by rw[<-hA4,Zf];omega
  rw[hA4];rw[hA4] at p4
  have p5:=λG=>YI (a:=A4) (b:=[44,34,115,105,122,101,34,58]) (by simp only[Zh,Zv];omega) G
  obtain⟨A5,hA5⟩:=XZ (A4++[44,34,115,105,122,101,34,58])
  have b5:A5.length<=13300063:=by rw[<-hA5,Zf];simp only[Zh,Zv];omega
  rw[hA5];rw[hA5] at p5
  have p6:=λG=>YI (a:=A5) (b:=(SF (u:Int))) (by omega) G
  obtain⟨A6,hA6⟩:=XZ (A5++(SF (u:Int)))
  have b6:A6.length<=19300063:=by rw[<-hA6,Zf];omega
  rw[hA6];rw[hA6] at p6
  have p7:=λG=>YI (a:=A6) (b:=[125]) (by simp only[Zh,Zv];omega) G
  obtain⟨A7,hA7⟩:=XZ (A6++[125])
  have b7:A7.length<=19300083:=by rw[<-hA7,Zf];simp only[Zh,Zv];omega
  rw[hA7];rw[hA7] at p7
  simp only[t1,t3,d0,g2,g3,g4,g5,o0,o1,JB,Jj,lnn,lw,sa,e3,e4,e5,e6,p0,p1,p2,p3,p4,p5,p6,p7,Yi,ZC,ZY,Zz,Zw,Zr,Zt,Nat.reducePow,Nat.reduceDiv,Nat.reduceMod,reduceCtorEq,Z4,WG]
  refine⟨_,rfl,?_⟩
  exact kk
 ·have d0:decide (0<l.length)=false:=Zb h0
  rw[clo,if_neg h0,Yl]
  obtain⟨Q,hQ⟩:=XZ (P)
  have bQ:Q.length<=1300003:=by rw[<-hQ];omega
  rw[hQ];rw[hQ] at t3
  have p1:=λG=>YI (a:=Q) (b:=[34,100,105,103,101,115,116,34,58]) (by simp only[Zh,Zv];omega) G
  obtain⟨A1,hA1⟩:=XZ (Q++[34,100,105,103,101,115,116,34,58])
  have b1:A1.length<=1300023:=by rw[<-hA1,Zf];simp only[Zh,Zv];omega
  rw[hA1];rw[hA1] at p1
  have p2:=λG=>YI (a:=A1) (b:=(qt (R6 s))) (by omega) G
  obtain⟨A2,hA2⟩:=XZ (A1++(qt (R6 s)))
  have b2:A2.length<=7300023:=by rw[<-hA2,Zf];omega
  rw[hA2];rw[hA2] at p2
  have p3:=λG=>YI (a:=A2) (b:=[44,34,109,101,100,105,97,84,121,112,101,34,58]) (by simp only[Zh,Zv];omega) G
  obtain⟨A3,hA3⟩:=XZ (A2++[44,34,109,101,100,105,97,84,121,112,101,34,58])
  have b3:A3.length<=7300043:=by rw[<-hA3,Zf];simp only[Zh,Zv];omega
  rw[hA3];rw[hA3] at p3
  have p4:=λG=>YI (a:=A3) (b:=(qt md)) (by omega) G
  obtain⟨A4,hA4⟩:=XZ (A3++(qt md))
  have b4:A4.length<=13300043:=by rw[<-hA4,Zf];omega
  rw[hA4];rw[hA4] at p4
  have p5:=λG=>YI (a:=A4) (b:=[44,34,115,105,122,101,34,58]) (by simp only[Zh,Zv];omega) G
  obtain⟨A5,hA5⟩:=XZ (A4++[44,34,115,105,122,101,34,58])
  have b5:A5.length<=13300063:=by rw[<-hA5,Zf];simp only[Zh,Zv];omega
  rw[hA5];rw[hA5] at p5
  have p6:=λG=>YI (a:=A5) (b:=(SF (u:Int))) (by omega) G
  obtain⟨A6,hA6⟩:=XZ (A5++(SF (u:Int)))
  have b6:A6.length<=19300063:=by rw[<-hA6,Zf];omega
  rw[hA6];rw[hA6] at p6
  have p7:=λG=>YI (a:=A6) (b:=[125]) (by simp only[Zh,Zv];omega) G
  obtain⟨A7,hA7⟩:=XZ (A6++[125])
  have b7:A7.length<=19300083:=by rw[<-hA7,Zf];simp only[Zh,Zv];omega
  rw[hA7];rw[hA7] at p7
  simp only[t1,t3,d0,g2,g3,g4,g5,o0,o1,JB,Jj,lnn,lw,sa,e3,e4,e5,e6,p1,p2,p3,p4,p5,p6,p7,Yi,ZC,ZY,Zz,Zw,Zr,Zt,Nat.reducePow,Nat.reduceDiv,Nat.reduceMod,reduceCtorEq,Z4,WG]
  refine⟨_,rfl,?_⟩
  exact kk
theorem geS(a b:List UInt8)(H:Heap):Pb SK Vd (.str a) (.str b) H=.val (.bool (Vd a b)) H:=by
 show SV (Vd a b) H=_
 cases Vd a b<;>rfl
def P5(l:List NP)(i:Nat):Bool:=!decide ((l.getD i ([],[])).1=[])&&((decide ((l.getD i ([],[])).1.length<=255)&&vu (l.getD i ([],[])).1)&&((decide ((l.getD i ([],[])).2.length<=4096)&&vu (l.getD i ([],[])).2)&&(decide (i=0)||!Vd (l.getD (i - 1) ([],[])).1 (l.getD i ([],[])).1)))
structure eo(H0:Heap)(l:List NP)(b:Nat)(m:Nat)(tm:TM)(H:Heap):Prop where
 i: ∃i,XK tm=nI .i64 i∧i<=l.length∧m=l.length - i∧ ∀j,j<i->P5 l j=true
 t1:Y2 tm=.ptr b 0
 k:Zq H0 H []
 ro:H.ro<=H.nx
theorem Dq(E:Env Zp fs fuel){l:List NP}{v:AV}(hN:NT H0 v l)(hL:l.length<=100)(hS: ∀i,(l.getD i ([],[])).1.length<=1000∧(l.getD i ([],[])).2.length<=1000)
  (hbn:b<H0.nx)(hb:H0.t.get b=some (rH 42 cs))(EH: ∀G,ld1 (some (rH 42 cs)) 34 G=.val v G)(y f d r)(x:X)(m:Nat)(tm:TM)(H:Heap)(hI:eo H0 l b m tm H):
  ∃o tm' H',Q9 ⟨ZJ (LK Zp fs fuel k) fs fuel (n+5),y,f,d,r⟩ tm H x=.ok o tm' H' x∧((o=.normal∧ ∃q,q<m∧eo H0 l b q tm' H')∨(o≠.normal∧(Zq H0 H' []∧((o=.exit 0∧ ∀j,j<l.length->P5 l j=true)∨(o=.ret∧Xy tm'=.bool false∧ ∃j,j<l.length∧P5 l j=false))))):=by
 obtain⟨⟨i,t3,hi,rfl,hok⟩,t1,k0,hro⟩:=hI
 have nx0:=k0.nx
 have gB:H.t.get b=some (rH 42 cs):=by rw[k0.get b hbn (by simp)];exact hb
 have lnn:=λG=>hN.len G
 have t1':=t1
 simp only[Qg,PM] at t3 t1
 by_cases hlt:i<l.length
 ·have d1:decide (i<l.length)=true:=Ze hlt
  rcases hN with⟨rfl,rfl⟩|⟨bn,rr,rfl,hbb,gN0,wN⟩
  ·exact absurd hlt (by simp)
  have gN:H.t.get bn=some (.row rr):=by rw[k0.get bn hbb (by simp)];exact gN0
  have hat: ∀i,i<l.length->l[i]? =some (l.getD i ([],[])):=λi h=>by rw[Za,Zg h];rfl
  have hP:=hat i hlt
  obtain⟨s1,s2⟩:=hS i
  obtain⟨O,tG⟩:=XZ (P5 l i)
  have hO:=tG
  rw[P5] at hO
  generalize hp:l.getD i ([],[])=p at hP s1 s2 hO
  obtain⟨w1,w2⟩:=wN i p hP
  have aL: ∀G,ld1 (some (.row rr)) (i*2+0) G=.val (.str p.1) G:=w1
  have u1: ∀G,ld1 (some (.row rr)) (0+i*2+0) G=.val (.str p.1) G:=by rw[Zs];exact w1
  have u2: ∀G,ld1 (some (.row rr)) (0+i*2+1) G=.val (.str p.2) G:=by rw[Zs];exact w2
  have ix:=λG=>Ua (sz:=2) hlt bn 0 none .i64 G
  obtain⟨H1,e1,k1⟩:=Nt E (k:=k) (n:=n) (m:=255) (s:=p.1) (H:=H) (by omega) hro
  have n1:=k1.nx
  have r1:=k1.ro
  obtain⟨H2,e2,k2⟩:=Nt E (k:=k) (n:=n) (m:=4096) (s:=p.2) (H:=H1) (by omega) (by omega)
  have n2:=k2.nx
  have r2:=k2.ro
  have oO:H1.t.get b=some (rH 42 cs):=by rw[k1.get b (by omega) (by simp)];exact gB
  have oP:H1.t.get bn=some (.row rr):=by rw[k1.get bn (by omega) (by simp)];exact gN
  have gB2:H2.t.get b=some (rH 42 cs):=by rw[k2.get b (by omega) (by simp)];exact oO
  have gN2:H2.t.get bn=some (.row rr):=by rw[k2.get bn (by omega) (by simp)];exact oP
  generalize hB1:(decide (p.1.length<=255)&&vu p.1)=B1 at e1 hO
  generalize hB2:(decide (p.2.length<=4096)&&vu p.2)=B2 at e2 hO
  have ad:=λG=>YZ (a:=i) (b:=1) (by omega) G
  have cf: ∀x y:Bool,cond true x y=x:=λ_ _=>rfl
  have ct: ∀x y:Bool,cond false x y=y:=λ_ _=>rfl
  have lw:=Yp (n:=H2.nx) (b:=b) (by omega) 0
  have lw2:=Xk (n:=H2.nx) (b:=bn) (by omega) 0 l.length none
  have lwp:=λo=>Yp (n:=H2.nx) (b:=bn) (by omega) o
  have lw6:=Yp (n:=H2.nx) (b:=b) (by omega) 34
  have kk1:=k0.trans k1 (by simp)
  have kk:=kk1.trans k2 (by simp)
  by_cases hz:p.1=[]
  ·have dz:=Ze hz
   rw[dz] at hO
   simp(maxSteps:=4000000) (disch:=first|assumption|omega|(simp -implicitDefEqProofs only[ZQ,ZR]<;>first|assumption|omega)|decide) only[t1,t3,d1,dz,gB,gN,EH,lnn,XP,ix,u1,w1,aL,cf,ct,ZH,Tq,Q9,ZC,ZY,Zz,Zw,Zr,Zt,ZA,Nat.reducePow,Nat.reduceDiv,Nat.reduceMod,Nat.reduceEqDiff,reduceCtorEq,Z4,WG,Rn]
   refine⟨_,_,_,rfl,?_⟩
   exact .inr ⟨by simp,k0,.inr ⟨rfl,(by simp only[Z4,ZY]),i,hlt,tG.trans hO.symm⟩⟩
  have dz:=Zb hz
  rw[dz] at hO
  cases B1
  ·
   simp(maxSteps:=4000000) (disch:=first|assumption|omega|(simp -implicitDefEqProofs only[ZQ,ZR]<;>first|assumption|omega)|decide) only[t1,t3,d1,dz,gB,gN,oO,oP,EH,lnn,XP,ix,u1,u2,w1,w2,aL,e1,e2,cf,ct,ZH,Tq,Q9,ZC,ZY,Zz,Zw,Zr,Zt,ZA,Nat.reducePow,Nat.reduceDiv,Nat.reduceMod,Nat.reduceEqDiff,reduceCtorEq,Z4,WG,Rn]
   refine⟨_,_,_,rfl,?_⟩
   exact .inr ⟨by simp,kk1,.inr ⟨rfl,(by simp only[Z4,ZY]),i,hlt,tG.trans hO.symm⟩⟩
  cases B2
  ·
   simp(maxSteps:=4000000) (disch:=first|assumption|omega|(simp -implicitDefEqProofs only[ZQ,ZR]<;>first|assumption|omega)|decide) only[t1,t3,d1,dz,gB,gN,oO,oP,EH,lnn,XP,ix,u1,u2,w1,w2,aL,e1,e2,cf,ct,ZH,Tq,Q9,ZC,ZY,Zz,Zw,Zr,Zt,ZA,Nat.reducePow,Nat.reduceDiv,Nat.reduceMod,Nat.reduceEqDiff,reduceCtorEq,Z4,WG,Rn]
   refine⟨_,_,_,rfl,?_⟩
   exact .inr ⟨by simp,kk,.inr ⟨rfl,(by simp only[Z4,ZY]),i,hlt,tG.trans hO.symm⟩⟩
  by_cases h0:i=0
  ·have dp:decide (0<i)=false:=Zb (by omega)
   rw[Ze h0] at hO
   simp(maxSteps:=4000000) (disch:=first|assumption|omega|(simp -implicitDefEqProofs only[ZQ,ZR]<;>first|assumption|omega)|decide) only[t1,t3,d1,dz,dp,gB,gN,oO,oP,gB2,gN2,EH,lnn,XP,ix,u1,u2,w1,w2,aL,e1,e2,ad,cf,ct,lw,lw2,lw6,ZH,Yi,Tq,Q9,ZC,ZY,Zz,Zw,Zr,Zt,ZA,Nat.reducePow,Nat.reduceDiv,Nat.reduceMod,Nat.reduceEqDiff,reduceCtorEq,Z4,WG,Rn]
   refine⟨_,_,_,rfl,?_⟩
   exact .inl ⟨rfl,l.length - (i+1),by omega,⟨⟨i+1,(by simp only[Z4,ZY]),by omega,rfl,λj hj=>if e:j=i then by rw[e];exact tG.trans hO.symm else hok j (by omega)⟩,(by simp only[Z4,ZY];exact t1'),kk,by omega⟩⟩
  have dp:decide (0<i)=true:=Ze (by omega)
  rw[Zb h0] at hO
  have hQ:=hat (i - 1) (by omega)
  generalize hq:l.getD (i - 1) ([],[])=q at hQ hO
  obtain⟨x1,_⟩:=wN (i - 1) q hQ
  have x10: ∀G,ld1 (some (.row rr)) ((i - 1)*2+0) G=.val (.str q.1) G:=x1
  have jT:=λG=>Ua (sz:=2) (i:=i - 1) (n:=l.length) (by omega) bn 0 none .i64 G
  have sb:=λG=>Vj (a:=i) (b:=1) (by omega) (by omega) G
  generalize hg:Vd q.1 p.1=g at hO
  have ge:=λG=>geS q.1 p.1 G
  rw[hg] at ge
  cases g
  ·
   simp(maxSteps:=4000000) (disch:=first|assumption|omega|(simp -implicitDefEqProofs only[ZQ,ZR]<;>first|assumption|omega)|decide) only[t1,t3,d1,dz,dp,gB,gN,oO,oP,gB2,gN2,EH,lnn,XP,ix,jT,sb,ge,u1,u2,w1,w2,aL,x1,x10,e1,e2,ad,cf,ct,lw,lw2,lwp,lw6,ZH,Yi,Tq,Q9,ZC,ZY,Zz,Zw,Zr,Zt,ZA,Nat.reducePow,Nat.reduceDiv,Nat.reduceMod,Nat.reduceEqDiff,reduceCtorEq,Z4,WG,Rn]
   refine⟨_,_,_,rfl,?_⟩
   exact .inl ⟨rfl,l.length - (i+1),by omega,⟨⟨i+1,(by simp only[Z4,ZY]),by omega,rfl,λj hj=>if e:j=i then by rw[e];exact tG.trans hO.symm else hok j (by omega)⟩,(by simp only[Z4,ZY];exact t1'),kk,by omega⟩⟩
  ·
   simp(maxSteps:=4000000) (disch:=first|assumption|omega|(simp -implicitDefEqProofs only[ZQ,ZR]<;>first|assumption|omega)|decide) only[t1,t3,d1,dz,dp,gB,gN,oO,oP,gB2,gN2,EH,lnn,XP,ix,jT,sb,ge,u1,u2,w1,w2,aL,x1,x10,e1,e2,ad,cf,ct,lw,lw2,lwp,lw6,ZH,Yi,Tq,Q9,ZC,ZY,Zz,Zw,Zr,Zt,ZA,Nat.reducePow,Nat.reduceDiv,Nat.reduceMod,Nat.reduceEqDiff,reduceCtorEq,Z4,WG,Rn]
   refine⟨_,_,_,rfl,?_⟩
   exact .inr ⟨by simp,kk,.inr ⟨rfl,(by simp only[Z4,ZY]),i,hlt,tG.trans hO.symm⟩⟩
 ·have d1:decide (i<l.length)=false:=Zb hlt
  simp(maxSteps:=4000000) (disch:=first|assumption|omega|(simp -implicitDefEqProofs only[ZQ,ZR]<;>first|assumption|omega)|decide) only[t1,t3,d1,gB,EH,lnn,ZH,Q9,ZC,ZY,Zz,Zw,Zr,Zt,ZA,Nat.reducePow,Nat.reduceDiv,Nat.reduceMod,Nat.reduceEqDiff,reduceCtorEq,Z4,WG,Rn]
  refine⟨_,_,_,rfl,?_⟩
  exact .inr ⟨by simp,k0,.inl ⟨rfl,λj hj=>hok j (by omega)⟩⟩
def QG(md:List UInt8):Bool:=!decide (md=U6)&&(!decide (md=RJ)&&(!decide (md=Qh)&&!decide (md=RW)))
def KB(l:List NP):Bool:=decide (l.length<=16)&&(List.range l.length).all (P5 l)
theorem MM{l:List NP}(h: ∀j,j<l.length->P5 l j=true):(List.range l.length).all (P5 l)=true:=YR.2 λj hj=>h j (Ug.1 hj)
theorem M3{l:List NP}(h: ∃j,j<l.length∧P5 l j=false):(List.range l.length).all (P5 l)=false:=by
 obtain⟨j,hj,e⟩:=h
 cases hh:(List.range l.length).all (P5 l) with
 |false=>rfl
 |true=>rw[YR.1 hh j (Ug.2 hj)] at e;cases e
theorem Je(E:Env Zp fs fuel){m:Nat}(hk:2<=k)(g:Vy H)(hro:H.ro<=H.nx)(hs:s.length<99998):
  ZJ (LK Zp fs fuel k) fs fuel (n+2) 29 [.str s,nI .i64 m] H=.ret (.bool (decide (s.length<=m)&&vu s)) H:=by
 rw[ZL (ZF E.n29 (.inr rfl) _ _) E.f29]
 have e:=λ{j}=>ZcX (Zp:=Zp) (fs:=fs) (fuel:=fuel) E (k:=k) (n:=j) hk (H:=H) g hro hs
 by_cases h:s.length<=m
 ·have d:decide (s.length<=m)=true:=Ze h
  rw[d,Yz]
  simp(maxSteps:=4000000) (disch:=first|assumption|omega|(simp -implicitDefEqProofs only[ZQ,ZR]<;>first|assumption|omega)|decide) only[e,d,X6,c29,ZC,ZY,Zz,Zw,Zr,Zt,ZA,Nat.reduceEqDiff,reduceCtorEq,Z4]
 ·have d:decide (s.length<=m)=false:=Zb h
  rw[d,Y4]
  simp(maxSteps:=4000000) (disch:=first|assumption|omega|(simp -implicitDefEqProofs only[ZQ,ZR]<;>first|assumption|omega)|decide) only[e,d,X6,c29,ZC,ZY,Zz,Zw,Zr,Zt,ZA,Nat.reduceEqDiff,reduceCtorEq,Z4]
def E9:List AV:=[.str RJ,.str U6,.str Qh,.str RW]
theorem ne(E:Env Zp fs fuel){md:List UInt8}(hb:H.t.get b=some (rH 9 E9)):
  ∃z:Int,ZJ (LK Zp fs fuel k) fs fuel (n+1) 46 [.slice b 0 4 none,.str md] H=.ret (.int .i64 z) H∧((QG md=false∧ ∃j:Nat,z=j)∨(QG md=true∧z=.negSucc 0)):=by
 rw[ZL (ZF E.n46 (.inr rfl) _ _) E.f46]
 obtain⟨F,hF⟩: ∃F,fuel=F+5:=⟨fuel - 5,by have:=E.big;omega⟩
 subst hF
 have lm: ∀j,j<4-> ∀G,ld1 (some (rH 9 E9)) j G=.val (E9.getD j .unk) G:=λj hj G=>Z2 hj ..
 have l0:=lm 0 (by decide);have l1:=lm 1 (by decide);have l2:=lm 2 (by decide);have l3:=lm 3 (by decide)
 simp only[E9,List.getD_cons_zero,WT] at l0 l1 l2 l3
 unfold E9 at hb
 have z0:decide (0<4)=true:=rfl
 have z1:decide (1<4)=true:=rfl
 have z2:decide (2<4)=true:=rfl
 have z3:decide (3<4)=true:=rfl
 have z4:decide (4<4)=false:=rfl
 by_cases h0:md=RJ
 ·have d0:decide (md=RJ)=true:=Ze h0
  refine⟨(0:Nat),?_,.inl ⟨by unfold QG;rw[h0];simp,0,rfl⟩⟩
  simp(maxSteps:=4000000) (disch:=first|assumption|omega|(simp -implicitDefEqProofs only[ZQ,ZR]<;>first|assumption|omega)|decide) only[d0,ON,hb,l0,l1,l2,l3,z0,z1,z2,z3,z4,Xx,XP,YZ,ZH,Tq,Zs,Nat.reduceAdd,Nat.reduceLeDiff,c46,Fp,ZC,ZY,Zz,Zw,Zr,Zt,ZA,Nat.reduceEqDiff,reduceCtorEq,Z4]
  all_goals rfl
 have d0:decide (md=RJ)=false:=Zb h0
 by_cases h1:md=U6
 ·have d1:decide (md=U6)=true:=Ze h1
  refine⟨(1:Nat),?_,.inl ⟨by unfold QG;rw[h1];simp,1,rfl⟩⟩
  simp(maxSteps:=4000000) (disch:=first|assumption|omega|(simp -implicitDefEqProofs only[ZQ,ZR]<;>first|assumption|omega)|decide) only[d0,d1,ON,hb,l0,l1,l2,l3,z0,z1,z2,z3,z4,Xx,XP,YZ,ZH,Tq,Zs,Nat.reduceAdd,Nat.reduceLeDiff,c46,Fp,ZC,ZY,Zz,Zw,Zr,Zt,ZA,Nat.reduceEqDiff,reduceCtorEq,Z4]
  all_goals rfl
 have d1:decide (md=U6)=false:=Zb h1
 by_cases h2:md=Qh
 ·have d2:decide (md=Qh)=true:=Ze h2
  refine⟨(2:Nat),?_,.inl ⟨by unfold QG;rw[h2];simp,2,rfl⟩⟩
  simp(maxSteps:=4000000) (disch:=first|assumption|omega|(simp -implicitDefEqProofs only[ZQ,ZR]<;>first|assumption|omega)|decide) only[d0,d1,d2,ON,hb,l0,l1,l2,l3,z0,z1,z2,z3,z4,Xx,XP,YZ,ZH,Tq,Zs,Nat.reduceAdd,Nat.reduceLeDiff,c46,Fp,ZC,ZY,Zz,Zw,Zr,Zt,ZA,Nat.reduceEqDiff,reduceCtorEq,Z4]
  all_goals rfl
 have d2:decide (md=Qh)=false:=Zb h2
 by_cases h3:md=RW
 ·have d3:decide (md=RW)=true:=Ze h3
  refine⟨(3:Nat),?_,.inl ⟨by unfold QG;rw[h3];simp,3,rfl⟩⟩
  simp(maxSteps:=4000000) (disch:=first|assumption|omega|(simp -implicitDefEqProofs only[ZQ,ZR]<;>first|assumption|omega)|decide) only[d0,d1,d2,d3,ON,hb,l0,l1,l2,l3,z0,z1,z2,z3,z4,Xx,XP,YZ,ZH,Tq,Zs,Nat.reduceAdd,Nat.reduceLeDiff,c46,Fp,ZC,ZY,Zz,Zw,Zr,Zt,ZA,Nat.reduceEqDiff,reduceCtorEq,Z4]
  all_goals rfl
 have d3:decide (md=RW)=false:=Zb h3
 refine⟨.negSucc 0,?_,.inr ⟨by unfold QG;simp[h0,h1,h2,h3],rfl⟩⟩
 simp(maxSteps:=4000000) (disch:=first|assumption|omega|(simp -implicitDefEqProofs only[ZQ,ZR]<;>first|assumption|omega)|decide) only[d0,d1,d2,d3,ON,hb,l0,l1,l2,l3,z0,z1,z2,z3,z4,Xx,XP,YZ,ZH,Tq,Zs,Nat.reduceAdd,Nat.reduceLeDiff,c46,Fp,ZC,ZY,Zz,Zw,Zr,Zt,ZA,Nat.reduceEqDiff,reduceCtorEq,Z4]
theorem MR(E:Env Zp fs fuel){md:List UInt8}(hb:H.t.get b=some (rH 9 E9)):
  ZJ (LK Zp fs fuel k) fs fuel (n+2) 30 [.slice b 0 4 none,.str md] H=.ret (.bool (!QG md)) H:=by
 rw[ZL (ZF E.n30 (.inr rfl) _ _) E.f30]
 obtain⟨z,e,hz⟩:=ne E (k:=k) (n:=n) (md:=md) hb
 have c1: ∀G,Pb SK Vd (.int .i64 z) (nI .i64 0) G=.val (.bool (!QG md)) G:=λG=>by
  rcases hz with⟨hm,j,rfl⟩|⟨hm,rfl⟩
  ·rw[hm]
   have:AV.int .i64 (j:Int)=nI .i64 j:=rfl
   rw[this,Xb,Ze (Z8 j)];rfl
  ·rw[hm];rfl
 simp(maxSteps:=4000000) (disch:=first|assumption|omega|(simp -implicitDefEqProofs only[ZQ,ZR]<;>first|assumption|omega)|decide) only[e,c1,c30,ZC,ZY,Zz,Zw,Zr,Zt,ZA,Nat.reduceEqDiff,reduceCtorEq,Z4]
def Dh(H:Heap)(v:AV)(l:List NP):Prop:=(l=[]∧v=.nils)∨ ∃b r,v=.slice b 0 l.length none∧b<H.nx∧H.t.get b=some (.row r)∧r.sz=2∧2*l.length<=r.size∧ ∀i p,l[i]? =some p->r.get (i*2)=.str p.1∧r.get (i*2+1)=.str p.2
theorem Dh.keep{H H':Heap}{v:AV}{l:List NP}(h:Dh H v l)(k:Zq H H' []):Dh H' v l:=by
 rcases h with h|⟨b,r,e,hb,g,w⟩
 ·exact .inl h
 ·exact .inr ⟨b,r,e,ZO hb k.nx,by rw[k.get b hb (by simp)];exact g,w⟩
theorem Dh.nt{v:AV}{l:List NP}(h:Dh H v l):NT H v l:=by
 rcases h with h|⟨b,r,e,hb,g,_,hs,w⟩
 ·exact .inl h
 ·refine .inr ⟨b,r,e,hb,g,λi p hp=>?_⟩
  obtain⟨hl,_⟩:=Xh.1 hp
  obtain⟨w1,w2⟩:=w i p hp
  exact⟨λG=>by rw[M2 (by omega),w1],λG=>by rw[M2 (by omega),w2]⟩
structure aQ(H0:Heap)(l:List NP)(v:AV)(b:Nat)(m:Nat)(tm:TM)(H:Heap):Prop where
 i: ∃i,Wv tm=nI .i64 i∧i<=l.length∧m=l.length - i∧ ∀j,j<i->P5 l j=true
 t1:Y2 tm=.ptr b 0
 t7:WB tm=v
 t8:Wc tm=nI .i64 l.length
 k:Zq H0 H []
 ro:H.ro<=H.nx
theorem xq(E:Env Zp fs fuel)(hk:2<=k){l:List NP}{v:AV}(gU: ∀G,Zq H0 G []->Vy G)(hN:Dh H0 v l)(hLn:l.length<=100)(hS: ∀i,(l.getD i ([],[])).1.length<=1000∧(l.getD i ([],[])).2.length<=1000)
  (hbn:b<H0.nx)(hb:H0.t.get b=some (rH 26 cs))(EH: ∀G,ld1 (some (rH 26 cs)) 34 G=.val v G)(y f d r)(x:X)(m:Nat)(tm:TM)(H:Heap)(hI:aQ H0 l v b m tm H):
  ∃o tm' H',P2 ⟨ZJ (LK Zp fs fuel k) fs fuel (n+5),y,f,d,r⟩ tm H x=.ok o tm' H' x∧((o=.normal∧ ∃q,q<m∧aQ H0 l v b q tm' H')∨(o≠.normal∧(Zq H0 H' []∧((o=.exit 0∧Y2 tm'=.ptr b 0∧ ∀j,j<l.length->P5 l j=true)∨(o=.ret∧Xy tm'=.bool false∧ ∃j,j<l.length∧P5 l j=false))))):=by
 obtain⟨⟨i,t9,hi,rfl,hok⟩,t1,t7,t8,k0,hro⟩:=hI
 have nx0:=k0.nx
 have t1':=t1;have lZ:=t7;have zW:=t8
 simp only[PM,CK,Jw,yM] at t1 t7 t8 t9
 by_cases hlt:i<l.length
 ·have d1:decide (i<l.length)=true:=Ze hlt
  rcases hN with⟨rfl,rfl⟩|⟨bn,rr,rfl,hbb,gN0,szr,hsr,wN⟩
  ·exact absurd hlt (by simp)
  have gN:H.t.get bn=some (.row rr):=by rw[k0.get bn hbb (by simp)];exact gN0
  have hat: ∀i,i<l.length->l[i]? =some (l.getD i ([],[])):=λi h=>by rw[Za,Zg h];rfl
  have hP:=hat i hlt
  obtain⟨s1,s2⟩:=hS i
  obtain⟨O,tG⟩:=XZ (P5 l i)
  have hO:=tG
  rw[P5] at hO
  generalize hp:l.getD i ([],[])=p at hP s1 s2 hO
  obtain⟨w1,w2⟩:=wN i p hP
  have l2: ∀G,ldN 2 (some (.row rr)) (i*2) G=.val (.agg [.str p.1,.str p.2]) G:=λG=>by
   show ZX (Nat.ble (i*2+2) rr.size) (.val (.agg [rr.get (i*2),rr.get (i*2+1)]) G)=_
   rw[Zm (by omega),w1,w2];rfl
  have ix:=λG=>Ua (sz:=2) hlt bn 0 none .i64 G
  obtain⟨H1,hH1⟩:=XZ (H.new (rH 59 [.str p.1,.str p.2]))
  have n1:H1.nx=H.nx+1:=by rw[<-hH1];rfl
  have k1:Zq H H1 []:=by rw[<-hH1];exact Zq.new _ _ _
  have r1:=k1.ro
  have st:rK 2 (some (rH 59 [.str [],.str []])) H.nx 0 (.agg [.str p.1,.str p.2]) (H.new (rH 59 [.str [],.str []]))=.val Xl H1:=by
   rw[WQ (n:=2) (l:=[.str [],.str []]) (vs:=[.str p.1,.str p.2]) (H:=H.new (rH 59 [.str [],.str []])) rfl rfl (by decide) hro,SU rfl,hH1]
  have gnn: ∀ob,(H.new ob).t.get H.nx=some ob:=λob=>Zx rfl ob
  have gq:H1.t.get H.nx=some (rH 59 [.str p.1,.str p.2]):=by rw[<-hH1];exact gnn _
  have q0: ∀G,ld1 (some (rH 59 [.str p.1,.str p.2])) 0 G=.val (.str p.1) G:=λG=>Z2 (show 0<2 by decide) ..
  have q1: ∀G,ld1 (some (rH 59 [.str p.1,.str p.2])) 1 G=.val (.str p.2) G:=λG=>Z2 (show 1<2 by decide) ..
  have oO:H1.t.get b=some (rH 26 cs):=by rw[k1.get b (by omega) (by simp),k0.get b hbn (by simp)];exact hb
  have oP:H1.t.get bn=some (.row rr):=by rw[k1.get bn (by omega) (by simp)];exact gN
  have kk:=k0.trans k1 (by simp)
  have gu1:=gU H1 kk
  have e1:=Je E (k:=k) (n:=n+3) (m:=255) hk (s:=p.1) (H:=H1) gu1 (by omega) (by omega)
  have e2:=Je E (k:=k) (n:=n+3) (m:=4096) hk (s:=p.2) (H:=H1) gu1 (by omega) (by omega)
  generalize hB1:(decide (p.1.length<=255)&&vu p.1)=B1 at e1 hO
  generalize hB2:(decide (p.2.length<=4096)&&vu p.2)=B2 at e2 hO
  have ad:=λG=>YZ (a:=i) (b:=1) (by omega) G
  have cf: ∀x y:Bool,cond true x y=x:=λ_ _=>rfl
  have ct: ∀x y:Bool,cond false x y=y:=λ_ _=>rfl
  have lwq:=λo=>Yp (n:=H1.nx) (b:=H.nx) (by omega) o
  have lwb:=λo=>Yp (n:=H1.nx) (b:=b) (by omega) o
  have lwn:=λo=>Yp (n:=H1.nx) (b:=bn) (by omega) o
  have lws:=Xk (n:=H1.nx) (b:=bn) (by omega) 0 l.length none
  by_cases hz:p.1=[]
  ·have dz:=Ze hz
   rw[dz] at hO
   simp only[t7,t8,t9,d1,dz,gN,ix,l2,st,gnn,gq,q0,cf,lwq,QC,TZ,Zs,ZH,Tq,P2,ZC,ZY,Zw,Zr,Zt,Nat.reducePow,Nat.reduceDiv,Nat.reduceMod,Z4,WG]
   refine⟨_,_,_,rfl,.inr ⟨by simp,kk,.inr ⟨rfl,(by simp only[ZY]),i,hlt,tG.trans hO.symm⟩⟩⟩
  have dz:=Zb hz
  rw[dz] at hO
  cases B1
  ·
   simp only[t7,t8,t9,d1,dz,gN,ix,l2,st,gnn,gq,q0,cf,ct,lwq,QC,TZ,Zs,e1,ZH,Tq,P2,ZC,ZY,Zw,Zr,Zt,Nat.reducePow,Nat.reduceDiv,Nat.reduceMod,Z4,WG]
   refine⟨_,_,_,rfl,.inr ⟨by simp,kk,.inr ⟨rfl,(by simp only[ZY]),i,hlt,tG.trans hO.symm⟩⟩⟩
  cases B2
  ·
   simp only[t7,t8,t9,d1,dz,gN,ix,l2,st,gnn,gq,q0,q1,cf,ct,lwq,QC,TZ,Zs,e1,e2,ZH,Tq,P2,ZC,ZY,Zw,Zr,Zt,Nat.reducePow,Nat.reduceDiv,Nat.reduceMod,Z4,WG]
   refine⟨_,_,_,rfl,.inr ⟨by simp,kk,.inr ⟨rfl,(by simp only[ZY]),i,hlt,tG.trans hO.symm⟩⟩⟩
  by_cases h0:i=0
  ·have dp:decide (0<i)=false:=Zb (by omega)
   rw[Ze h0] at hO
   simp only[t7,t8,t9,d1,dz,gN,ix,l2,st,gnn,gq,q0,q1,cf,lwq,TZ,Zs,dp,e1,e2,ad,ZH,Yi,Tq,P2,ZC,ZY,Zw,Zr,Zt,Nat.reducePow,Nat.reduceDiv,Nat.reduceMod,Z4,WG]
   refine⟨_,_,_,rfl,.inl ⟨rfl,l.length - (i+1),by omega,⟨⟨i+1,rfl,by omega,rfl,λj hj=>if e:j=i then by rw[e];exact tG.trans hO.symm else hok j (by omega)⟩,t1',lZ,zW,kk,by omega⟩⟩⟩
  have dp:decide (0<i)=true:=Ze (by omega)
  rw[Zb h0] at hO
  have hQ:=hat (i - 1) (by omega)
  generalize hq:l.getD (i - 1) ([],[])=q at hQ hO
  obtain⟨x1,_⟩:=wN (i - 1) q hQ
  have x10: ∀G,ld1 (some (.row rr)) ((i - 1)*2) G=.val (.str q.1) G:=λG=>by rw[M2 (by omega),x1]
  have x11: ∀G,ld1 (some (.row rr)) ((i - 1)*2+0) G=.val (.str q.1) G:=x10
  have jT:=λG=>Ua (sz:=2) (i:=i - 1) (n:=l.length) (by omega) bn 0 none .i64 G
  have sb:=λG=>Vj (a:=i) (b:=1) (by omega) (by omega) G
  generalize hg:Vd q.1 p.1=g at hO
  have ge:=λG=>geS q.1 p.1 G
  rw[hg] at ge
  cases g
  ·
   simp only[t1,t7,t8,t9,d1,dz,gN,ix,l2,st,gnn,gq,q0,q1,oO,oP,EH,cf,lwq,lwb,lwn,lws,TZ,Zs,dp,e1,e2,ad,jT,sb,ge,x11,ZH,Yi,Tq,P2,ZC,ZY,Zw,Zr,Zt,Nat.reducePow,Nat.reduceDiv,Nat.reduceMod,Z4,WG]
   refine⟨_,_,_,rfl,.inl ⟨rfl,l.length - (i+1),by omega,⟨⟨i+1,rfl,by omega,rfl,λj hj=>if e:j=i then by rw[e];exact tG.trans hO.symm else hok j (by omega)⟩,t1',lZ,zW,kk,by omega⟩⟩⟩
  ·
   simp only[t1,t7,t8,t9,d1,dz,gN,ix,l2,st,gnn,gq,q0,q1,oO,oP,EH,cf,lwq,lwb,lwn,lws,TZ,Zs,dp,e1,e2,jT,sb,ge,x11,ZH,Yi,Tq,P2,ZC,ZY,Zw,Zr,Zt,Nat.reducePow,Nat.reduceDiv,Nat.reduceMod,Z4,WG]
   refine⟨_,_,_,rfl,.inr ⟨by simp,kk,.inr ⟨rfl,(by simp only[ZY]),i,hlt,tG.trans hO.symm⟩⟩⟩
 ·have d1:decide (i<l.length)=false:=Zb hlt
  simp only[t8,t9,d1,ZH,P2,ZC,ZY,Z4]
  refine⟨_,_,_,rfl,.inr ⟨by simp,k0,.inl ⟨rfl,t1',λj hj=>hok j (by omega)⟩⟩⟩
def P8(md:List UInt8)(l:List NP):Bool:=(List.range l.length).all (P5 l)&&(!QG md&&decide (l.length<=16))
theorem wC(md:List UInt8)(l:List NP):P8 md l=(!QG md&&KB l):=by
 unfold P8 KB
 cases(List.range l.length).all (P5 l)<;>cases QG md<;>cases decide (l.length<=16)<;>rfl
def CQ(n:Nat)(a i:AV)(H:Heap):OR:=RB i λi=>Bf a λcs=>ZX (Nat.ble (Nat.succ i) n) (Tu (Gp cs i) λv=>.val v H)
theorem vD(x y:Ye)(n:Nat)(tm:TM)(H:Heap):C8 x y n tm H=CQ n (x tm) (y tm) H:=rfl
theorem po: ∀(l:List AV) (i:Nat),i<l.length->Gp l i=some (l.getD i .unk)
 |_::_,0,_=>rfl
 |_::l,i+1,h=>po l i (Nat.lt_of_succ_lt_succ h)
theorem tK{l:List AV}(hl:l.length=n)(hi:i<n)(k:IntKind)(G:Heap):CQ n (.agg l) (nI k i) G=.val (l.getD i .unk) G:=by
 show ZX (Nat.ble (Nat.succ i) n) (Tu (Gp l i) λv=>OR.val v G)=_
 rw[Zm hi,po l i (by omega)];rfl
theorem jK{a:Nat}(h:a<16):hxd a=[SS.getD a 0]:=by
 have: ∀a:Fin 16,hxd a.val=[SS.getD a.val 0]:=by decide
 exact this ⟨a,h⟩
structure SNI(H0:Heap)(d:List UInt8)(sb:Nat)(m:Nat)(tm:TM)(H:Heap):Prop where
 i: ∃i,Wc tm=nI .i64 i∧i+m=32∧xU H sb ([115,104,97,50,53,54,58]++(d.take i).flatMap hx)
 t3:XK tm=.ptr sb 0
 t7:WB tm=.agg (d.map XM)
 k:Zq H0 H []
 ro:H.ro<=H.nx
def SNQ(H0:Heap)(d:List UInt8)(sb:Nat)(o:Out)(tm:TM)(H:Heap):Prop:=o=.exit 0∧XK tm=.ptr sb 0∧xU H sb (R6 d)∧Zq H0 H []∧H.ro<=H.nx
theorem aw(E:Env Zp fs fuel){d:List UInt8}{sb:Nat}(hd:d.length=32)(hsb:H0.nx<=sb)(y f dd r)(x:X)(m:Nat)(tm:TM)(H:Heap)(hI:SNI H0 d sb m tm H):
  ∃o tm' H',DT ⟨ZJ (LK Zp fs fuel k) fs fuel (n+3),y,f,dd,r⟩ tm H x=.ok o tm' H' x∧((o=.normal∧ ∃k,k<m∧SNI H0 d sb k tm' H')∨(o≠.normal∧SNQ H0 d sb o tm' H')):=by
 obtain⟨⟨i,t8,him,b⟩,t3,t7,k0,hro⟩:=hI
 have O9:=t3;have lZ:=t7
 simp only[Qg,CK,Jw] at t3 t7 t8
 have hlen:=Jb (d.take i)
 rw[ZP] at hlen
 cases m with
 |zero=>
  have d1:decide (i<32)=false:=Zb (by omega)
  rw[ZB (by omega)] at b
  simp(maxSteps:=4000000) (disch:=first|assumption|omega|(simp -implicitDefEqProofs only[ZQ,ZR]<;>first|assumption|omega)|decide) only[t8,d1,ZH,DT,ZC,ZY,Zz,Zw,Zr,Zt,ZA,Nat.reducePow,Nat.reduceDiv,Nat.reduceMod,Nat.reduceEqDiff,reduceCtorEq,Z4]
  refine⟨_,_,_,rfl,?_⟩
  exact .inr ⟨by simp,rfl,O9,b,k0,hro⟩
 |succ m=>
  have d1:decide (i<32)=true:=Ze (by omega)
  have hi:i<d.length:=by omega
  obtain⟨B,hB⟩:=XZ (d[i])
  have hBl:=B.toNat_lt
  have ix: ∀G,CQ 32 (.agg (d.map XM)) (nI .i64 i) G=.val (nI .u8 B.toNat) G:=λG=>by
   rw[tK (by rw[Zi];exact hd) (by omega),Za,Yh,Zg hi,hB];rfl
  have sh: ∀G,rx (nI .u8 B.toNat) (nI .u64 4) G=.val (nI .u8 (B.toNat/16)) G:=λG=>v5 (by decide) G
  have la: ∀G,DM OK (nI .u8 B.toNat) (nI .u8 15) G=.val (nI .u8 (B.toNat % 16)) G:=λG=>zi hBl G
  have ZbM:SS.length=16:=rfl
  have x1:=λ(G:Heap)=>TK (s:=SS) (i:=B.toNat/16) (by omega) .u8 G
  have x2:=λ(G:Heap)=>TK (s:=SS) (i:=B.toNat % 16) (by omega) .u8 G
  obtain⟨H2,e1,b2,w2⟩:=MJ E (k:=k) (n:=n) b (x:=(SS.getD (B.toNat/16) 0).toNat) (UInt8.toNat_lt _) (by rw[Zf,hlen];simp only[Zh,Zv];omega) hro
  have NG:H2.ro<=H2.nx:=by rw[w2.ro];have:=w2.nx;omega
  obtain⟨H3,e2,b3,w3⟩:=MJ E (k:=k) (n:=n) b2 (x:=(SS.getD (B.toNat % 16) 0).toNat) (UInt8.toNat_lt _) (by rw[Zf,Zf,hlen];simp only[Zh,Zv];omega) NG
  have ZbT:H3.ro<=H3.nx:=by rw[w3.ro];have:=w3.nx;omega
  have k3:=Below.keep (Below.keep k0 w2 hsb) w3 hsb
  have ad:=λG=>YZ (a:=i) (b:=1) (by omega) G
  have nx:[115,104,97,50,53,54,58]++(d.take i).flatMap hx++[UInt8.ofNat (SS.getD (B.toNat/16) 0).toNat]++[UInt8.ofNat (SS.getD (B.toNat % 16) 0).toNat]=[115,104,97,50,53,54,58]++(d.take (i+1)).flatMap hx:=by
   rw[W9 hi,TD,hB,Ti,Ti,<-jK (by omega),<-jK (by omega)]
   simp[hx]
  rw[nx] at b3
  simp(maxSteps:=4000000) (disch:=first|assumption|omega|(simp -implicitDefEqProofs only[ZQ,ZR]<;>first|assumption|omega)|decide) only[t3,t7,t8,d1,ix,sh,la,x1,x2,e1,e2,ad,vD,ZH,DT,ZC,ZY,Zz,Zw,Zr,Zt,ZA,Nat.reducePow,Nat.reduceDiv,Nat.reduceMod,Nat.reduceEqDiff,reduceCtorEq,Z4]
  refine⟨_,_,_,rfl,?_⟩
  exact .inl ⟨rfl,m,by omega,⟨⟨i+1,rfl,by omega,b3⟩,O9,lZ,k3,ZbT⟩⟩
theorem Eb(E:Env Zp fs fuel){d:List UInt8}(hd:d.length=32)(hro:H.ro<=H.nx):
  ∃H',ZJ (LK Zp fs fuel k) fs fuel (n+4) 42 [.agg (d.map XM)] H=.ret (.str (R6 d)) H'∧Zq H H' []:=by
 rw[ZL (ZF E.n42 (.inr rfl) _ _) E.f42]
 obtain⟨H1,hH1⟩:=XZ (H.new (rH 23 (d.map XM)))
 obtain⟨H2,hH2⟩:=XZ (H1.new (rH 102 [.nilp,.nils]))
 have bx:=YU (l:=d.map XM) (by rw[Zi];omega) 23 H
 rw[hH1] at bx
 have U2:H1.nx=H.nx+1:=by rw[<-hH1];rfl
 have k1:Zq H H1 []:=by rw[<-hH1];exact Zq.new H _ _
 have k2:Zq H H2 []:=by rw[<-hH2];exact k1.then_new _
 have b2:=xU.new (H:=H1) (by rw[k1.ro];omega)
 rw[hH2] at b2
 have NG:H2.ro<=H2.nx:=by rw[k2.ro];have:=k2.nx;omega
 obtain⟨H3,e3,b3,w3⟩:=Nu E (k:=k) (n:=n) b2 (m:=[115,104,97,50,53,54,58]) (by simp only[Zf,Zh,Zv];omega) NG
 have g3:H3.t.get H.nx=some (rH 23 (d.map XM)):=by
  have nx2:H2.nx=H1.nx+1:=by rw[<-hH2];rfl
  rw[w3.get H.nx (by omega) (by omega),<-hH2,YV (by omega),<-hH1,Zx rfl]
 have ld: ∀G,ldN 32 (some (rH 23 (d.map XM))) 0 G=.val (.agg (d.map XM)) G:=λG=>by
  rw[X8 (by rw[Zi];omega),Z6,ZB (by rw[Zi];omega)]
 have k3:=Below.keep k2 w3 (by omega:H.nx<=H1.nx)
 have ZbT:H3.ro<=H3.nx:=by rw[w3.ro];have:=w3.nx;omega
 simp(maxSteps:=4000000) (disch:=first|assumption|omega|(simp -implicitDefEqProofs only[ZQ,ZR]<;>first|assumption|omega)|decide) only[bx,hH2,e3,g3,ld,Y8,WP,c42,ZC,ZY,Zz,Zw,Zr,Zt,ZA,Nat.reduceEqDiff,reduceCtorEq,Z4]
 generalize hL:XQ (DT _) fuel _ _ _=L
 obtain⟨o,Tx,H4,rfl,_,rfl,t3,b4,k4,B5⟩:=YA (P:=λT=>SNI H d H1.nx 32 T H3) (Q:=SNQ H d H1.nx)
  (λT hi'=>YK (SNI H d H1.nx) (SNQ H d H1.nx) (λm tm H' h'=>aw E hd (by omega) _ _ _ _ _ m tm H' h') fuel 32 T H3 (by have:=E.big;omega) hi') hL
  (by exact⟨⟨0,rfl,rfl,b3⟩,rfl,rfl,k3,ZbT⟩)
 simp only[Qg] at t3
 have hnl:=Jb d
 obtain⟨H5,e5,w5⟩:=qj E (k:=k) (n:=n+2) b4 (by unfold R6;rw[Zf,hnl];simp only[Zh,Zv];omega)
 simp(maxSteps:=4000000) (disch:=first|assumption|omega|(simp -implicitDefEqProofs only[ZQ,ZR]<;>first|assumption|omega)|decide) only[t3,e5,c42,ZC,ZY,Zz,Zw,Zr,Zt,ZA,Nat.reduceEqDiff,reduceCtorEq,Z4]
 refine⟨_,rfl,?_⟩
 exact Below.keep k4 w5 (by omega)
end
theorem Wz{b:Bool}{k:OR}{v:AV}{H:Heap}(h:ZX b k=.val v H):k=.val v H:=by
 cases b with
 |true=>exact h
 |false=>cases h
theorem my{H:Heap}{b:Nat}{k:Row->OR}{v:AV}{H':Heap}(h:Xp H b k=.val v H'): ∃r,k r=.val v H':=by
 unfold Xp at h
 split at h
 ·exact⟨_,h⟩
 ·cases h
theorem Pq{H:Heap}{e sz:Nat}{l:List AV}{ex:Bool}{c:Nat}(hc:c<H.nx):(H.newRow e sz l ex).t.get c=H.t.get c:=by
 rw[UN,YV (by omega)]
theorem pZ{v:AV}{e sz bytes:Nat}{H:Heap}{n:Nat}{new:List AV}{v':AV}{H':Heap}(h:NW v e sz bytes H n new=.val v' H'){c:Nat}(hc:c<H.nx)(hv: ∀b o l q,v=.slice b o l q->c≠b):H'.t.get c=H.t.get c:=by
 cases v with
 |nils=>
  replace h:cond (Nat.beq n 0) (.val .nils H) (ZX (Nat.ble (Nat.mul n bytes) 140737488355328) (.val (.slice H.nx 0 n none) (H.newRow e sz new false)))=OR.val v' H':=h
  cases h0:Nat.beq n 0 with
  |true=>rw[h0] at h;cases h;rfl
  |false=>
   rw[h0] at h
   have h:=Wz (show ZX (Nat.ble (Nat.mul n bytes) 140737488355328) (.val (.slice H.nx 0 n none) (H.newRow e sz new false))=OR.val v' H' from h)
   cases h;exact Pq hc
 |slice0=>
  replace h:cond (Nat.beq n 0) (.val .slice0 H) (ZX (Nat.ble (Nat.mul n bytes) 140737488355328) (.val (.slice H.nx 0 n none) (H.newRow e sz new false)))=OR.val v' H':=h
  cases h0:Nat.beq n 0 with
  |true=>rw[h0] at h;cases h;rfl
  |false=>
   rw[h0] at h
   have h:=Wz (show ZX (Nat.ble (Nat.mul n bytes) 140737488355328) (.val (.slice H.nx 0 n none) (H.newRow e sz new false))=OR.val v' H' from h)
   cases h;exact Pq hc
 |slice b o len cap=>
  have hb:=hv b o len cap rfl
  replace h:Xp H b (λr=>ZX (Ha r sz cap) (cond (Nat.ble (Nat.add len n) (UT r o cap)) (DJ H (.slice b o len cap) b o len n sz cap r new) (LS H e b o len n sz bytes cap r new)))=OR.val v' H':=h
  obtain⟨r,h⟩:=my h
  have h:=Wz h
  cases h0:Nat.ble (Nat.add len n) (UT r o cap) with
  |true=>
   rw[h0] at h
   replace h:DJ H (.slice b o len cap) b o len n sz cap r new=OR.val v' H':=h
   unfold DJ at h
   cases h1:Nat.beq n 0 with
   |true=>rw[h1] at h;cases h;rfl
   |false=>
    rw[h1] at h
    have h:=Wz (Wz (Wz h))
    cases h
    exact YT (λe=>hb e.symm) ..
  |false=>
   rw[h0] at h
   replace h:LS H e b o len n sz bytes cap r new=OR.val v' H':=h
   unfold LS at h
   have h:=Wz (Wz h)
   cases cap with
   |some q=>cases h;exact Pq hc
   |none=>
    cases h1:r.exact with
    |true=>
     have h:=Wz (show ZX (Nat.beq (Nat.mod o sz) 0) (.val (.slice H.nx 0 (Nat.add len n) none) (H.newRow e sz (WO r o (Nat.mul len sz)++new) false))=OR.val v' H' by rw[h1] at h;exact h)
     cases h;exact Pq hc
    |false=>
     have h:Ih H e b o len n sz r new=OR.val v' H':=by rw[h1] at h;exact h
     unfold Ih at h
     have h:=Wz (Wz (Wz (Wz (Wz h))))
     cases h
     show((H.t.del b).set H.nx _).get c=_
     rw[T.get_set,if_neg (by omega),T.get_del,if_neg λe=>hb e.symm]
 |_=>cases h
theorem ko{v:AV}{e sz bytes:Nat}{H:Heap}{n:Nat}{new:List AV}{v':AV}{H':Heap}(h:NW v e sz bytes H n new=.val v' H')(hcap: ∀b o l q,v=.slice b o l q-> ∀r,H.t.get b=some (.row r)->Nat.ble (Nat.add l n) (UT r o q)=false): ∀b o l q,v'=.slice b o l q->b=H.nx:=by
 intro b0 o0 l0 q0 e0
 cases v with
 |nils=>
  replace h:cond (Nat.beq n 0) (.val .nils H) (ZX (Nat.ble (Nat.mul n bytes) 140737488355328) (.val (.slice H.nx 0 n none) (H.newRow e sz new false)))=OR.val v' H':=h
  cases h0:Nat.beq n 0 with
  |true=>rw[h0] at h;cases h;cases e0
  |false=>
   rw[h0] at h
   have h:=Wz (show ZX (Nat.ble (Nat.mul n bytes) 140737488355328) (.val (.slice H.nx 0 n none) (H.newRow e sz new false))=OR.val v' H' from h)
   cases h;cases e0;rfl
 |slice0=>
  replace h:cond (Nat.beq n 0) (.val .slice0 H) (ZX (Nat.ble (Nat.mul n bytes) 140737488355328) (.val (.slice H.nx 0 n none) (H.newRow e sz new false)))=OR.val v' H':=h
  cases h0:Nat.beq n 0 with
  |true=>rw[h0] at h;cases h;cases e0
  |false=>
   rw[h0] at h
   have h:=Wz (show ZX (Nat.ble (Nat.mul n bytes) 140737488355328) (.val (.slice H.nx 0 n none) (H.newRow e sz new false))=OR.val v' H' from h)
   cases h;cases e0;rfl
 |slice b o len cap=>
  have hb:=hcap b o len cap rfl
  replace h:Xp H b (λr=>ZX (Ha r sz cap) (cond (Nat.ble (Nat.add len n) (UT r o cap)) (DJ H (.slice b o len cap) b o len n sz cap r new) (LS H e b o len n sz bytes cap r new)))=OR.val v' H':=h
  unfold Xp at h
  split at h
  ·rename_i r hr
   have h:=Wz h
   rw[hb r hr] at h
   replace h:LS H e b o len n sz bytes cap r new=OR.val v' H':=h
   unfold LS at h
   have h:=Wz (Wz h)
   cases cap with
   |some q=>cases h;cases e0;rfl
   |none=>
    cases h1:r.exact with
    |true=>
     have h:=Wz (show ZX (Nat.beq (Nat.mod o sz) 0) (.val (.slice H.nx 0 (Nat.add len n) none) (H.newRow e sz (WO r o (Nat.mul len sz)++new) false))=OR.val v' H' by rw[h1] at h;exact h)
     cases h;cases e0;rfl
    |false=>
     have h:Ih H e b o len n sz r new=OR.val v' H':=by rw[h1] at h;exact h
     unfold Ih at h
     have h:=Wz (Wz (Wz (Wz (Wz h))))
     cases h;cases e0;rfl
  ·cases h
 |_=>cases h
theorem IR{H:Heap}{v:AV}{e sz bytes:Nat}{ls:List (List AV)}{lo:Nat}(h:VT H v e sz ls lo)(hsz:1<=sz)(hby:1<=bytes)(hl:(ls.length+1)*bytes<=140737488355328)(hro:H.ro<=H.nx)(hlo:lo<=H.nx){x:List AV}(hx:x.length=sz):
  ∃v' H',Vb e sz bytes v (.slice H.nx 0 1 none) (H.newRow e sz x true)=.val v' H'∧VT H' v' e sz (ls++[x]) lo∧Below lo H H'∧
   (∀c,c<H.nx->(∀b o l q,v=.slice b o l q->c≠b)->H'.t.get c=H.t.get c)∧ ∀b o l q,v'=.slice b o l q->H.nx<=b:=by
 obtain⟨v',H',ea,rb,w⟩:=Jl h hsz hby hl hro hlo hx
 generalize hH1:H.newRow e sz x true=H1 at ea
 have U2:H1.nx=H.nx+1:=by rw[<-hH1];rfl
 have gx:H1.t.get H.nx=some (.row ⟨e,sz,YF x,T.ofList x,.unk,0,false,true,true⟩):=by rw[<-hH1,Mj,Pz,if_pos rfl]
 have cx:=Cells.new e sz x 0 false true true
 have ap:Vb e sz bytes v (.slice H.nx 0 1 none) H1=NW v e sz bytes H1 1 x:=by
  show ZX (Nat.ble 1 sz) (ZX (Nat.ble 1 bytes) (Vq H1 sz (.slice H.nx 0 1 none) 1 λnew=>NW v e sz bytes H1 1 new))=_
  rw[Zm hsz,Zm hby]
  show(Vq H1 sz (.slice H.nx 0 1 none) 1 λnew=>NW v e sz bytes H1 1 new)=_
  generalize(⟨e,sz,YF x,T.ofList x,.unk,0,false,true,true⟩:Row)=r0 at gx cx
  unfold Vq Xp
  simp only[gx]
  show ZX (Nat.ble (0+1*sz) r0.size) (NW v e sz bytes H1 1 (WO r0 0 (1*sz)))=_
  rw[VM,cx.size,hx,Zm (show 0+sz<=sz by omega)]
  have:=cx.load (o:=0) (n:=sz) (by omega)
  rw[this,Z6,ZB (by omega)]
  rfl
 rw[ap] at ea
 refine⟨v',H',by rw[ap];exact ea,rb,w,λc hc hv=>?_,λb o l q e'=>?_⟩
 ·rw[pZ ea (by omega) hv,<-hH1,Pq hc]
 ·have:=ko ea (λb o l q ev r hr=>by
   rcases h with⟨_,rfl⟩|⟨_,b2,r2,rfl,g,_⟩
   ·cases ev
   ·cases ev
    have hg:H1.t.get b=some (.row r2):=by rw[<-hH1,Pq g.low];exact g.at_
    rw[hg] at hr
    cases hr
    have hcap:UT r 0 none=ls.length:=by
     show cond (Nat.beq r.sz 1) (r.size - 0) ((r.size - 0)/r.sz)=_
     rw[g.szr,g.size,T7]
     by_cases h1:sz=1
     ·subst h1;show ls.length*1=_;omega
     ·rw[Yu,Zb h1]
      exact SQ _ (by omega)
    rw[hcap]
    cases h:Nat.ble (Nat.add ls.length 1) ls.length with
    |false=>rfl
    |true=>have:=Z1 h;have:ls.length+1<=ls.length:=this;omega) b o l q e'
  omega
def Za2:AV->List Nat
 |.slice b _ _ _=>[b]
 |_=>[]
theorem pA{H:Heap}{v:AV}{e sz bytes:Nat}{ls:List (List AV)}{lo:Nat}(h:VT H v e sz ls lo)(hsz:1<=sz)(hby:1<=bytes)(hl:(ls.length+1)*bytes<=140737488355328)(hro:H.ro<=H.nx)(hlo:lo<=H.nx){x:List AV}(hx:x.length=sz):
  ∃v' H',Vb e sz bytes v (.slice H.nx 0 1 none) (H.new (rG e sz x 0 false true true))=.val v' H'∧VT H' v' e sz (ls++[x]) lo∧Zq H H' (Za2 v)∧(∀b∈Za2 v',H.nx<=b)∧H.nx<H'.nx:=by
 obtain⟨v',H',a,b,w,c,d⟩:=IR h hsz hby hl hro hlo hx
 have hn:H.nx<H'.nx:=by
  rcases b with⟨e,_⟩|⟨_,b,r,e,g,_⟩
  ·simp at e
  ·have:=d _ _ _ _ e;have:=g.low;omega
 refine⟨v',H',a,b,⟨w.nx,w.ro,λx hx hn=>c x hx λb o l q e he=>hn ?_⟩,λx hx=>?_,hn⟩
 ·subst e;rw[he];exact YP.2 rfl
 ·rcases b with⟨e,_⟩|⟨_,b,r,e,g,_⟩
  ·simp at e
  ·subst e
   rw[YP.1 hx]
   exact d _ _ _ _ rfl
section
variable {Zp:Lib} {fs:T CF} {fuel k n i h b:Nat} {H H0:Heap} {s:List UInt8} {cs:List AV}
def Vc(s:List UInt8):List AV:=[nI .i64 4,.bool false,nI .i64 0,.str s,.nils,.nils]
def RK(l:List NP):List (List AV):=l.map λp=>[.str p.1,.str p.2]
def EP(p:NP):List AV:=.str p.1::Vc p.2
theorem Aa(E:Env Zp fs fuel)(hk:1<=k){x:List UInt8}(hro:H.ro<=H.nx):
  ∃H',ZJ (LK Zp fs fuel k) fs fuel (n+3) 37 [.str s,.iface 9 (.str x)] H=.ret (.agg (.str s::Vc x)) H'∧Zq H H' []:=
 Ja E hro rfl λG kG=>⟨G,ZaB E (n:=n+1) hk (by rw[kG.ro];exact Zn hro kG.nx),Zq.refl _ _⟩
theorem xC{w:AV}{e sz lo:Nat}{ls:List (List AV)}(h:VT H w e sz ls lo):(∀n,H.nx<=n->Xm n w=true)∧(∀n T,Vv (.val w ⟨n,T,n⟩) w n=true)∧w.cells=[w]∧(∀b∈Za2 w,lo<=b∧b<H.nx):=by
 refine⟨λn hn=>h.low hn,λn T=>h.same n T,?_,?_⟩
 ·rcases h with⟨_,rfl⟩|⟨_,b,r,rfl,_⟩<;>rfl
 ·rcases h with⟨_,rfl⟩|⟨_,b,r,rfl,g,lo⟩
  ·intro b hb;cases hb
  ·intro c hc;rw[YP.1 hc];exact⟨lo,g.low⟩
structure NVI(Hs:Heap)(v:AV)(l:List NP)(g2 g3:AV)(m:Nat)(tm:TM)(H:Heap):Prop where
 k:Zq Hs H []
 t26:UK tm=v
 t27:Uh tm=nI .i64 l.length
 i: ∃i w,Uy tm=nI .i64 i∧i+m=l.length∧Xf tm=w∧VT H w 77 7 ((l.take i).map EP) Hs.nx
 t2:Xy tm=g2
 t3:XK tm=g3
def NVQ(Hs:Heap)(l:List NP)(g2 g3:AV)(o:Out)(tm:TM)(H:Heap):Prop:=o=.exit 0∧Zq Hs H []∧Xy tm=g2∧XK tm=g3∧ ∃w,Xf tm=w∧VT H w 77 7 (l.map EP) Hs.nx
theorem bj(E:Env Zp fs fuel)(hk:1<=k){Hs:Heap}{v:AV}{l:List NP}{g2 g3:AV}(hl:l.length<=1000)(hro:Hs.ro<=Hs.nx)(sl:Sl Hs 2 v (RK l))(y f dd r)(X0:X)(m:Nat)(tm:TM)(H:Heap)(hI:NVI Hs v l g2 g3 m tm H):
  ∃o tm' H',DQ ⟨ZJ (LK Zp fs fuel k) fs fuel (n+3),y,f,dd,r⟩ tm H X0=.ok o tm' H' X0∧((o=.normal∧ ∃k,k<m∧NVI Hs v l g2 g3 k tm' H')∨(o≠.normal∧NVQ Hs l g2 g3 o tm' H')):=by
 obtain⟨k0,t26,t27,⟨i,w,t28,him,t4,hw⟩,t2,t3⟩:=hI
 have Zj1:=t26;have t27':=t27;have t2':=t2;have O9:=t3;have ez:=t4
 simp only[ZeJ,ZeK,ZeL,OI] at t26 t27 t28 t4
 cases m with
 |zero=>
  have d1:decide (i<l.length)=false:=Zb (by omega)
  rw[ZB (by omega)] at hw
  simp(maxSteps:=4000000) (disch:=first|assumption|omega|(simp -implicitDefEqProofs only[ZQ,ZR]<;>first|assumption|omega)|decide) only[t27,t28,d1,ZH,DQ,ZC,ZY,Zz,Zw,Zr,Zt,ZA,Nat.reduceEqDiff,reduceCtorEq,Z4,WG]
  refine⟨_,_,_,rfl,?_⟩
  exact .inr ⟨by simp,rfl,k0,t2',O9,w,ez,hw⟩
 |succ m=>
  have d1:decide (i<l.length)=true:=Ze (by omega)
  have hi:i<l.length:=by omega
  obtain⟨p,hp⟩:=XZ (l[i])
  obtain⟨bb,o,R,eI,hbb,gR,Ge,_⟩:=(sl.keep0 k0).at_ (i:=i) (by unfold RK;rw[Zi];exact hi)
  have hx:(RK l).getD i []=[.str p.1,.str p.2]:=by
   unfold RK
   rw[Za,Yh,Zg hi,hp];rfl
  rw[hx] at Ge
  have zG:H.ro<=H.nx:=by rw[k0.ro];have:=k0.nx;omega
  obtain⟨H1,hH1⟩:=XZ (H.new (rH 59 [.str [],.str []]))
  obtain⟨H2,hH2⟩:=XZ (H1.put H.nx (rH 59 [.str p.1,.str p.2]))
  have U2:H1.nx=H.nx+1:=by rw[<-hH1];rfl
  have k1:Zq H H1 []:=by rw[<-hH1];exact Zq.new _ _ _
  have k2:Zq H H2 []:=by rw[<-hH2];exact k1.then_put λh=>absurd h (VA _)
  have g1:H1.t.get H.nx=some (rH 59 [.str [],.str []]):=by rw[<-hH1];exact Zx rfl _
  have g2':H2.t.get H.nx=some (rH 59 [.str p.1,.str p.2]):=by rw[<-hH2];exact Y1 _ _ _
  have st:=WQ (n:=2) (b:=H.nx) (l:=[.str [],.str []]) (vs:=[.str p.1,.str p.2]) (H:=H1) rfl rfl (by decide) (by rw[k1.ro];exact zG) 59 1 false true
  rw[hH2] at st
  have l0: ∀G,ld1 (some (rH 59 [.str p.1,.str p.2])) 0 G=.val (.str p.1) G:=λG=>rfl
  have l1: ∀G,ld1 (some (rH 59 [.str p.1,.str p.2])) 1 G=.val (.str p.2) G:=λG=>rfl
  obtain⟨H3,e3,k3⟩:=Aa E (n:=n) hk (s:=p.1) (x:=p.2) (H:=H2) (by rw[k2.ro];exact Zn zG k2.nx)
  have NS:=k2.trans' k3
  have bs: ∀G,Wa 77 7 1 eV [(0,7,.agg (.str p.1::Vc p.2))] G=.val (.slice G.nx 0 1 none) (G.new (rG 77 7 (.str p.1::Vc p.2) 0 false true true)):=λ_=>rfl
  have hw3:=hw.below (H':=H3) (λc _ hc=>NS.get c hc (by simp)) NS.ro NS.nx
  obtain⟨lw,sw,cw,bw⟩:=xC hw3
  obtain⟨w',H4,ea,w4,k4,_,_⟩:=pA (bytes:=104) hw3 (by decide) (by decide) (by rw[Zi,ZP];omega) (by rw[NS.ro];exact Zn zG NS.nx) (Zn k0.nx NS.nx) (x:=.str p.1::Vc p.2) rfl
  have ad:=λG=>YZ (a:=i) (b:=1) (by omega) G
  have hpush:(l.take (i+1)).map EP=(l.take i).map EP++[.str p.1::Vc p.2]:=by
   rw[W9 hi,Xe,hp];rfl
  have uK:Zq Hs H4 []:=by
   refine⟨Zn (Zn k0.nx NS.nx) k4.nx,by rw[k4.ro,NS.ro,k0.ro],λc hc _=>?_⟩
   rw[k4.get c (by have:=k0.nx;have:=NS.nx;omega) (λh=>by have:=(bw c h).1;omega),NS.get c (by have:=k0.nx;omega) (by simp),k0.get c hc (by simp)]
  simp(maxSteps:=4000000) (disch:=first|assumption|omega|(simp -implicitDefEqProofs only[ZQ,ZR]<;>first|assumption|omega)|decide) only[t4,t26,t27,t28,d1,eI,gR,Ge,hH1,g1,st,g2',l0,l1,e3,bs,ea,ad,Y8,YS,VO,ZH,ZE,Yb,DQ,ZC,ZY,Zz,Zw,Zr,Zt,ZA,Nat.reduceEqDiff,reduceCtorEq,Z4,WG]
  refine⟨_,_,_,rfl,?_⟩
  exact .inl ⟨rfl,m,by omega,⟨uK,Zj1,t27',⟨i+1,w',rfl,by omega,rfl,by rw[hpush];exact w4⟩,t2',O9⟩⟩
end
theorem vj{H:Heap}{b e sz bytes n:Nat}{cells x:List AV}(hg:H.t.get b=some (rG e sz cells 0 false true true))(hb:b<H.nx)(hc:cells.length=n*sz)(hsz:1<=sz)(hby:1<=bytes)(hl:(n+1)*bytes<=140737488355328)(hx:x.length=sz):
  Vb e sz bytes (.slice b 0 n none) (.slice H.nx 0 1 none) (H.new (rG e sz x 0 false true true))=.val (.slice (H.nx+1) 0 (n+1) none) ((H.new (rG e sz x 0 false true true)).new (rG e sz (cells++x) 0 false true false)):=by
 generalize hH1:H.new (rG e sz x 0 false true true)=H1
 have U2:H1.nx=H.nx+1:=by rw[<-hH1];rfl
 have gx:H1.t.get H.nx=some (.row ⟨e,sz,YF x,T.ofList x,.unk,0,false,true,true⟩):=by rw[<-hH1];exact Zx rfl _
 have gb:H1.t.get b=some (.row ⟨e,sz,YF cells,T.ofList cells,.unk,0,false,true,true⟩):=by rw[<-hH1,YV (by omega)];exact hg
 have cx:=Cells.new e sz x 0 false true true
 have cb:=Cells.new e sz cells 0 false true true
 have src: ∀k:Nat->List AV->OR,(y3 (.slice H.nx 0 1 none) λn=>Vq H1 sz (.slice H.nx 0 1 none) n λnew=>k n new)=k 1 x:=by
  intro k
  show(Vq H1 sz (.slice H.nx 0 1 none) 1 λnew=>k 1 new)=_
  generalize(⟨e,sz,YF x,T.ofList x,.unk,0,false,true,true⟩:Row)=r0 at gx cx
  unfold Vq Xp
  simp only[gx]
  show ZX (Nat.ble (0+1*sz) r0.size) (k 1 (WO r0 0 (1*sz)))=_
  rw[VM,cx.size,hx,Zm (show 0+sz<=sz by omega)]
  have:=cx.load (o:=0) (n:=sz) (by omega)
  rw[this,Z6,ZB (by omega)]
  rfl
 have ap: ∀a,Vb e sz bytes a (.slice H.nx 0 1 none) H1=NW a e sz bytes H1 1 x:=by
  intro a
  show ZX (Nat.ble 1 sz) (ZX (Nat.ble 1 bytes) _)=_
  rw[Zm hsz,Zm hby]
  exact src λn new=>NW a e sz bytes H1 n new
 rw[ap]
 have hld:=cb.load (o:=0) (n:=n*sz) (by omega)
 rw[Z6,ZB (by omega)] at hld
 show Xp H1 b _=_
 unfold Xp
 simp only[gb]
 have hcap:UT (⟨e,sz,YF cells,T.ofList cells,.unk,0,false,true,true⟩:Row) 0 none=n:=by
  show cond (Nat.beq sz 1) (YF cells - 0) ((YF cells - 0)/sz)=_
  rw[Yw,hc,T7]
  by_cases h1:sz=1
  ·subst h1;show n*1=_;omega
  ·rw[Yu,Zb h1]
   exact SQ _ (by omega)
 have h1:Ha (⟨e,sz,YF cells,T.ofList cells,.unk,0,false,true,true⟩:Row) sz none=true:=Z9 sz
 have h2:Nat.ble (Nat.add n 1) n=false:=by
  cases h:Nat.ble (Nat.add n 1) n with
  |false=>rfl
  |true=>have:=Z1 h;have:n+1<=n:=this;omega
 rw[h1,hcap,h2]
 show ZX (Nat.ble ((n+1)*bytes) 140737488355328) (ZX (Nat.ble (0+n*sz) (YF cells)) (ZX (Nat.beq (0 % sz) 0) (.val (.slice H1.nx 0 (n+1) none) (H1.newRow e sz (WO (⟨e,sz,YF cells,T.ofList cells,.unk,0,false,true,true⟩:Row) 0 (n*sz)++x) false))))=_
 rw[hld,Zm hl,Yw,hc,Zs,Zm (Zl _),Nat.zero_mod,U2]
 rfl
section
variable {Zp:Lib} {fs:T CF} {fuel k n i h b:Nat} {H H0:Heap} {s:List UInt8} {cs:List AV}
theorem y8(n:Nat): ∀l:List UInt8,U7 n (l.map XM)=true
 |[]=>rfl
 |x::l=>by rw[ZE,W4,y8 n l];rfl
def PR(u:Nat):List AV:=[nI .i64 3,.bool false,nI .i64 u,.str [],.nils,.nils]
theorem ZdY(E:Env Zp fs fuel)(hk:1<=k){u:Nat}(hro:H.ro<=H.nx):
  ∃H',ZJ (LK Zp fs fuel k) fs fuel (n+3) 37 [.str s,.iface 2 (nI .i64 u)] H=.ret (.agg (.str s::PR u)) H'∧Zq H H' []:=
 Ja E hro rfl λG kG=>⟨G,ZfT E (n:=n+1) (z:=(u:Int)) hk (by rw[kG.ro];exact Zn hro kG.nx),Zq.refl _ _⟩
def XO(w:AV):List AV:=[nI .i64 6,.bool false,nI .i64 0,.str [],.nils,w]
theorem ZiD(E:Env Zp fs fuel)(hk:1<=k){w:AV}(hw:w=.nils∨ ∃b o m c,w=.slice b o m c)(hro:H.ro<=H.nx):
  ∃H',ZJ (LK Zp fs fuel k) fs fuel (n+3) 37 [.str s,.iface 71 w] H=.ret (.agg (.str s::XO w)) H'∧Zq H H' []:=
 Ja E hro rfl λG kG=>pv E (n:=n) hk hw (by rw[kG.ro];exact Zn hro kG.nx)
def LU(md d:List UInt8)(u:Nat):List AV:=(.str [100,105,103,101,115,116]::Vc (R6 d))++(.str [109,101,100,105,97,84,121,112,101]::Vc md)++(.str [115,105,122,101]::PR u)
theorem r7(E:Env Zp fs fuel)(hk:1<=k){md d:List UInt8}{u:Nat}{v:AV}(hd:d.length=32)(hro:H.ro<=H.nx)(lv: ∀G,RV v G=.val (nI .i64 0) G):
  ∃q H',ZJ (LK Zp fs fuel k) fs fuel (n+5) 34 [.agg (.str md::(d.map XM++[nI .i64 u,v]))] H=.ret (.agg (XO (.slice q 0 3 none))) H'∧Zq H H' []∧H'.t.get q=some (rG 77 7 (LU md d u) 0 false true true)∧q<H'.nx∧H.nx<=q:=by
 rw[ZL (ZF E.n34 (.inr rfl) _ _) E.f34]
 obtain⟨cs,hcs⟩:=XZ ((.str md::(d.map XM++[nI .i64 u,v])))
 have ln:cs.length=35:=by rw[<-hcs,Zh,Zf,Zi,hd];rfl
 have tI:(d.map XM).length=32:=by rw[Zi];exact hd
 have r0: ∀G,ld1 (some (rH 26 cs)) 0 G=.val (.str md) G:=λG=>by rw[Z2 (by omega),<-hcs];rfl
 have r32: ∀G,ldN 32 (some (rH 26 cs)) 1 G=.val (.agg (d.map XM)) G:=λG=>by
  rw[X8 (by omega),<-hcs,WS,Z6,WV (by omega),ZB (by omega)]
 have r33: ∀G,ld1 (some (rH 26 cs)) 33 G=.val (nI .i64 u) G:=λG=>by
  rw[Z2 (by omega),<-hcs,WT,Za,Zu (by omega),tI];rfl
 have r34: ∀G,ld1 (some (rH 26 cs)) 34 G=.val v G:=λG=>by
  rw[Z2 (by omega),<-hcs,WT,Za,Zu (by omega),tI];rfl
 rw[hcs]
 obtain⟨H1,hH1⟩:=XZ (H.new (rH 26 cs))
 obtain⟨H2,hH2⟩:=XZ (H1.new (rH 73 zV))
 have bx:=YU (l:=cs) (by omega) 26 H
 rw[hH1] at bx
 have U2:H1.nx=H.nx+1:=by rw[<-hH1];rfl
 have nx2:H2.nx=H1.nx+1:=by rw[<-hH2];rfl
 have k1:Zq H H1 []:=by rw[<-hH1];exact Zq.new _ _ _
 have k2:Zq H H2 []:=by rw[<-hH2];exact k1.then_new _
 have NG:H2.ro<=H2.nx:=by rw[k2.ro];have:=k2.nx;omega
 have gR: ∀G,Zq H2 G []->G.t.get H.nx=some (rH 26 cs):=λG kG=>by
  rw[kG.get _ (by omega) (by simp),<-hH2,YV (by omega),<-hH1,Zx rfl]
 have gV: ∀G,Zq H2 G []->G.t.get H1.nx=some (rH 73 zV):=λG kG=>by
  rw[kG.get _ (by omega) (by simp),<-hH2,Zx rfl]
 obtain⟨H3,e3,k3⟩:=Eb E (k:=k) (n:=n) hd NG
 have GJ:H3.ro<=H3.nx:=by rw[k3.ro];exact Zn NG k3.nx
 obtain⟨H4,e4,FJ⟩:=Aa E (n:=n+1) hk (s:=[100,105,103,101,115,116]) (x:=R6 d) GJ
 have k4:=k3.trans' FJ
 have B5:H4.ro<=H4.nx:=by rw[k4.ro];exact Zn NG k4.nx
 obtain⟨H5,e5,Ae⟩:=Aa E (n:=n+1) hk (s:=[109,101,100,105,97,84,121,112,101]) (x:=md) B5
 have k5:=k4.trans' Ae
 have af:H5.ro<=H5.nx:=by rw[k5.ro];exact Zn NG k5.nx
 obtain⟨H6,e6,tV⟩:=ZdY E (n:=n+1) hk (s:=[115,105,122,101]) (u:=u) af
 have k6:=k5.trans' tV
 obtain⟨H7,hH7⟩:=XZ (H6.new (rG 77 7 (LU md d u) 0 false true true))
 have k7:Zq H2 H7 []:=by rw[<-hH7];exact k6.then_new _
 have g7:H7.t.get H6.nx=some (rG 77 7 (LU md d u) 0 false true true):=by rw[<-hH7];exact Zx rfl _
 have nx7:H7.nx=H6.nx+1:=by rw[<-hH7];rfl
 have aT: ∀G,Wa 77 7 3 (List.replicate 3 eV).flatten [(0,7,.agg (.str [100,105,103,101,115,116]::Vc (R6 d))),(7,7,.agg (.str [109,101,100,105,97,84,121,112,101]::Vc md)),(14,7,.agg (.str [115,105,122,101]::PR u))] G=.val (.slice G.nx 0 3 none) (G.new (rG 77 7 (LU md d u) 0 false true true)):=λ_=>rfl
 have g2:=gR H2 (Zq.refl _ _)
 have g3:=gR H3 k3
 have g4:=gR H4 k4
 have g5:=gR H5 k5
 have g7R:=gR H7 k7
 have sa:=λn (T:T Obj)=>VE (KQ d) n T
 have lp2:Xm H2.nx (.ptr H.nx 0)=true:=Yp (by omega) 0
 have d0:decide (0<0)=false:=rfl
 have lS: ∀n s,U7 n (Vc s)=true:=λ_ _=>rfl
 have lN: ∀n u,U7 n (PR u)=true:=λ_ _=>rfl
 obtain⟨H8,e8,j5⟩:=Oy E (n:=n+1) hk (v:=.slice H6.nx 0 3 none) (H:=H7) (.inr ⟨_,_,_,_,rfl⟩) (by rw[k7.ro];exact Zn NG k7.nx)
 have k8:=k7.trans' j5
 have g8:=gV H8 k8
 have ah:H8.ro<=H1.nx:=by rw[k8.ro,k2.ro];omega
 have st:=WQ (n:=6) (b:=H1.nx) (l:=zV) (vs:=XO (.slice H6.nx 0 3 none)) (H:=H8) rfl rfl (by decide) ah 73 1 false true
 have gp:=Y1 H8 H1.nx (rH 73 (XO (.slice H6.nx 0 3 none)))
 have rv: ∀kk,rV 6 true (some (rH 73 (XO (.slice H6.nx 0 3 none)))) 0 kk=kk (.agg (XO (.slice H6.nx 0 3 none))):=λkk=>Pr (n:=6) (l:=XO (.slice H6.nx 0 3 none)) rfl kk
 have e8:ZJ (LK Zp fs fuel k) fs fuel (n+4) 33 [.slice H6.nx 0 3 none] H7=.ret (.agg (XO (.slice H6.nx 0 3 none))) H8:=e8
 simp only[bx,hH2,g2,g3,g4,g5,g7R,r0,r32,r33,r34,e3,e4,e5,e6,aT,hH7,sa,lp2,lS,lN,lv,d0,e8,g8,st,gp,rv,W4,WP,Y8,YS,Yi,ZE,Yb,Zs,c34,ZC,ZY,Zz,Zw,Zr,Zt,ZA,Nat.reducePow,Nat.reduceDiv,Nat.reduceMod,reduceCtorEq,Z4,WG]
 refine⟨_,_,rfl,?_,?_,?_,?_⟩
 ·exact(k2.trans' k8).then_put (by omega)
 ·rw[YT (by have:=k6.nx;omega),j5.get _ (by omega) (by simp)];exact g7
 ·have:=j5.nx;show H6.nx<H8.nx;omega
 ·have:=k6.nx;omega
theorem r8(E:Env Zp fs fuel)(hk:1<=k){md d:List UInt8}{u:Nat}{v:AV}{l:List NP}(hd:d.length=32)(hro:H.ro<=H.nx)(sl:Sl H 2 v (RK l))(h0:0<l.length)(hl:l.length<=1000):
  ∃q w lo H',ZJ (LK Zp fs fuel k) fs fuel (n+5) 34 [.agg (.str md::(d.map XM++[nI .i64 u,v]))] H=.ret (.agg (XO (.slice q 0 4 none))) H'∧Zq H H' []∧H'.t.get q=some (rG 77 7 (LU md d u++(.str [97,110,110,111,116,97,116,105,111,110,115]::XO w)) 0 false true false)∧q<H'.nx∧VT H' w 77 7 (l.map EP) lo∧H.nx<=q∧H.nx<=lo:=by
 rw[ZL (ZF E.n34 (.inr rfl) _ _) E.f34]
 obtain⟨cs,hcs⟩:=XZ ((.str md::(d.map XM++[nI .i64 u,v])))
 have ln:cs.length=35:=by rw[<-hcs,Zh,Zf,Zi,hd];rfl
 have tI:(d.map XM).length=32:=by rw[Zi];exact hd
 have r0: ∀G,ld1 (some (rH 26 cs)) 0 G=.val (.str md) G:=λG=>by rw[Z2 (by omega),<-hcs];rfl
 have r32: ∀G,ldN 32 (some (rH 26 cs)) 1 G=.val (.agg (d.map XM)) G:=λG=>by
  rw[X8 (by omega),<-hcs,WS,Z6,WV (by omega),ZB (by omega)]
 have r33: ∀G,ld1 (some (rH 26 cs)) 33 G=.val (nI .i64 u) G:=λG=>by
  rw[Z2 (by omega),<-hcs,WT,Za,Zu (by omega),tI];rfl
 have r34: ∀G,ld1 (some (rH 26 cs)) 34 G=.val v G:=λG=>by
  rw[Z2 (by omega),<-hcs,WT,Za,Zu (by omega),tI];rfl
 rw[hcs]
 obtain⟨H1,hH1⟩:=XZ (H.new (rH 26 cs))
 obtain⟨H2,hH2⟩:=XZ (H1.new (rH 73 zV))
 have bx:=YU (l:=cs) (by omega) 26 H
 rw[hH1] at bx
 have U2:H1.nx=H.nx+1:=by rw[<-hH1];rfl
 have nx2:H2.nx=H1.nx+1:=by rw[<-hH2];rfl
 have k1:Zq H H1 []:=by rw[<-hH1];exact Zq.new _ _ _
 have k2:Zq H H2 []:=by rw[<-hH2];exact k1.then_new _
 have NG:H2.ro<=H2.nx:=by rw[k2.ro];have:=k2.nx;omega
 have gR: ∀G,Zq H2 G []->G.t.get H.nx=some (rH 26 cs):=λG kG=>by
  rw[kG.get _ (by omega) (by simp),<-hH2,YV (by omega),<-hH1,Zx rfl]
 have gV: ∀G,Zq H2 G []->G.t.get H1.nx=some (rH 73 zV):=λG kG=>by
  rw[kG.get _ (by omega) (by simp),<-hH2,Zx rfl]
 obtain⟨H3,e3,k3⟩:=Eb E (k:=k) (n:=n) hd NG
 have GJ:H3.ro<=H3.nx:=by rw[k3.ro];exact Zn NG k3.nx
 obtain⟨H4,e4,FJ⟩:=Aa E (n:=n+1) hk (s:=[100,105,103,101,115,116]) (x:=R6 d) GJ
 have k4:=k3.trans' FJ
 have B5:H4.ro<=H4.nx:=by rw[k4.ro];exact Zn NG k4.nx
 obtain⟨H5,e5,Ae⟩:=Aa E (n:=n+1) hk (s:=[109,101,100,105,97,84,121,112,101]) (x:=md) B5
 have k5:=k4.trans' Ae
 have af:H5.ro<=H5.nx:=by rw[k5.ro];exact Zn NG k5.nx
 obtain⟨H6,e6,tV⟩:=ZdY E (n:=n+1) hk (s:=[115,105,122,101]) (u:=u) af
 have k6:=k5.trans' tV
 obtain⟨H7,hH7⟩:=XZ (H6.new (rG 77 7 (LU md d u) 0 false true true))
 have k7:Zq H2 H7 []:=by rw[<-hH7];exact k6.then_new _
 have g7:H7.t.get H6.nx=some (rG 77 7 (LU md d u) 0 false true true):=by rw[<-hH7];exact Zx rfl _
 have nx7:H7.nx=H6.nx+1:=by rw[<-hH7];rfl
 have aT: ∀G,Wa 77 7 3 (List.replicate 3 eV).flatten [(0,7,.agg (.str [100,105,103,101,115,116]::Vc (R6 d))),(7,7,.agg (.str [109,101,100,105,97,84,121,112,101]::Vc md)),(14,7,.agg (.str [115,105,122,101]::PR u))] G=.val (.slice G.nx 0 3 none) (G.new (rG 77 7 (LU md d u) 0 false true true)):=λ_=>rfl
 have g2:=gR H2 (Zq.refl _ _)
 have g3:=gR H3 k3
 have g4:=gR H4 k4
 have g5:=gR H5 k5
 have g7R:=gR H7 k7
 have sa:=λn (T:T Obj)=>VE (KQ d) n T
 have lp2:Xm H2.nx (.ptr H.nx 0)=true:=Yp (by omega) 0
 have d0:decide (0<l.length)=true:=Ze h0
 have lv:=sl.len
 rw[show(RK l).length=l.length by unfold RK;rw[Zi]] at lv
 have lS: ∀n s,U7 n (Vc s)=true:=λ_ _=>rfl
 have lN: ∀n u,U7 n (PR u)=true:=λ_ _=>rfl
 have k07:=k2.trans' k7
 have ro7:H7.ro<=H7.nx:=by rw[k7.ro];exact Zn NG k7.nx
 simp only[bx,hH2,g2,g3,g4,g5,g7R,r0,r32,r33,r34,e3,e4,e5,e6,aT,hH7,sa,lp2,lS,lN,lv,d0,W4,WP,Y8,YS,Yi,ZE,Yb,Zs,c34,ZC,ZY,Zz,Zw,Zr,Zt,ZA,Nat.reducePow,Nat.reduceDiv,Nat.reduceMod,reduceCtorEq,Z4]
 generalize hL:XQ (DQ _) fuel _ _ _=L
 obtain⟨o,Tx,H8,rfl,_,rfl,k78,t2,t3,w,t4,hw⟩:=YA (P:=λT=>NVI H7 v l (.ptr H1.nx 0) (.slice H6.nx 0 3 none) l.length T H7) (Q:=NVQ H7 l (.ptr H1.nx 0) (.slice H6.nx 0 3 none))
  (λT hi'=>YK (NVI H7 v l (.ptr H1.nx 0) (.slice H6.nx 0 3 none)) (NVQ H7 l (.ptr H1.nx 0) (.slice H6.nx 0 3 none)) (λm tm H' h'=>bj E (n:=n+1) hk hl ro7 (sl.keep0 k07) _ _ _ _ _ m tm H' h') fuel l.length T H7 (by have:=E.big;omega) hi') hL
  (by exact⟨Zq.refl _ _,rfl,rfl,⟨0,.nils,rfl,by omega,rfl,.inl ⟨rfl,rfl⟩⟩,rfl,rfl⟩)
 simp only[PN,Qg,OI] at t2 t3 t4
 have k8:=k7.trans' k78
 have ah:H8.ro<=H8.nx:=by rw[k8.ro];exact Zn NG k8.nx
 have hwf:w=.nils∨ ∃b o m c,w=.slice b o m c:=by
  rcases hw with⟨_,rfl⟩|⟨_,b,r,rfl,_⟩
  ·exact .inl rfl
  ·exact .inr ⟨_,_,_,_,rfl⟩
 obtain⟨H9,e9,xV⟩:=ZiD E (n:=n+1) hk (s:=[97,110,110,111,116,97,116,105,111,110,115]) hwf ah
 have k9:=k8.trans' xV
 have k79:=k78.trans' xV
 have bs1: ∀G,Wa 77 7 1 eV [(0,7,.agg (.str [97,110,110,111,116,97,116,105,111,110,115]::XO w))] G=.val (.slice G.nx 0 1 none) (G.new (rG 77 7 (.str [97,110,110,111,116,97,116,105,111,110,115]::XO w) 0 false true true)):=λ_=>rfl
 have g9:H9.t.get H6.nx=some (rG 77 7 (LU md d u) 0 false true true):=by rw[k79.get _ (by omega) (by simp)];exact g7
 have ap:=vj (bytes:=104) (n:=3) (x:=.str [97,110,110,111,116,97,116,105,111,110,115]::XO w) g9 (by have:=k79.nx;omega) rfl (by decide) (by decide) (by decide) rfl
 obtain⟨H10,dZ⟩:=XZ ((H9.new (rG 77 7 (.str [97,110,110,111,116,97,116,105,111,110,115]::XO w) 0 false true true)).new (rG 77 7 (LU md d u++(.str [97,110,110,111,116,97,116,105,111,110,115]::XO w)) 0 false true false))
 rw[dZ] at ap
 have yW:Zq H9 H10 []:=by rw[<-dZ];exact(Zq.new _ _ _).then_new _
 have k10:=k9.trans' yW
 have g10:H10.t.get (H9.nx+1)=some (rG 77 7 (LU md d u++(.str [97,110,110,111,116,97,116,105,111,110,115]::XO w)) 0 false true false):=by rw[<-dZ];exact Zx rfl _
 have nx10:H10.nx=H9.nx+1+1:=by rw[<-dZ];rfl
 obtain⟨H11,e11,tU⟩:=Oy E (n:=n+1) hk (v:=.slice (H9.nx+1) 0 4 none) (H:=H10) (.inr ⟨_,_,_,_,rfl⟩) (by rw[k10.ro];exact Zn NG k10.nx)
 have k11:=k10.trans' tU
 have g11:=gV H11 k11
 have ZcH:H11.ro<=H1.nx:=by rw[k11.ro,k2.ro];omega
 have st:=WQ (n:=6) (b:=H1.nx) (l:=zV) (vs:=XO (.slice (H9.nx+1) 0 4 none)) (H:=H11) rfl rfl (by decide) ZcH 73 1 false true
 have gp:=Y1 H11 H1.nx (rH 73 (XO (.slice (H9.nx+1) 0 4 none)))
 have rv: ∀kk,rV 6 true (some (rH 73 (XO (.slice (H9.nx+1) 0 4 none)))) 0 kk=kk (.agg (XO (.slice (H9.nx+1) 0 4 none))):=λkk=>Pr (n:=6) (l:=XO (.slice (H9.nx+1) 0 4 none)) rfl kk
 have e11:ZJ (LK Zp fs fuel k) fs fuel (n+4) 33 [.slice (H9.nx+1) 0 4 none] H10=.ret (.agg (XO (.slice (H9.nx+1) 0 4 none))) H11:=e11
 simp only[t2,t3,t4,e9,bs1,ap,e11,g11,st,gp,rv,YS,VO,ZE,Yb,ZC,ZY,Zz,Z4,WG]
 have k7_11:=(k79.trans' yW).trans' tU
 have n2:=k2.nx;have n7:=k7.nx
 refine⟨_,w,H7.nx,_,rfl,?_,?_,?_,?_,?_,?_⟩
 ·exact(k2.trans' k11).then_put (by omega)
 ·rw[YT (by have:=k79.nx;omega),tU.get _ (by omega) (by simp)];exact g10
 ·have:=tU.nx;show H9.nx+1<H11.nx;omega
 ·refine hw.below (λc hc hlt=>?_) (((xV.trans' yW).trans' tU).ro) ((xV.trans' yW).trans' tU).nx
  rw[YT (by omega),((xV.trans' yW).trans' tU).get c hlt (by simp)]
 ·have:=k79.nx;have:=k07.nx;omega
 ·have:=k07.nx;omega
end
def NB(H:Heap)(b:Nat):Heap:=H.put b .loop
theorem NB.keep{H H':Heap}{b:Nat}(k:Zq H H' [b]):Zq (NB H b) (NB H' b) []:=by
 refine⟨k.nx,k.ro,λc hc _=>?_⟩
 show(H'.put b .loop).t.get c=(H.put b .loop).t.get c
 by_cases h:b=c
 ·subst h;rw[Y1,Y1]
 ·rw[YT h,YT h]
  exact k.get c hc (by simp;exact λe=>h e.symm)
theorem Sl.nb{H:Heap}{b sz:Nat}{v:AV}{ls:List (List AV)}(h:Sl (NB H b) sz v ls):Sl H sz v ls:=by
 refine⟨h.each,?_⟩
 rcases h.here with h1|⟨c,o,q,rfl,hb,h2⟩
 ·exact .inl h1
 ·refine .inr ⟨c,o,q,rfl,hb,λhne=>?_⟩
  obtain⟨r,h3,h4⟩:=h2 hne
  refine⟨r,?_,h4⟩
  by_cases hc:b=c
  ·subst hc
   have:(H.put b .loop).t.get b=some (.row r):=h3
   rw[Y1] at this;cases this
  ·have:(H.put b .loop).t.get c=some (.row r):=h3
   rw[YT hc] at this;exact this
theorem VR.nb{H:Heap}{b:Nat}: ∀{h:Nat} {v:JV} {cs:List AV},VR (NB H b) h v cs->VR H h v cs
 |h+1,.mk _ _ _ _ l m,cs,⟨lv,mv,ls,ms,e,a1,a2,a3,a4,a5,sl,sm,e1,e2,hl,hm⟩=>
  ⟨lv,mv,ls,ms,e,a1,a2,a3,a4,a5,sl.nb,sm.nb,e1,e2,λi hi=>(hl i hi).nb,λi hi=>by
   obtain⟨b,t,c,d⟩:=hm i hi
   exact⟨b,t,c,d.nb⟩⟩
theorem Sl.move{X Y:Heap}{bb sz:Nat}{v:AV}{ls:List (List AV)}(h:Sl (NB X bb) sz v ls)(hg: ∀c,c<X.nx->c≠bb->Y.t.get c=X.t.get c)(hn:X.nx<=Y.nx):Sl Y sz v ls:=by
 refine⟨h.each,?_⟩
 rcases h.here with h1|⟨c,o,q,rfl,hb,h2⟩
 ·exact .inl h1
 ·have hb:c<X.nx:=hb
  refine .inr ⟨c,o,q,rfl,by omega,λhne=>?_⟩
  obtain⟨r,h3,h4⟩:=h2 hne
  have h3:(X.put bb .loop).t.get c=some (.row r):=h3
  by_cases hc:bb=c
  ·subst hc
   rw[Y1] at h3;cases h3
  ·rw[YT hc] at h3
   exact⟨r,by rw[hg c hb (λe=>hc e.symm)];exact h3,h4⟩
theorem VR.move{X Y:Heap}{bb:Nat}(hg: ∀c,c<X.nx->c≠bb->Y.t.get c=X.t.get c)(hn:X.nx<=Y.nx): ∀{h:Nat} {v:JV} {cs:List AV},VR (NB X bb) h v cs->VR Y h v cs
 |h+1,.mk _ _ _ _ l m,cs,⟨lv,mv,ls,ms,e,a1,a2,a3,a4,a5,sl,sm,e1,e2,hl,hm⟩=>
  ⟨lv,mv,ls,ms,e,a1,a2,a3,a4,a5,sl.move hg hn,sm.move hg hn,e1,e2,λi hi=>(hl i hi).move hg hn,λi hi=>by
   obtain⟨b,t,c,d⟩:=hm i hi
   exact⟨b,t,c,d.move hg hn⟩⟩
theorem VR.fresh{X:Heap}{bb:Nat}(hb:X.nx<=bb){h:Nat}{v:JV}{cs:List AV}(r:VR X h v cs):VR (NB X bb) h v cs:=
 r.keep (Zq.put λh=>by omega)
def Off(S:Nat->Prop)(v:AV):Prop:= ∀c o n q,v=.slice c o n q-> ¬S c
def MK(H:Heap)(S:Nat->Prop):Nat->JV->List AV->Prop
 |0,_,_=>False
 |h+1,.mk k b n s l m,cs=> ∃lv mv ls ms,cs=[nI .i64 k,.bool b,.int .i64 n,.str s,lv,mv]∧ -9223372036854775808<=n∧n<9223372036854775808∧s.length<=9000∧l.length<=9000∧m.length<=9000∧(Sl H 6 lv ls∧Off S lv)∧(Sl H 7 mv ms∧Off S mv)∧ls.length=l.length∧ms.length=m.length∧
  (∀i,i<l.length->MK H S h (l.getD i default) (ls.getD i []))∧ ∀i,i<m.length->(m.getD i default).1.length<=9000∧ ∃t,ms.getD i []=.str (m.getD i default).1::t∧MK H S h (m.getD i default).2 t
theorem MK.vr{H:Heap}{S:Nat->Prop}: ∀{h:Nat} {v:JV} {cs:List AV},MK H S h v cs->VR H h v cs
 |h+1,.mk _ _ _ _ l m,cs,⟨lv,mv,ls,ms,e,a1,a2,a3,a4,a5,sl,sm,e1,e2,hl,hm⟩=>
  ⟨lv,mv,ls,ms,e,a1,a2,a3,a4,a5,sl.1,sm.1,e1,e2,λi hi=>(hl i hi).vr,λi hi=>by
   obtain⟨b,t,c,d⟩:=hm i hi
   exact⟨b,t,c,d.vr⟩⟩
theorem Sl.move2{X Y:Heap}{S S':Nat->Prop}{sz:Nat}{v:AV}{ls:List (List AV)}(hg: ∀c,c<X.nx-> ¬S c->Y.t.get c=X.t.get c)(hn:X.nx<=Y.nx)(hs: ∀c,c<X.nx->S' c->S c)(h:Sl X sz v ls∧Off S v):Sl Y sz v ls∧Off S' v:=by
 obtain⟨h,ho⟩:=h
 rcases h.here with⟨rfl,rfl⟩|⟨c,o,q,rfl,hb,h2⟩
 ·exact⟨Sl.nil ..,λ_ _ _ _ e=>by cases e⟩
 ·have hc:=ho _ _ _ _ rfl
  refine⟨⟨h.each,.inr ⟨c,o,q,rfl,by omega,λhne=>?_⟩⟩,λ_ _ _ _ e hS=>?_⟩
  ·obtain⟨r,h3,h4⟩:=h2 hne
   exact⟨r,by rw[hg c hb hc];exact h3,h4⟩
  ·cases e;exact hc (hs _ hb hS)
theorem MK.move{X Y:Heap}{S S':Nat->Prop}(hg: ∀c,c<X.nx-> ¬S c->Y.t.get c=X.t.get c)(hn:X.nx<=Y.nx)(hs: ∀c,c<X.nx->S' c->S c): ∀{h:Nat} {v:JV} {cs:List AV},MK X S h v cs->MK Y S' h v cs
 |h+1,.mk _ _ _ _ l m,cs,⟨lv,mv,ls,ms,e,a1,a2,a3,a4,a5,sl,sm,e1,e2,hl,hm⟩=>
  ⟨lv,mv,ls,ms,e,a1,a2,a3,a4,a5,Sl.move2 hg hn hs sl,Sl.move2 hg hn hs sm,e1,e2,λi hi=>(hl i hi).move hg hn hs,λi hi=>by
   obtain⟨b,t,c,d⟩:=hm i hi
   exact⟨b,t,c,d.move hg hn hs⟩⟩
section
variable {Zp:Lib} {fs:T CF} {fuel k n i h b:Nat} {H H0:Heap} {s:List UInt8} {cs:List AV}
def TT(s:List UInt8):JV:=.mk 4 false 0 s [] []
def Gr(u:Nat):JV:=.mk 3 false u [] [] []
def MH(m:List (List UInt8×JV)):JV:=.mk 6 false 0 [] [] m
def Nl(p:NP):List UInt8×JV:=(p.1,TT p.2)
def Hq(md d:List UInt8)(u:Nat)(l:List NP):JV:=MH ([([100,105,103,101,115,116],TT (R6 d)),([109,101,100,105,97,84,121,112,101],TT md),([115,105,122,101],Gr u)]++(if l=[] then [] else [([97,110,110,111,116,97,116,105,111,110,115],MH (l.map Nl))]))
theorem OS(S:Nat->Prop):Off S .nils:=λ_ _ _ _ e=>by cases e
theorem NR{S:Nat->Prop}(hs:s.length<=9000):MK H S (h+1) (TT s) (Vc s):=
 ⟨.nils,.nils,[],[],rfl,by decide,by decide,hs,Z8 _,Z8 _,⟨Sl.nil _ _,OS S⟩,⟨Sl.nil _ _,OS S⟩,rfl,rfl,λi hi=>(by cases hi),λi hi=>(by cases hi)⟩
theorem xT{S:Nat->Prop}{u:Nat}(hu:u<9223372036854775808):MK H S (h+1) (Gr u) (PR u):=
 ⟨.nils,.nils,[],[],rfl,by omega,by omega,Z8 _,Z8 _,Z8 _,⟨Sl.nil _ _,OS S⟩,⟨Sl.nil _ _,OS S⟩,rfl,rfl,λi hi=>(by cases hi),λi hi=>(by cases hi)⟩
theorem Hc{S:Nat->Prop}{m:List (List UInt8×JV)}{mv:AV}{ms:List (List AV)}(sl:Sl H 7 mv ms)(hoff:Off S mv)(he:ms.length=m.length)(hl:m.length<=9000)(hm: ∀i,i<m.length->(m.getD i default).1.length<=9000∧ ∃t,ms.getD i []=.str (m.getD i default).1::t∧MK H S h (m.getD i default).2 t):MK H S (h+1) (MH m) (XO mv):=
 ⟨.nils,mv,[],ms,rfl,by decide,by decide,Z8 _,Z8 _,hl,⟨Sl.nil _ _,OS S⟩,⟨sl,hoff⟩,rfl,he,λi hi=>(by cases hi),hm⟩
theorem Ea{q e sz:Nat}{ls:List (List AV)}{b1 b2 b3:Bool}(g:H.t.get q=some (rG e sz ls.flatten 0 b1 b2 b3))(hq:q<H.nx)(each: ∀l∈ls,l.length=sz):Sl H sz (.slice q 0 ls.length none) ls:=
 ⟨each,.inr ⟨q,0,none,rfl,hq,λ_=>⟨_,g,by show 0+ls.length*sz<=YF ls.flatten;rw[Yw,So each];omega,λi hi=>by rw[Zs];exact IQ ..⟩⟩⟩
theorem Bw{w:AV}{e sz lo:Nat}{ls:List (List AV)}(h:VT H w e sz ls lo):Sl H sz w ls:=by
 rcases h with⟨rfl,rfl⟩|⟨_,b,r,rfl,g,_⟩
 ·exact Sl.nil _ _
 ·refine⟨g.each,.inr ⟨b,0,none,rfl,g.low,λ_=>⟨r,g.at_,by rw[g.size];omega,λi hi=>?_⟩⟩⟩
  rw[Zs]
  exact g.cells.get i (by rw[So g.each];exact hi)
theorem fS{S:Nat->Prop}{lo:Nat}{l:List NP}{w:AV}(hw:VT H w 77 7 (l.map EP) lo)(hS: ∀c,S c->c<lo)(hl:l.length<=1000)(hs: ∀p∈l,p.1.length<=9000∧p.2.length<=9000):MK H S (h+2) (MH (l.map Nl)) (XO w):=by
 refine Hc (h:=h+1) (Bw hw) (λc o n q e hc=>by
  rcases hw with⟨_,rfl⟩|⟨_,b,r,rfl,_,hlo⟩
  ·cases e
  ·cases e;have:=hS _ hc;omega) (by rw[Zi,Zi]) (by rw[Zi];omega) λi hi=>?_
 rw[Zi] at hi
 have hm:=hs _ (Y0 hi)
 have e1:(l.map Nl).getD i default=Nl l[i]:=by rw[Za,Yh,Zg hi];rfl
 have e2:(l.map EP).getD i []=EP l[i]:=by rw[Za,Yh,Zg hi];rfl
 rw[e1,e2]
 exact⟨hm.1,Vc l[i].2,rfl,NR hm.2⟩
theorem Jf{d:List UInt8}(hd:d.length=32):(R6 d).length=71:=by
 have:=Jb d
 unfold R6;rw[Zf,this,hd];rfl
theorem lQ(E:Env Zp fs fuel)(hk:1<=k){md d:List UInt8}{u:Nat}{v:AV}{l:List NP}(hd:d.length=32)(hu:u<9223372036854775808)(hmd:md.length<=9000)(hro:H.ro<=H.nx)(sl:Sl H 2 v (RK l))(hl:l.length<=1000)(hs: ∀p∈l,p.1.length<=9000∧p.2.length<=9000):
  ∃cs H',ZJ (LK Zp fs fuel k) fs fuel (n+5) 34 [.agg (.str md::(d.map XM++[nI .i64 u,v]))] H=.ret (.agg cs) H'∧Zq H H' []∧MK H' (λc=>c<H.nx) 4 (Hq md d u l) cs:=by
 have e3: ∀G S h,MK G S (h+1) (TT (R6 d)) (Vc (R6 d)):=λG S h=>NR (by rw[Jf hd];decide)
 by_cases h0:l=[]
 ·subst h0
  obtain⟨q,H',e,k1,g,hq,hlo⟩:=r7 E (n:=n) hk (md:=md) (u:=u) (v:=v) hd hro sl.len
  refine⟨_,H',e,k1,?_⟩
  have sr:=Ea (ls:=[.str [100,105,103,101,115,116]::Vc (R6 d),.str [109,101,100,105,97,84,121,112,101]::Vc md,.str [115,105,122,101]::PR u]) g hq (λx hx=>by
   simp only[ZN,YL,or_false] at hx
   rcases hx with rfl|rfl|rfl<;>rfl)
  unfold Hq
  rw[if_pos rfl,Yl]
  refine Hc sr (λc o n q' e' hc=>by cases e';have hc:q<H.nx:=hc;omega) rfl (by show 3<=9000;decide) λi hi=>?_
  match i,hi with
  |0,_=>exact⟨by show 6<=9000;decide,_,rfl,e3 _ _ _⟩
  |1,_=>exact⟨by show 9<=9000;decide,_,rfl,NR hmd⟩
  |2,_=>exact⟨by show 4<=9000;decide,_,rfl,xT hu⟩
 ·obtain⟨q,w,lo,H',e,k1,g,hq,hw,hlo,hlo2⟩:=r8 E (n:=n) hk (md:=md) (u:=u) (v:=v) hd hro sl (Ws.2 h0) hl
  refine⟨_,H',e,k1,?_⟩
  have sr:=Ea (ls:=[.str [100,105,103,101,115,116]::Vc (R6 d),.str [109,101,100,105,97,84,121,112,101]::Vc md,.str [115,105,122,101]::PR u,.str [97,110,110,111,116,97,116,105,111,110,115]::XO w]) g hq (λx hx=>by
   simp only[ZN,YL,or_false] at hx
   rcases hx with rfl|rfl|rfl|rfl<;>rfl)
  unfold Hq
  rw[if_neg h0]
  refine Hc sr (λc o n q' e' hc=>by cases e';have hc:q<H.nx:=hc;omega) rfl (by show 4<=9000;decide) λi hi=>?_
  match i,hi with
  |0,_=>exact⟨by show 6<=9000;decide,_,rfl,e3 _ _ _⟩
  |1,_=>exact⟨by show 9<=9000;decide,_,rfl,NR hmd⟩
  |2,_=>exact⟨by show 4<=9000;decide,_,rfl,xT hu⟩
  |3,_=>exact⟨by show 11<=9000;decide,_,rfl,fS hw (λc hc=>ZO hc hlo2) hl hs⟩
end
end
end Go.AI
