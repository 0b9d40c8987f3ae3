/- Documents as the law has them; the law: walked: proved without conditions but those that each names. -/
import Derived.Test.YtbmjgbajoemnaaaGreatDoorPV
set_option maxRecDepth 1000000
set_option maxHeartbeats 0
set_option linter.unusedVariables false
set_option linter.unusedSimpArgs false
namespace Go.AI
open Go
noncomputable section
theorem kf{H:Heap}{v:AV}{l:List NP}{lo:Nat}(h:VT H v 59 2 (RK l) lo):Dh H v l∧(v=.nils∨l≠[]):=by
 have hl:(RK l).length=l.length:=by unfold RK;rw[Zi]
 rcases h with⟨e,rfl⟩|⟨hne,b,r,rfl,rc,_⟩
 ·have:l=[]:=by unfold RK at e;exact List.map_eq_nil_iff.1 e
  exact⟨.inl ⟨this,rfl⟩,.inl rfl⟩
 ·have hl0:l≠[]:=λe=>hne (by rw[e];rfl)
  refine⟨.inr ⟨b,r,by rw[hl],rc.low,rc.at_,rc.szr,by rw[rc.size,hl];omega,λi p hp=>?_⟩,.inr hl0⟩
  obtain⟨hi,_⟩:=Xh.1 hp
  have hg:(RK l).getD i []=[.str p.1,.str p.2]:=by unfold RK;rw[Za,Yh,hp];rfl
  have q: ∀j,j<2->r.get (i*2+j)=((RK l).getD i []).getD j .unk:=λj hj=>by
   have h1:=rc.load1 (H':=H) rfl (i:=i) (j:=j) (by rw[hl];exact hi) hj
   have h2:OM (.ptr b (i*2+j)) H=.val (r.get (i*2+j)) H:=by
    rw[Mh,rc.at_,M2 (by rw[rc.size,hl];omega)]
   rw[h2] at h1;exact(OR.val.inj h1).1
  have q0:=q 0 (by decide);have q1:=q 1 (by decide)
  rw[hg] at q0 q1
  exact⟨q0,q1⟩
def Ie(H:Heap)(cs:List AV)(x:Vz):Prop:= ∃v,cs=.str x.md::(x.d.map XM++[.int .i64 x.z,v])∧Sz H 2 v (RK x.l)∧x.d.length=32
theorem Ie.keep{H H':Heap}{cs:List AV}{x:Vz}(h:Ie H cs x)(k:Zq H H' []):Ie H' cs x:=by
 obtain⟨v,e,a,b⟩:=h
 exact⟨v,e,a.keep0 k,b⟩
theorem Ie.len{H:Heap}{cs:List AV}{x:Vz}(h:Ie H cs x):cs.length=35:=by
 obtain⟨nv,e,_,hd⟩:=h
 rw[e,Zh,Zf,Zi,hd];rfl
def yv(p:NP):NP:=(p.1.take 300,p.2.take 600)
def E6(l:List NP):List NP:=(l.take 20).map yv
def yG(x:Vz):Vz:=⟨x.md,x.d,x.z,E6 x.l⟩
theorem b8{l:List NP}{i:Nat}(h:i<l.length):(RK l).getD i []=[.str (l.getD i ([],[])).1,.str (l.getD i ([],[])).2]:=by
 unfold RK
 rw[Za,Yh,Za,Zg h];rfl
theorem mT(l:List NP)(p:NP):RK (l++[p])=RK l++[[.str p.1,.str p.2]]:=by
 unfold RK;rw[Xe];rfl
theorem Dy(s:List UInt8)(k:Nat)(G:Heap):Lh (.str s) none (some (nI .i64 (min s.length k))) G=.val (.str (s.take k)) G:=by
 rw[rz (Nat.min_le_left _ _)];congr 2;rw[Nat.min_comm,<-List.take_take,UJ]
structure FWI(Hs:Heap)(l:List NP)(b b2:Nat)(m:Nat)(tm:TM)(H:Heap):Prop where
 k:Zq Hs H []
 t1:Y2 tm=.ptr b 0
 t2:Xy tm=.ptr b2 0
 i: ∃i w,Xf tm=nI .i64 i∧i+m=min 20 l.length∧XK tm=w∧VT H w 59 2 (RK ((l.take i).map yv)) Hs.nx
def FWQ(Hs:Heap)(l:List NP)(b b2:Nat)(o:Out)(tm:TM)(H:Heap):Prop:=o=.exit 0∧Zq Hs H []∧Y2 tm=.ptr b 0∧Xy tm=.ptr b2 0∧ ∃w,XK tm=w∧VT H w 59 2 (RK (E6 l)) Hs.nx
theorem dW{Hs:Heap}{l:List NP}{v:AV}{b b2:Nat}{cs:List AV}(hA:Sz Hs 2 v (RK l))(hro:Hs.ro<=Hs.nx)(hb:b<Hs.nx)(gb:Hs.t.get b=some (rH 26 cs))(EH: ∀G,ld1 (some (rH 26 cs)) 34 G=.val v G)(cx:Ctx)(x:X)(m:Nat)(tm:TM)(H:Heap)(hI:FWI Hs l b b2 m tm H):
  ∃o tm' H',Ax cx tm H x=.ok o tm' H' x∧((o=.normal∧ ∃q,q<m∧FWI Hs l b b2 q tm' H')∨(o≠.normal∧FWQ Hs l b b2 o tm' H')):=by
 obtain⟨k0,t1,t2,i,w,t4,him,t3,rb⟩:=hI
 have t1':=t1;have t2':=t2;have O9:=t3
 simp only[PM,Qg,OI] at t1 t3 t4
 have hA0:=hA.keep0 k0
 have la:=hA0.len
 rw[OT] at la
 have gq:=(k0.get b hb (by simp)).trans gb
 have hx0:=k0.nx
 cases m with
 |zero=>
  have hat:E6 l=(l.take i).map yv:=by
   unfold E6
   congr 1
   by_cases h:20<=l.length
   ·rw[show i=20 by omega]
   ·rw[ZB (by omega),ZB (by omega)]
  rw[<-hat] at rb
  by_cases h1:i<l.length
  ·have d1:decide (i<l.length)=true:=Ze h1
   have d2:decide (i<20)=false:=Zb (by omega)
   simp(maxSteps:=4000000) (disch:=first|assumption|omega|(simp -implicitDefEqProofs only[ZQ,ZR]<;>first|assumption|omega)|decide) only[t1,t4,gq,EH,la,d1,d2,ZH,Zs,Ax,ZC,ZY,Zz,Zw,Zr,Zt,ZA,Nat.reducePow,Nat.reduceDiv,Nat.reduceMod,Nat.reduceEqDiff,reduceCtorEq,Z4,WG]
   refine⟨_,_,_,rfl,?_⟩
   exact .inr ⟨by simp,rfl,k0,t1',t2',w,O9,rb⟩
  ·have d1:decide (i<l.length)=false:=Zb h1
   simp(maxSteps:=4000000) (disch:=first|assumption|omega|(simp -implicitDefEqProofs only[ZQ,ZR]<;>first|assumption|omega)|decide) only[t1,t4,gq,EH,la,d1,QC,ZH,Zs,Ax,ZC,ZY,Zz,Zw,Zr,Zt,ZA,Nat.reducePow,Nat.reduceDiv,Nat.reduceMod,Nat.reduceEqDiff,reduceCtorEq,Z4,WG]
   refine⟨_,_,_,rfl,?_⟩
   exact .inr ⟨by simp,rfl,k0,t1',t2',w,O9,rb⟩
 |succ m=>
  have hi:i<l.length:=by omega
  have d1:decide (i<l.length)=true:=Ze hi
  have d2:decide (i<20)=true:=Ze (by omega)
  obtain⟨bb,o,r,eI,hbb,gbb,_,eE⟩:=hA0.at_ (i:=i) (by rw[OT];exact hi)
  have e0:=λG=>eE 0 G (by decide)
  have e1:=λG=>eE 1 G (by decide)
  rw[b8 hi] at e0 e1
  have htk:(l.take (i+1)).map yv=(l.take i).map yv++[yv (l.getD i ([],[]))]:=by
   rw[UH,Za,Zg hi,Xe];rfl
  generalize l.getD i ([],[])=a at*
  have e0: ∀G:Heap,ld1 (some (.row r)) (o+0) G=.val (.str a.1) G:=e0
  have e00: ∀G:Heap,ld1 (some (.row r)) o G=.val (.str a.1) G:=e0
  have e1: ∀G:Heap,ld1 (some (.row r)) (o+1) G=.val (.str a.2) G:=e1
  have hroN:H.ro<=H.nx:=by rw[k0.ro];omega
  have tk1:=Dy a.1 300
  have tk2:=Dy a.2 600
  obtain⟨lw,sw,cw,bw⟩:=xC rb
  obtain⟨w',H2,ea,w2,k2,hb2,n2⟩:=pA (bytes:=32) rb (by decide) (by decide) (by rw[OT,Zi,ZP];omega) hroN (by omega) (x:=[.str (a.1.take 300),.str (a.2.take 600)]) rfl
  have lw0:=lw H.nx (Zl _)
  have lw1:=lw (H.nx+1) (XV _)
  have lv0:=hA0.low (n:=H.nx) (Zl _)
  have lv1:=hA0.low (n:=H.nx+1) (XV _)
  have sv:=hA0.same
  have lb:=λo=>Yp (n:=H.nx) (b:=b) (by omega) o
  have lbb:=λo=>Yp (n:=H.nx) hbb o
  have Zjy:=λo=>Yp (n:=H.nx+1) (b:=bb) (by omega) o
  have lb1:=λo=>Yp (n:=H.nx+1) (b:=b) (by omega) o
  have bs: ∀G,Wa 59 2 1 [.str [],.str []] [(0,2,.agg [.str (a.1.take 300),.str (a.2.take 600)])] G=.val (.slice G.nx 0 1 none) (G.new (rG 59 2 [.str (a.1.take 300),.str (a.2.take 600)] 0 false true true)):=λ_=>rfl
  have b2_: ∀G,Qd [.str [],.str []] [(0,1,.str (a.1.take 300)),(1,1,.str (a.2.take 600))] G=.val (.agg [.str (a.1.take 300),.str (a.2.take 600)]) G:=λ_=>rfl
  have gg:=YV (H:=H) (o:=rG 59 2 [.str (a.1.take 300),.str (a.2.take 600)] 0 false true true) (c:=b) (by omega)
  have gg2:=YV (H:=H) (o:=rG 59 2 [.str (a.1.take 300),.str (a.2.take 600)] 0 false true true) (c:=bb) (by omega)
  have ad:=λG=>YZ (a:=i) (b:=1) (by omega) G
  simp(maxSteps:=4000000) (disch:=first|assumption|omega|(simp -implicitDefEqProofs only[ZQ,ZR]<;>first|assumption|omega)|decide) only[t1,t3,t4,gq,EH,la,d1,d2,eI,gbb,e00,e0,e1,tk1,tk2,bs,b2_,ea,lw0,lw1,lv0,lv1,sv,sw,lb,lbb,lb1,Zjy,gg,gg2,ad,vq,KE,VO,YS,Tt,Y7,ZE,Yb,ZH,Zs,Ax,ZC,ZY,Zz,Zw,Zr,Zt,ZA,Nat.reducePow,Nat.reduceDiv,Nat.reduceMod,Nat.reduceEqDiff,reduceCtorEq,Z4,WG]
  refine⟨_,_,_,rfl,.inl ⟨rfl,m,by omega,k0.trans k2 (λc hc hlt=>by have:=(bw c hc).1;omega),t1',t2',i+1,w',rfl,by omega,rfl,?_⟩⟩
  rw[htk,mT];exact w2
section
variable {Zp:Lib} {fs:T CF} {fuel k n i h b:Nat} {H H0:Heap} {s:List UInt8} {cs:List AV}
def xW(H:Heap)(S:Nat->Prop)(cs:List AV)(x:Vz):Prop:= ∃v,cs=.str x.md::(x.d.map XM++[.int .i64 x.z,v])∧(Dh H v x.l∧Off S v)∧x.d.length=32∧x.l.length<=100∧ ∀i,(x.l.getD i ([],[])).1.length<=1000∧(x.l.getD i ([],[])).2.length<=1000
theorem xW.c{S:Nat->Prop}{x:Vz}(h:xW H S cs x):OA H cs x:=by
 obtain⟨v,e,a,b⟩:=h
 exact⟨v,e,a.1,b⟩
theorem Dh.move{X Y:Heap}{S S':Nat->Prop}{v:AV}{l:List NP}(hg: ∀c,c<X.nx-> ¬S c->Y.t.get c=X.t.get c)(hn:X.nx<=Y.nx)(hs: ∀c,c<X.nx->S' c->S c)(h:Dh X v l∧Off S v):Dh Y v l∧Off S' v:=by
 obtain⟨h,ho⟩:=h
 rcases h with⟨rfl,rfl⟩|⟨b,r,rfl,hb,g,w⟩
 ·exact⟨.inl ⟨rfl,rfl⟩,OS S'⟩
 ·have hc:=ho _ _ _ _ rfl
  exact⟨.inr ⟨b,r,rfl,ZO hb hn,by rw[hg b hb hc];exact g,w⟩,λ_ _ _ _ e hS=>by cases e;exact hc (hs _ hb hS)⟩
theorem xW.move{X Y:Heap}{S S':Nat->Prop}{x:Vz}(hg: ∀c,c<X.nx-> ¬S c->Y.t.get c=X.t.get c)(hn:X.nx<=Y.nx)(hs: ∀c,c<X.nx->S' c->S c)(h:xW X S cs x):xW Y S' cs x:=by
 obtain⟨v,e,a,b⟩:=h
 exact⟨v,e,Dh.move hg hn hs a,b⟩
theorem dL{md d:List UInt8}{z v w:AV}(hd:d.length=32):(AV.str md::(d.map XM++[z,v])).set 34 w=.str md::(d.map XM++[z,w]):=by
 rw[XU,Tg _ _ (by rw[Zi,hd];decide),Zi,hd];rfl
theorem jl(l:List NP):(E6 l).length<=20:=by unfold E6;rw[Zi,ZP];omega
theorem tv(l:List NP)(i:Nat):((E6 l).getD i ([],[])).1.length<=1000∧((E6 l).getD i ([],[])).2.length<=1000:=by
 rw[Za]
 cases h:(E6 l)[i]? with
 |none=>exact⟨Z8 _,Z8 _⟩
 |some p=>
  have hm:=WU h
  unfold E6 at hm
  obtain⟨q,_,rfl⟩:=YC.1 hm
  show(yv q).1.length<=1000∧(yv q).2.length<=1000
  unfold yv
  simp only[ZP];omega
theorem qC(E:Env Zp fs fuel){x:Vz}(hro:H.ro<=H.nx)(hc:Ie H cs x):
  ∃cs' H',ZJ (LK Zp fs fuel k) fs fuel (n+1) 4 [.agg cs] H=.ret (.agg cs') H'∧Zq H H' []∧xW H' (λc=>c<H.nx) cs' (yG x):=by
 have ln:=hc.len
 obtain⟨v,hcs,hA,hd⟩:=hc
 rw[ZL (ZF E.n4 (.inr rfl) _ _) E.f4]
 have Jj: ∀G,ld1 (some (rH 26 cs)) 34 G=.val v G:=λG=>by
  rw[Z2 (by omega),hcs,WT,Za,Zu (by rw[Zi,hd];decide),Zi,hd];rfl
 have hset: ∀w,cs.set 34 w=.str x.md::(x.d.map XM++[.int .i64 x.z,w]):=λw=>by rw[hcs];exact dL hd
 obtain⟨H1,hH1⟩:=XZ (H.new (rH 26 cs))
 have bx:=YU (l:=cs) (by omega) 26 H
 rw[hH1] at bx
 have k1:Zq H H1 []:=by rw[<-hH1];exact Zq.new H _ _
 have U2:H1.nx=H.nx+1:=by rw[<-hH1];rfl
 have g1:H1.t.get H.nx=some (rH 26 cs):=by rw[<-hH1,Zx rfl]
 obtain⟨H2,hH2⟩:=XZ (H1.new (rH 26 Aq))
 have k2:Zq H1 H2 []:=by rw[<-hH2];exact Zq.new _ _ _
 have nx2:H2.nx=H1.nx+1:=by rw[<-hH2];rfl
 have g2:H2.t.get H1.nx=some (rH 26 Aq):=by rw[<-hH2];exact Zx rfl _
 have g21:H2.t.get H.nx=some (rH 26 cs):=by rw[k2.get _ (by omega) (by simp)];exact g1
 have Kq:=k1.trans' k2
 have Qw:H2.ro<=H2.nx:=by rw[Kq.ro];omega
 simp only[yf,Gs,bx,hH2,c4,ZC,ZY,Z4]
 generalize hL:XQ (Ax _) fuel _ _ _=L
 obtain⟨o,Tx,H3,rfl,_,rfl,k3,t1,t2,w,t3,hbuf⟩:=YA (P:=λT=>FWI H2 x.l H.nx H1.nx (min 20 x.l.length) T H2) (Q:=FWQ H2 x.l H.nx H1.nx)
  (λT hi=>YK (FWI H2 x.l H.nx H1.nx) (FWQ H2 x.l H.nx H1.nx) (λm tm H' h=>dW (hA.keep0 Kq) Qw (by omega) g21 Jj _ _ m tm H' h) fuel (min 20 x.l.length) T H2 (by have:=E.big;omega) hi) hL
  (by exact⟨Zq.refl _ _,rfl,rfl,0,.nils,rfl,by omega,rfl,.inl ⟨rfl,rfl⟩⟩)
 simp only[PM,PN,Qg] at t1 t2 t3
 have n3:=k3.nx
 have hwc:w.cells=[w]:=by rcases hbuf with⟨_,rfl⟩|⟨_,_,_,rfl,_⟩<;>rfl
 have g3:H3.t.get H.nx=some (rH 26 cs):=by rw[k3.get _ (by omega) (by simp)];exact g21
 have g32:H3.t.get H1.nx=some (rH 26 Aq):=by rw[k3.get _ (by omega) (by simp)];exact g2
 have GJ:H3.ro<=H.nx:=by rw[k3.ro,Kq.ro];exact hro
 have st1:=Lk (b:=H.nx) (o:=34) (l:=cs) (v:=w) (H:=H3) (fz:=0) hwc (by omega) GJ (Z8 _) 26 1 false true
 obtain⟨cs',hcs'⟩:=XZ (cs.set 34 w)
 have ln':cs'.length=35:=by rw[<-hcs',Xv];exact ln
 rw[hcs'] at st1
 have q7: ∀G,ldN 35 (some (rH 26 cs')) 0 G=.val (.agg cs') G:=λG=>by rw[X8 (by omega),Z6,ZB (by omega)]
 have gne:(H3.put H.nx (rH 26 cs')).t.get H1.nx=some (rH 26 Aq):=by rw[YT (by omega)];exact g32
 have st2:=WQ (n:=35) (b:=H1.nx) (l:=Aq) (vs:=cs') (H:=H3.put H.nx (rH 26 cs')) rfl ln' (by decide) (by show H3.ro<=_;omega) 26 1 false true
 have rv:=λk=>Pr (n:=35) (e:=26) (sz:=1) (l:=cs') (fz:=0) (sm:=false) (own:=true) (ex:=true) ln' k
 simp only[t1,t2,t3,g3,st1,q7,gne,st2,rv,Y1,Zs,ZC,ZY,Zz,Z4,WG]
 refine⟨_,_,rfl,?_,?_⟩
 ·refine⟨by show H.nx<=H3.nx;omega,by show H3.ro=_;rw[k3.ro,Kq.ro],λc hc _=>?_⟩
  rw[YT (by omega),YT (by omega),k3.get c (by omega) (by simp),Kq.get c hc (by simp)]
 ·have hcs2:=hcs'.symm.trans (hset w)
  have hb':VT ((H3.put H.nx (rH 26 cs')).put H1.nx (rH 26 cs')) w 59 2 (RK (E6 x.l)) H2.nx:=by
   rcases hbuf with h|⟨hne,b,r,e,rc,hlo⟩
   ·exact .inl h
   ·exact .inr ⟨hne,b,r,e,rc.moved (by rw[YT (by omega),YT (by omega)]) rfl (Zl _),hlo⟩
  refine⟨w,hcs2,⟨(kf hb').1,λc o n q e hS=>?_⟩,hd,?_,λi=>tv x.l i⟩
  ·rcases hb' with⟨_,rfl⟩|⟨_,b,r,rfl,_,hlo⟩
   ·cases e
   ·injection e with e1;have hS:c<H.nx:=hS;omega
  ·have:=jl x.l
   show(E6 x.l).length<=100;omega
def E2(H:Heap)(lo:Nat)(w:AV)(L:List Vz):Prop:= ∃bb ls,VT H w 26 35 ls lo∧(∀c o n q,w=.slice c o n q->c=bb)∧ls.length=L.length∧ ∀q,q<L.length->xW H (λc=>c<lo∨c=bb) (ls.getD q []) (L.getD q default)
theorem E2.push{H2:Heap}{lo:Nat}{w:AV}{l:List Vz}{x:Vz}(s:E2 H lo w l)(k:Zq H H2 [])(hlo:lo<=H.nx)(NG:H2.ro<=H2.nx)(hr:xW H2 (λc=>c<H.nx) cs x)(hl:l.length<=9000):
  ∃w' H3,Vb 26 35 80 w (.slice H2.nx 0 1 none) (H2.new (rG 26 35 cs 0 false true true))=.val w' H3∧E2 H3 lo w' (l++[x])∧Below lo H2 H3:=by
 obtain⟨bb,ls,rb,hbb,e,hv⟩:=s
 have knx:=k.nx
 have rb2:VT H2 w 26 35 ls lo:=rb.below (λc h1 h2=>k.get c h2 (by simp)) k.ro k.nx
 obtain⟨w',H3,ea,rb3,bl,only,fresh⟩:=IR rb2 (bytes:=80) (by omega) (by omega) (by omega) NG (by omega) (x:=cs) hr.c.len
 rw[UN] at ea
 refine⟨w',H3,ea,?_,bl⟩
 obtain⟨b3,hb3,hn3⟩: ∃b3,(∀c o n q,w'=.slice c o n q->c=b3)∧H2.nx<=b3:=by
  rcases rb3 with⟨h1,_⟩|⟨_,c,r,rfl,_⟩
  ·simp at h1
  ·exact⟨c,λ_ _ _ _ e=>(by cases e;rfl),fresh _ _ _ _ rfl⟩
 have hbbH: ∀c o n q,w=.slice c o n q->c<H.nx:=by
  rcases rb with⟨_,rfl⟩|⟨_,c',r,rfl,hr',_⟩
  ·intro _ _ _ _ e;cases e
  ·intro _ _ _ _ e;cases e;exact hr'.low
 refine⟨b3,ls++[cs],rb3,hb3,by simp[e],λq hq=>?_⟩
 rw[N1,N1,e]
 rw[Zf,Zh,Zv] at hq
 by_cases h1:q<l.length
 ·rw[if_pos h1,if_pos h1]
  refine(hv q h1).move (λc hc hS=>?_) (Zn knx bl.nx) (λc hc hS=>?_)
  ·rw[only c (by omega) (λb' o' l' q' e' hcb=>hS (.inr (by rw[hcb];exact hbb _ _ _ _ e'))),k.get c hc (by simp)]
  ·rcases hS with h2|h2
   ·exact .inl h2
   ·omega
 ·have:q=l.length:=by omega
  subst this
  rw[if_neg h1,if_neg h1,if_pos rfl,if_pos rfl]
  refine hr.move (λc hc hS=>?_) bl.nx (λc hc hS=>?_)
  ·exact only c hc (λb' o' l' q' e' hcb=>hS (by rw[hcb];exact hbbH _ _ _ _ e'))
  ·rcases hS with h2|h2
   ·show c<H.nx;omega
   ·omega
theorem E2.l{lo:Nat}{w:AV}{l:List Vz}(s:E2 H lo w l):Te H w l:=by
 obtain⟨bb,ls,rb,_,e,hv⟩:=s
 exact⟨ls,Bw rb,e,λi hi=>(hv i hi).c⟩
def Ao(H:Heap)(v:AV)(L:List Vz):Prop:= ∃Ls,Sz H 35 v Ls∧Ls.length=L.length∧ ∀i,i<L.length->Ie H (Ls.getD i []) (L.getD i default)
def HD(L:List Vz):List Vz:=(L.take 130).map yG
theorem oF(L:List Vz):(HD L).length=min 130 L.length:=by unfold HD;rw[Zi,ZP]
theorem aU{x:List AV}(hx:x.length=35)(e:Nat)(G:Heap):Wa e 35 1 zD [(0,35,.agg x)] G=.val (.slice G.nx 0 1 none) (G.new (rG e 35 x 0 false true true)):=Oh (sz:=35) rfl hx (by decide) G
structure FSI(Hs:Heap)(v:AV)(L:List Vz)(m:Nat)(tm:TM)(H:Heap):Prop where
 k:Zq Hs H []
 t0:Ys tm=v
 i: ∃i w,Xf tm=nI .i64 i∧i+m=min 130 L.length∧XK tm=w∧E2 H Hs.nx w ((L.take i).map yG)
def FSQ(Hs:Heap)(L:List Vz)(o:Out)(tm:TM)(H:Heap):Prop:=o=.exit 0∧Zq Hs H []∧ ∃w,XK tm=w∧E2 H Hs.nx w (HD L)
theorem dV(E:Env Zp fs fuel){Hs:Heap}{v:AV}{L:List Vz}(hro:Hs.ro<=Hs.nx)(hV:Ao Hs v L)(y f dd r)(X0:X)(m:Nat)(tm:TM)(H:Heap)(hI:FSI Hs v L m tm H):
  ∃o tm' H',Ay ⟨ZJ (LK Zp fs fuel k) fs fuel (n+1),y,f,dd,r⟩ tm H X0=.ok o tm' H' X0∧((o=.normal∧ ∃k,k<m∧FSI Hs v L k tm' H')∨(o≠.normal∧FSQ Hs L o tm' H')):=by
 obtain⟨k0,t0,i,w,t4,him,t3,hw⟩:=hI
 have t0':=t0;have O9:=t3
 simp only[Pn,Qg,OI] at t0 t3 t4
 obtain⟨Ls,sl,hll,hc⟩:=hV
 have ln:=sl.len
 rw[hll] at ln
 cases m with
 |zero=>
  have hat:HD L=(L.take i).map yG:=by
   unfold HD
   congr 1
   by_cases h:130<=L.length
   ·rw[show i=130 by omega]
   ·rw[ZB (by omega),ZB (by omega)]
  rw[<-hat] at hw
  by_cases h1:i<L.length
  ·have d1:decide (i<L.length)=true:=Ze h1
   have d2:decide (i<130)=false:=Zb (by omega)
   simp only[t0,t4,d1,d2,ln,ZH,Ay,ZC,ZY,Z4]
   refine⟨_,_,_,rfl,?_⟩
   exact .inr ⟨by simp,rfl,k0,w,O9,hw⟩
  ·have d1:decide (i<L.length)=false:=Zb h1
   simp only[t0,t4,d1,ln,ZH,Ay,ZC,ZY,Z4]
   refine⟨_,_,_,rfl,?_⟩
   exact .inr ⟨by simp,rfl,k0,w,O9,hw⟩
 |succ m=>
  have hi:i<L.length:=by omega
  have d1:decide (i<L.length)=true:=Ze hi
  have d2:decide (i<130)=true:=Ze (by omega)
  obtain⟨bb,o,r,eI,hbb,gR,Ge,_⟩:=(sl.keep0 k0).at_ (i:=i) (by omega)
  have hci:=(hc i hi).keep k0
  have zG:H.ro<=H.nx:=by rw[k0.ro];exact Zn hro k0.nx
  have htk:(L.take (i+1)).map yG=(L.take i).map yG++[yG (L.getD i default)]:=by
   rw[UH,Za,Zg hi,Xe];rfl
  generalize L.getD i default=x at*
  generalize Ls.getD i []=cs at*
  obtain⟨cs',H1,e1,k1,ho⟩:=qC E (k:=k) (n:=n) zG hci
  have bs:=aU (x:=cs') ho.c.len 26
  obtain⟨w',H2,ea,w2,k2⟩:=hw.push k1 k0.nx (by rw[k1.ro];exact Zn zG k1.nx) ho (by rw[Zi,ZP];omega)
  have ad:=λG=>YZ (a:=i) (b:=1) (by omega) G
  simp only[t0,t3,t4,d1,d2,ln,eI,gR,Ge,e1,bs,ea,ad,Y8,YS,VO,ZE,Yb,ZH,Ay,ZC,ZY,Z4]
  refine⟨_,_,_,rfl,.inl ⟨rfl,m,by omega,Below.keep (k0.trans' k1) k2 (Zl _),t0',i+1,w',rfl,by omega,rfl,?_⟩⟩
  rw[htk];exact w2
theorem jm(E:Env Zp fs fuel){v:AV}{L:List Vz}(hro:H.ro<=H.nx)(hV:Ao H v L):
  ∃w H',ZJ (LK Zp fs fuel k) fs fuel (n+2) 5 [v] H=.ret w H'∧Zq H H' []∧E2 H' H.nx w (HD L):=by
 rw[ZL (ZF E.n5 (.inr rfl) _ _) E.f5]
 simp only[c5,ZC,Z4]
 generalize hLo:XQ (Ay _) fuel _ _ _=Lp
 obtain⟨o,Tx,H1,rfl,_,rfl,k1,w,t3,hw⟩:=YA (P:=λT=>FSI H v L (min 130 L.length) T H) (Q:=FSQ H L)
  (λT hi=>YK (FSI H v L) (FSQ H L) (λm tm H' h=>dV E (n:=n) hro hV _ _ _ _ _ m tm H' h) fuel (min 130 L.length) T H (by have:=E.big;omega) hi) hLo
  (by exact⟨Zq.refl _ _,rfl,0,.nils,rfl,by omega,rfl,0,[],.inl ⟨rfl,rfl⟩,λ_ _ _ _ e=>(by cases e),rfl,λq hq=>(by cases hq)⟩)
 simp only[Qg] at t3
 simp only[t3,ZC,ZY,Zz,Z4]
 exact⟨_,_,rfl,k1,hw⟩
theorem dE{md:List UInt8}{Y:List AV}{z:Int}{v:AV}(hl:Y.length=32)(hv:v.cells=[v])(G:Heap):Qd Aq [(0,1,.str md),(1,32,.agg Y),(33,1,.int .i64 z),(34,1,v)] G=.val (.agg (.str md::(Y++[.int .i64 z,v]))) G:=by
 unfold Aq
 rw[PG,Rr (NY md) (by simp),AK hl (by decide) (by simp),CX _ _ _ (by rw[hl];simp),hl]
 rw[show((.str []::[nI .u8 0,nI .u8 0,nI .u8 0,nI .u8 0,nI .u8 0,nI .u8 0,nI .u8 0,nI .u8 0,nI .u8 0,nI .u8 0,nI .u8 0,nI .u8 0,nI .u8 0,nI .u8 0,nI .u8 0,nI .u8 0,nI .u8 0,nI .u8 0,nI .u8 0,nI .u8 0,nI .u8 0,nI .u8 0,nI .u8 0,nI .u8 0,nI .u8 0,nI .u8 0,nI .u8 0,nI .u8 0,nI .u8 0,nI .u8 0,nI .u8 0,nI .u8 0,nI .i64 0,.nils]:List AV).set 0 (.str md)).take 1=[.str md] from rfl,show((.str []::[nI .u8 0,nI .u8 0,nI .u8 0,nI .u8 0,nI .u8 0,nI .u8 0,nI .u8 0,nI .u8 0,nI .u8 0,nI .u8 0,nI .u8 0,nI .u8 0,nI .u8 0,nI .u8 0,nI .u8 0,nI .u8 0,nI .u8 0,nI .u8 0,nI .u8 0,nI .u8 0,nI .u8 0,nI .u8 0,nI .u8 0,nI .u8 0,nI .u8 0,nI .u8 0,nI .u8 0,nI .u8 0,nI .u8 0,nI .u8 0,nI .u8 0,nI .u8 0,nI .i64 0,.nils]:List AV).set 0 (.str md)).drop (1+32)=[nI .i64 0,.nils] from rfl]
 rw[Rr (Fv .i64 z) (by simp[hl]),Rr hv (by simp[hl])]
 show OR.val (.agg _) G=_
 congr 2
 show((.str md::(Y++[nI .i64 0,.nils]):List AV).set 33 (.int .i64 z)).set 34 v=_
 rw[XU,XU,Tg _ _ (by omega),Tg _ _ (by omega),hl];rfl
theorem xj(E:Env Zp fs fuel){x:Vz}(hro:H.ro<=H.nx)(hc:OA H cs x):
  ∃H',ZJ (LK Zp fs fuel k) fs fuel (n+1) 8 [.agg cs] H=.ret (.agg cs) H'∧Zq H H' []:=by
 rw[ZL (ZF E.n8 (.inr rfl) _ _) E.f8]
 have ln:=hc.len
 obtain⟨v,hcs,hN,hd,_⟩:=hc
 have tI:(x.d.map XM).length=32:=by rw[Zi];exact hd
 have hvc:v.cells=[v]:=by rcases hN.slv with rfl|⟨b,o,m,c,rfl⟩<;>rfl
 have o0: ∀G,ld1 (some (rH 26 cs)) 0 G=.val (.str x.md) G:=λG=>by rw[Z2 (by omega),hcs];rfl
 have JB: ∀G,ld1 (some (rH 26 cs)) 33 G=.val (.int .i64 x.z) G:=λG=>by
  rw[Z2 (by omega),hcs,WT,Za,Zu (by omega),tI];rfl
 have Jj: ∀G,ld1 (some (rH 26 cs)) 34 G=.val v G:=λG=>by
  rw[Z2 (by omega),hcs,WT,Za,Zu (by omega),tI];rfl
 have o32: ∀G,ldN 32 (some (rH 26 cs)) 1 G=.val (.agg (x.d.map XM)) G:=λG=>by
  rw[X8 (by omega),hcs,WS,Z6,WV (by omega),ZB (by omega)]
 have bd:=dE (md:=x.md) (z:=x.z) tI hvc
 rw[<-hcs] at bd
 obtain⟨H1,hH1⟩:=XZ (H.new (rH 26 cs))
 have bx:=YU (l:=cs) (by omega) 26 H
 rw[hH1] at bx
 have k1:Zq H H1 []:=by rw[<-hH1];exact Zq.new H _ _
 have U2:H1.nx=H.nx+1:=by rw[<-hH1];rfl
 have g1:H1.t.get H.nx=some (rH 26 cs):=by rw[<-hH1,Zx rfl]
 have g2: ∀ob,(H1.new ob).t.get H.nx=some (rH 26 cs):=λob=>by rw[YV (by omega)];exact g1
 have gn: ∀ob,(H1.new ob).t.get H1.nx=some ob:=λob=>Zx rfl ob
 have st:=WQ (n:=35) (b:=H1.nx) (l:=Aq) (vs:=cs) (H:=H1.new (rH 42 Aq)) rfl ln (by decide) (by show H1.ro<=_;rw[k1.ro];omega) 42 1 false true
 have rv:=λk=>Pr (n:=35) (e:=42) (sz:=1) (l:=cs) (fz:=0) (sm:=false) (own:=true) (ex:=true) ln k
 simp only[yf,Gs,bx,g2,gn,o0,JB,Jj,o32,bd,st,rv,Tt,SU,ZE,Yb,c8,ZC,ZY,Zz,Zw,Z4]
 refine⟨_,rfl,?_⟩
 exact k1.then_new _
structure OSI(Hs:Heap)(v:AV)(N:Nat)(ls:List (List AV))(m:Nat)(tm:TM)(H:Heap):Prop where
 k:Zq Hs H []
 t0:Ys tm=v
 i: ∃i w,Xf tm=nI .i64 i∧i+m=N∧XK tm=w∧VT H w 42 35 (ls.take i) Hs.nx
def OSQ(Hs:Heap)(N:Nat)(ls:List (List AV))(o:Out)(tm:TM)(H:Heap):Prop:=o=.exit 0∧Zq Hs H []∧ ∃w,XK tm=w∧VT H w 42 35 (ls.take N) Hs.nx
theorem eJ(E:Env Zp fs fuel){Hs:Heap}{v:AV}{ls:List (List AV)}(hdl: ∀i,i<ls.length-> ∃x,OA Hs (ls.getD i []) x)(hro:Hs.ro<=Hs.nx)(hl9:ls.length<=1000)(sl:Sz Hs 35 v ls)(y f dd r)(X0:X)(m:Nat)(tm:TM)(H:Heap)(hI:OSI Hs v ls.length ls m tm H):
  ∃o tm' H',wl ⟨ZJ (LK Zp fs fuel k) fs fuel (n+1),y,f,dd,r⟩ tm H X0=.ok o tm' H' X0∧((o=.normal∧ ∃k,k<m∧OSI Hs v ls.length ls k tm' H')∨(o≠.normal∧OSQ Hs ls.length ls o tm' H')):=by
 obtain⟨k0,t0,i,w,t4,him,t3,hw⟩:=hI
 have t0':=t0;have O9:=t3
 simp only[Pn,Qg,OI] at t0 t3 t4
 have ln:=sl.len
 cases m with
 |zero=>
  obtain rfl:i=ls.length:=by omega
  have d1:decide (ls.length<ls.length)=false:=Zb (VA _)
  simp only[t0,t4,d1,ln,ZH,wl,ZC,ZY,Z4]
  refine⟨_,_,_,rfl,?_⟩
  exact .inr ⟨by simp,rfl,k0,w,O9,hw⟩
 |succ m=>
  have hi:i<ls.length:=by omega
  have d1:decide (i<ls.length)=true:=Ze hi
  obtain⟨bb,o,r,eI,hbb,gR,Ge,_⟩:=(sl.keep0 k0).at_ (i:=i) hi
  have hxl:(ls.getD i []).length=35:=Sz.each sl _ (by rw[Za,Zg hi];exact Y0 _)
  have zG:H.ro<=H.nx:=by rw[k0.ro];exact Zn hro k0.nx
  have htk:ls.take (i+1)=ls.take i++[ls.getD i []]:=TU hi []
  obtain⟨H1,e1,k1⟩:=xj E (k:=k) (n:=n) zG ((hdl i hi).choose_spec.keep k0)
  have bs:=aU (x:=ls.getD i []) hxl 42
  have rb2:VT H1 w 42 35 (ls.take i) Hs.nx:=hw.below (λc h1 h2=>k1.get c h2 (by simp)) k1.ro k1.nx
  obtain⟨lw,sw,cw,bw⟩:=xC rb2
  obtain⟨w',H2,ea,w2,k2,_,_⟩:=pA (bytes:=80) rb2 (by decide) (by decide) (by rw[ZP];have:=hl9;omega) (by rw[k1.ro];exact Zn zG k1.nx) (Zn k0.nx k1.nx) (x:=ls.getD i []) hxl
  have ad:=λG=>YZ (a:=i) (b:=1) (by omega) G
  generalize ls.getD i []=cs at*
  simp only[t0,t3,t4,d1,ln,eI,gR,Ge,ea,ad,Y8,YS,VO,ZE,Yb,ZH,e1,bs,wl,ZC,ZY,Z4]
  refine⟨_,_,_,rfl,.inl ⟨rfl,m,by omega,(k0.trans' k1).trans k2 (λc hc hlt=>by have:=(bw c hc).1;omega),t0',i+1,w',rfl,by omega,rfl,?_⟩⟩
  rw[htk];exact w2
theorem ZaT(E:Env Zp fs fuel){v:AV}{ls:List (List AV)}(hdl: ∀i,i<ls.length-> ∃x,OA H (ls.getD i []) x)(hro:H.ro<=H.nx)(hl9:ls.length<=1000)(sl:Sz H 35 v ls):
  ∃w H',ZJ (LK Zp fs fuel k) fs fuel (n+2) 9 [v] H=.ret w H'∧Zq H H' []∧VT H' w 42 35 (ls.take ls.length) H.nx:=by
 rw[ZL (ZF E.n9 (.inr rfl) _ _) E.f9]
 simp only[c9,ZC,Z4]
 generalize hLo:XQ (wl _) fuel _ _ _=Lp
 obtain⟨o,Tx,H1,rfl,_,rfl,k1,w,t3,hw⟩:=YA (P:=λT=>OSI H v ls.length ls ls.length T H) (Q:=OSQ H ls.length ls)
  (λT hi=>YK (OSI H v ls.length ls) (OSQ H ls.length ls) (λm tm H' h=>eJ E (n:=n) hdl hro hl9 sl _ _ _ _ _ m tm H' h) fuel ls.length T H (by have:=E.big;omega) hi) hLo
  (by exact⟨Zq.refl _ _,rfl,0,.nils,rfl,by omega,rfl,.inl ⟨rfl,rfl⟩⟩)
 simp only[Qg] at t3
 simp only[t3,ZC,ZY,Zz,Z4]
 exact⟨_,_,rfl,k1,hw⟩
theorem Zdy{x:List AV}(hx:x.length=32)(G:Heap):Wa 22 32 1 zB [(0,32,.agg x)] G=.val (.slice G.nx 0 1 none) (G.new (rG 22 32 x 0 false true true)):=Oh (sz:=32) rfl hx (by decide) G
structure DFI(Hs:Heap)(v:AV)(N:Nat)(ls:List (List AV))(m:Nat)(tm:TM)(H:Heap):Prop where
 k:Zq Hs H []
 t0:Ys tm=v
 i: ∃i w,Xf tm=nI .i64 i∧i+m=N∧XK tm=w∧VT H w 22 32 (ls.take i) Hs.nx
def DFQ(Hs:Heap)(N:Nat)(ls:List (List AV))(o:Out)(tm:TM)(H:Heap):Prop:=o=.exit 0∧Zq Hs H []∧ ∃w,XK tm=w∧VT H w 22 32 (ls.take N) Hs.nx
theorem eA(E:Env Zp fs fuel){Hs:Heap}{v:AV}{ls:List (List AV)}(hdl:True)(hro:Hs.ro<=Hs.nx)(sl:Sz Hs 32 v ls)(y f dd r)(X0:X)(m:Nat)(tm:TM)(H:Heap)(hI:DFI Hs v (min 130 ls.length) ls m tm H):
  ∃o tm' H',Fm ⟨ZJ (LK Zp fs fuel k) fs fuel (n+1),y,f,dd,r⟩ tm H X0=.ok o tm' H' X0∧((o=.normal∧ ∃k,k<m∧DFI Hs v (min 130 ls.length) ls k tm' H')∨(o≠.normal∧DFQ Hs (min 130 ls.length) ls o tm' H')):=by
 obtain⟨k0,t0,i,w,t4,him,t3,hw⟩:=hI
 have t0':=t0;have O9:=t3
 simp only[Pn,Qg,OI] at t0 t3 t4
 have ln:=sl.len
 cases m with
 |zero=>
  obtain rfl:i=(min 130 ls.length):=by omega
  by_cases h1:min 130 ls.length<ls.length
  ·have d1:decide (min 130 ls.length<ls.length)=true:=Ze h1
   have d2:decide (min 130 ls.length<130)=false:=Zb (by omega)
   simp only[t0,t4,d1,d2,ln,ZH,Fm,ZC,ZY,Z4]
   refine⟨_,_,_,rfl,?_⟩
   exact .inr ⟨by simp,rfl,k0,w,O9,hw⟩
  ·have d1:decide (min 130 ls.length<ls.length)=false:=Zb h1
   simp only[t0,t4,d1,ln,ZH,Fm,ZC,ZY,Z4]
   refine⟨_,_,_,rfl,?_⟩
   exact .inr ⟨by simp,rfl,k0,w,O9,hw⟩
 |succ m=>
  have hi:i<ls.length:=by omega
  have d1:decide (i<ls.length)=true:=Ze hi
  have d2:decide (i<130)=true:=Ze (by omega)
  obtain⟨bb,o,r,eI,hbb,gR,Ge,_⟩:=(sl.keep0 k0).at_ (i:=i) hi
  have hxl:(ls.getD i []).length=32:=Sz.each sl _ (by rw[Za,Zg hi];exact Y0 _)
  have zG:H.ro<=H.nx:=by rw[k0.ro];exact Zn hro k0.nx
  have htk:ls.take (i+1)=ls.take i++[ls.getD i []]:=TU hi []
  obtain⟨H1,k1,hHH⟩: ∃G,Zq H G []∧G=H:=⟨H,Zq.refl _ _,rfl⟩
  subst hHH
  have bs:=Zdy (x:=ls.getD i []) hxl
  have rb2:VT H1 w 22 32 (ls.take i) Hs.nx:=hw.below (λc h1 h2=>k1.get c h2 (by simp)) k1.ro k1.nx
  obtain⟨lw,sw,cw,bw⟩:=xC rb2
  obtain⟨w',H2,ea,w2,k2,_,_⟩:=pA (bytes:=32) rb2 (by decide) (by decide) (by rw[ZP];omega) (by rw[k1.ro];exact Zn zG k1.nx) (Zn k0.nx k1.nx) (x:=ls.getD i []) hxl
  have ad:=λG=>YZ (a:=i) (b:=1) (by omega) G
  generalize ls.getD i []=cs at*
  simp only[t0,t3,t4,d1,d2,ln,eI,gR,Ge,ea,ad,Y8,YS,VO,ZE,Yb,ZH,bs,Fm,ZC,ZY,Z4]
  refine⟨_,_,_,rfl,.inl ⟨rfl,m,by omega,(k0.trans' k1).trans k2 (λc hc hlt=>by have:=(bw c hc).1;omega),t0',i+1,w',rfl,by omega,rfl,?_⟩⟩
  rw[htk];exact w2
theorem ZaP(E:Env Zp fs fuel){v:AV}{ls:List (List AV)}(hdl:True)(hro:H.ro<=H.nx)(sl:Sz H 32 v ls):
  ∃w H',ZJ (LK Zp fs fuel k) fs fuel (n+2) 14 [v] H=.ret w H'∧Zq H H' []∧VT H' w 22 32 (ls.take (min 130 ls.length)) H.nx:=by
 rw[ZL (ZF E.n14 (.inr rfl) _ _) E.f14]
 simp only[c14,ZC,Z4]
 generalize hLo:XQ (Fm _) fuel _ _ _=Lp
 obtain⟨o,Tx,H1,rfl,_,rfl,k1,w,t3,hw⟩:=YA (P:=λT=>DFI H v (min 130 ls.length) ls (min 130 ls.length) T H) (Q:=DFQ H (min 130 ls.length) ls)
  (λT hi=>YK (DFI H v (min 130 ls.length) ls) (DFQ H (min 130 ls.length) ls) (λm tm H' h=>eA E (n:=n) hdl hro sl _ _ _ _ _ m tm H' h) fuel (min 130 ls.length) T H (by have:=E.big;omega) hi) hLo
  (by exact⟨Zq.refl _ _,rfl,0,.nils,rfl,by omega,rfl,.inl ⟨rfl,rfl⟩⟩)
 simp only[Qg] at t3
 simp only[t3,ZC,ZY,Zz,Z4]
 exact⟨_,_,rfl,k1,hw⟩
def ZaS(H G:Heap):Prop:=H.nx<=G.nx∧G.ro=H.ro∧ ∀c,c<100->G.t.get c=H.t.get c
theorem Zq.kept{G:Heap}(k:Zq H G [])(h:100<=H.nx):ZaS H G:=⟨k.nx,k.ro,λc hc=>k.get c (by omega) (by simp)⟩
structure ZhY(H:Heap)(X:List UInt8)(a:AV):Prop where
 str: ∀n r,Ry a ⟨n,H.t,r⟩=.val (.str X) ⟨n,H.t,r⟩
 low: ∀n,H.nx<=n->Xm n a=true
 form:a=.nils∨ ∃b o m c,a=.slice b o m c
theorem OB.r{ok:Bool}{T:List UInt8}{r:AV}(h:OB H ok T r): ∃a,r=.tup [a,nI .i64 (cond ok 0 1)]∧ ∀G,Zq H G []->ZhY G (cond ok T []) a:=by
 rcases h with⟨rfl,rfl⟩|⟨rfl,b,rfl,hb,g⟩
 ·exact⟨.nils,rfl,λG _=>⟨λ_ _=>rfl,λ_ _=>rfl,.inl rfl⟩⟩
 ·refine⟨_,rfl,λG k=>⟨λn r=>?_,λn hn=>Xk (by have:=k.nx;omega) _ _ _,.inr ⟨_,_,_,_,rfl⟩⟩⟩
  have:(⟨n,G.t,r⟩:Heap).t.get b=some (rG 5 1 (T.map XM) 0 true true false):=by show G.t.get b=_;rw[k.get b hb (by simp)];exact g
  exact aj this
theorem E2.put{lo:Nat}{o:Obj}{w:AV}{l:List Vz}(hb:b<lo)(s:E2 H lo w l):E2 (H.put b o) lo w l:=by
 obtain⟨bb,ls,rb,hbb,e,hv⟩:=s
 refine⟨bb,ls,rb.below (λc h1 h2=>by rw[YT (by omega)]) rfl (by exact Zl _),hbb,e,λq hq=>?_⟩
 refine(hv q hq).move (S':=λc=>c<lo∨c=bb) (λc hc hS=>?_) (by exact Zl _) λc _ h=>h
 rw[YT λe=>hS (.inl (by omega))]
structure LwK(tm:TM)(w p3 a8 eM a12 eN a16 eO:AV)(c1 c2 c3:Nat):Prop where
 t3:XK tm=p3
 t4:Xf tm=w
 t8:Wc tm=a8
 t9:Wv tm=nI .i64 c1
 t10:Xg tm=eM
 t11:Xc tm=nI .i64 c1
 t12:Xq tm=a12
 t13:XH tm=nI .i64 c2
 t14:Wk tm=eN
 t15:Wy tm=nI .i64 c2
 t16:Wu tm=a16
 t17:WJ tm=nI .i64 c3
 t18:Wx tm=eO
 t19:W5 tm=nI .i64 c3
structure LWI(Hs:Heap)(w p3 a8 eM a12 eN a16 eO:AV)(c1 c2 c3 N:Nat)(m:Nat)(tm:TM)(H:Heap):Prop where
 k:Zq Hs H []
 f:LwK tm w p3 a8 eM a12 eN a16 eO c1 c2 c3
 i: ∃i,W1 tm=nI .i64 i∧i+m=N
def LWQ(Hs:Heap)(w p3 a8 eM a12 eN a16 eO:AV)(c1 c2 c3:Nat)(o:Out)(tm:TM)(H:Heap):Prop:=o=.exit 0∧Zq Hs H []∧LwK tm w p3 a8 eM a12 eN a16 eO c1 c2 c3
theorem Zbk(a b:Bool)(H:Heap):Fd uJ true (.bool a) (.bool b) H=.val (.bool (!decide (a=b))) H:=by cases a<;>cases b<;>rfl
theorem cV(E:Env Zp fs fuel)(hk:2<=k){Hs:Heap}{w p3 a8 eM a12 eN a16 eO:AV}{c1 c2 c3:Nat}{L:List Vz}(hro:Hs.ro<=Hs.nx)(gU: ∀G,Zq Hs G []->Vy G)(hV:Te Hs w L)(hL:L.length<=1000)(y f dd r)(X0:X)(m:Nat)(tm:TM)(H:Heap)(hI:LWI Hs w p3 a8 eM a12 eN a16 eO c1 c2 c3 L.length m tm H):
  ∃o tm' H',wj ⟨ZJ (LK Zp fs fuel k) fs fuel (n+6),y,f,dd,r⟩ tm H X0=.ok o tm' H' X0∧((o=.normal∧ ∃k,k<m∧LWI Hs w p3 a8 eM a12 eN a16 eO c1 c2 c3 L.length k tm' H')∨(o≠.normal∧LWQ Hs w p3 a8 eM a12 eN a16 eO c1 c2 c3 o tm' H')):=by
 obtain⟨k0,⟨t3,t4,t8,t9,t10,t11,t12,t13,t14,t15,t16,t17,t18,t19⟩,i,t20,him⟩:=hI
 have ez:=t4
 simp only[OI,ZeH] at t4 t20
 have ln:=hV.len
 cases m with
 |zero=>
  have d1:decide (i<L.length)=false:=Zb (by omega)
  simp(maxSteps:=4000000) (disch:=first|assumption|omega|(simp -implicitDefEqProofs only[ZQ,ZR]<;>first|assumption|omega)|decide) only[t4,t20,d1,ln,ZH,wj,ZC,ZY,Zz,Zw,Zr,Zt,ZA,Nat.reducePow,Nat.reduceDiv,Nat.reduceMod,Nat.reduceEqDiff,reduceCtorEq,Z4,Rn,JH]
  refine⟨_,_,_,rfl,?_⟩
  exact .inr ⟨by simp,rfl,k0,⟨t3,ez,t8,t9,t10,t11,t12,t13,t14,t15,t16,t17,t18,t19⟩⟩
 |succ m=>
  have hi:i<L.length:=by omega
  have d1:decide (i<L.length)=true:=Ze hi
  obtain⟨ls,sl,hll,hc⟩:=hV.keep k0
  obtain⟨bb,o,r,eI,hbb,gR,Ge,_⟩:=sl.at_ (i:=i) (by omega)
  have hc:=hc i hi
  have lV:=hV.slv.2 H.nx k0.nx
  have sV:=S8 hV.slv.1
  generalize ls.getD i []=cs at*
  generalize L.getD i default=x at*
  have zG:H.ro<=H.nx:=by rw[k0.ro];exact Zn hro k0.nx
  have lc:=hc.low (n:=H.nx) (Zl _)
  have sc:=λn T=>VE hc.same n T
  obtain⟨H1,e1,k1⟩:=(show ∃H',ZJ (LK Zp fs fuel k) fs fuel (n+6) 15 [.agg cs] H=.ret (.bool (Ku x.md x.z x.l)) H'∧Zq H H' [] by
   obtain⟨v,rfl,hN,hd,hln,hS⟩:=hc
   exact F0 E hk hd zG (λG hG=>gU G (k0.trans' hG)) hN hln hS)
  have Rm:H1.ro<=H1.nx:=by rw[k1.ro];exact Zn zG k1.nx
  obtain⟨H2,e2,k2⟩:=xj E (k:=k) (n:=n+5) Rm (hc.keep k1)
  have Qw:H2.ro<=H2.nx:=by rw[k2.ro];exact Zn Rm k2.nx
  obtain⟨H3,e3,k3⟩:=Ci E (k:=k) (n:=n) Qw ((hc.keep k1).keep k2)
  have gR1:H1.t.get bb=some (.row r):=by rw[k1.get _ hbb (by simp)];exact gR
  have gR2:H2.t.get bb=some (.row r):=by rw[k2.get _ (ZO hbb k1.nx) (by simp)];exact gR1
  have lb:=λo=>Yp (n:=H.nx) hbb o
  have lb1:=λo=>Yp (n:=H1.nx) (ZO hbb k1.nx) o
  have ii:=hc.low (n:=H1.nx) k1.nx
  have lc2:=hc.low (n:=H2.nx) (Zn k1.nx k2.nx)
  have n1:=k1.nx;have n2:=k2.nx;have n3:=k3.nx
  generalize Ku x.md x.z x.l=b at*
  have db:(!decide (b=b))=false:=by rw[Ze rfl];rfl
  have ad:=λG=>YZ (a:=i) (b:=1) (by omega) G
  simp(maxSteps:=4000000) (disch:=first|assumption|omega|(simp -implicitDefEqProofs only[ZQ,ZR]<;>first|assumption|omega)|decide) only[t4,t20,d1,ln,eI,gR,gR1,gR2,Ge,lV,sV,lc,ii,lc2,sc,lb,lb1,e1,e2,e3,db,ad,Zbk,ZH,Y8,wj,ZC,ZY,Zz,Zw,Zr,Zt,ZA,Nat.reducePow,Nat.reduceDiv,Nat.reduceMod,Nat.reduceEqDiff,reduceCtorEq,Z4,Rn,JH]
  refine⟨_,_,_,rfl,?_⟩
  exact .inl ⟨rfl,m,by omega,((k0.trans' k1).trans' k2).trans' k3,⟨t3,ez,t8,t9,t10,t11,t12,t13,t14,t15,t16,t17,t18,t19⟩,i+1,rfl,by omega⟩
theorem pw(E:Env Zp fs fuel){v:AV}{L:List Vz}(hro:H.ro<=H.nx)(hV:Te H v L)(hL:L.length<=1000):
  ∃w H',ZJ (LK Zp fs fuel k) fs fuel (n+2) 9 [v] H=.ret w H'∧Zq H H' []∧Te H' w L:=by
 obtain⟨ls,sl,e,hc⟩:=hV
 obtain⟨w,H',e1,k1,rb⟩:=ZaT E (k:=k) (n:=n) (λi hi=>⟨_,hc i (by omega)⟩) hro (by omega) (.inr sl)
 rw[UJ] at rb
 exact⟨w,H',e1,k1,ls,Bw rb,e,λi hi=>(hc i hi).keep k1⟩
theorem oA(E:Env Zp fs fuel){v:AV}{L:List (List UInt8)}(hro:H.ro<=H.nx)(hV:Na H v L)(hL:L.length<=130):
  ∃w H',ZJ (LK Zp fs fuel k) fs fuel (n+2) 14 [v] H=.ret w H'∧Zq H H' []∧Na H' w L:=by
 obtain⟨ls,sl,e,hc⟩:=hV
 obtain⟨w,H',e1,k1,rb⟩:=ZaP E (k:=k) (n:=n) trivial hro sl
 rw[ZB (by omega)] at rb
 exact⟨w,H',e1,k1,ls,.inr (Bw rb),e,hc⟩
theorem Zh6{w:AV}(hc:cs.length=35)(hw:w.cells=[w])(G:Heap):Qd zF [(0,35,.agg cs),(35,1,w)] G=.val (.agg (cs++[w])) G:=by
 rw[PG,AK hc (by decide) (by simp),CX _ _ _ (by rw[hc];simp),hc,VD,Xs]
 rw[show(.str []::[nI .u8 0,nI .u8 0,nI .u8 0,nI .u8 0,nI .u8 0,nI .u8 0,nI .u8 0,nI .u8 0,nI .u8 0,nI .u8 0,nI .u8 0,nI .u8 0,nI .u8 0,nI .u8 0,nI .u8 0,nI .u8 0,nI .u8 0,nI .u8 0,nI .u8 0,nI .u8 0,nI .u8 0,nI .u8 0,nI .u8 0,nI .u8 0,nI .u8 0,nI .u8 0,nI .u8 0,nI .u8 0,nI .u8 0,nI .u8 0,nI .u8 0,nI .u8 0,nI .i64 0,.nils,.nils]:List AV).drop (0+35)=[.nils] from rfl,Rr hw (by rw[Zf,hc];simp),Tg _ _ (by omega),hc];rfl
theorem bd1{w:AV}(hw:w.cells=[w])(G:Heap):Qd [.nils] [(0,1,w)] G=.val (.agg [w]) G:=by
 rw[PG,Rr hw (by simp)];rfl
theorem bd3{a b:List UInt8}{w:AV}(hw:w.cells=[w])(G:Heap):Qd [.str [],.str [],.nils] [(0,1,.str a),(1,1,.str b),(2,1,w)] G=.val (.agg [.str a,.str b,w]) G:=by
 rw[PG,Rr (NY a) (by simp),Rr (NY b) (by simp),Rr hw (by simp)];rfl
theorem zR{v:AV}(h:v=.nils∨ ∃b o m c,v=.slice b o m c):v.cells=[v]:=by rcases h with rfl|⟨b,o,m,c,rfl⟩<;>rfl
theorem tw(L:List Vz):(HD L).length<=1000:=by rw[oF];omega
theorem Ie.low{x:Vz}(h:Ie H cs x)(hn:H.nx<=n):U7 n cs=true:=by
 obtain⟨v,rfl,a,_⟩:=h
 rw[W4,Gh (y8 n x.d) (by rw[W4,W4,a.low hn];rfl)];rfl
theorem Ie.same{x:Vz}(h:Ie H cs x):XB cs cs=true:=by
 obtain⟨v,rfl,a,_⟩:=h
 unfold XB;rw[QR]
 exact Jq (KQ x.d) (by unfold XB;rw[Mr];unfold XB;rw[a.sam];unfold XB;rfl)
theorem cK(E:Env Zp fs fuel)(M:pY Zp)(hk:5<=k){dv gv:AV}{x:Vz}{L:List Vz}{A B:List UInt8}{D:List (List UInt8)}{xs:List (List AV)}(g:PC H)(gu:Vy H)(ZiM:100<=H.nx)(hro:H.ro<=H.nx)(hc:Ie H cs x)(hV:Ao H dv L)(hG:Cut H 32 gv xs)(hxl:xs.length=D.length)(hx: ∀i,i<D.length->xs.getD i []=(D.getD i []).map XM∧(D.getD i []).length=32)
  (hwk: ∀G,ZaS H G->Zp 17 [] G=some (.ret (.bool true) G)):
  ∃H',ZJ (LK Zp fs fuel k) fs fuel (n+23) 3 [.agg (cs++[dv,.str A,.str B,gv])] H=.ret (.bool true) H':=by
 rw[ZL (ZF E.n3 (.inr rfl) _ _) E.f3]
 have hf:=E.big
 have Ac:=hc.len
 obtain⟨cv,hcv⟩:=XZ (cs++[dv,.str A,.str B,gv])
 have h39:cv.length=39:=by rw[<-hcv,Zf,Ac];rfl
 have q7: ∀G,ldN 35 (some (rH 30 cv)) 0 G=.val (.agg cs) G:=λG=>by
  rw[X8 (by omega),Z6,<-hcv,<-Ac,List.take_left]
 have at_: ∀j,cv.getD (35+j) .unk=[dv,.str A,.str B,gv].getD j .unk:=λj=>by
  rw[<-hcv,Za,Zu (by omega),Ac,Vg,<-Za]
 have q35: ∀G,ld1 (some (rH 30 cv)) 35 G=.val dv G:=λG=>by rw[Z2 (by omega)];exact congrArg (λv=>OR.val v G) (at_ 0)
 have q36: ∀G,ld1 (some (rH 30 cv)) 36 G=.val (.str A) G:=λG=>by rw[Z2 (by omega)];exact congrArg (λv=>OR.val v G) (at_ 1)
 have q37: ∀G,ld1 (some (rH 30 cv)) 37 G=.val (.str B) G:=λG=>by rw[Z2 (by omega)];exact congrArg (λv=>OR.val v G) (at_ 2)
 have q38: ∀G,ld1 (some (rH 30 cv)) 38 G=.val gv G:=λG=>by rw[Z2 (by omega)];exact congrArg (λv=>OR.val v G) (at_ 3)
 rw[hcv]
 have bx:=YU (l:=cv) (by omega) 30 H
 obtain⟨H1,hH1⟩:=XZ (H.new (rH 30 cv))
 rw[hH1] at bx
 have k1:Zq H H1 []:=by rw[<-hH1];exact Zq.new _ _ _
 have U2:H1.nx=H.nx+1:=by rw[<-hH1];rfl
 have g1:H1.t.get H.nx=some (rH 30 cv):=by rw[<-hH1];exact Zx rfl _
 obtain⟨H2,hH2⟩:=XZ (H1.new (rH 26 Aq))
 have k12:Zq H1 H2 []:=by rw[<-hH2];exact Zq.new _ _ _
 have k2:=k1.trans' k12
 have nx2:H2.nx=H1.nx+1:=by rw[<-hH2];rfl
 have gC2:H2.t.get H1.nx=some (rH 26 Aq):=by rw[<-hH2];exact Zx rfl _
 have g2:H2.t.get H.nx=some (rH 30 cv):=by rw[k12.get _ (by omega) (by simp)];exact g1
 have Qw:H2.ro<=H2.nx:=by rw[k2.ro];exact Zn hro k2.nx
 obtain⟨cs1,H3,e3,k23,ho1⟩:=qC E (k:=k) (n:=n+21) Qw (hc.keep k2)
 have k3:=k2.trans' k23
 have n3:=k23.nx
 have g3:H3.t.get H.nx=some (rH 30 cv):=by rw[k23.get _ (by omega) (by simp)];exact g2
 have gC3:H3.t.get H1.nx=some (rH 26 Aq):=by rw[k23.get _ (by omega) (by simp)];exact gC2
 have GJ:H3.ro<=H3.nx:=by rw[k3.ro];exact Zn hro k3.nx
 obtain⟨Ls,hV1,hV2,hV3⟩:=hV
 have ldv: ∀n,H.nx<=n->Xm n dv=true:=λn hn=>hV1.low hn
 have sdv:=hV1.same
 obtain⟨w,H4,e4,k34,hw⟩:=jm E (k:=k) (n:=n+20) GJ (show Ao H3 dv L from⟨Ls,hV1.keep0 k3,hV2,λi hi=>(hV3 i hi).keep k3⟩)
 have k4:=k3.trans' k34
 have n4:=k34.nx
 have g4:H4.t.get H.nx=some (rH 30 cv):=by rw[k34.get _ (by omega) (by simp)];exact g3
 have gC4:H4.t.get H1.nx=some (rH 26 Aq):=by rw[k34.get _ (by omega) (by simp)];exact gC3
 have ZeW:=ho1.c.len
 have st:=WQ (n:=35) (b:=H1.nx) (l:=Aq) (vs:=cs1) (H:=H4) rfl ZeW (by decide) (by rw[k4.ro];omega) 26 1 false true
 obtain⟨H5,hH5⟩:=XZ (H4.put H1.nx (rH 26 cs1))
 rw[hH5] at st
 have k5:Zq H H5 []:=by rw[<-hH5];exact k4.then_put (by omega)
 have nx5:H5.nx=H4.nx:=by rw[<-hH5];rfl
 have g5:H5.t.get H.nx=some (rH 30 cv):=by rw[<-hH5,YT (by omega)];exact g4
 have gC5:H5.t.get H1.nx=some (rH 26 cs1):=by rw[<-hH5];exact Y1 ..
 have af:H5.ro<=H5.nx:=by rw[k5.ro];exact Zn hro k5.nx
 have hw5:E2 H5 H3.nx w (HD L):=by rw[<-hH5];exact hw.put (by omega)
 have hc5:OA H5 cs1 (yG x):=(ho1.move (S':=λc=>c<H2.nx) (λc hc hS=>by
  have hS: ¬c<H2.nx:=hS
  rw[<-hH5,YT (by omega),k34.get c hc (by simp)]) (by omega) λc _ h=>h).c
 have lC: ∀G,ldN 35 (some (rH 26 cs1)) 0 G=.val (.agg cs1) G:=λG=>by
  rw[X8 (by omega),Z6,ZB (by omega)]
 have tkA:=Dy A 300
 have tkB:=Dy B 300
 obtain⟨gw,hsl,hsz⟩:=hG.2 (min xs.length 130) (Nat.min_le_left _ _)
 have Zjk:=hsl H5 λc hc=>k5.get c hc (by simp)
 have lgv:=hG.1.len
 have hD:Na H gw (D.take 130):=by
  refine⟨_,hsz,by rw[ZP,ZP];omega,λi hi=>?_⟩
  rw[ZP] at hi
  have h1:(xs.take (min xs.length 130)).getD i []=xs.getD i []:=by rw[Za,Xo (by omega),<-Za]
  have h2:(D.take 130).getD i []=D.getD i []:=by rw[Za,Xo (by omega),<-Za]
  rw[h1,h2];exact hx i (by omega)
 have hDl:(D.take 130).length<=130:=by rw[ZP];omega
 obtain⟨D',hD'⟩:=XZ (D.take 130)
 rw[hD'] at hD hDl
 obtain⟨A',hA'⟩:=XZ (A.take 300)
 obtain⟨B',hB'⟩:=XZ (B.take 300)
 have hAl:A'.length<=9000:=by rw[<-hA',ZP];omega
 have hBl:B'.length<=9000:=by rw[<-hB',ZP];omega
 rw[hA'] at tkA
 rw[hB'] at tkB
 have hLl:=tw L
 obtain⟨V,hVV⟩:=XZ (HD L)
 rw[hVV] at hw hw5 hLl
 obtain⟨x',hx'⟩:=XZ (yG x)
 rw[hx'] at hc5 ho1
 have hwl:=hw5.l
 have bd36_:=Zh6 ZeW (zR hwl.slv.1)
 have bd1_:=bd1 (zR hwl.slv.1)
 have bd3_:=bd3 (a:=A') (b:=B') hsz.cells
 obtain⟨r1,H6,e6,k56,o1⟩:=gP E M (k:=k) (n:=n+10) hk (g.keep k5 (by simp)) (gu.keep0 k5) af hc5 hwl hLl
 obtain⟨a1,rfl,p1⟩:=o1.r
 have k6:=k5.trans' k56
 have ro6:H6.ro<=H6.nx:=by rw[k6.ro];exact Zn hro k6.nx
 have gC6:H6.t.get H1.nx=some (rH 26 cs1):=by rw[k56.get _ (by omega) (by simp)];exact gC5
 obtain⟨H7,e7,k67⟩:=xj E (k:=k) (n:=n+21) ro6 (hc5.keep k56)
 have k57:=k56.trans' k67
 have k7:=k5.trans' k57
 have ro7:H7.ro<=H7.nx:=by rw[k7.ro];exact Zn hro k7.nx
 obtain⟨w2,H8,e8,k78,hw8⟩:=pw E (k:=k) (n:=n+20) ro7 (hwl.keep k57) hLl
 have k58:=k57.trans' k78
 have k8:=k5.trans' k58
 have ah:H8.ro<=H8.nx:=by rw[k8.ro];exact Zn hro k8.nx
 obtain⟨r2,H9,e9,k89,o2⟩:=mZ E (k:=k) (n:=n) ah (hc5.keep k58) hw8 hLl
 obtain⟨a2,rfl,p2⟩:=o2.r
 have k59:=k58.trans' k89
 have k9:=k5.trans' k59
 have ro9:H9.ro<=H9.nx:=by rw[k9.ro];exact Zn hro k9.nx
 obtain⟨r3,H10,e10,yW,o3⟩:=gQ E M (k:=k) (n:=n+10) hk (g.keep k9 (by simp)) (gu.keep0 k9) ro9 (hwl.keep k59) hLl
 obtain⟨a3,rfl,p3⟩:=o3.r
 have Zb3:=k59.trans' yW
 have k10:=k5.trans' Zb3
 have ZjO:H10.ro<=H10.nx:=by rw[k10.ro];exact Zn hro k10.nx
 obtain⟨w3,H11,e11,qY,Zjo⟩:=pw E (k:=k) (n:=n+20) ZjO (hwl.keep Zb3) hLl
 have ZfC:=Zb3.trans' qY
 have k11:=k5.trans' ZfC
 have ZcH:H11.ro<=H11.nx:=by rw[k11.ro];exact Zn hro k11.nx
 obtain⟨r4,H12,e12,qZ,o4⟩:=m6 E (k:=k) (n:=n) ZcH Zjo hLl
 obtain⟨a4,rfl,p4⟩:=o4.r
 have ZfD:=ZfC.trans' qZ
 have k12_:=k5.trans' ZfD
 have ZcI:H12.ro<=H12.nx:=by rw[k12_.ro];exact Zn hro k12_.nx
 obtain⟨r5,H13,e13,vf,o5⟩:=gO E M (k:=k) (n:=n+10) hk (g.keep k12_ (by simp)) (gu.keep0 k12_) ZcI hAl hBl (hD.keep k12_) (by omega)
 obtain⟨a5,rfl,p5⟩:=o5.r
 have ZfE:=ZfD.trans' vf
 have k13:=k5.trans' ZfE
 have ZjP:H13.ro<=H13.nx:=by rw[k13.ro];exact Zn hro k13.nx
 obtain⟨w4,H14,e14,zf,ZiO⟩:=oA E (k:=k) (n:=n+20) ZjP (hD.keep k13) hDl
 have ZfF:=ZfE.trans' zf
 have k14:=k5.trans' ZfF
 have ZjQ:H14.ro<=H14.nx:=by rw[k14.ro];exact Zn hro k14.nx
 obtain⟨r6,H15,e15,zg,o6⟩:=mY E (k:=k) (n:=n+15) ZjQ hAl hBl ZiO (by omega)
 obtain⟨a6,rfl,p6⟩:=o6.r
 have Zb4:=ZfF.trans' zg
 have k15:=k5.trans' Zb4
 have ZjR:H15.ro<=H15.nx:=by rw[k15.ro];exact Zn hro k15.nx
 obtain⟨jn1,Zi2⟩: ∃c:Nat,cond (RG Qh [x']&&RG RW V) 0 1=c:=⟨_,rfl⟩
 obtain⟨jn2,Zi3⟩: ∃c:Nat,cond (RG U6 V) 0 1=c:=⟨_,rfl⟩
 obtain⟨jn3,Zi4⟩: ∃c:Nat,cond (okC A' B' D') 0 1=c:=⟨_,rfl⟩
 obtain⟨X1,hX1⟩: ∃c:List UInt8,cond (RG Qh [x']&&RG RW V) (MZ x' V) []=c:=⟨_,rfl⟩
 obtain⟨X2,hX2⟩: ∃c:List UInt8,cond (RG U6 V) (M0 V) []=c:=⟨_,rfl⟩
 obtain⟨X3,hX3⟩: ∃c:List UInt8,cond (okC A' B' D') (Oj A' B' D') []=c:=⟨_,rfl⟩
 rw[hX1] at p1 p2;rw[hX2] at p3 p4;rw[hX3] at p5 p6
 rw[Zi2] at e6 e9;rw[Zi3] at e10 e12;rw[Zi4] at e13 e15
 have e6:ZJ (LK Zp fs fuel k) fs fuel (n+22) 6 [.agg (cs1++[w])] H5=.ret (.tup [a1,nI .i64 jn1]) H6:=e6
 have e10:ZJ (LK Zp fs fuel k) fs fuel (n+22) 10 [.agg [w]] H9=.ret (.tup [a3,nI .i64 jn2]) H10:=e10
 have e13:ZJ (LK Zp fs fuel k) fs fuel (n+22) 12 [.agg [.str A',.str B',gw]] H12=.ret (.tup [a5,nI .i64 jn3]) H13:=e13
 have scs:=λn T=>VE hc.same n T
 have lp1:=λo=>Yp (n:=H1.nx) (b:=H.nx) (by omega) o
 have lp5:=λo=>Yp (n:=H5.nx) (b:=H.nx) (by omega) o
 simp(disch:=first|assumption|omega|(simp -implicitDefEqProofs only[ZQ,ZR]<;>first|assumption|omega)|decide) only[yf,Gs,bx,hH2,g1,g2,g3,g5,gC4,gC5,gC6,q7,q35,q36,q37,q38,e3,e4,st,lC,tkA,tkB,lgv,Zjk,bd36_,bd1_,bd3_,e6,e7,e8,e9,e10,e11,e12,e13,e14,e15,scs,sdv,lp1,lp5,vq,KE,Ba,Tt,Y8,Y7,Option.map_none,Wb,ZE,Yb,Zs,ZZ,c3,ZC,ZY,Zw,Zr,Zt,ZA,Nat.reducePow,Nat.reduceDiv,Nat.reduceMod,reduceCtorEq,Z4,WG,Rn,]
 generalize hLo:XQ (wj _) fuel _ _ _=Lp
 obtain⟨o,Tx,H16,rfl,_,rfl,CW,⟨t3,t4,t8,t9,t10,t11,t12,t13,t14,t15,t16,t17,t18,t19⟩⟩:=YA (P:=λT=>LWI H15 w (.ptr H1.nx 0) a1 a2 a3 a4 a5 a6 jn1 jn2 jn3 V.length V.length T H15) (Q:=LWQ H15 w (.ptr H1.nx 0) a1 a2 a3 a4 a5 a6 jn1 jn2 jn3)
  (λT hi=>YK (LWI H15 w (.ptr H1.nx 0) a1 a2 a3 a4 a5 a6 jn1 jn2 jn3 V.length) (LWQ H15 w (.ptr H1.nx 0) a1 a2 a3 a4 a5 a6 jn1 jn2 jn3) (λm tm H' h=>cV E (n:=n+16) (by omega) ZjR (λG hG=>gu.keep0 (k15.trans' hG)) (hwl.keep Zb4) hLl _ _ _ _ _ m tm H' h) fuel V.length T H15 (by omega) hi) hLo
  (by exact⟨Zq.refl _ _,⟨rfl,rfl,rfl,rfl,rfl,rfl,rfl,rfl,rfl,rfl,rfl,rfl,rfl,rfl⟩,0,rfl,by omega⟩)
 simp only[Qg,OI,Jw,yM,jz,qN,Zez,ZeA,ZeB,ZeC,ZeD,ZeE,ZeF,ZeG] at t3 t4 t8 t9 t10 t11 t12 t13 t14 t15 t16 t17 t18 t19
 have cH:=Zb4.trans' CW
 have k16:=k5.trans' cH
 have n516:=cH.nx
 have ZcJ:H16.ro<=H16.nx:=by rw[k16.ro];exact Zn hro k16.nx
 have hc16:=hc5.keep cH
 have gC16:H16.t.get H1.nx=some (rH 26 cs1):=by rw[cH.get _ (by omega) (by simp)];exact gC5
 obtain⟨H17,e17,SR⟩:=(show ∃H',ZJ (LK Zp fs fuel k) fs fuel (n+22) 15 [.agg cs1] H16=.ret (.bool (Ku x'.md x'.z x'.l)) H'∧Zq H16 H' [] by
  obtain⟨v,rfl,hN,hd,hln,hS⟩:=hc16
  exact F0 E (n:=n+16) (by omega) hd ZcJ (λG hG=>gu.keep0 (k16.trans' hG)) hN hln hS)
 have ZjS:H17.ro<=H17.nx:=by rw[SR.ro];exact Zn ZcJ SR.nx
 obtain⟨H18,e18,j0⟩:=xj E (k:=k) (n:=n+21) ZjS (hc16.keep SR)
 have Rz:=SR.trans' j0
 have ZjT:H18.ro<=H18.nx:=by rw[Rz.ro];exact Zn ZcJ Rz.nx
 obtain⟨H19,e19,j4⟩:=Ci E (k:=k) (n:=n+16) ZjT (hc16.keep Rz)
 have e19:ZJ (LK Zp fs fuel k) fs fuel (n+22) 16 [.agg cs1] H18=.ret (.bool (Ku x'.md x'.z x'.l)) H19:=e19
 have QE:=Rz.trans' j4
 have wk: ∀{j},ZJ (LK Zp fs fuel k) fs fuel (j+1) 17 [] H19=.ret (.bool true) H19:=λ{j}=>DL rfl (hwk H19 ((k16.trans' QE).kept ZiM))
 have gC17:H17.t.get H1.nx=some (rH 26 cs1):=by rw[SR.get _ (by omega) (by simp)];exact gC16
 have n17:=SR.nx;have n18:=j0.nx;have n19:=j4.nx
 have gC18:H18.t.get H1.nx=some (rH 26 cs1):=by rw[j0.get _ (by omega) (by simp)];exact gC17
 have gC19:H19.t.get H1.nx=some (rH 26 cs1):=by rw[j4.get _ (by omega) (by simp)];exact gC18
 have u1:=((((((((k67.trans' k78).trans' k89).trans' yW).trans' qY).trans' qZ).trans' vf).trans' zf).trans' zg).trans' CW
 have y1_16:Ry a1 H16=.val (.str X1) H16:=(p1 H16 u1).str H16.nx H16.ro
 have z1_16:=(p1 H16 u1).str H16.nx H16.nx
 have v1_16:=(p1 H16 u1).low H16.nx (Zl _)
 have y1_17:Ry a1 H17=.val (.str X1) H17:=(p1 H17 (u1.trans' SR)).str H17.nx H17.ro
 have z1_17:=(p1 H17 (u1.trans' SR)).str H17.nx H17.nx
 have v1_17:=(p1 H17 (u1.trans' SR)).low H17.nx (Zl _)
 have y1_18:Ry a1 H18=.val (.str X1) H18:=(p1 H18 (u1.trans' Rz)).str H18.nx H18.ro
 have z1_18:=(p1 H18 (u1.trans' Rz)).str H18.nx H18.nx
 have v1_18:=(p1 H18 (u1.trans' Rz)).low H18.nx (Zl _)
 have y1_19:Ry a1 H19=.val (.str X1) H19:=(p1 H19 (u1.trans' QE)).str H19.nx H19.ro
 have z1_19:=(p1 H19 (u1.trans' QE)).str H19.nx H19.nx
 have v1_19:=(p1 H19 (u1.trans' QE)).low H19.nx (Zl _)
 have f1:=S8 (p1 H16 u1).form
 have u2:=(((((yW.trans' qY).trans' qZ).trans' vf).trans' zf).trans' zg).trans' CW
 have y2_16:Ry a2 H16=.val (.str X1) H16:=(p2 H16 u2).str H16.nx H16.ro
 have z2_16:=(p2 H16 u2).str H16.nx H16.nx
 have v2_16:=(p2 H16 u2).low H16.nx (Zl _)
 have y2_17:Ry a2 H17=.val (.str X1) H17:=(p2 H17 (u2.trans' SR)).str H17.nx H17.ro
 have z2_17:=(p2 H17 (u2.trans' SR)).str H17.nx H17.nx
 have v2_17:=(p2 H17 (u2.trans' SR)).low H17.nx (Zl _)
 have y2_18:Ry a2 H18=.val (.str X1) H18:=(p2 H18 (u2.trans' Rz)).str H18.nx H18.ro
 have z2_18:=(p2 H18 (u2.trans' Rz)).str H18.nx H18.nx
 have v2_18:=(p2 H18 (u2.trans' Rz)).low H18.nx (Zl _)
 have y2_19:Ry a2 H19=.val (.str X1) H19:=(p2 H19 (u2.trans' QE)).str H19.nx H19.ro
 have z2_19:=(p2 H19 (u2.trans' QE)).str H19.nx H19.nx
 have v2_19:=(p2 H19 (u2.trans' QE)).low H19.nx (Zl _)
 have f2:=S8 (p2 H16 u2).form
 have u3:=((((qY.trans' qZ).trans' vf).trans' zf).trans' zg).trans' CW
 have y3_16:Ry a3 H16=.val (.str X2) H16:=(p3 H16 u3).str H16.nx H16.ro
 have z3_16:=(p3 H16 u3).str H16.nx H16.nx
 have v3_16:=(p3 H16 u3).low H16.nx (Zl _)
 have y3_17:Ry a3 H17=.val (.str X2) H17:=(p3 H17 (u3.trans' SR)).str H17.nx H17.ro
 have z3_17:=(p3 H17 (u3.trans' SR)).str H17.nx H17.nx
 have v3_17:=(p3 H17 (u3.trans' SR)).low H17.nx (Zl _)
 have y3_18:Ry a3 H18=.val (.str X2) H18:=(p3 H18 (u3.trans' Rz)).str H18.nx H18.ro
 have z3_18:=(p3 H18 (u3.trans' Rz)).str H18.nx H18.nx
 have v3_18:=(p3 H18 (u3.trans' Rz)).low H18.nx (Zl _)
 have y3_19:Ry a3 H19=.val (.str X2) H19:=(p3 H19 (u3.trans' QE)).str H19.nx H19.ro
 have z3_19:=(p3 H19 (u3.trans' QE)).str H19.nx H19.nx
 have v3_19:=(p3 H19 (u3.trans' QE)).low H19.nx (Zl _)
 have f3:=S8 (p3 H16 u3).form
 have u4:=((vf.trans' zf).trans' zg).trans' CW
 have y4_16:Ry a4 H16=.val (.str X2) H16:=(p4 H16 u4).str H16.nx H16.ro
 have z4_16:=(p4 H16 u4).str H16.nx H16.nx
 have v4_16:=(p4 H16 u4).low H16.nx (Zl _)
 have y4_17:Ry a4 H17=.val (.str X2) H17:=(p4 H17 (u4.trans' SR)).str H17.nx H17.ro
 have z4_17:=(p4 H17 (u4.trans' SR)).str H17.nx H17.nx
 have v4_17:=(p4 H17 (u4.trans' SR)).low H17.nx (Zl _)
 have y4_18:Ry a4 H18=.val (.str X2) H18:=(p4 H18 (u4.trans' Rz)).str H18.nx H18.ro
 have z4_18:=(p4 H18 (u4.trans' Rz)).str H18.nx H18.nx
 have v4_18:=(p4 H18 (u4.trans' Rz)).low H18.nx (Zl _)
 have y4_19:Ry a4 H19=.val (.str X2) H19:=(p4 H19 (u4.trans' QE)).str H19.nx H19.ro
 have z4_19:=(p4 H19 (u4.trans' QE)).str H19.nx H19.nx
 have v4_19:=(p4 H19 (u4.trans' QE)).low H19.nx (Zl _)
 have f4:=S8 (p4 H16 u4).form
 have u5:=(zf.trans' zg).trans' CW
 have y5_16:Ry a5 H16=.val (.str X3) H16:=(p5 H16 u5).str H16.nx H16.ro
 have z5_16:=(p5 H16 u5).str H16.nx H16.nx
 have v5_16:=(p5 H16 u5).low H16.nx (Zl _)
 have y5_17:Ry a5 H17=.val (.str X3) H17:=(p5 H17 (u5.trans' SR)).str H17.nx H17.ro
 have z5_17:=(p5 H17 (u5.trans' SR)).str H17.nx H17.nx
 have v5_17:=(p5 H17 (u5.trans' SR)).low H17.nx (Zl _)
 have y5_18:Ry a5 H18=.val (.str X3) H18:=(p5 H18 (u5.trans' Rz)).str H18.nx H18.ro
 have z5_18:=(p5 H18 (u5.trans' Rz)).str H18.nx H18.nx
 have v5_18:=(p5 H18 (u5.trans' Rz)).low H18.nx (Zl _)
 have y5_19:Ry a5 H19=.val (.str X3) H19:=(p5 H19 (u5.trans' QE)).str H19.nx H19.ro
 have z5_19:=(p5 H19 (u5.trans' QE)).str H19.nx H19.nx
 have v5_19:=(p5 H19 (u5.trans' QE)).low H19.nx (Zl _)
 have f5:=S8 (p5 H16 u5).form
 have u6:=(Zq.refl H15 []).trans' CW
 have y6_16:Ry a6 H16=.val (.str X3) H16:=(p6 H16 u6).str H16.nx H16.ro
 have z6_16:=(p6 H16 u6).str H16.nx H16.nx
 have v6_16:=(p6 H16 u6).low H16.nx (Zl _)
 have y6_17:Ry a6 H17=.val (.str X3) H17:=(p6 H17 (u6.trans' SR)).str H17.nx H17.ro
 have z6_17:=(p6 H17 (u6.trans' SR)).str H17.nx H17.nx
 have v6_17:=(p6 H17 (u6.trans' SR)).low H17.nx (Zl _)
 have y6_18:Ry a6 H18=.val (.str X3) H18:=(p6 H18 (u6.trans' Rz)).str H18.nx H18.ro
 have z6_18:=(p6 H18 (u6.trans' Rz)).str H18.nx H18.nx
 have v6_18:=(p6 H18 (u6.trans' Rz)).low H18.nx (Zl _)
 have y6_19:Ry a6 H19=.val (.str X3) H19:=(p6 H19 (u6.trans' QE)).str H19.nx H19.ro
 have z6_19:=(p6 H19 (u6.trans' QE)).str H19.nx H19.nx
 have v6_19:=(p6 H19 (u6.trans' QE)).low H19.nx (Zl _)
 have f6:=S8 (p6 H16 u6).form
 have dX: ∀(X:List UInt8) (G:Heap),Fd Nc false (.str X) (.str X) G=.val (.bool true) G:=λX G=>by rw[Tq,Ze rfl]
 have dN: ∀(c:Nat) (G:Heap),Fd Sn false (nI .i64 c) (nI .i64 c) G=.val (.bool true) G:=λc G=>by rw[YD,Ze rfl]
 have dB: ∀(b:Bool) (G:Heap),Fd uJ false (.bool b) (.bool b) G=.val (.bool true) G:=λb G=>by rw[qx,Ze rfl]
 have lc16:=hc16.low (n:=H16.nx) (Zl _)
 have lc17:=hc16.low (n:=H17.nx) n17
 have lc18:=hc16.low (n:=H18.nx) (by omega)
 have ZjW:=λn T=>VE hc16.same n T
 have lq16:=λo=>Yp (n:=H16.nx) (b:=H1.nx) (by omega) o
 have lq17:=λo=>Yp (n:=H17.nx) (b:=H1.nx) (by omega) o
 have lq18:=λo=>Yp (n:=H18.nx) (b:=H1.nx) (by omega) o
 have lq19:=λo=>Yp (n:=H19.nx) (b:=H1.nx) (by omega) o
 generalize Ku x'.md x'.z x'.l=bb at*
 simp only[t3,t8,t9,t10,t11,t12,t13,t14,t15,t16,t17,t18,t19,gC16,gC17,lC,e17,e18,e19,wk,dX,dN,dB,ZjW,z1_16,v1_16,z2_16,v2_16,z3_16,v3_16,z4_16,v4_16,z5_16,v5_16,z6_16,v6_16,Gv,Y8,ZC,ZY,Zz,Zw,Zr,Zt,Nat.reducePow,Nat.reduceDiv,Nat.reduceMod,reduceCtorEq,Z4,JH,E3]
 exact⟨_,rfl⟩
end
def Iv:List Sh:=.str::(List.replicate 32 (.int .u8)++[.int .i64,.sl [.str,.str]])
def Ex:List Sh:=Iv++[.sl Iv,.str,.str,.sl (List.replicate 32 (.int .u8))]
theorem Ch:Iv.length=35:=by unfold Iv;rw[Zh,Zf,UY];rfl
theorem lK{G:Heap}{v:AV}(h:Told G (.sl [.str,.str]) v): ∃l:List NP,Sz G 2 v (RK l):=by
 obtain⟨ls,h1,hm,h2⟩:=xN h
 obtain⟨l,h3,_⟩:=wu (α:=NP) (f:=λp=>[.str p.1,.str p.2]) (p:=λ_=>True) λi hi=>by
  obtain⟨e1,e2⟩:=h2 i hi
  obtain⟨a,ha⟩:=K4 (e2 0 _ rfl)
  obtain⟨b,hb⟩:=K4 (e2 1 _ rfl)
  exact⟨(a,b),by rw[Zav e1,ha,hb],trivial⟩
 exact⟨l,by rw[h3] at h1;exact h1.1⟩
theorem xQ{G:Heap}: ∀{l:List AV},(∀x∈l,Told G (.int .u8) x)-> ∃s:List UInt8,l=s.map XM
 |[],_=>⟨[],rfl⟩
 |a::l,h=>by
  obtain⟨x,hx⟩:=aD (h a (ZG ..))
  obtain⟨s,hs⟩:=xQ λy hy=>h y (ZK _ hy)
  exact⟨x::s,by rw[ZE,<-hs,hx]⟩
theorem zY{G:Heap}{cs:List AV}(hl:cs.length=35)(h: ∀(j:Nat) e,Iv[j]? =some e->Told G e (cs.getD j .unk)): ∃x,Ie G cs x:=by
 obtain⟨md,hmd⟩:=K4 (h 0 _ rfl)
 match cs,hl with
 |c0::t,hl=>
  have ht:t.length=34:=by rw[Zh] at hl;omega
  have hmd:c0=.str md:=hmd
  have h': ∀(j:Nat) e,(List.replicate 32 (Sh.int .u8)++[.int .i64,.sl [.str,.str]])[j]? =some e->Told G e (t.getD j .unk):=λj e he=>h (j+1) e he
  have hr:(List.replicate 32 (Sh.int .u8)).length=32:=UY ..
  obtain⟨s,hs⟩:=xQ (G:=G) (l:=t.take 32) λx hx=>by
   obtain⟨j,hj,rfl⟩:=Qa hx
   rw[ZP] at hj
   have:=h' j (.int .u8) (by rw[Yc (by omega),WC,if_pos (by omega)])
   rw[Za,Zg (by omega)] at this
   rw[List.getElem_take];exact this
  obtain⟨z,hz,_⟩:=fN (h' 32 _ (by rw[Zu (by omega),hr];rfl))
  obtain⟨l,hN⟩:=lK (h' 33 _ (by rw[Zu (by omega),hr];rfl))
  have hd:t.drop 32=[t.getD 32 .unk,t.getD 33 .unk]:=by
   have:=Zav (l:=t.drop 32) (by rw[Yr];omega)
   rw[Za,Za,Xd,Xd] at this
   rw[Za,Za];exact this
  refine⟨⟨md,s,z,l⟩,t.getD 33 .unk,?_,hN,?_⟩
  ·have e:t=s.map XM++[.int .i64 z,t.getD 33 .unk]:=(Th 32 t).symm.trans (by rw[hs,hd,hz])
   show c0::t=.str md::(s.map XM++[.int .i64 z,t.getD 33 .unk])
   rw[<-e,hmd]
  ·have:=congrArg List.length hs
   rw[ZP,Zi] at this
   show s.length=32;omega
theorem zw{α:Type}[Inhabited α]{n:Nat}{P:Nat->α->Prop}(h: ∀i,i<n-> ∃x,P i x): ∃l:List α,l.length=n∧ ∀i,i<n->P i (l.getD i default):=by
 induction n with
 |zero=>exact⟨[],rfl,λi hi=>by omega⟩
 |succ n ih=>
  obtain⟨l,h1,h2⟩:=ih λi hi=>h i (by omega)
  obtain⟨x,hx⟩:=h n (Yo n)
  refine⟨l++[x],by rw[Zf,h1];rfl,λi hi=>?_⟩
  rw[N1,h1]
  by_cases hi2:i<n
  ·rw[if_pos hi2];exact h2 i hi2
  ·obtain rfl:i=n:=by omega
   rw[if_neg hi2,if_pos rfl];exact hx
theorem rX{G:Heap}{v:AV}(h:Told G (.sl Iv) v): ∃L,Ao G v L:=by
 obtain⟨ls,h1,_,h2⟩:=xN h
 rw[Ch] at h1 h2
 obtain⟨L,h3,h4⟩:=zw (P:=λi x=>Ie G (ls.getD i []) x) λi hi=>zY (h2 i hi).1 (h2 i hi).2
 exact⟨L,ls,h1.1,h3.symm,λi hi=>h4 i (by omega)⟩
theorem lJ{G:Heap}{v:AV}(h:Told G (.sl (List.replicate 32 (.int .u8))) v): ∃(D:List (List UInt8)) (xs:List (List AV)),Cut G 32 v xs∧xs.length=D.length∧ ∀i,i<D.length->xs.getD i []=(D.getD i []).map XM∧(D.getD i []).length=32:=by
 obtain⟨ls,h1,_,h2⟩:=xN h
 rw[UY] at h1 h2
 obtain⟨D,h3,h4⟩:=zw (α:=List UInt8) (P:=λi d=>ls.getD i []=d.map XM∧d.length=32) λi hi=>by
  obtain⟨e1,e2⟩:=h2 i hi
  obtain⟨s,hs⟩:=xQ (G:=G) (l:=ls.getD i []) λx hx=>by
   obtain⟨j,hj,rfl⟩:=Qa hx
   have:=e2 j (.int .u8) (by rw[WC,if_pos (by omega)])
   rw[Za,Zg hj] at this
   exact this
  refine⟨s,hs,?_⟩
  have:=congrArg List.length hs
  rw[Zi] at this
  omega
 exact⟨D,ls,h1,h3.symm,λi hi=>h4 i (by omega)⟩
theorem fM{G:Heap}{cs:List AV}(hl:cs.length=39)(h: ∀(j:Nat) e,Ex[j]? =some e->Told G e (cs.getD j .unk)):
  ∃(c1:List AV) (dv:AV) (A B:List UInt8) (gv:AV) (x:Vz) (L:List Vz) (D:List (List UInt8)) (xs:List (List AV)),cs=c1++[dv,.str A,.str B,gv]∧Ie G c1 x∧Ao G dv L∧Cut G 32 gv xs∧xs.length=D.length∧ ∀i,i<D.length->xs.getD i []=(D.getD i []).map XM∧(D.getD i []).length=32:=by
 have Ac:=Ch
 obtain⟨x,hx⟩:=zY (G:=G) (cs:=cs.take 35) (by rw[ZP];omega) λj e he=>by
  have hj:j<35:=by rw[<-Ac];exact(Xh.1 he).1
  have:=h j e (by unfold Ex;rw[Yc (by omega)];exact he)
  rw[Za,Xo hj,<-Za];exact this
 have hr: ∀j e,[Sh.sl Iv,.str,.str,.sl (List.replicate 32 (.int .u8))][j]? =some e->Told G e ((cs.drop 35).getD j .unk):=λj e he=>by
  have:=h (35+j) e (by unfold Ex;rw[Zu (by omega),Ac,Vg];exact he)
  rw[Za,Xd,<-Za];exact this
 have hd4:(cs.drop 35).length=4:=by rw[Yr];omega
 obtain⟨L,hL⟩:=rX (hr 0 _ rfl)
 obtain⟨A,hA⟩:=K4 (hr 1 _ rfl)
 obtain⟨B,hB⟩:=K4 (hr 2 _ rfl)
 obtain⟨D,xs,h1,h2,h3⟩:=lJ (hr 3 _ rfl)
 have hcs:=Th 35 cs
 generalize cs.drop 35=q at*
 match q,hd4 with
 |[q0,q1,q2,q3],_=>
  have hA:q1=.str A:=hA
  have hB:q2=.str B:=hB
  exact⟨_,q0,A,B,q3,x,L,D,xs,hcs.symm.trans (by rw[hA,hB]),hx,hL,h1,h2,h3⟩
end
end Go.AI
