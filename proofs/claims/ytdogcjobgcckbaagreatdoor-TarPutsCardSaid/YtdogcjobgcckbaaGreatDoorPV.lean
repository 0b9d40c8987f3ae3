/- A head, by the document's code: walked: proved without conditions but those that each names. -/
import Derived.Test.YtdogcjobgcckbaaGreatDoorPU
set_option maxRecDepth 1000000
set_option maxHeartbeats 0
set_option linter.unusedVariables false
set_option linter.unusedSimpArgs false
namespace Go.AI
open Go
noncomputable section
section
variable {Zn:Lib} {fs:T CF} {fuel k n i h b:Nat} {H H0:Heap} {s:List UInt8} {cs:List AV}
structure DS(H0:Heap)(nd b lo:Nat)(lk:List UInt8)(kd ti:Int)(mo ui gi:Nat)(av dv:AV)(L:List UInt8)(w:AV)(Rs:List NP)(H:Heap):Prop where
 k:Zs H0 H []
 ro:H.ro<=H.nx
 n:H.t.get nd=some (rH 34 [.int .i64 kd,nI .u32 mo,nI .u32 ui,nI .u32 gi,.int .i64 ti,av,dv,.str lk])
 hx:HX H b L
 rb:RM H w 67 2 (V8 Rs) lo
 o1:H0.nx<=nd
 o2:nd<b
 o3:b<lo
 o4:lo<=H.nx
theorem DS.upd{H0 H H':Heap}{nd lo:Nat}{lk:List UInt8}{kd ti:Int}{mo ui gi:Nat}{av dv:AV}{L L':List UInt8}{w w':AV}{Rs Rs':List NP}{S:List Nat}(h:DS H0 nd b lo lk kd ti mo ui gi av dv L w Rs H)(k:Zs H H' S)(hS: ∀x∈S,x=b∨lo<=x)(hx:HX H' b L')(rb:RM H' w' 67 2 (V8 Rs') lo):DS H0 nd b lo lk kd ti mo ui gi av dv L' w' Rs' H':=by
 obtain⟨h1,h2,h3,h4,h5,h6,h7,h8,h9⟩:=h
 have hn:=k.nx
 refine⟨h1.trans k (λc hc hlt=>?_),by rw[k.ro];omega,?_,hx,rb,h6,h7,h8,by omega⟩
 ·rcases hS c hc with h|h<;>omega
 ·rw[k.get nd (by omega) (λh=>by rcases hS _ h with h|h<;>omega)];exact h3
theorem sJ(E:Env Zn fs fuel){nd lo:Nat}{lk:List UInt8}{kd ti:Int}{mo ui gi:Nat}{av dv:AV}{L:List UInt8}{w:AV}{Rs:List NP}(h:DS H0 nd b lo lk kd ti mo ui gi av dv L w Rs H){a:Nat}(ha:a+s.length<=512):
  ∃H',ZE (LK Zn fs fuel k) fs fuel (n+1) 26 [.slice b 0 512 none,nI .i64 a,.str s] H=.ret (.tup []) H'∧DS H0 nd b lo lk kd ti mo ui gi av dv (Xp L a s) w Rs H':=by
 obtain⟨H',e,k1,g⟩:=Ln E (k:=k) (n:=n) h.hx ha
 have:=h.o3
 refine⟨H',e,h.upd k1 (λx hx=>.inl (Zq.1 hx)) g (h.rb.below (λc hc hlt=>k1.get c hlt λhm=>by have:=Zq.1 hm;omega) k1.ro k1.nx)⟩
theorem Kb(E:Env Zn fs fuel){nd lo:Nat}{lk:List UInt8}{kd ti:Int}{mo ui gi:Nat}{av dv:AV}{L:List UInt8}{w:AV}{Rs:List NP}(h:DS H0 nd b lo lk kd ti mo ui gi av dv L w Rs H){a d u:Nat}(hd:1<=d)(ha:a+d<=512)(hu:u<9223372036854775808):
  ∃H',ZE (LK Zn fs fuel k) fs fuel (n+1) 28 [.slice b 0 512 none,nI .i64 a,nI .i64 d,nI .i64 u] H=.ret (.tup []) H'∧DS H0 nd b lo lk kd ti mo ui gi av dv (Xp L a (W7 d u)) w Rs H':=by
 obtain⟨H',e,k1,g⟩:=PV E (k:=k) (n:=n) h.hx hd ha hu
 have:=h.o3
 refine⟨H',e,h.upd k1 (λx hx=>.inl (Zq.1 hx)) g (h.rb.below (λc hc hlt=>k1.get c hlt λhm=>by have:=Zq.1 hm;omega) k1.ro k1.nx)⟩
theorem K5{nd lo:Nat}{lk:List UInt8}{kd ti:Int}{mo ui gi:Nat}{av dv:AV}{L:List UInt8}{w:AV}{Rs:List NP}(h:DS H0 nd b lo lk kd ti mo ui gi av dv L w Rs H)(hl:Rs.length<=1000)(x y:List UInt8):
  ∃w' H',UT 67 2 32 w (.slice H.nx 0 1 none) (H.new (rG 67 2 [.str x,.str y] 0 false true true))=.val w' H'∧DS H0 nd b lo lk kd ti mo ui gi av dv L w' (Rs++[(x,y)]) H':=by
 obtain⟨_,_,_,bw⟩:=Sx h.rb
 obtain⟨w',H2,ea,w2,k2,hb2,n2⟩:=uq (bytes:=32) h.rb (by decide) (by decide) (by rw[XK];omega) h.ro h.o4 (x:=[.str x,.str y]) rfl
 refine⟨w',H2,ea,h.upd k2 (λx hx=>.inr (bw x hx).1) (h.hx.keep k2 λhb=>by have:=(bw _ hb).1;have:=h.o3;omega) ?_⟩
 rw[FZ];exact w2
theorem Fd(x y:List UInt8)(G:Heap):UU 67 2 1 [.str [],.str []] [(0,2,.agg [.str x,.str y])] G=.val (.slice G.nx 0 1 none) (G.new (rG 67 2 [.str x,.str y] 0 false true true)):=rfl
theorem Fa(x y:List UInt8)(G:Heap):Q1 [.str [],.str []] [(0,1,.str x),(1,1,.str y)] G=.val (.agg [.str x,.str y]) G:=rfl
def uw(r:Nat):List UInt8:=Xp (Xp (Xp (Xp (Xp (Xp (Xp (Xp (Xp QM 257 [117,115,116,97,114]) 263 [48,48]) 156 [120]) 0 [112,97,120]) 100 (W7 7 0)) 108 (W7 7 0)) 116 (W7 7 0)) 124 (W7 11 r)) 136 (W7 11 0)
def kA(L:List UInt8)(Rs:List NP):List UInt8:=if Rs=[] then L else RL (uw (Sv Rs).length)++Sv Rs++List.replicate (VJ (Sv Rs).length) 0++L
def ZgR(H0:Heap)(X:List UInt8)(tm:TM)(H:Heap):Prop:= ∃v,VX tm=v∧W8 tm=nI .i64 0∧Zs H0 H []∧BV H v X∧ ∀c∈XP v,H0.nx<=c∧c<H.nx
def Mz(H0:Heap)(L:List UInt8)(Rs:List NP)(tm:TM)(H:Heap):Prop:=ZgR H0 (kA L Rs) tm H
theorem uJ{l:List UInt8}{a:Nat}{x:UInt8}(ha:a<l.length):Xp l a [x]=l.set a x:=by
 have:=F3 (l:=l) (w:=[]) (a:=a) (m:=0) (x:=x) (by show a+(0+1)+0<=_;omega)
 rw[MZ] at this
 exact this
theorem nh(hro:H.ro<=H.nx):HX (H.new (.row ⟨5,1,512,.leaf,nI .u8 0,0,false,true,true⟩)) H.nx QM:=
 ⟨⟨_,ZW rfl _,Bv 5,rfl,rfl,rfl,rfl⟩,P2,YM _,hro⟩
theorem ZdK(G:Heap):eZ 5 1 1 [nI .u8 0] (nI .i64 512) (nI .i64 512) G=.val (.slice G.nx 0 512 none) (G.new (.row ⟨5,1,512,.leaf,nI .u8 0,0,false,true,true⟩)):=xq (by decide) (by decide) _ _ _
theorem Zct(E:Env Zn fs fuel){L P:List UInt8}{wP:AV}(k0:Zs H0 H [])(hro:H.ro<=H.nx)(hx:HX H b L)(hb0:H0.nx<=b)(gP:GB H wP P H0.nx)(hP0:0<P.length)(hP:P.length<=100000000)(y f qq)(X0:X)(tm:TM)(t5:YW tm=.slice b 0 512 none)(t12:Xr tm=wP):
  ∃tm' H',j6 ⟨ZE (LK Zn fs fuel k) fs fuel (n+2),y,f,fuel,qq⟩ tm H X0=.ok .ret tm' H' X0∧ZgR H0 (RL (uw P.length)++P++List.replicate (VJ P.length) 0++L) tm' H':=by
 simp only[QP,vx] at t5 t12
 have hx0:=k0.nx
 obtain⟨H1,hH1⟩:=Sa (H.new (.row ⟨5,1,512,.leaf,nI .u8 0,0,false,true,true⟩))
 have k1:Zs H H1 []:=by rw[<-hH1];exact Zs.new _ _ _
 have g1:HX H1 H.nx QM:=by rw[<-hH1];exact nh hro
 have m5:=ZdK H
 have up: ∀{G G':Heap},Zs H G []->Zs G G' [H.nx]->Zs H G' []:=λa b=>a.trans b λx hx hlt=>by have:=Zq.1 hx;omega
 obtain⟨H2,e2,k12,g2⟩:=Ln E (k:=k) (n:=n+1) (a:=257) (s:=[117,115,116,97,114]) g1 (by decide)
 have k2:=up k1 k12
 obtain⟨H3,e3,k23,g3⟩:=Ln E (k:=k) (n:=n+1) (a:=263) (s:=[48,48]) g2 (by decide)
 have k3:=up k2 k23
 obtain⟨r,gr,st,g4,_⟩:=g3.set (j:=156) (by decide) 120
 have st:tp 1 (some (.row r)) H.nx 156 (nI .u8 120) H3=.val Xz (H3.put H.nx (.row (r.st 156 (Vd 120)))):=st
 rw[<-uJ (by rw[g3.len];decide)] at g4
 obtain⟨H4,Nu⟩:=Sa (H3.put H.nx (.row (r.st 156 (Vd 120))))
 rw[Nu] at st g4
 have k4:Zs H H4 []:=by rw[<-Nu];exact k3.then_put (by omega)
 obtain⟨H5,e5,EA,g5⟩:=Ln E (k:=k) (n:=n+1) (a:=0) (s:=[112,97,120]) g4 (by decide)
 have k5:=up k4 EA
 obtain⟨H6,e6,CM,g6⟩:=PV E (k:=k) (n:=n+1) (a:=100) (d:=7) (u:=0) g5 (by decide) (by decide) (by decide)
 have k6:=up k5 CM
 obtain⟨H7,e7,fT,g7⟩:=PV E (k:=k) (n:=n+1) (a:=108) (d:=7) (u:=0) g6 (by decide) (by decide) (by decide)
 have k7:=up k6 fT
 obtain⟨H8,e8,k78,g8⟩:=PV E (k:=k) (n:=n+1) (a:=116) (d:=7) (u:=0) g7 (by decide) (by decide) (by decide)
 have k8:=up k7 k78
 obtain⟨H9,e9,k89,g9⟩:=PV E (k:=k) (n:=n+1) (a:=124) (d:=11) (u:=P.length) g8 (by decide) (by decide) (by omega)
 have k9:=up k8 k89
 obtain⟨Ha,ea,k9a,ga⟩:=PV E (k:=k) (n:=n+1) (a:=136) (d:=11) (u:=0) g9 (by decide) (by decide) (by decide)
 have ka:=up k9 k9a
 obtain⟨Hb,eb,kab,gb⟩:=AR E (k:=k) (n:=n) ga
 have kb:=up ka kab
 have hxb:=kb.nx
 have lP:=gP.len
 have gPb:=gP.keep kb (λ_ _=>by simp)
 have rob:Hb.ro<=Hb.nx:=by rw[kb.ro];omega
 obtain⟨wc,Hc,ec,gc,kc,bkc⟩:=Zfs (lo:=H0.nx) gb gPb.bv hP0 (by omega) (by omega) rob
 have hxc:=kc.nx
 have hls:(RL (uw P.length)).length=512:=gb.len
 have gc:GB Hc wc (RL (uw P.length)++P) H0.nx:=gc
 have lsum:(RL (uw P.length)++P).length=512+P.length:=by rw[Zj,hls]
 have hpz:VJ (512+P.length)=VJ P.length:=by unfold VJ;omega
 have hpl:VJ P.length<512:=WF _ (by decide)
 have roc:Hc.ro<=Hc.nx:=by rw[kc.ro];omega
 obtain⟨wd,Hd,ed,gd,kd,bkd⟩:=wW E (k:=k) (n:=n+1) gc (by omega) roc (by omega)
 rw[lsum,hpz] at gd
 have hxd:=kd.nx
 have kbd:Zs Hb Hd []:=kc.trans kd λc hc hlt=>by have:=bkc c hc;omega
 have khd:Zs H Hd []:=kb.trans' kbd
 have gL:=(hx.keep0 khd).bv
 have rod:Hd.ro<=Hd.nx:=by rw[khd.ro];omega
 have hlL:=hx.len
 obtain⟨we,He,ee,ge,ke,bke⟩:=Kd gd gL (by omega) rod (by rw[Zj,lsum,ZH];omega)
 have bwd: ∀c∈XP wd,Hb.nx<=c:=λc hc=>by
  rcases bkd c hc with h|h
  ·exact bkc c h
  ·omega
 simp(disch:=omega) only[t5,t12,m5,hH1,e2,e3,gr,st,e5,e6,e7,e8,lP,e9,ea,eb,ec,ed,ee,Ya,QG,Zd,Xb,Zd,Ya,Zd,Xb,j6,Zu,Ye,Z6,Ad,TB6]
 refine⟨_,_,rfl,we,rfl,rfl,k0.trans' (khd.trans ke λc hc hlt=>?_),ge.bv,λc hc=>?_⟩
 ·have:=bwd c hc;omega
 ·have:=ge.blk c hc;exact this
theorem Zcs(E:Env Zn fs fuel)(hk:2<=k){nd lo:Nat}{lk:List UInt8}{kd ti:Int}{mo ui gi:Nat}{av dv:AV}{L:List UInt8}{w:AV}{Rs:List NP}(h:DS H0 nd b lo lk kd ti mo ui gi av dv L w Rs H)(hR0:Rs≠[])(hR: ∀x∈Rs,OU x)(hRl:Rs.length<=200)(y f qq)(X0:X)(tm:TM)(t5:YW tm=.slice b 0 512 none)(t7:XQ tm=w):
  ∃tm' H',j0 ⟨ZE (LK Zn fs fuel k) fs fuel (n+2),y,f,fuel,qq⟩ tm H X0=.ok .ret tm' H' X0∧Mz H0 L Rs tm' H':=by
 have PE:=t5
 simp only[LX] at t7
 obtain⟨wP,H1,e1,gP,k1⟩:=iH E (k:=k) (n:=n) hk h.ro (Sl.of_buf h.rb) (λx hx=>(hR x hx).1) (λx hx=>(hR x hx).2) (by omega)
 have hpl:=MR (l:=Rs) λx hx=>(hR x hx).2
 have hpl:(Sv Rs).length<=200*10023:=by
  omega
 have hp0:0<(Sv Rs).length:=by
  rcases Rs with _|⟨a,l⟩
  ·exact absurd rfl hR0
  ·unfold Sv
   rw[ZD,XY,Zj]
   unfold J4
   simp only[Zj]
   show 0<_+1+_+1+_+1+_
   omega
 have z0: ∀G,N6 Vp true (nI .i64 0) (nI .i64 0) G=.val (.bool false) G:=λ_=>rfl
 have hx1:=k1.nx
 have o1:=h.o1;have o2:=h.o2;have o3:=h.o3;have o4:=h.o4
 have gP0:GB H1 wP (Sv Rs) H0.nx:=by
  rcases gP with g|⟨b',sm,e,g1,g2⟩
  ·exact .inl g
  ·exact .inr ⟨b',sm,e,by omega,g2⟩
 simp only[t7,e1,z0,j0,Zu,Ye,Z6,Ad]
 have ho:kA L Rs=RL (uw (Sv Rs).length)++Sv Rs++List.replicate (VJ (Sv Rs).length) 0++L:=by unfold kA;rw[if_neg hR0]
 unfold Mz
 rw[ho]
 exact Zct E (k:=k) (n:=n) (h.k.trans' k1) (by rw[k1.ro];have:=h.ro;omega) (h.hx.keep0 k1) (by omega) gP0 hp0 (by omega) y f qq X0 _ PE rfl
theorem Zcr(E:Env Zn fs fuel)(hk:2<=k){nd lo:Nat}{lk:List UInt8}{kd ti:Int}{mo ui gi:Nat}{av dv:AV}{L:List UInt8}{w:AV}{Rs:List NP}(h:DS H0 nd b lo lk kd ti mo ui gi av dv L w Rs H)(hR: ∀x∈Rs,OU x)(hRl:Rs.length<=200)(y f qq)(X0:X)(tm:TM)(t5:YW tm=.slice b 0 512 none)(t7:XQ tm=w):
  ∃tm' H',pj ⟨ZE (LK Zn fs fuel k) fs fuel (n+2),y,f,fuel,qq⟩ tm H X0=.ok .ret tm' H' X0∧Mz H0 (RL L) Rs tm' H':=by
 have KX:=t7
 simp only[QP,LX] at t5 t7
 obtain⟨H1,e1,k1,g1⟩:=AR E (k:=k) (n:=n) h.hx
 have o1:=h.o1;have o2:=h.o2;have o3:=h.o3
 have h1:DS H0 nd b lo lk kd ti mo ui gi av dv (RL L) w Rs H1:=h.upd k1 (λx hx=>.inl (Zq.1 hx)) g1 (h.rb.below (λc hc hlt=>k1.get c hlt λhm=>by have:=Zq.1 hm;omega) k1.ro k1.nx)
 have ln:=h.rb.len
 rw[XK] at ln
 by_cases hR0:Rs=[]
 ·have d1:decide (Rs.length=0)=true:=Ze (by rw[hR0];rfl)
  simp only[t5,t7,e1,ln,d1,YL,pj,Zu,Ye,Z6,Ad]
  refine⟨_,_,rfl,.slice b 0 512 none,rfl,rfl,h1.k,?_,λc hc=>?_⟩
  ·unfold kA
   rw[if_pos hR0];exact g1.bv
  ·obtain rfl:c=b:=by simpa [XP] using hc
   exact⟨by omega,g1.lt⟩
 ·have d1:decide (Rs.length=0)=false:=Zb λh=>hR0 (YO.1 h)
  simp only[t5,t7,e1,ln,d1,YL,pj,Zu,Ye,Z6,Ad]
  exact Zcs E hk h1 hR0 hR hRl y f qq X0 _ rfl KX
end
structure QHI(H0:Heap)(nd b lo:Nat)(lk:List UInt8)(kd ti:Int)(mo ui gi:Nat)(av dv:AV)(L:List UInt8)(Rs as_:List NP)(m:Nat)(tm:TM)(H:Heap):Prop where
 t4:Y4 tm=.ptr nd 0
 t5:YW tm=.slice b 0 512 none
 i: ∃i w,Xt tm=nI .i64 i∧i+m=as_.length∧XQ tm=w∧DS H0 nd b lo lk kd ti mo ui gi av dv L w (Rs++(as_.take i).map TQ) H
def QHQ(H0:Heap)(nd b lo:Nat)(lk:List UInt8)(kd ti:Int)(mo ui gi:Nat)(av dv:AV)(L:List UInt8)(Rs as_:List NP)(o:Out)(tm:TM)(H:Heap):Prop:=o=.exit 0∧YW tm=.slice b 0 512 none∧ ∃w,XQ tm=w∧DS H0 nd b lo lk kd ti mo ui gi av dv L w (Rs++as_.map TQ) H
theorem Zcg{H0:Heap}{nd b lo:Nat}{lk:List UInt8}{kd ti:Int}{mo ui gi:Nat}{av dv:AV}{L:List UInt8}{Rs as_:List NP}(hA:Sz H0 2 av (V8 as_))(hal:as_.length<=100)(hak: ∀x∈as_,x.1.length<=90000)(hRs:Rs.length<=100)(cx:Ctx)(X0:X)(m:Nat)(tm:TM)(H:Heap)(hI:QHI H0 nd b lo lk kd ti mo ui gi av dv L Rs as_ m tm H):
  ∃o tm' H',wG cx tm H X0=.ok o tm' H' X0∧((o=.normal∧ ∃k,k<m∧QHI H0 nd b lo lk kd ti mo ui gi av dv L Rs as_ k tm' H')∨(o≠.normal∧QHQ H0 nd b lo lk kd ti mo ui gi av dv L Rs as_ o tm' H')):=by
 obtain⟨t4,t5,i,w,t11,him,t7,h⟩:=hI
 have Qk:=t4;have PE:=t5;have KX:=t7
 simp only[Tp,LX,fc] at t4 t7 t11
 have g4:=h.n
 have l5: ∀G,ld1 (some (rH 34 [.int .i64 kd,nI .u32 mo,nI .u32 ui,nI .u32 gi,.int .i64 ti,av,dv,.str lk])) 5 G=.val av G:=λG=>rfl
 have y2:=hA.keep0 h.k
 have la:=y2.len
 rw[XK] at la
 cases m with
 |zero=>
  have d1:decide (i<as_.length)=false:=Zb (by omega)
  simp only[t4,t11,g4,l5,la,d1,Zy,Zd,Zd,Zy,Zd,wG,Zu,Ye,Z6,qU]
  rw[Z9 (by omega)] at h
  refine⟨_,_,_,rfl,?_⟩
  exact .inr ⟨by simp,rfl,PE,w,KX,h⟩
 |succ m=>
  have d1:decide (i<as_.length)=true:=Ze (by omega)
  have hi:i<as_.length:=by omega
  obtain⟨bb,o,r,eI,hb,gb,eL,eE⟩:=y2.at_ (i:=i) (by rw[XK];exact hi)
  rw[Sy hi] at eL eE
  have hm:as_.getD i ([],[])∈as_:=by rw[Zf,Zl hi];exact Xd hi
  have hl1:=hak _ hm
  have htk:as_.take (i+1)=as_.take i++[as_.getD i ([],[])]:=by rw[WR,Zf,Zl hi];rfl
  generalize as_.getD i ([],[])=a at*
  have el0: ∀G,ld1 (some (.row r)) o G=.val (.str a.1) G:=λG=>eE 0 G (by decide)
  have el1: ∀G,ld1 (some (.row r)) (o+1) G=.val (.str a.2) G:=λG=>eE 1 G (by decide)
  have ad:=λG=>VU (a:=[83,67,72,73,76,89,46,120,97,116,116,114,46]) (b:=a.1) (by show 13+_<=_;omega) G
  obtain⟨w',H2,ea,h2⟩:=K5 h (by rw[Zj,Zx,ZC];omega) ([83,67,72,73,76,89,46,120,97,116,116,114,46]++a.1) a.2
  have lw0:=h.rb.low (n:=H.nx) (Zp _)
  have lav:=y2.low (n:=H.nx) (Zp _)
  have sav:=y2.same
  have o1:=h.o1;have o2:=h.o2;have o3:=h.o3;have o4:=h.o4
  have bs:=Fd ([83,67,72,73,76,89,46,120,97,116,116,114,46]++a.1) a.2
  have b2:=Fa ([83,67,72,73,76,89,46,120,97,116,116,114,46]++a.1) a.2
  have gg:=Nl (H:=H) (o:=rG 67 2 [.str ([83,67,72,73,76,89,46,120,97,116,116,114,46]++a.1),.str a.2] 0 false true true) (c:=bb) (by omega)
  have gn:=Nl (H:=H) (o:=rG 67 2 [.str ([83,67,72,73,76,89,46,120,97,116,116,114,46]++a.1),.str a.2] 0 false true true) (c:=nd) (by omega)
  simp(disch:=first|assumption|omega|(simp -implicitDefEqProofs only[X3,X4]<;>first|assumption|omega)|decide) only[t4,t7,t11,g4,l5,la,d1,eI,gb,el0,el1,ad,bs,b2,ea,lw0,lav,sav,gg,gn,Ya,Ys,Up,ZD,ZM,Zy,YI,decide_true,Zg,Zd,Zd,Zg,YD,Ys,Ya,ZD,ZM,Zy,Zd,Zg,YD,wG,Zu,Ye,Zw,Z8,Yp,Yv,Y6,Nat.reducePow,Nat.reduceDiv,Nat.reduceMod,Z6,qU,Ad]
  refine⟨_,_,_,rfl,.inl ⟨rfl,m,by omega,Qk,PE,i+1,w',rfl,by omega,rfl,?_⟩⟩
  rw[htk,Xv,<-Xj];exact h2
section
variable {Zn:Lib} {fs:T CF} {fuel k n i h b:Nat} {H H0:Heap} {s:List UInt8} {cs:List AV}
theorem C1{x:Ab}(h:x.z<((0:Nat):Int)∨(x.most:Int)<x.z)(Rs:List NP):WK x Rs=Rs++[(x.key,SQ x.z)]:=by unfold WK;rw[if_pos h]
theorem C6{x:Ab}(h: ¬(x.z<((0:Nat):Int)∨(x.most:Int)<x.z))(Rs:List NP):WK x Rs=Rs:=by unfold WK;rw[if_neg h]
theorem Cj{z:Int}{most:Nat}(h:z<((0:Nat):Int)∨(most:Int)<z)(L:List UInt8)(a:Nat):Xp L a (QO k z most)=L:=by unfold QO;rw[if_pos h,MZ]
theorem Ck{z:Int}{most:Nat}(h: ¬(z<((0:Nat):Int)∨(most:Int)<z)):QO k z most=W7 k z.toNat:=by unfold QO;rw[if_neg h]
theorem xU(E:Env Zn fs fuel)(hk:2<=k){nd lo:Nat}{lk:List UInt8}{kd ti:Int}{mo ui gi:Nat}{av dv:AV}{L:List UInt8}{w:AV}{Rs:List NP}{as_:List NP}(h:DS H0 nd b lo lk kd ti mo ui gi av dv L w Rs H)(hA:Sz H0 2 av (V8 as_))(hal:as_.length<=100)(hak: ∀x∈as_,x.1.length<=90000)(hRs:Rs.length<=100)(hR: ∀x∈(Rs++as_.map TQ),OU x)(hRl:((Rs++as_.map TQ)).length<=200)(y f qq)(X0:X)(tm:TM)(t4:Y4 tm=.ptr nd 0)(t5:YW tm=.slice b 0 512 none)(t7:XQ tm=w):
  ∃tm' H',jZ ⟨ZE (LK Zn fs fuel k) fs fuel (n+2),y,f,fuel,qq⟩ tm H X0=.ok .ret tm' H' X0∧Mz H0 (RL (L)) (Rs++as_.map TQ) tm' H':=by
 have Qk:=t4;have PE:=t5;have KX:=t7
 simp only[Tp,QP,LX] at t4 t5 t7
 have hf:=E.big
 simp only[jZ,Zu,Z6]
 generalize hL:Wv (wG _) fuel _ _ _=LL
 obtain⟨o,Pu,H1,rfl,_,rfl,t5,w1,t7,h1⟩:=YA (P:=λT=>QHI H0 nd b lo lk kd ti mo ui gi av dv L Rs as_ as_.length T H) (Q:=QHQ H0 nd b lo lk kd ti mo ui gi av dv L Rs as_)
  (λT hi=>YP (QHI H0 nd b lo lk kd ti mo ui gi av dv L Rs as_) (QHQ H0 nd b lo lk kd ti mo ui gi av dv L Rs as_) (λm tm H' h=>Zcg hA hal hak hRs _ _ m tm H' h) fuel as_.length T H (by omega) hi) hL
  (by exact⟨Qk,PE,0,w,rfl,by omega,KX,by rw[YN,ZM,Yd];exact h⟩)
 simp only[Zu,]
 exact Zcr E hk h1 hR hRl y f qq X0 Pu t5 t7
theorem oL(E:Env Zn fs fuel)(hk:2<=k){nd lo:Nat}{lk:List UInt8}{kd ti:Int}{mo ui gi:Nat}{av dv:AV}{L:List UInt8}{w:AV}{Rs:List NP}{as_:List NP}(h:DS H0 nd b lo lk kd ti mo ui gi av dv L w Rs H)(hA:Sz H0 2 av (V8 as_))(hal:as_.length<=100)(hak: ∀x∈as_,x.1.length<=90000)(E4: -9223372036854775808<=ti)(E5:ti<=9223372036854775807)(hRs:Rs.length<=99)(hR: ∀x∈(WK ⟨[109,116,105,109,101],136,12,ti,8589934591⟩ Rs++as_.map TQ),OU x)(hRl:((WK ⟨[109,116,105,109,101],136,12,ti,8589934591⟩ Rs++as_.map TQ)).length<=200)(y f qq)(X0:X)(tm:TM)(t4:Y4 tm=.ptr nd 0)(t5:YW tm=.slice b 0 512 none)(t7:XQ tm=w):
  ∃tm' H',wH ⟨ZE (LK Zn fs fuel k) fs fuel (n+2),y,f,fuel,qq⟩ tm H X0=.ok .ret tm' H' X0∧Mz H0 (RL (Xp L 136 (QO 11 ti 8589934591))) (WK ⟨[109,116,105,109,101],136,12,ti,8589934591⟩ Rs++as_.map TQ) tm' H':=by
 have Qk:=t4;have PE:=t5;have KX:=t7
 simp only[Tp,QP,LX] at t4 t5 t7
 have g4:=h.n
 have l4: ∀G,ld1 (some (rH 34 [.int .i64 kd,nI .u32 mo,nI .u32 ui,nI .u32 gi,.int .i64 ti,av,dv,.str lk])) 4 G=.val (.int .i64 ti) G:=λG=>rfl
 have c1:=λG:Heap=>Lo .i64 ti 0 G
 have c2:=λG:Heap=>IM .i64 ti 8589934591 G
 by_cases hb:ti<((0:Nat):Int)∨((8589934591:Nat):Int)<ti
 ·rw[C1 (x:=⟨[109,116,105,109,101],136,12,ti,8589934591⟩) hb] at hR hRl ⊢
  rw[Cj hb]
  have et:=λ{j}=>iL E (k:=k) (n:=j) hk (z:=ti) (H:=H) E4 E5
  obtain⟨w',H2,ea,h2⟩:=K5 h (by omega) [109,116,105,109,101] (SQ ti)
  have bs:=Fd [109,116,105,109,101] (SQ ti)
  have b2:=Fa [109,116,105,109,101] (SQ ti)
  by_cases h0:ti<((0:Nat):Int)
  ·have d1:decide (ti<((0:Nat):Int))=true:=Ze h0
   rw[d1] at c1
   simp only[t4,t7,g4,l4,c1,et,bs,b2,ea,Ya,Ys,Up,ZD,ZM,Zd,Zd,Ys,Ya,ZD,ZM,Zd,wH,Zu,Ye,Z6,Lb,qU]
   exact xU E hk h2 hA hal hak (by rw[Zj];show _+1<=_;omega) hR hRl y f qq X0 _ Qk PE rfl
  ·have d1:decide (ti<((0:Nat):Int))=false:=Zb h0
   have d2:decide (((8589934591:Nat):Int)<ti)=true:=Ze (by omega)
   rw[d1] at c1
   rw[d2] at c2
   simp only[t4,t7,g4,l4,c1,c2,et,bs,b2,ea,Ya,Ys,Up,ZD,ZM,Zd,Zd,Ys,Ya,ZD,ZM,Zd,wH,Zu,Ye,Z6,Lb,qU]
   exact xU E hk h2 hA hal hak (by rw[Zj];show _+1<=_;omega) hR hRl y f qq X0 _ Qk PE rfl
 ·rw[C6 (x:=⟨[109,116,105,109,101],136,12,ti,8589934591⟩) hb] at hR hRl ⊢
  rw[Ck hb]
  have d1:decide (ti<((0:Nat):Int))=false:=Zb (by omega)
  have d2:decide (((8589934591:Nat):Int)<ti)=false:=Zb (by omega)
  rw[d1] at c1
  rw[d2] at c2
  have hz:AV.int .i64 ti=nI .i64 ti.toNat:=by
   show AV.int .i64 ti=AV.int .i64 ((ti.toNat:Nat):Int)
   rw[Int.toNat_of_nonneg (by omega)]
  obtain⟨H2,e2,h2⟩:=Kb E (k:=k) (n:=n+1) h (a:=136) (d:=11) (u:=ti.toNat) (by decide) (by decide) (by omega)
  rw[<-hz] at e2
  simp only[t4,t5,g4,l4,c1,c2,e2,Zd,Zd,Zd,wH,Zu,Ye,Z6,Lb,qU]
  exact xU E hk h2 hA hal hak (by omega) hR hRl y f qq X0 _ Qk PE KX
theorem oK(E:Env Zn fs fuel)(hk:2<=k){nd lo:Nat}{lk:List UInt8}{kd ti:Int}{mo ui gi:Nat}{av dv:AV}{L:List UInt8}{w:AV}{Rs:List NP}{as_:List NP}(h:DS H0 nd b lo lk kd ti mo ui gi av dv L w Rs H)(hA:Sz H0 2 av (V8 as_))(hal:as_.length<=100)(hak: ∀x∈as_,x.1.length<=90000)(E4: -9223372036854775808<=ti)(E5:ti<=9223372036854775807)(MF:gi<4294967296)(hRs:Rs.length<=98)(hR: ∀x∈(WK ⟨[109,116,105,109,101],136,12,ti,8589934591⟩ (WK ⟨[103,105,100],116,8,gi,2097151⟩ Rs)++as_.map TQ),OU x)(hRl:((WK ⟨[109,116,105,109,101],136,12,ti,8589934591⟩ (WK ⟨[103,105,100],116,8,gi,2097151⟩ Rs)++as_.map TQ)).length<=200)(y f qq)(X0:X)(tm:TM)(t4:Y4 tm=.ptr nd 0)(t5:YW tm=.slice b 0 512 none)(t7:XQ tm=w):
  ∃tm' H',pi ⟨ZE (LK Zn fs fuel k) fs fuel (n+2),y,f,fuel,qq⟩ tm H X0=.ok .ret tm' H' X0∧Mz H0 (RL (Xp (Xp L 116 (QO 7 gi 2097151)) 136 (QO 11 ti 8589934591))) (WK ⟨[109,116,105,109,101],136,12,ti,8589934591⟩ (WK ⟨[103,105,100],116,8,gi,2097151⟩ Rs)++as_.map TQ) tm' H':=by
 have Qk:=t4;have PE:=t5;have KX:=t7
 simp only[Tp,QP,LX] at t4 t5 t7
 have g4:=h.n
 have l3: ∀G,ld1 (some (rH 34 [.int .i64 kd,nI .u32 mo,nI .u32 ui,nI .u32 gi,.int .i64 ti,av,dv,.str lk])) 3 G=.val (nI .u32 gi) G:=λG=>rfl
 have iv: ∀G,Ol .i64 (nI .u32 gi) G=.val (nI .i64 gi) G:=λG=>UB (by omega) G
 by_cases hb:2097151<gi
 ·have d1:decide (2097151<gi)=true:=Ze hb
  have hb':((gi:Nat):Int)<((0:Nat):Int)∨((2097151:Nat):Int)<((gi:Nat):Int):=by omega
  rw[C1 (x:=⟨[103,105,100],116,8,gi,2097151⟩) hb'] at hR hRl ⊢
  rw[Cj hb']
  have et: ∀{j},ZE (LK Zn fs fuel k) fs fuel (j+1) 29 [nI .i64 gi] H=.ret (.str (SQ ((gi:Nat):Int))) H:=λ{j}=>iL E (k:=k) (n:=j) hk (z:=((gi:Nat):Int)) (H:=H) (by omega) (by omega)
  obtain⟨w',H2,ea,h2⟩:=K5 h (by omega) [103,105,100] (SQ ((gi:Nat):Int))
  have bs:=Fd [103,105,100] (SQ ((gi:Nat):Int))
  have b2:=Fa [103,105,100] (SQ ((gi:Nat):Int))
  simp only[t4,t7,g4,l3,iv,d1,et,bs,b2,ea,Ya,Ys,Up,ZD,ZM,Z3,Zd,Zd,Ys,Ya,ZD,ZM,Z3,Zd,pi,Zu,Ye,Z6,Lb]
  exact oL E hk h2 hA hal hak E4 E5 (by rw[Zj];show _+1<=_;omega) hR hRl y f qq X0 _ Qk PE rfl
 ·have d1:decide (2097151<gi)=false:=Zb hb
  have hb': ¬(((gi:Nat):Int)<((0:Nat):Int)∨((2097151:Nat):Int)<((gi:Nat):Int)):=by omega
  rw[C6 (x:=⟨[103,105,100],116,8,gi,2097151⟩) hb'] at hR hRl ⊢
  rw[Ck hb',XX]
  obtain⟨H2,e2,h2⟩:=Kb E (k:=k) (n:=n+1) h (a:=116) (d:=7) (u:=gi) (by decide) (by decide) (by omega)
  simp only[t4,t5,g4,l3,iv,d1,e2,Z3,Zd,Zd,Z3,Zd,pi,Zu,Ye,Z6,Lb]
  exact oL E hk h2 hA hal hak E4 E5 (by omega) hR hRl y f qq X0 _ Qk PE KX
theorem Zcq(E:Env Zn fs fuel)(hk:2<=k){nd lo:Nat}{lk:List UInt8}{kd ti:Int}{mo ui gi:Nat}{av dv:AV}{L:List UInt8}{w:AV}{Rs:List NP}{as_:List NP}(h:DS H0 nd b lo lk kd ti mo ui gi av dv L w Rs H)(hA:Sz H0 2 av (V8 as_))(hal:as_.length<=100)(hak: ∀x∈as_,x.1.length<=90000)(E4: -9223372036854775808<=ti)(E5:ti<=9223372036854775807)(MF:gi<4294967296)(KY:ui<4294967296)(hRs:Rs.length<=97)(hR: ∀x∈(WK ⟨[109,116,105,109,101],136,12,ti,8589934591⟩ (WK ⟨[103,105,100],116,8,gi,2097151⟩ (WK ⟨[117,105,100],108,8,ui,2097151⟩ Rs))++as_.map TQ),OU x)(hRl:((WK ⟨[109,116,105,109,101],136,12,ti,8589934591⟩ (WK ⟨[103,105,100],116,8,gi,2097151⟩ (WK ⟨[117,105,100],108,8,ui,2097151⟩ Rs))++as_.map TQ)).length<=200)(y f qq)(X0:X)(tm:TM)(t4:Y4 tm=.ptr nd 0)(t5:YW tm=.slice b 0 512 none)(t7:XQ tm=w):
  ∃tm' H',ph ⟨ZE (LK Zn fs fuel k) fs fuel (n+2),y,f,fuel,qq⟩ tm H X0=.ok .ret tm' H' X0∧Mz H0 (RL (Xp (Xp (Xp L 108 (QO 7 ui 2097151)) 116 (QO 7 gi 2097151)) 136 (QO 11 ti 8589934591))) (WK ⟨[109,116,105,109,101],136,12,ti,8589934591⟩ (WK ⟨[103,105,100],116,8,gi,2097151⟩ (WK ⟨[117,105,100],108,8,ui,2097151⟩ Rs))++as_.map TQ) tm' H':=by
 have Qk:=t4;have PE:=t5;have KX:=t7
 simp only[Tp,QP,LX] at t4 t5 t7
 have g4:=h.n
 have l2: ∀G,ld1 (some (rH 34 [.int .i64 kd,nI .u32 mo,nI .u32 ui,nI .u32 gi,.int .i64 ti,av,dv,.str lk])) 2 G=.val (nI .u32 ui) G:=λG=>rfl
 have iv: ∀G,Ol .i64 (nI .u32 ui) G=.val (nI .i64 ui) G:=λG=>UB (by omega) G
 by_cases hb:2097151<ui
 ·have d1:decide (2097151<ui)=true:=Ze hb
  have hb':((ui:Nat):Int)<((0:Nat):Int)∨((2097151:Nat):Int)<((ui:Nat):Int):=by omega
  rw[C1 (x:=⟨[117,105,100],108,8,ui,2097151⟩) hb'] at hR hRl ⊢
  rw[Cj hb']
  have et: ∀{j},ZE (LK Zn fs fuel k) fs fuel (j+1) 29 [nI .i64 ui] H=.ret (.str (SQ ((ui:Nat):Int))) H:=λ{j}=>iL E (k:=k) (n:=j) hk (z:=((ui:Nat):Int)) (H:=H) (by omega) (by omega)
  obtain⟨w',H2,ea,h2⟩:=K5 h (by omega) [117,105,100] (SQ ((ui:Nat):Int))
  have bs:=Fd [117,105,100] (SQ ((ui:Nat):Int))
  have b2:=Fa [117,105,100] (SQ ((ui:Nat):Int))
  simp only[t4,t7,g4,l2,iv,d1,et,bs,b2,ea,Ya,Ys,Up,ZD,ZM,Z3,Zd,Zd,Ys,Ya,ZD,ZM,Z3,Zd,ph,Zu,Ye,Z6,QS,Lb]
  exact oK E hk h2 hA hal hak E4 E5 MF (by rw[Zj];show _+1<=_;omega) hR hRl y f qq X0 _ Qk PE rfl
 ·have d1:decide (2097151<ui)=false:=Zb hb
  have hb': ¬(((ui:Nat):Int)<((0:Nat):Int)∨((2097151:Nat):Int)<((ui:Nat):Int)):=by omega
  rw[C6 (x:=⟨[117,105,100],108,8,ui,2097151⟩) hb'] at hR hRl ⊢
  rw[Ck hb',XX]
  obtain⟨H2,e2,h2⟩:=Kb E (k:=k) (n:=n+1) h (a:=108) (d:=7) (u:=ui) (by decide) (by decide) (by omega)
  simp only[t4,t5,g4,l2,iv,d1,e2,Z3,Zd,Zd,Z3,Zd,ph,Zu,Ye,Z6,QS,Lb]
  exact oK E hk h2 hA hal hak E4 E5 MF (by omega) hR hRl y f qq X0 _ Qk PE KX
theorem oJ(E:Env Zn fs fuel)(hk:2<=k){nd lo:Nat}{lk:List UInt8}{kd ti:Int}{mo ui gi:Nat}{av dv:AV}{L:List UInt8}{w:AV}{Rs:List NP}{as_:List NP}(h:DS H0 nd b lo lk kd ti mo ui gi av dv L w Rs H)(hA:Sz H0 2 av (V8 as_))(hal:as_.length<=100)(hak: ∀x∈as_,x.1.length<=90000)(E4: -9223372036854775808<=ti)(E5:ti<=9223372036854775807)(MF:gi<4294967296)(KY:ui<4294967296)(IW:mo<4294967296){da:List UInt8}(hD:Sz H0 1 dv (OX da))(hdl:da.length<=1073741824)(hRs:Rs.length<=97)(hR: ∀x∈(WK ⟨[109,116,105,109,101],136,12,ti,8589934591⟩ (WK ⟨[103,105,100],116,8,gi,2097151⟩ (WK ⟨[117,105,100],108,8,ui,2097151⟩ Rs))++as_.map TQ),OU x)(hRl:((WK ⟨[109,116,105,109,101],136,12,ti,8589934591⟩ (WK ⟨[103,105,100],116,8,gi,2097151⟩ (WK ⟨[117,105,100],108,8,ui,2097151⟩ Rs))++as_.map TQ)).length<=200)(y f qq)(X0:X)(tm:TM)(t4:Y4 tm=.ptr nd 0)(t5:YW tm=.slice b 0 512 none)(t7:XQ tm=w):
  ∃tm' H',jY ⟨ZE (LK Zn fs fuel k) fs fuel (n+2),y,f,fuel,qq⟩ tm H X0=.ok .ret tm' H' X0∧Mz H0 (RL (Xp (Xp (Xp (Xp (Xp (Xp (Xp (Xp (L) 100 (W7 7 mo)) 108 (W7 7 0)) 116 (W7 7 0)) 124 (W7 11 da.length)) 136 (W7 11 0)) 108 (QO 7 ui 2097151)) 116 (QO 7 gi 2097151)) 136 (QO 11 ti 8589934591))) (WK ⟨[109,116,105,109,101],136,12,ti,8589934591⟩ (WK ⟨[103,105,100],116,8,gi,2097151⟩ (WK ⟨[117,105,100],108,8,ui,2097151⟩ Rs))++as_.map TQ) tm' H':=by
 have Qk:=t4;have PE:=t5;have KX:=t7
 simp only[Tp,QP,LX] at t4 t5 t7
 have g4:=h.n
 have l1: ∀G,ld1 (some (rH 34 [.int .i64 kd,nI .u32 mo,nI .u32 ui,nI .u32 gi,.int .i64 ti,av,dv,.str lk])) 1 G=.val (nI .u32 mo) G:=λG=>rfl
 have l6: ∀G,ld1 (some (rH 34 [.int .i64 kd,nI .u32 mo,nI .u32 ui,nI .u32 gi,.int .i64 ti,av,dv,.str lk])) 6 G=.val dv G:=λG=>rfl
 have iv: ∀G,Ol .i64 (nI .u32 mo) G=.val (nI .i64 mo) G:=λG=>UB (by omega) G
 have ld:=hD.len
 rw[TB] at ld
 obtain⟨H1,e1,h1⟩:=Kb E (k:=k) (n:=n+1) h (a:=100) (d:=7) (u:=mo) (by decide) (by decide) (by omega)
 obtain⟨H2,e2,h2⟩:=Kb E (k:=k) (n:=n+1) h1 (a:=108) (d:=7) (u:=0) (by decide) (by decide) (by decide)
 obtain⟨H3,e3,h3⟩:=Kb E (k:=k) (n:=n+1) h2 (a:=116) (d:=7) (u:=0) (by decide) (by decide) (by decide)
 obtain⟨H4,e4,h4⟩:=Kb E (k:=k) (n:=n+1) h3 (a:=124) (d:=11) (u:=da.length) (by decide) (by decide) (by omega)
 obtain⟨H5,e5,h5⟩:=Kb E (k:=k) (n:=n+1) h4 (a:=136) (d:=11) (u:=0) (by decide) (by decide) (by decide)
 have gn1:=h1.n;have gn2:=h2.n;have gn3:=h3.n;have gn4:=h4.n
 simp only[t4,t5,g4,l1,l6,iv,ld,e1,e2,e3,e4,e5,gn3,Zd,Zd,Zd,jY,Zu,Ye,Z6,QS]
 exact Zcq E hk h5 hA hal hak E4 E5 MF KY hRs hR hRl y f qq X0 _ Qk PE KX
theorem oI(E:Env Zn fs fuel)(hk:2<=k){nd lo:Nat}{lk:List UInt8}{kd ti:Int}{mo ui gi:Nat}{av dv:AV}{L:List UInt8}{w:AV}{Rs:List NP}{as_:List NP}(h:DS H0 nd b lo lk kd ti mo ui gi av dv L w Rs H)(hA:Sz H0 2 av (V8 as_))(hal:as_.length<=100)(hak: ∀x∈as_,x.1.length<=90000)(E4: -9223372036854775808<=ti)(E5:ti<=9223372036854775807)(MF:gi<4294967296)(KY:ui<4294967296)(IW:mo<4294967296){da:List UInt8}(hD:Sz H0 1 dv (OX da))(hdl:da.length<=1073741824){pr nm:List UInt8}(hpr:pr.length<=155)(hnm:nm.length<=100)(hRs:Rs.length<=90)(hR: ∀x∈(WK ⟨[109,116,105,109,101],136,12,ti,8589934591⟩ (WK ⟨[103,105,100],116,8,gi,2097151⟩ (WK ⟨[117,105,100],108,8,ui,2097151⟩ (if 100<lk.length then Rs++[([108,105,110,107,112,97,116,104],lk)] else Rs)))++as_.map TQ),OU x)(hRl:((WK ⟨[109,116,105,109,101],136,12,ti,8589934591⟩ (WK ⟨[103,105,100],116,8,gi,2097151⟩ (WK ⟨[117,105,100],108,8,ui,2097151⟩ (if 100<lk.length then Rs++[([108,105,110,107,112,97,116,104],lk)] else Rs)))++as_.map TQ)).length<=200)(y f qq)(X0:X)(tm:TM)(t4:Y4 tm=.ptr nd 0)(t5:YW tm=.slice b 0 512 none)(t7:XQ tm=w)(t8:Wi tm=.str pr)(t9:WG tm=.str nm):
  ∃tm' H',pg ⟨ZE (LK Zn fs fuel k) fs fuel (n+2),y,f,fuel,qq⟩ tm H X0=.ok .ret tm' H' X0∧Mz H0 (RL (Xp (Xp (Xp (Xp (Xp (Xp (Xp (Xp (Xp (Xp (Xp (L) 345 pr) 0 nm) 157 (if 100<lk.length then [] else lk)) 100 (W7 7 mo)) 108 (W7 7 0)) 116 (W7 7 0)) 124 (W7 11 da.length)) 136 (W7 11 0)) 108 (QO 7 ui 2097151)) 116 (QO 7 gi 2097151)) 136 (QO 11 ti 8589934591))) (WK ⟨[109,116,105,109,101],136,12,ti,8589934591⟩ (WK ⟨[103,105,100],116,8,gi,2097151⟩ (WK ⟨[117,105,100],108,8,ui,2097151⟩ (if 100<lk.length then Rs++[([108,105,110,107,112,97,116,104],lk)] else Rs)))++as_.map TQ) tm' H':=by
 have Qk:=t4;have PE:=t5;have KX:=t7
 simp only[Tp,QP,LX] at t4 t5 t7
 have l7: ∀G,ld1 (some (rH 34 [.int .i64 kd,nI .u32 mo,nI .u32 ui,nI .u32 gi,.int .i64 ti,av,dv,.str lk])) 7 G=.val (.str lk) G:=λG=>rfl
 simp only[sW,fj] at t8 t9
 obtain⟨H1,e1,h1⟩:=sJ E (k:=k) (n:=n+1) h (a:=345) (s:=pr) (by omega)
 obtain⟨H2,e2,h2⟩:=sJ E (k:=k) (n:=n+1) h1 (a:=0) (s:=nm) (by omega)
 have gn2:=h2.n
 by_cases hl:100<lk.length
 ·have d1:decide (100<lk.length)=true:=Ze hl
  rw[if_pos hl] at hR hRl ⊢
  rw[if_pos hl,MZ]
  obtain⟨w',H3,ea,h3⟩:=K5 h2 (by omega) [108,105,110,107,112,97,116,104] lk
  have bs:=Fd [108,105,110,107,112,97,116,104] lk
  have b2:=Fa [108,105,110,107,112,97,116,104] lk
  simp only[t4,t5,t7,t8,t9,gn2,l7,e1,e2,d1,bs,b2,ea,Ya,Ys,Up,ZD,ZM,Z3,ZG,Zd,Zd,Ys,Ya,ZD,ZM,Z3,Zd,pg,Zu,Ye,Z6,Vk,QS]
  exact oJ E hk h3 hA hal hak E4 E5 MF KY IW hD hdl (by rw[Zj];show _+1<=_;omega) hR hRl y f qq X0 _ Qk PE rfl
 ·have d1:decide (100<lk.length)=false:=Zb hl
  rw[if_neg hl] at hR hRl ⊢
  rw[if_neg hl]
  obtain⟨H3,e3,h3⟩:=sJ E (k:=k) (n:=n+1) h2 (a:=157) (s:=lk) (by omega)
  simp only[t4,t5,t8,t9,gn2,l7,e1,e2,d1,e3,Z3,ZG,Zd,Zd,Z3,Zd,pg,Zu,Ye,Z6,Vk,QS]
  exact oJ E hk h3 hA hal hak E4 E5 MF KY IW hD hdl (by omega) hR hRl y f qq X0 _ Qk PE KX
theorem Zcp(E:Env Zn fs fuel)(hk:2<=k){nd lo:Nat}{lk:List UInt8}{kd ti:Int}{mo ui gi:Nat}{av dv:AV}{L:List UInt8}{as_:List NP}(h:DS H0 nd b lo lk kd ti mo ui gi av dv L .nils [] H)(hA:Sz H0 2 av (V8 as_))(hal:as_.length<=100)(hak: ∀x∈as_,x.1.length<=90000)(E4: -9223372036854775808<=ti)(E5:ti<=9223372036854775807)(MF:gi<4294967296)(KY:ui<4294967296)(IW:mo<4294967296){da:List UInt8}(hD:Sz H0 1 dv (OX da))(hdl:da.length<=1073741824){lg pr nm:List UInt8}{fits:Bool}(hlg:lg.length<=90000)(hp:Q3 lg=(pr,nm,fits))(hpr:pr.length<=155)(hnm:nm.length<=100)(hR: ∀x∈(WK ⟨[109,116,105,109,101],136,12,ti,8589934591⟩ (WK ⟨[103,105,100],116,8,gi,2097151⟩ (WK ⟨[117,105,100],108,8,ui,2097151⟩ (if 100<lk.length then(if fits=true then [] else [([112,97,116,104],lg)])++[([108,105,110,107,112,97,116,104],lk)] else(if fits=true then [] else [([112,97,116,104],lg)]))))++as_.map TQ),OU x)(hRl:((WK ⟨[109,116,105,109,101],136,12,ti,8589934591⟩ (WK ⟨[103,105,100],116,8,gi,2097151⟩ (WK ⟨[117,105,100],108,8,ui,2097151⟩ (if 100<lk.length then(if fits=true then [] else [([112,97,116,104],lg)])++[([108,105,110,107,112,97,116,104],lk)] else(if fits=true then [] else [([112,97,116,104],lg)]))))++as_.map TQ)).length<=200)(y f qq)(X0:X)(tm:TM)(t4:Y4 tm=.ptr nd 0)(t5:YW tm=.slice b 0 512 none)(t6:XI tm=.str lg):
  ∃tm' H',D3 ⟨ZE (LK Zn fs fuel k) fs fuel (n+2),y,f,fuel,qq⟩ tm H X0=.ok .ret tm' H' X0∧Mz H0 (RL (Xp (Xp (Xp (Xp (Xp (Xp (Xp (Xp (Xp (Xp (Xp (L) 345 pr) 0 nm) 157 (if 100<lk.length then [] else lk)) 100 (W7 7 mo)) 108 (W7 7 0)) 116 (W7 7 0)) 124 (W7 11 da.length)) 136 (W7 11 0)) 108 (QO 7 ui 2097151)) 116 (QO 7 gi 2097151)) 136 (QO 11 ti 8589934591))) (WK ⟨[109,116,105,109,101],136,12,ti,8589934591⟩ (WK ⟨[103,105,100],116,8,gi,2097151⟩ (WK ⟨[117,105,100],108,8,ui,2097151⟩ (if 100<lk.length then(if fits=true then [] else [([112,97,116,104],lg)])++[([108,105,110,107,112,97,116,104],lk)] else(if fits=true then [] else [([112,97,116,104],lg)]))))++as_.map TQ) tm' H':=by
 have Qk:=t4;have PE:=t5;have Dr:=t6
 simp only[Tp,QP,EU] at t4 t5 t6
 have ep:=λ{j}=>Zhd E (k:=k) (n:=j) (by omega) (s:=lg) (H:=H) hlg
 rw[hp] at ep
 cases fits with
 |true=>
  rw[if_pos (rfl:true=true)] at hR hRl ⊢
  simp only[t6,ep,ZY,D3,Zu,Ye,Z8,Z6,Vk]
  exact oI E hk h hA hal hak E4 E5 MF KY IW hD hdl hpr hnm (ZZ _) hR hRl y f qq X0 _ Qk PE rfl rfl rfl
 |false=>
  rw[if_neg Bool.false_ne_true] at hR hRl ⊢
  obtain⟨w',H3,ea,h3⟩:=K5 h (ZZ _) [112,97,116,104] lg
  have bs:=Fd [112,97,116,104] lg
  have b2:=Fa [112,97,116,104] lg
  simp only[t6,ep,bs,b2,ea,Ya,Ys,Up,ZD,ZM,Ys,Ya,ZD,ZM,D3,Zu,Ye,Z8,Z6,Vk]
  exact oI E hk h3 hA hal hak E4 E5 MF KY IW hD hdl hpr hnm (by show 1<=90;decide) hR hRl y f qq X0 _ Qk PE rfl rfl rfl
end
theorem hY{p:List UInt8}(h:(We p).1≠0):(p.getD 0 0).toNat≠47:=by
 intro h0
 rw[<-AQ] at h
 cases p with
 |nil=>cases h0
 |cons c s=>
  have hc:c.toNat=47:=h0
  have hs:YU (c::s)=[]::YU s:=by
   show(if c.toNat=47 then []::YU s else _)=_
   rw[if_pos hc]
  have hn:Z4 (c::s)=[]::YU s:=by
   unfold Z4
   rw[if_neg (by simp),hs]
  apply h
  unfold WP
  rw[if_neg (λe=>by
   have:=congrArg (λl:List UInt8=>(l.getD 0 0).toNat) e
   have h1:(wg.getD 0 0).toNat=46:=by decide
   have h2:((c::s).getD 0 0).toNat=47:=hc
   rw[e] at h2
   omega),if_neg (by rw[hn];simp)]
  rw[if_neg]
  rw[hn]
  have hne:=SH s
  obtain⟨a,l,hl⟩: ∃a l,YU s=a::l:=by
   cases hq:YU s with
   |nil=>exact absurd hq hne
   |cons a l=>exact⟨a,l,rfl⟩
  rw[hl]
  show ¬((([]:List UInt8)::a::l).take (l.length+1+1 - 1)).all YG=true
  rw[Wk,Y3,List.all_cons]
  simp[YG]
theorem Zb3{r:Nat}(hr:r<8589934592):qh r=RL (uw r):=by
 have lo: ∀(k u:Nat),(W7 k u++[0]).length=k+1:=λk u=>by rw[Zj,V0];rfl
 have hb:Nh 120=Xp (Xp (Xp QM 257 ([117,115,116,97,114]++[0])) 263 [48,48]) 156 [120]:=by
  unfold Nh
  rw[Uv (show [UInt8.ofNat 120].length=1 from rfl),Uv (show [(48:UInt8),48].length=2 from rfl)]
  rw[M8 (s:=[117,115,116,97,114]) (by decide) (by decide)]
  rw[Uv (by decide)];rfl
 have ht:Qg [112,97,120] 100=[112,97,120]++List.replicate 97 0:=M8 (s:=[112,97,120]) (by decide) (by decide)
 have htl:([112,97,120]++List.replicate 97 0:List UInt8).length=100:=by rw[Zj,ZH];rfl
 unfold qh uw
 rw[hb,ht,Lw (n:=8) (by decide) (by decide),Lw (n:=12) (by decide) (by decide),Lw (n:=12) (by decide) (by show r<8^11;exact hr)]
 simp only[Nat.reduceSub]
 rw[Uv htl,Uv (lo 7 0),Uv (lo 7 0),Uv (lo 7 0),Uv (lo 11 0),Uv (lo 11 r)]
 have B1:=((((((((jD.zero.set (a:=257) (w:=[117,115,116,97,114]++[0]) (by decide)).set (a:=263) (w:=[48,48]) (by decide)).set (a:=156) (w:=[120]) (by decide)).set (a:=0) (w:=[112,97,120]++List.replicate 97 0) (by rw[htl];decide)).set (a:=100) (w:=W7 7 0++[0]) (by rw[lo];decide)).set (a:=108) (w:=W7 7 0++[0]) (by rw[lo];decide)).set (a:=116) (w:=W7 7 0++[0]) (by rw[lo];decide)).set (a:=136) (w:=W7 11 0++[0]) (by rw[lo];decide)).set (a:=124) (w:=W7 11 r++[0]) (by rw[lo];decide)
 refine(uG B1.1).trans ?_
 congr 1
def iz(m:Mem):List UInt8:=RL (Zgj (Dt m.kind) (VR (W0 m.kind m.path)).1 (VR (W0 m.kind m.path)).2.1 m.link m.mode m.uid m.gid m.time m.data.length)
theorem FI{m:Mem}(h:YZ m=true):(We m.path).1≠0∧Dt m.kind≠0∧m.mode<=4095∧Pb m.attrs=true∧Se m.link (decide (m.kind=3))=true∧m.data.length<=16777216:=by
 unfold YZ at h
 simp only[Yw,T0,decide_eq_true_eq,decide_eq_false_iff_not] at h
 obtain⟨⟨⟨⟨⟨⟨h1,h2⟩,h3⟩,h4⟩,h5⟩,h6⟩,_⟩:=h
 exact⟨h1,h2,h3,h4,h5,h6⟩
theorem rA{m:Mem}(h:(We m.path).1≠0)(hl:100<(W0 m.kind m.path).length):((W0 m.kind m.path).getD 0 0).toNat≠47:=by
 have h1:=hY h
 unfold W0 at hl ⊢
 split at hl
 ·rename_i hk
  rw[if_pos hk]
  rw[Zj] at hl
  have hl:100<m.path.length+1:=hl
  rw[L5,if_pos (by omega)];exact h1
 ·rename_i hk
  rw[if_neg hk];exact h1
theorem iF{m:Mem}(h:(We m.path).1≠0):Q3 (W0 m.kind m.path)=VR (W0 m.kind m.path):=by
 by_cases hl:(W0 m.kind m.path).length<=100
 ·unfold Q3 VR
  rw[if_pos hl,if_pos hl]
 ·unfold Q3
  rw[if_neg hl]
  exact ct (by omega) (rA h (by omega))
theorem Zbg{m:Mem}(h:Se m.link (decide (m.kind=3))=true):NZ m.link:=by
 unfold Se at h
 split at h
 ·simp only[Yw,decide_eq_true_eq] at h
  exact T5.1 h.2
 ·have h:m.link=[]:=Zm h
  rw[h];exact NZ.nil
theorem Zag{m:Mem}(h:YZ m=true):ED m=iz m:=by
 obtain⟨h1,h2,h3,h4,h5,h6⟩:=FI h
 have hn:=Zb1 (Zbl (kd:=m.kind) (iq h1))
 have hp:=zJ (s:=W0 m.kind m.path)
 exact jP hn.1 hp.1 hn.2 hp.2 (Zbg h5) (by omega) (by omega)
theorem fA{m:Mem}(h:YZ m=true)(hr:(Sv (Tq m)).length<8589934592):R0 m=kA (iz m) (Tq m):=by
 unfold R0 kA
 rw[Zag h,Zb3 hr]
section
variable {Zn:Lib} {fs:T CF} {fuel k n i h b:Nat} {H H0:Heap} {s:List UInt8} {cs:List AV}
theorem Zjv{z:Int}(h:Dt z≠0)(G:Heap):Ma (.str [120,53,48,50,54]) (.int .i64 z) G=.val (nI .u8 (UInt8.ofNat (Dt z)).toNat) G:=by
 by_cases h1:z=1
 ·subst h1;rfl
 by_cases h2:z=2
 ·subst h2;rfl
 by_cases h3:z=3
 ·subst h3;rfl
 by_cases h4:z=4
 ·subst h4;rfl
 exact absurd (by unfold Dt;rw[if_neg h1,if_neg h2,if_neg h3,if_neg h4]) h
theorem AP(E:Env Zn fs fuel)(hk:6<=k){m:Mem}(hro:H.ro<=H.nx)(hC:QN H cs m)(h:Dv m)(hm:YZ m=true):
  ∃v H',ZE (LK Zn fs fuel k) fs fuel (n+3) 8 [.agg cs] H=.ret (.tup [v,nI .i64 0]) H'∧BV H' v (R0 m)∧Zs H H' []∧ ∀c∈XP v,H.nx<=c∧c<H'.nx:=by
 rw[ZI (ZA E.n8 (.inr rfl) _ _) E.f8]
 have hC0:=hC
 obtain⟨av,dv,rfl,hA,hD⟩:=hC
 obtain⟨p1,p2,p3,p4,p5,p6⟩:=FI hm
 have bx: ∀G:Heap,Ni 36 (.agg [.str m.path,.int .i64 m.kind,nI .u32 m.mode,nI .u32 m.uid,nI .u32 m.gid,.int .i64 m.time,av,dv,.str m.link]) G=.val (.ptr G.nx 0) (G.new (rH 36 [.str m.path,.int .i64 m.kind,nI .u32 m.mode,nI .u32 m.uid,nI .u32 m.gid,.int .i64 m.time,av,dv,.str m.link])):=λG=>XS (l:=[.str m.path,.int .i64 m.kind,nI .u32 m.mode,nI .u32 m.uid,nI .u32 m.gid,.int .i64 m.time,av,dv,.str m.link]) (show 1<=9 by decide) 36 G
 obtain⟨H1,hH1⟩:=Sa (H.new (rH 36 [.str m.path,.int .i64 m.kind,nI .u32 m.mode,nI .u32 m.uid,nI .u32 m.gid,.int .i64 m.time,av,dv,.str m.link]))
 have k1:Zs H H1 []:=by rw[<-hH1];exact Zs.new _ _ _
 have IY:H1.nx=H.nx+1:=by rw[<-hH1];rfl
 have MX:H1.ro<=H1.nx:=by rw[k1.ro];omega
 have g1:H1.t.get H.nx=some (rH 36 [.str m.path,.int .i64 m.kind,nI .u32 m.mode,nI .u32 m.uid,nI .u32 m.gid,.int .i64 m.time,av,dv,.str m.link]):=by rw[<-hH1];exact ZW rfl _
 have wm: ∀G,EW 9 (some (rH 36 [.str m.path,.int .i64 m.kind,nI .u32 m.mode,nI .u32 m.uid,nI .u32 m.gid,.int .i64 m.time,av,dv,.str m.link])) 0 G=.val (.agg [.str m.path,.int .i64 m.kind,nI .u32 m.mode,nI .u32 m.uid,nI .u32 m.gid,.int .i64 m.time,av,dv,.str m.link]) G:=λG=>Vr (show 0+9<=9 by decide) ..
 have ld8: ∀G,EW 8 (some (rH 36 [.str m.path,.int .i64 m.kind,nI .u32 m.mode,nI .u32 m.uid,nI .u32 m.gid,.int .i64 m.time,av,dv,.str m.link])) 1 G=.val (.agg [.int .i64 m.kind,nI .u32 m.mode,nI .u32 m.uid,nI .u32 m.gid,.int .i64 m.time,av,dv,.str m.link]) G:=λG=>Vr (show 1+8<=9 by decide) ..
 have em:=λ{j}=>Da E (k:=k) (n:=j) hk h.short (by have:=h.link;omega) MX (hC0.keep k1)
 rw[hm] at em
 obtain⟨H2,hH2⟩:=Sa (H1.new (rH 34 [.int .i64 m.kind,nI .u32 m.mode,nI .u32 m.uid,nI .u32 m.gid,.int .i64 m.time,av,dv,.str m.link]))
 have k12:Zs H1 H2 []:=by rw[<-hH2];exact Zs.new _ _ _
 have k2:Zs H H2 []:=k1.trans' k12
 have nx2:H2.nx=H1.nx+1:=by rw[<-hH2];rfl
 have au:H2.ro<=H2.nx:=by rw[k2.ro];omega
 have g2:H2.t.get H1.nx=some (rH 34 [.int .i64 m.kind,nI .u32 m.mode,nI .u32 m.uid,nI .u32 m.gid,.int .i64 m.time,av,dv,.str m.link]):=by rw[<-hH2];exact ZW rfl _
 have sf:=Tn (n:=8) (b:=H1.nx) (l:=[nI .i64 0,nI .u32 0,nI .u32 0,nI .u32 0,nI .i64 0,.nils,.nils,.str []]) (vs:=[.int .i64 m.kind,nI .u32 m.mode,nI .u32 m.uid,nI .u32 m.gid,.int .i64 m.time,av,dv,.str m.link]) (H:=H1.new (rH 34 [nI .i64 0,nI .u32 0,nI .u32 0,nI .u32 0,nI .i64 0,.nils,.nils,.str []])) rfl rfl (by decide) (by show H1.ro<=_;omega) 34 1 false true
 rw[Tm rfl,hH2] at sf
 have lk0: ∀G,ld1 (some (rH 34 [.int .i64 m.kind,nI .u32 m.mode,nI .u32 m.uid,nI .u32 m.gid,.int .i64 m.time,av,dv,.str m.link])) 0 G=.val (.int .i64 m.kind) G:=λG=>rfl
 have lp0: ∀G,ld1 (some (rH 36 [.str m.path,.int .i64 m.kind,nI .u32 m.mode,nI .u32 m.uid,nI .u32 m.gid,.int .i64 m.time,av,dv,.str m.link])) 0 G=.val (.str m.path) G:=λG=>rfl
 obtain⟨H3,hH3⟩:=Sa (H2.new (.row ⟨5,1,512,.leaf,nI .u8 0,0,false,true,true⟩))
 have k23:Zs H2 H3 []:=by rw[<-hH3];exact Zs.new _ _ _
 have nx3:H3.nx=H2.nx+1:=by rw[<-hH3];rfl
 have x3:HX H3 H2.nx QM:=by rw[<-hH3];exact nh au
 have m5:=ZdK H2
 have k3:=k2.trans' k23
 obtain⟨H4,e4,Hj,x4⟩:=Ln E (k:=k) (n:=n+1) (a:=257) (s:=[117,115,116,97,114]) x3 (by decide)
 obtain⟨H5,e5,EA,x5⟩:=Ln E (k:=k) (n:=n+1) (a:=263) (s:=[48,48]) x4 (by decide)
 have aq:Zs H3 H5 [H2.nx]:=Hj.trans EA λc hc _=>hc
 have ty:=Zjv p2
 obtain⟨r,gr,st,x6,_⟩:=x5.set (j:=156) (by decide) (UInt8.ofNat (Dt m.kind))
 rw[<-uJ (by rw[x5.len];decide)] at x6
 obtain⟨H6,hH6⟩:=Sa (H5.put H2.nx (.row (r.st 156 (Vd (UInt8.ofNat (Dt m.kind))))))
 rw[hH6] at st x6
 have CM:Zs H5 H6 [H2.nx]:=by rw[<-hH6];exact Zs.put λ_=>Zq.2 rfl
 have k36:Zs H3 H6 [H2.nx]:=aq.trans CM λc hc _=>hc
 have hx6:=k36.nx
 have k6:Zs H H6 []:=k3.trans k36 λc hc hlt=>by have:=Zq.1 hc;omega
 have gg: ∀{G:Heap},Zs H3 G [H2.nx]->G.t.get H.nx=some (rH 36 [.str m.path,.int .i64 m.kind,nI .u32 m.mode,nI .u32 m.uid,nI .u32 m.gid,.int .i64 m.time,av,dv,.str m.link])∧G.t.get H1.nx=some (rH 34 [.int .i64 m.kind,nI .u32 m.mode,nI .u32 m.uid,nI .u32 m.gid,.int .i64 m.time,av,dv,.str m.link]):=λkk=>
  ⟨by rw[kk.get _ (by omega) (λh=>by have:=Zq.1 h;omega),k23.get _ (by omega) (by simp),k12.get _ (by omega) (by simp)];exact g1,
   by rw[kk.get _ (by omega) (λh=>by have:=Zq.1 h;omega),k23.get _ (by omega) (by simp)];exact g2⟩
 have g24:=(gg aq).2
 have g16:=(gg k36).1
 have g26:=(gg k36).2
 have d6:DS H H1.nx H2.nx H3.nx m.link m.kind m.time m.mode m.uid m.gid av dv (Xp (Xp (Xp QM 257 [117,115,116,97,114]) 263 [48,48]) 156 [UInt8.ofNat (Dt m.kind)]) .nils [] H6:=
  ⟨k6,by rw[k6.ro];omega,g26,x6,.inl ⟨rfl,rfl⟩,by omega,by omega,by omega,hx6⟩
 have hlo:=CS m.kind m.path
 have hpa:=h.path
 have hpl:=zJ (s:=W0 m.kind m.path)
 obtain⟨ZiY,Znx⟩:=xR h p4
 have hat:=h.ats
 have hak: ∀x∈m.attrs,x.1.length<=90000:=λx hx=>by have:=h.attrs x hx;omega
 have hsz:(Sv (Tq m)).length<8589934592:=by
  have h1:=MR (l:=Tq m) λx hx=>(ZiY x hx).2
  omega
 have hout:=fA hm hsz
 have seg: ∀T:TM,Y4 T=.ptr H1.nx 0->YW T=.slice H2.nx 0 512 none->XI T=.str (W0 m.kind m.path)-> ∀(y f qq) (X0:X),∃tm' H',D3 ⟨ZE (LK Zn fs fuel k) fs fuel (n+2),y,f,fuel,qq⟩ T H6 X0=.ok .ret tm' H' X0∧Mz H (iz m) (Tq m) tm' H':=λT q4 q5 q6 y f qq X0=>
  Zcp E (k:=k) (n:=n) (by omega) d6 hA hat hak h.t1 h.t2 h.gid h.uid h.mode hD (by omega) (lg:=W0 m.kind m.path) (pr:=(VR (W0 m.kind m.path)).1) (nm:=(VR (W0 m.kind m.path)).2.1) (fits:=(VR (W0 m.kind m.path)).2.2) (by omega) (iF p1) hpl.1 hpl.2 ZiY (Z5 Znx (by decide)) y f qq X0 T q4 q5 q6
 have eqk: ∀G,N6 Vp false (.int .i64 m.kind) (nI .i64 1) G=.val (.bool (decide (m.kind=1))) G:=λG=>S1 _ _ _ _
 have ad:=λG=>VU (a:=m.path) (b:=[47]) (by show _+1<=_;omega) G
 by_cases h1:m.kind=1
 ·have d1:decide (m.kind=1)=true:=Ze h1
  have hlg:W0 m.kind m.path=m.path++[47]:=by unfold W0;rw[if_pos h1]
  simp(disch:=omega) only[bx,hH1,g1,wm,ld8,em,sf,m5,hH3,e4,e5,g24,lk0,ty,gr,st,g16,lp0,g26,eqk,ad,Wd,QG,d1,Zg,Zd,Xb,Zd,Zg,Zd,Zg,Xb,c8,Zu,Ye,Zw,Z8,Z6,Vk]
  generalize hS:D3 _ _ _ _=S
  obtain⟨tm',H',rfl,v,t2,t3,k7,bv7,hb7⟩:=K1 (P:=λT=>Y4 T=.ptr H1.nx 0∧YW T=.slice H2.nx 0 512 none∧XI T=.str (W0 m.kind m.path)) (Q:=λtm' H'=>Mz H (iz m) (Tq m) tm' H') (λT hT=>seg T hT.1 hT.2.1 hT.2.2 _ _ _ _) hS (by exact⟨rfl,rfl,by rw[hlg];rfl⟩)
  simp only[IN,Px] at t2 t3
  simp only[t2,t3,Zu,Zw,Z6]
  exact⟨_,_,rfl,by rw[hout];exact bv7,k7,hb7⟩
 ·have d1:decide (m.kind=1)=false:=Zb h1
  have hlg:W0 m.kind m.path=m.path:=by unfold W0;rw[if_neg h1]
  simp(disch:=omega) only[bx,hH1,g1,wm,ld8,em,sf,m5,hH3,e4,e5,g24,lk0,ty,gr,st,g16,lp0,g26,eqk,Wd,QG,d1,Zg,Zd,Xb,Zd,Zg,Zd,Zg,Xb,c8,Zu,Ye,Zw,Z8,Z6,Vk]
  generalize hS:D3 _ _ _ _=S
  obtain⟨tm',H',rfl,v,t2,t3,k7,bv7,hb7⟩:=K1 (P:=λT=>Y4 T=.ptr H1.nx 0∧YW T=.slice H2.nx 0 512 none∧XI T=.str (W0 m.kind m.path)) (Q:=λtm' H'=>Mz H (iz m) (Tq m) tm' H') (λT hT=>seg T hT.1 hT.2.1 hT.2.2 _ _ _ _) hS (by exact⟨rfl,rfl,by rw[hlg];rfl⟩)
  simp only[IN,Px] at t2 t3
  simp only[t2,t3,Zu,Zw,Z6]
  exact⟨_,_,rfl,by rw[hout];exact bv7,k7,hb7⟩
theorem iA(E:Env Zn fs fuel)(hk:6<=k){m:Mem}(hro:H.ro<=H.nx)(hC:QN H cs m)(h:Dv m)(hm:YZ m=false):
  ∃H',ZE (LK Zn fs fuel k) fs fuel (n+2) 8 [.agg cs] H=.ret (.tup [.nils,nI .i64 1]) H'∧Zs H H' []:=by
 rw[ZI (ZA E.n8 (.inr rfl) _ _) E.f8]
 have hC0:=hC
 obtain⟨av,dv,rfl,hA,hD⟩:=hC
 have bx: ∀G:Heap,Ni 36 (.agg [.str m.path,.int .i64 m.kind,nI .u32 m.mode,nI .u32 m.uid,nI .u32 m.gid,.int .i64 m.time,av,dv,.str m.link]) G=.val (.ptr G.nx 0) (G.new (rH 36 [.str m.path,.int .i64 m.kind,nI .u32 m.mode,nI .u32 m.uid,nI .u32 m.gid,.int .i64 m.time,av,dv,.str m.link])):=λG=>XS (l:=[.str m.path,.int .i64 m.kind,nI .u32 m.mode,nI .u32 m.uid,nI .u32 m.gid,.int .i64 m.time,av,dv,.str m.link]) (show 1<=9 by decide) 36 G
 obtain⟨H1,hH1⟩:=Sa (H.new (rH 36 [.str m.path,.int .i64 m.kind,nI .u32 m.mode,nI .u32 m.uid,nI .u32 m.gid,.int .i64 m.time,av,dv,.str m.link]))
 have k1:Zs H H1 []:=by rw[<-hH1];exact Zs.new _ _ _
 have IY:H1.nx=H.nx+1:=by rw[<-hH1];rfl
 have MX:H1.ro<=H1.nx:=by rw[k1.ro];omega
 have g1:H1.t.get H.nx=some (rH 36 [.str m.path,.int .i64 m.kind,nI .u32 m.mode,nI .u32 m.uid,nI .u32 m.gid,.int .i64 m.time,av,dv,.str m.link]):=by rw[<-hH1];exact ZW rfl _
 have wm: ∀G,EW 9 (some (rH 36 [.str m.path,.int .i64 m.kind,nI .u32 m.mode,nI .u32 m.uid,nI .u32 m.gid,.int .i64 m.time,av,dv,.str m.link])) 0 G=.val (.agg [.str m.path,.int .i64 m.kind,nI .u32 m.mode,nI .u32 m.uid,nI .u32 m.gid,.int .i64 m.time,av,dv,.str m.link]) G:=λG=>Vr (show 0+9<=9 by decide) ..
 have em:=λ{j}=>Da E (k:=k) (n:=j) hk h.short (by have:=h.link;omega) MX (hC0.keep k1)
 rw[hm] at em
 simp only[bx,hH1,g1,wm,em,Wd,c8,Zu,Ye,Zw,Z8,Z6]
 refine⟨_,rfl,?_⟩
 exact k1
theorem ay(E:Env Zn fs fuel)(hk:12<=k){m:Mem}(gH:Sd H)(hC:QN H cs m)(h:Dv m)(hm:YZ m=false):
  ∃H',ZE (LK Zn fs fuel k) fs fuel (n+2) 7 [.agg cs] H=.ret (.tup [.nils,nI .i64 1]) H'∧Zs H H' []:=by
 rw[ZI (ZA E.n7 (.inr rfl) _ _) E.f7]
 have hC0:=hC
 obtain⟨av,dv,rfl,hA,hD⟩:=hC
 have bx: ∀G:Heap,Ni 36 (.agg [.str m.path,.int .i64 m.kind,nI .u32 m.mode,nI .u32 m.uid,nI .u32 m.gid,.int .i64 m.time,av,dv,.str m.link]) G=.val (.ptr G.nx 0) (G.new (rH 36 [.str m.path,.int .i64 m.kind,nI .u32 m.mode,nI .u32 m.uid,nI .u32 m.gid,.int .i64 m.time,av,dv,.str m.link])):=λG=>XS (l:=[.str m.path,.int .i64 m.kind,nI .u32 m.mode,nI .u32 m.uid,nI .u32 m.gid,.int .i64 m.time,av,dv,.str m.link]) (show 1<=9 by decide) 36 G
 obtain⟨H1,hH1⟩:=Sa (H.new (rH 36 [.str m.path,.int .i64 m.kind,nI .u32 m.mode,nI .u32 m.uid,nI .u32 m.gid,.int .i64 m.time,av,dv,.str m.link]))
 have k1:Zs H H1 []:=by rw[<-hH1];exact Zs.new _ _ _
 have g1:H1.t.get H.nx=some (rH 36 [.str m.path,.int .i64 m.kind,nI .u32 m.mode,nI .u32 m.uid,nI .u32 m.gid,.int .i64 m.time,av,dv,.str m.link]):=by rw[<-hH1];exact ZW rfl _
 have wm: ∀G,EW 9 (some (rH 36 [.str m.path,.int .i64 m.kind,nI .u32 m.mode,nI .u32 m.uid,nI .u32 m.gid,.int .i64 m.time,av,dv,.str m.link])) 0 G=.val (.agg [.str m.path,.int .i64 m.kind,nI .u32 m.mode,nI .u32 m.uid,nI .u32 m.gid,.int .i64 m.time,av,dv,.str m.link]) G:=λG=>Vr (show 0+9<=9 by decide) ..
 have em:=λ{j}=>x9 E (k:=k) (n:=j) hk h.short (gH.keep0 k1).p (hC0.keep k1)
 rw[hm] at em
 simp only[bx,hH1,g1,wm,em,Wd,c7,Zu,Ye,Zw,Z8,Z6,]
 refine⟨_,rfl,?_⟩
 exact k1
end
end
end Go.AI
