/- Records, and a whole head: walked: proved without conditions but those that each names. -/
import Derived.Test.YtbmdhpdcgbgcnaaGreatDoorPD
set_option maxRecDepth 1000000
set_option maxHeartbeats 0
set_option linter.unusedVariables false
set_option linter.unusedSimpArgs false
namespace Go.AI
open Go
noncomputable section
section
variable {Zx:Lib} {fs:T CF} {fuel k n i h b:Nat} {H H0:Heap} {s:List UInt8} {cs:List AV}
def PF(k:List UInt8):Bool:=!decide (k=[])&&decide (k.length<=255)&&!MH [0,61,10] k
theorem jY(E:Env Zx fs fuel){a b:List UInt8}(hal:a.length<=90000)(hro:H.ro<=H.nx):
  ∃H',Z7 (LK Zx fs fuel 5) fs fuel (n+2) 34 [.agg [.str a,.str b]] H=.ret (.bool (PF a)) H'∧ZK H H' []:=by
 rw[Z1 (ZU E.n34 (.inl (by decide)) _ _) E.f34]
 have bx: ∀G:Heap,N2 71 (.agg [.str a,.str b]) G=.val (.ptr G.nx 0) (G.new (rH 71 [.str a,.str b])):=λG=>Vx (l:=[.str a,.str b]) (show 1<=2 by decide) 71 G
 have gz:=λ(G:Heap)=>YD (H:=G) rfl (rH 71 [.str a,.str b])
 have l0: ∀G,ld1 (some (rH 71 [.str a,.str b])) 0 G=.val (.str a) G:=λG=>rfl
 have ea: ∀{j},Z7 (LK Zx fs fuel 5) fs fuel (j+1) 54 [.str a,.str [0,61,10]] (H.new (rH 71 [.str a,.str b]))=.ret (.bool (MH [0,61,10] a)) (H.new (rH 71 [.str a,.str b])):=λ{j}=>mJ E (k:=5) (n:=j) (by decide) rj hal (by show H.ro<=H.nx+1;omega)
 by_cases h1:a=[]
 ·have d1:decide (a=[])=true:=Zi h1
  rw[show PF a=false by unfold PF;rw[d1];rfl]
  simp only[bx,gz,l0,d1,Us,Y7,Y7,Zd,Zd,ZN,Zd,c34,Z9,Xg,ZY,Xe]
  refine⟨_,rfl,?_⟩
  exact ZK.new _ _ _
 have d1:decide (a=[])=false:=Ze h1
 by_cases h2:a.length<=255
 ·have d2:decide (a.length<=255)=true:=Zi h2
  rw[show PF a=!MH [0,61,10] a by unfold PF;rw[d1,d2];rfl]
  cases ha:MH [0,61,10] a
  all_goals
   rw[ha] at ea
   simp only[bx,gz,l0,d1,d2,ea,Us,Y7,ZO,Y7,ZP,Zd,Zd,ZN,ZI,ZO,Zd,c34,Z9,Xg,ZY,Yu,Xe]
   refine⟨_,rfl,?_⟩
   exact ZK.new _ _ _
 ·have d2:decide (a.length<=255)=false:=Ze h2
  rw[show PF a=false by unfold PF;rw[d1,d2];rfl]
  simp only[bx,gz,l0,d1,d2,Us,Y7,ZO,Y7,ZP,Zd,Zd,ZI,ZO,Zd,c34,Z9,Xg,ZY,Xe]
  refine⟨_,rfl,?_⟩
  exact ZK.new _ _ _
theorem ZcD(E:Env Zx fs fuel)(hk:6<=k){a b:List UInt8}(hal:a.length<=90000)(hro:H.ro<=H.nx):
  Z7 (LK Zx fs fuel k) fs fuel (n+1) 34 [.agg [.str a,.str b]] H=.ret (.bool (PF a)) H:=by
 obtain⟨H',e,g⟩:=jY E (n:=898) (H:=H) hal hro
 exact Xc (r:=5) rfl rfl e g (rfl) hk
theorem oM(E:Env Zx fs fuel){a b:List UInt8}(hal:a.length<=90000)(hro:H.ro<=H.nx):
  ∃H',Z7 (LK Zx fs fuel 6) fs fuel (n+2) 33 [.agg [.str a,.str b]] H=.ret (.bool (!PF a)) H'∧ZK H H' []:=by
 rw[Z1 (ZU E.n33 (.inl (by decide)) _ _) E.f33]
 have bx: ∀G:Heap,N2 71 (.agg [.str a,.str b]) G=.val (.ptr G.nx 0) (G.new (rH 71 [.str a,.str b])):=λG=>Vx (l:=[.str a,.str b]) (show 1<=2 by decide) 71 G
 have gz:=λ(G:Heap)=>YD (H:=G) rfl (rH 71 [.str a,.str b])
 have aV: ∀G,zq 2 (some (rH 71 [.str a,.str b])) 0 G=.val (.agg [.str a,.str b]) G:=λG=>TJ (show 0+2<=2 by decide) ..
 have em:=λ{j}=>ZcD E (k:=6) (n:=j) (by decide) (a:=a) (b:=b) (H:=(H.new (rH 71 [.str a,.str b]))) hal (by show H.ro<=H.nx+1;omega)
 cases hm:PF a
 all_goals
  rw[hm] at em
  simp only[bx,gz,aV,em,Us,ZN,ZI,c33,Z9,Xg,ZY,Yu,Xe]
  refine⟨_,rfl,?_⟩
  exact ZK.new _ _ _
theorem Ze4(E:Env Zx fs fuel)(hk:7<=k){a b:List UInt8}(hal:a.length<=90000)(hro:H.ro<=H.nx):
  Z7 (LK Zx fs fuel k) fs fuel (n+1) 33 [.agg [.str a,.str b]] H=.ret (.bool (!PF a)) H:=by
 obtain⟨H',e,g⟩:=oM E (n:=898) (H:=H) hal hro
 exact Xc (r:=6) rfl rfl e g (rfl) hk
theorem Ziv(E:Env Zx fs fuel)(hk:4<=k){m:Nat}(g:QT H)(hro:H.ro<=H.nx)(hm:m<9223372036854775808):
  Z7 (LK Zx fs fuel k) fs fuel (n+3) 59 [nI .i64 m] H=.ret (.str (dec m)) H:=by
 rw[Z1 (ZU E.n59 (.inr rfl) _ _) E.f59]
 have e2: ∀{j},Z7 (LK Zx fs fuel k) fs fuel (j+2) 89 [nI .i64 m] H=.ret (.str (dec m)) H:=λ{j}=>by
  rw[Z1 (ZU E.n89 (.inr rfl) _ _) E.f89]
  have e1:Z7 (LK Zx fs fuel k) fs fuel (j+1) 88 [nI .i64 m,nI .i64 10] H=.ret (.str (dec m)) H:=by
   have:=lx E (k:=k) (n:=j) (by omega) (z:=.ofNat m) (H:=H) g hro (by show _<=(m:Int);omega) (by show(m:Int)<_;omega)
   rwa [EN] at this
  simp only[e1,c89,Z9,Xg,ZY,Xe]
 simp only[e2,c59,Z9,Xg,ZY,Xe]
theorem BT{a:Nat}(h:a<=b):Vy a<=Vy b:=RN (PG b) (Tu h (J6 b))
def DA(rest:Nat):Nat->Nat->Nat
 |0,x=>x
 |j+1,x=>if x=rest+Vy x then x else DA rest j (rest+Vy x)
theorem x5{rest x:Nat}(h:x=rest+Vy x): ∀j,DA rest j x=x
 |0=>rfl
 |j+1=>by unfold DA;rw[if_pos h]
def Dz(rest:Nat):Nat:=DA rest 20 (rest+1)
structure PSI(Hs:Heap)(rest:Nat)(m:Nat)(tm:TM)(H:Heap):Prop where
 h:H=Hs
 t3:V5 tm=nI .i64 rest
 x: ∃x j,XY tm=nI .i64 x∧x+m=rest+21∧m<=j+1∧Dz rest=DA rest j x∧x<=rest+Vy x
def PSQ(Hs:Heap)(rest:Nat)(o:Out)(tm:TM)(H:Heap):Prop:=o=.exit 0∧H=Hs∧XY tm=nI .i64 (Dz rest)∧Dz rest<=rest+21
theorem ba(E:Env Zx fs fuel)(hk:4<=k){Hs:Heap}{rest:Nat}(g:QT Hs)(hro:Hs.ro<=Hs.nx)(hr:rest<=1000000)(y f dd qq)(X0:X)(m:Nat)(tm:TM)(H:Heap)(hI:PSI Hs rest m tm H):
  ∃o tm' H',Et ⟨Z7 (LK Zx fs fuel k) fs fuel (n+3),y,f,dd,qq⟩ tm H X0=.ok o tm' H' X0∧((o=.normal∧ ∃k,k<m∧PSI Hs rest k tm' H')∨(o≠.normal∧PSQ Hs rest o tm' H')):=by
 obtain⟨rfl,t3,x,j,t4,hxm,hmj,hp,hx⟩:=hI
 have tJ:=t3;have Jp:=t4
 simp only[FC,PD] at t3 t4
 have nd:=RN (n:=x) (k:=20) (by decide) (by omega)
 have ei:=λ{j}=>Ziv E (k:=k) (n:=j) hk (m:=x) (H:=H) g hro (by omega)
 have dl:=Qw x
 have ad: ∀G,SG (nI .i64 rest) (nI .i64 (Vy x)) G=.val (nI .i64 (rest+Vy x)) G:=λG=>YB (by omega) G
 by_cases hq:x=rest+Vy x
 ·have d1:decide (x≠rest+Vy x)=false:=Ze λh=>h hq
  simp only[t3,t4,ei,dl,ad,d1,Y9,ZP,Et,Z9,Xg,Xe]
  refine⟨_,_,_,rfl,.inr ⟨by simp,rfl,rfl,?_,?_⟩⟩
  ·rw[hp,x5 hq];simp only[Xe,Xg];exact t4
  ·rw[hp,x5 hq];omega
 ·have d1:decide (x≠rest+Vy x)=true:=Zi hq
  simp only[t3,t4,ei,dl,ad,d1,Y9,ZP,Et,Z9,Xg,Xe]
  obtain⟨j',rfl⟩: ∃j',j=j'+1:=⟨j - 1,by omega⟩
  refine⟨_,_,_,rfl,.inl ⟨rfl,rest+21 - (rest+Vy x),by omega,rfl,tJ,rest+Vy x,j',rfl,by omega,by omega,?_,?_⟩⟩
  ·rw[hp]
   show(if x=rest+Vy x then x else DA rest j' (rest+Vy x))=_
   rw[if_neg hq]
  ·have:=BT hx;omega
theorem uZ{rest:Nat}(hr:rest<=1000000):Dz rest<=rest+21:=by
 have: ∀j x,x<=rest+21->DA rest j x<=rest+21:=by
  intro j
  induction j with
  |zero=>intro x h;exact h
  |succ j ih=>
   intro x h
   unfold DA
   split
   ·exact h
   ·refine ih _ ?_
    have:=RN (n:=x) (k:=20) (by decide) (by omega)
    omega
 exact this 20 (rest+1) (by omega)
theorem iO(E:Env Zx fs fuel)(hk:7<=k){a b:List UInt8}(g:QT H)(hro:H.ro<=H.nx)(hm:PF a=true)(ha:a.length<=90000)(hb:b.length<=90000):
  ∃H',Z7 (LK Zx fs fuel k) fs fuel (n+4) 35 [.agg [.str a,.str b]] H=.ret (nI .i64 (Dz (a.length+b.length+3))) H'∧ZK H H' []:=by
 rw[Z1 (ZU E.n35 (.inr rfl) _ _) E.f35]
 have bx: ∀G:Heap,N2 71 (.agg [.str a,.str b]) G=.val (.ptr G.nx 0) (G.new (rH 71 [.str a,.str b])):=λG=>Vx (l:=[.str a,.str b]) (show 1<=2 by decide) 71 G
 have gz:=λ(G:Heap)=>YD (H:=G) rfl (rH 71 [.str a,.str b])
 have l0: ∀G,ld1 (some (rH 71 [.str a,.str b])) 0 G=.val (.str a) G:=λG=>rfl
 have l1: ∀G,ld1 (some (rH 71 [.str a,.str b])) 1 G=.val (.str b) G:=λG=>rfl
 have aV: ∀G,zq 2 (some (rH 71 [.str a,.str b])) 0 G=.val (.agg [.str a,.str b]) G:=λG=>TJ (show 0+2<=2 by decide) ..
 have em:=λ{j}=>ZcD E (k:=k) (n:=j) (by omega) (a:=a) (b:=b) (H:=(H.new (rH 71 [.str a,.str b]))) ha (by show H.ro<=H.nx+1;omega)
 rw[hm] at em
 have k1:ZK H (H.new (rH 71 [.str a,.str b])) []:=ZK.new _ _ _
 have a1: ∀G,SG (nI .i64 a.length) (nI .i64 b.length) G=.val (nI .i64 (a.length+b.length)) G:=λG=>YB (by omega) G
 have a2: ∀G,SG (nI .i64 (a.length+b.length)) (nI .i64 3) G=.val (nI .i64 (a.length+b.length+3)) G:=λG=>YB (by omega) G
 have a3: ∀G,SG (nI .i64 (a.length+b.length+3)) (nI .i64 1) G=.val (nI .i64 (a.length+b.length+3+1)) G:=λG=>YB (by omega) G
 have hf:=E.big
 simp only[bx,gz,l0,l1,aV,em,a1,a2,a3,Us,ZP,Zd,Zb,Zb,Zd,Zb,Zd,c35,Z9,Xg,Yu,Xe]
 generalize hL:Ue (Et _) fuel _ _ _=LL
 obtain⟨o,Ny,H1,rfl,_,rfl,rfl,t4,_⟩:=XZ (P:=λT=>PSI (H.new (rH 71 [.str a,.str b])) (a.length+b.length+3) 20 T (H.new (rH 71 [.str a,.str b]))) (Q:=PSQ (H.new (rH 71 [.str a,.str b])) (a.length+b.length+3))
  (λT hi=>We (PSI (H.new (rH 71 [.str a,.str b])) (a.length+b.length+3)) (PSQ (H.new (rH 71 [.str a,.str b])) (a.length+b.length+3)) (λm tm H' h=>ba E (k:=k) (n:=n) (by omega) (g.keep k1 (by simp)) (by show H.ro<=H.nx+1;omega) (by omega) _ _ _ _ _ m tm H' h) fuel 20 T _ (by omega) hi) hL
  (by exact⟨rfl,rfl,_,20,rfl,by omega,by omega,rfl,by have:=PG (a.length+b.length+3+1);omega⟩)
 simp only[PD] at t4
 simp only[t4,Z9,Xg,ZY,Xe]
 refine⟨_,rfl,?_⟩
 exact k1
theorem nU(E:Env Zx fs fuel)(hk:4<=k){v:AV}{l:List UInt8}{lo m:Nat}(g:QT H)(h:GB H v l lo)(hlo:lo<=H.nx)(hro:H.ro<=H.nx)(hm:m<1000000000000000000)(hl:l.length<=100000000):
  ∃v' H',Z7 (LK Zx fs fuel k) fs fuel (n+4) 36 [v,nI .i64 m,nI .i64 10] H=.ret v' H'∧GB H' v' (l++dec m) lo∧ZK H H' (Wo v)∧(∀b∈Wo v',b∈Wo v∨H.nx<=b):=by
 have nd2:Vy m<=18:=RN (by decide) hm
 have dl:=Qw m
 have main: ∃v' H',Z7 (LK Zx fs fuel k) fs fuel (n+2) 90 [v,nI .u64 m,nI .i64 10] H=.ret v' H'∧GB H' v' (l++dec m) lo∧ZK H H' (Wo v)∧(∀b∈Wo v',b∈Wo v∨H.nx<=b):=by
  rw[Z1 (ZU E.n90 (.inr rfl) _ _) E.f90]
  by_cases h1:m<100
  ·have d1:decide (m<100)=true:=Zi h1
   have es:=λ{j}=>Zah E (k:=k) (n:=j) (by omega) (x:=m) (H:=H) h1
   have iv: ∀G,OY .i64 (nI .u64 m) G=.val (nI .i64 m) G:=λG=>UT (by omega) G
   obtain⟨v',H',e1,r⟩:=vX h hlo hro (dec m) (by omega)
   simp only[d1,es,iv,e1,ZV,Zu,YL,decide_true,ZV,Zu,c90,Z9,Xg,ZY,Xe]
   exact⟨_,_,rfl,r⟩
  ·have d1:decide (m<100)=false:=Ze h1
   obtain⟨H1,hH1⟩:=SK (H.new (.row ⟨172,1,24,.leaf,nI .u8 0,0,false,true,true⟩))
   have Kn:H1.nx=H.nx+1:=by rw[<-hH1];rfl
   have FF:H1.ro=H.ro:=by rw[<-hH1];rfl
   have k1:ZK H H1 []:=by rw[<-hH1];exact ZK.new H _ []
   have ga:H1.t.get H.nx=some (.row ⟨172,1,24,.leaf,nI .u8 0,0,false,true,true⟩):=by rw[<-hH1,YD rfl]
   have en:=λ{j}=>HI E (k:=k) (n:=j) (by omega) (H:=H1) (g.keep k1 (by simp)) (d:=m) (by omega) (by omega)
   obtain⟨R,ef,fb⟩:=vS E (k:=k) (n:=n) (H:=H1) (b:=H.nx) (zo:=0) (nd:=Vy m) (u:=m) (c:=some 24) ga (by omega) (by omega) rfl rfl rfl (by omega) (by omega) (J6 _)
   obtain⟨H2,hH2⟩:=SK (H1.put H.nx (.row R))
   rw[hH2] at ef
   have k2:ZK H H2 []:=by rw[<-hH2];exact k1.then_put (by omega)
   have hx2:=k2.nx
   have s1:=fb.size
   have src:=Src.row (H:=H2) (b:=H.nx) (o:=0) (c:=some 24) (r:=R) (l:=(dec m).map Vf) (by rw[<-hH2];exact Xv _ _ _) (by rw[ZW];omega) (λi hi=>by
    rw[ZW] at hi
    rw[Zb,fb.get,if_pos (by omega),zC hi];rfl)
   obtain⟨v',H',e0,gb',k3,bk⟩:=EQ (h.keep k2 (λ_ _=>by simp)) (by omega) (by rw[k2.ro];omega) (dec m) (by omega)
   have e1:TP 5 1 1 v (.slice H.nx 0 (Vy m) (some 24)) H2=.val v' H':=by
    rw[ZW,dl] at src
    rw[O6 (by decide) src,ZW];exact e0
   have sa: ∀G,OM 24 1 (.ptr H.nx 0) none (some (nI .i64 (Vy m))) G=.val (.slice H.nx 0 (Vy m) (some 24)) G:=λG=>Kg (by omega) (by decide) _ _ _ _
   simp only[d1,hH1,en,ef,sa,e1,ZV,Po,Zu,YL,decide_true,ZV,Zu,c90,Z9,Xg,ZY,Yu,Xe]
   exact⟨_,_,rfl,gb',k2.trans' k3,λb hb=>(bk b hb).imp id λh=>YR hx2 h⟩
 obtain⟨v',H',e1,r⟩:=main
 rw[Z1 (ZU E.n36 (.inr rfl) _ _) E.f36]
 have e2:Z7 (LK Zx fs fuel k) fs fuel (n+3) 60 [v,nI .i64 m,nI .i64 10] H=.ret v' H':=by
  rw[Z1 (ZU E.n60 (.inr rfl) _ _) E.f60]
  have d0:decide (m<0)=false:=Ze (TV _)
  have iv: ∀G,OY .u64 (nI .i64 m) G=.val (nI .u64 m) G:=λG=>Lk (by omega) G
  simp only[e1,d0,iv,Zu,Zu,c60,Z9,Xg,ZY,Xe]
 simp only[e2,c36,Z9,Xg,ZY,Xe]
 exact⟨_,_,rfl,r⟩
structure IRI(Hs:Heap)(v:AV)(l:List NP)(m:Nat)(tm:TM)(H:Heap):Prop where
 h:H=Hs
 t0:YX tm=v
 t1:Wj tm=.func 33 [] []
 t7:Wt tm=nI .i64 l.length
 i: ∃i,Wi tm=nI .i64 i∧i+m=l.length
def IRQ(Hs:Heap)(o:Out)(tm:TM)(H:Heap):Prop:=o=.exit 0∧H=Hs
theorem kA(E:Env Zx fs fuel)(hk:7<=k){v:AV}{l:List NP}{Hs:Heap}(hro:Hs.ro<=Hs.nx)(hN:Sl Hs 2 v (S2 l))(hm: ∀x∈l,PF x.1=true)(hal: ∀x∈l,x.1.length<=90000)(hl:l.length<=100000)(y f dd q)(X0:X)(m:Nat)(tm:TM)(H:Heap)(hI:IRI Hs v l m tm H):
  ∃o tm' H',Ev ⟨Z7 (LK Zx fs fuel k) fs fuel (n+1),y,f,dd,q⟩ tm H X0=.ok o tm' H' X0∧((o=.normal∧ ∃k,k<m∧IRI Hs v l k tm' H')∨(o≠.normal∧IRQ Hs o tm' H')):=by
 obtain⟨rfl,t0,t1,t7,i,t8,him⟩:=hI
 have t0':=t0;have t1':=t1;have CH:=t7
 simp only[Mc,E2,A9,qY] at t0 t1 t7 t8
 cases m with
 |zero=>
  have d1:decide (i<l.length)=false:=Ze (by omega)
  simp only[t7,t8,d1,Zu,Zu,Ev,Z9,Xg,Xe]
  refine⟨_,_,_,rfl,?_⟩
  exact .inr ⟨by simp,rfl,rfl⟩
 |succ m=>
  have d1:decide (i<l.length)=true:=Zi (by omega)
  have hi:i<l.length:=by omega
  obtain⟨bb,o,r,eI,hb,gb,eL,_⟩:=(show Sz H 2 v (S2 l) from .inr hN).at_ (i:=i) (by rw[Tg];exact hi)
  rw[Ka hi] at eL
  have hmm:l.getD i ([],[])∈l:=by rw[Zh,Zp hi];exact Wz hi
  have e1:=λ{j}=>Ze4 E (k:=k) (n:=j) hk (a:=(l.getD i ([],[])).1) (b:=(l.getD i ([],[])).2) (H:=H) (hal _ hmm) hro
  rw[hm _ hmm] at e1
  simp(disch:=omega) only[t0,t1,t7,t8,d1,eI,gb,eL,e1,Lw,ZX,Zn,Zo,Zu,YB,ZX,Zn,Zo,ZN,Zu,Ev,Z9,Xg,Xe]
  refine⟨_,_,_,rfl,?_⟩
  exact .inl ⟨rfl,m,by omega,rfl,t0',t1',CH,i+1,rfl,by omega⟩
theorem Zhz(E:Env Zx fs fuel)(hk:7<=k){v:AV}{l:List NP}(hro:H.ro<=H.nx)(hN:Sl H 2 v (S2 l))(hm: ∀x∈l,PF x.1=true)(hal: ∀x∈l,x.1.length<=90000)(hl:l.length<=1000):
  Z7 (LK Zx fs fuel k) fs fuel (n+3) 32 [v,.func 33 [] []] H=.ret (.bool false) H:=by
 rw[Z1 (ZU E.n32 (.inr rfl) _ _) E.f32]
 have e1:Z7 (LK Zx fs fuel k) fs fuel (n+2) 58 [v,.func 33 [] []] H=.ret (.int .i64 (.negSucc 0)) H:=by
  rw[Z1 (ZU E.n58 (.inr rfl) _ _) E.f58]
  have hf:=E.big
  have ln:=hN.len
  rw[Tg] at ln
  simp only[ln,c58,Z9,Xg,Xe]
  generalize hL:Ue (Ev _) fuel _ _ _=L
  obtain⟨o,Ny,H2,rfl,_,rfl,rfl⟩:=XZ (P:=λT=>IRI H v l l.length T H) (Q:=IRQ H)
   (λT hi=>We (IRI H v l) (IRQ H) (λm tm H2 h=>kA E hk hro hN hm hal (by omega) _ _ _ _ _ m tm H2 h) fuel l.length T H (by omega) hi) hL
   (by exact⟨rfl,rfl,rfl,rfl,0,rfl,by omega⟩)
  simp only[Z9,Xg,ZY,Xe]
 simp only[e1,YV,YV,c32,Z9,Xg,ZY,Xe]
def RF(x:NP):List UInt8:=dec (Dz (x.1.length+x.2.length+3))++[32]++x.1++[61]++x.2++[10]
def WP(l:List NP):List UInt8:=(l.map RF).flatten
theorem oI{x:NP}(h:x.1.length+x.2.length<=10000):(RF x).length<=10023:=by
 unfold RF
 have h1:=uZ (rest:=x.1.length+x.2.length+3) (by omega)
 have h2:=RN (n:=Dz (x.1.length+x.2.length+3)) (k:=20) (by decide) (by omega)
 simp only[Zk,Qw,Zl,ZH]
 omega
theorem Io{l:List NP}(h: ∀x∈l,x.1.length+x.2.length<=10000):(WP l).length<=l.length*10023:=by
 unfold WP
 induction l with
 |nil=>exact Zz _
 |cons a l ih=>
  rw[ZB,WD,Zk,Zl]
  have h1:=oI (h a (ZE ..))
  have h2:=ih λx hx=>h x (ZQ _ hx)
  omega
theorem oJ{l:List NP}(h:i<l.length):WP (l.take (i+1))=WP (l.take i)++RF (l.getD i ([],[])):=by
 unfold WP
 rw[Uj,Zh,Zp h,Wn,UQ]
 simp
structure PPI(Hs:Heap)(v:AV)(l:List NP)(m:Nat)(tm:TM)(H:Heap):Prop where
 k:ZK Hs H []
 t10:XD tm=v
 t11:XQ tm=nI .i64 l.length
 i: ∃i w,XS tm=nI .i64 i∧i+m=l.length∧XY tm=w∧GB H w (WP (l.take i)) Hs.nx
def PPQ(Hs:Heap)(l:List NP)(o:Out)(tm:TM)(H:Heap):Prop:=o=.exit 0∧ZK Hs H []∧ ∃w,XY tm=w∧GB H w (WP l) Hs.nx
theorem cZ(E:Env Zx fs fuel)(hk:7<=k){v:AV}{l:List NP}{Hs:Heap}(gH:TL Hs)(hN:Sl Hs 2 v (S2 l))(hm: ∀x∈l,PF x.1=true)(hal: ∀x∈l,x.1.length+x.2.length<=10000)(hl:l.length<=1000)(y f dd q)(X0:X)(m:Nat)(tm:TM)(H:Heap)(hI:PPI Hs v l m tm H):
  ∃o tm' H',Es ⟨Z7 (LK Zx fs fuel k) fs fuel (n+4),y,f,dd,q⟩ tm H X0=.ok o tm' H' X0∧((o=.normal∧ ∃k,k<m∧PPI Hs v l k tm' H')∨(o≠.normal∧PPQ Hs l o tm' H')):=by
 obtain⟨k0,t10,t11,i,w,t12,him,t4,gb⟩:=hI
 have np:=t10;have Zjc:=t11;have Jp:=t4
 simp only[PD,xh,lU,lV] at t4 t10 t11 t12
 cases m with
 |zero=>
  have d1:decide (i<l.length)=false:=Ze (by omega)
  simp only[t11,t12,d1,Zu,Zu,Es,Z9,Xg,Xe]
  rw[Y1 (by omega)] at gb
  refine⟨_,_,_,rfl,?_⟩
  exact .inr ⟨by simp,rfl,k0,w,Jp,gb⟩
 |succ m=>
  have d1:decide (i<l.length)=true:=Zi (by omega)
  have hi:i<l.length:=by omega
  obtain⟨bb,o,r,eI,hb,gbb,eL,_⟩:=(show Sz H 2 v (S2 l) from .inr (hN.keep0 k0)).at_ (i:=i) (by rw[Tg];exact hi)
  rw[Ka hi] at eL
  have hmm:l.getD i ([],[])∈l:=by rw[Zh,Zp hi];exact Wz hi
  have hpl:=Io (l:=l.take i) λx hx=>hal x (Ui hx)
  rw[Z2] at hpl
  have hpl:(WP (l.take i)).length<=1000*10023:=by
   omega
  have hpush:=oJ hi
  have hx1:=hal _ hmm
  have hx2:=hm _ hmm
  generalize l.getD i ([],[])=a at*
  have hx0:=k0.nx
  have gH0:=gH.keep0 k0
  have hro:=gH0.p.ro;have zb:=gH0.p.nx
  obtain⟨lw1,lw2⟩:=(⟨λn hn=>gb.low hn,gb.blk⟩:(∀n,H.nx<=n->WC n w=true)∧ ∀b∈Wo w,Hs.nx<=b∧b<H.nx)
  obtain⟨H1,hH1⟩:=SK (H.new (rH 71 [.str a.1,.str a.2]))
  have k01:ZK H H1 []:=by rw[<-hH1];exact ZK.new _ _ _
  have Kn:H1.nx=H.nx+1:=by rw[<-hH1];rfl
  have g1:H1.t.get H.nx=some (rH 71 [.str a.1,.str a.2]):=by rw[<-hH1];exact YD rfl _
  have sf:=SD (n:=2) (b:=H.nx) (l:=[.str [],.str []]) (vs:=[.str a.1,.str a.2]) (H:=H.new (rH 71 [.str [],.str []])) rfl rfl (by decide) hro 71 1 false true
  rw[SC rfl,hH1] at sf
  have aV: ∀G,zq 2 (some (rH 71 [.str a.1,.str a.2])) 0 G=.val (.agg [.str a.1,.str a.2]) G:=λG=>TJ (show 0+2<=2 by decide) ..
  have l0: ∀G,ld1 (some (rH 71 [.str a.1,.str a.2])) 0 G=.val (.str a.1) G:=λG=>rfl
  have l1: ∀G,ld1 (some (rH 71 [.str a.1,.str a.2])) 1 G=.val (.str a.2) G:=λG=>rfl
  have gH1:=gH0.keep0 k01
  obtain⟨H2,e2,k12⟩:=iO E (k:=k) (n:=n) hk (H:=H1) (a:=a.1) (b:=a.2) gH1.g gH1.p.ro hx2 (by omega) (by omega)
  have hps:=uZ (rest:=a.1.length+a.2.length+3) (by omega)
  generalize hpz:Dz (a.1.length+a.2.length+3)=z at*
  have gI:=gH1.keep0 k12
  have hx2':=k12.nx
  have qQ:=(gb.keep k01 (λ_ _=>by simp)).keep k12 (λ_ _=>by simp)
  have g2:H2.t.get H.nx=some (rH 71 [.str a.1,.str a.2]):=by rw[k12.get _ (by omega) (by simp)];exact g1
  have ln:=gb.len
  have ad: ∀G,SG (nI .i64 (WP (l.take i)).length) (nI .i64 z) G=.val (nI .i64 ((WP (l.take i)).length+z)) G:=λG=>YB (by omega) G
  have d2:decide (16777216<(WP (l.take i)).length+z)=false:=Ze (by omega)
  obtain⟨w3,H3,e3,A6,k23,bk3⟩:=nU E (k:=k) (n:=n) (by omega) (m:=z) gI.g qQ (by omega) gI.p.ro (by omega) (by omega)
  have hx3:=k23.nx
  have hdl:=Qw z
  have hdn:=RN (n:=z) (k:=20) (by decide) (by omega)
  have nb: ∀x∈Wo w,x≠H.nx:=λx hx=>by have:=(lw2 x hx).2;omega
  have g3:H3.t.get H.nx=some (rH 71 [.str a.1,.str a.2]):=by rw[k23.get _ (by omega) (λh=>nb _ h rfl)];exact g2
  have bV: ∀x∈Wo w3,x≠H.nx∧Hs.nx<=x:=λx hx=>by
   rcases bk3 x hx with h|h
   ·exact⟨nb x h,(lw2 x h).1⟩
   ·exact⟨by omega,by omega⟩
  have dR:=λn hn=>A6.low (n:=n) hn
  have lwa:=dR H3.nx (Zz _)
  have Zet:H3.ro<=H3.nx:=by rw[k23.ro];exact YR gI.p.ro hx3
  obtain⟨H4,Kz⟩:=SK (H3.new (rH 5 [nI .u8 32]))
  have zk:ZK H3 H4 []:=by rw[<-Kz];exact ZK.new _ _ _
  have nx4:H4.nx=H3.nx+1:=by rw[<-Kz];rfl
  have lwd:=dR H4.nx (by omega)
  have q4:H4.t.get H3.nx=some (rH 5 [nI .u8 32]):=by rw[<-Kz];exact YD rfl _
  have g4:H4.t.get H.nx=some (rH 71 [.str a.1,.str a.2]):=by rw[zk.get _ (by omega) (by simp)];exact g3
  obtain⟨H5,hH5⟩:=SK (H4.new (rH 5 [nI .u8 61]))
  have xq:ZK H4 H5 []:=by rw[<-hH5];exact ZK.new _ _ _
  have nx5:H5.nx=H4.nx+1:=by rw[<-hH5];rfl
  have lwe:=dR H5.nx (by omega)
  have q5:H5.t.get H4.nx=some (rH 5 [nI .u8 61]):=by rw[<-hH5];exact YD rfl _
  have gL:=zk.trans' xq
  have q45:H5.t.get H3.nx=some (rH 5 [nI .u8 32]):=by rw[xq.get _ (by omega) (by simp)];exact q4
  have g5:H5.t.get H.nx=some (rH 71 [.str a.1,.str a.2]):=by rw[gL.get _ (by omega) (by simp)];exact g3
  have ro5:H5.ro<=H5.nx:=by rw[gL.ro];omega
  have bvA:=Eo (H:=H5) (b:=H3.nx) (a:=0) (n:=1) (c:=none) (l:=[32]) q45 (by omega) (by decide) (by decide) (λk h=>by cases h)
  obtain⟨w6,H6,e6,gb6,yl,bk6⟩:=JO (A6.keep gL (λ_ _=>by simp)) bvA (by omega) ro5 (by rw[Zk];show _+1<=_;omega)
  have hx6:=yl.nx
  have g6:H6.t.get H.nx=some (rH 71 [.str a.1,.str a.2]):=by rw[yl.get _ (by omega) (λh=>(bV _ h).1 rfl)];exact g5
  have q6:H6.t.get H4.nx=some (rH 5 [nI .u8 61]):=by rw[yl.get _ (by omega) (λh=>by have:=(A6.blk _ h).2;omega)];exact q5
  have bw6: ∀x∈Wo w6,x≠H.nx∧Hs.nx<=x∧x≠H4.nx:=λx hx=>by
   rcases bk6 x hx with h|h
   ·exact⟨(bV x h).1,(bV x h).2,by have:=(A6.blk _ h).2;omega⟩
   ·exact⟨by omega,by omega,by omega⟩
  have ro6:H6.ro<=H6.nx:=by rw[yl.ro];omega
  obtain⟨w7,H7,e7,gb7,kC,bk7⟩:=vX gb6 (by omega) ro6 a.1 (by rw[Zk,Zk];show _+1+_<=_;omega)
  have hx7:=kC.nx
  have g7:H7.t.get H.nx=some (rH 71 [.str a.1,.str a.2]):=by rw[kC.get _ (by omega) (λh=>(bw6 _ h).1 rfl)];exact g6
  have q7:H7.t.get H4.nx=some (rH 5 [nI .u8 61]):=by rw[kC.get _ (by omega) (λh=>(bw6 _ h).2.2 rfl)];exact q6
  have bw7: ∀x∈Wo w7,x≠H.nx∧Hs.nx<=x:=λx hx=>by
   rcases bk7 x hx with h|h
   ·exact⟨(bw6 x h).1,(bw6 x h).2.1⟩
   ·exact⟨by omega,by omega⟩
  have ro7:H7.ro<=H7.nx:=by rw[kC.ro];omega
  have bvB:=Eo (H:=H7) (b:=H4.nx) (a:=0) (n:=1) (c:=none) (l:=[61]) q7 (by omega) (by decide) (by decide) (λk h=>by cases h)
  obtain⟨w8,H8,e8,gb8,dy,bk8⟩:=JO gb7 bvB (by omega) ro7 (by rw[Zk,Zk,Zk];show _+1+_+1<=_;omega)
  have hx8:=dy.nx
  have g8:H8.t.get H.nx=some (rH 71 [.str a.1,.str a.2]):=by rw[dy.get _ (by omega) (λh=>(bw7 _ h).1 rfl)];exact g7
  have bw8: ∀x∈Wo w8,x≠H.nx∧Hs.nx<=x:=λx hx=>by
   rcases bk8 x hx with h|h
   ·exact bw7 x h
   ·exact⟨by omega,by omega⟩
  have ro8:H8.ro<=H8.nx:=by rw[dy.ro];omega
  obtain⟨w9,H9,e9,gb9,dA,bk9⟩:=vX gb8 (by omega) ro8 a.2 (by rw[Zk,Zk,Zk,Zk];show _+1+_+1+_<=_;omega)
  have hx9:=dA.nx
  have bw9: ∀x∈Wo w9,Hs.nx<=x:=λx hx=>by
   rcases bk9 x hx with h|h
   ·exact(bw8 x h).2
   ·omega
  obtain⟨Ha,gJ⟩:=SK (H9.new (rH 5 [nI .u8 10]))
  have k9a:ZK H9 Ha []:=by rw[<-gJ];exact ZK.new _ _ _
  have nxa:Ha.nx=H9.nx+1:=by rw[<-gJ];rfl
  have roa:Ha.ro<=Ha.nx:=by rw[k9a.ro,dA.ro];omega
  have bvC:=Eo (H:=Ha) (b:=H9.nx) (a:=0) (n:=1) (c:=none) (l:=[10]) (by rw[<-gJ];exact YD rfl _) (by omega) (by decide) (by decide) (λk h=>by cases h)
  obtain⟨wb,Hb,eb,ZhQ,kab,bkb⟩:=JO (gb9.keep k9a (λ_ _=>by simp)) bvC (by omega) roa (by simp only[Zk];show _+1+_+1+_+1<=_;omega)
  have bs1: ∀(x:Nat) (G:Heap),TQ 5 1 1 [nI .u8 0] [(0,1,nI .u8 x)] G=.val (.slice G.nx 0 1 none) (G.new (rH 5 [nI .u8 x])):=λx G=>by rw[Gv _ _ _ rfl];rfl
  have kk:ZK Hs Hb []:=by
   refine(((((((k0.trans' (k01.trans' k12)).trans k23 ?_).trans' gL).trans yl ?_).trans kC ?_).trans dy ?_).trans dA ?_).trans' k9a|>.trans kab ?_
   ·intro c hc hlt;have:=(lw2 c hc).1;omega
   ·intro c hc hlt;have:=(bV c hc).2;omega
   ·intro c hc hlt;have:=(bw6 c hc).2.1;omega
   ·intro c hc hlt;have:=(bw7 c hc).2;omega
   ·intro c hc hlt;have:=(bw8 c hc).2;omega
   ·intro c hc hlt;have:=bw9 c hc;omega
  simp(disch:=first|assumption|omega|(simp -implicitDefEqProofs only[Xh,Xi]<;>first|assumption|omega)|decide) only[t4,t10,t11,t12,d1,eI,gbb,eL,sf,g1,aV,l0,l1,e2,ln,ad,d2,e3,bs1,Kz,hH5,g4,g5,e6,g6,e7,e8,g8,e9,gJ,eb,lwa,ZV,ZZ,ZB,ZG,Zu,ZM,YB,decide_true,decide_false,Zd,Zb,Zb,Zd,ZJ,ZZ,ZV,ZB,ZG,Zu,ZM,Zb,Zd,ZJ,Es,Z9,Xg,ZY,Yu,Z3,Z6,Yf,Nat.reducePow,Nat.reduceDiv,Nat.reduceMod,reduceCtorEq,Xe,U4]
  refine⟨_,_,_,rfl,.inl ⟨rfl,m,by omega,kk,np,Zjc,i+1,wb,rfl,by omega,rfl,?_⟩⟩
  rw[hpush]
  have:RF a=dec z++[32]++a.1++[61]++a.2++[10]:=by unfold RF;rw[hpz]
  rw[this]
  simpa only[Xd,ZC,Zt,ZF] using ZhQ
theorem uV(E:Env Zx fs fuel)(hk:7<=k){v:AV}{l:List NP}(gH:TL H)(hN:Sl H 2 v (S2 l))(hm: ∀x∈l,PF x.1=true)(hal: ∀x∈l,x.1.length+x.2.length<=10000)(hl:l.length<=1000):
  ∃w H',Z7 (LK Zx fs fuel k) fs fuel (n+5) 16 [v] H=.ret (.tup [w,nI .i64 0]) H'∧GB H' w (WP l) H.nx∧ZK H H' []:=by
 rw[Z1 (ZU E.n16 (.inr rfl) _ _) E.f16]
 have hf:=E.big
 have ec:=λ{j}=>Zhz E (k:=k) (n:=j) hk (H:=H) gH.p.ro hN hm (λx hx=>by have:=hal x hx;omega) hl
 have ln:=hN.len
 rw[Tg] at ln
 simp only[ec,ln,c16,Z9,Xg,Xe]
 generalize hL:Ue (Es _) fuel _ _ _=L
 obtain⟨o,Ny,H2,rfl,_,rfl,k2,w,t4,gb⟩:=XZ (P:=λT=>PPI H v l l.length T H) (Q:=PPQ H l)
  (λT hi=>We (PPI H v l) (PPQ H l) (λm tm H2 h=>cZ E (n:=n) hk gH hN hm hal hl _ _ _ _ _ m tm H2 h) fuel l.length T H (by omega) hi) hL
  (by exact⟨ZK.refl _ _,rfl,rfl,0,.nils,rfl,by omega,rfl,by rw[ZF];exact .inl ⟨rfl,rfl⟩⟩)
 simp only[PD] at t4
 simp only[t4,Z9,Xg,ZY,Xe,U4]
 refine⟨_,_,rfl,?_⟩
 exact⟨gb,k2⟩
def UM(n:Nat):Nat:=(512 - n % 512) % 512
theorem cR(h0:0<n)(h:n<=16777216)(H:Heap):Ks Ro (.int .i64 (.negSucc (n - 1))) (nI .i64 511) H=.val (nI .i64 (UM n)) H:=by
 show Yb (PR .i64 .i64) (Ts .i64 (.ofNat (Ro (UC .i64) (UK (UC .i64) (.negSucc (n - 1))) (UK (UC .i64) (.ofNat 511)))) H)=_
 have hx:Ro (UC .i64) (UK (UC .i64) (.negSucc (n - 1))) (UK (UC .i64) (.ofNat 511))=UM n:=by
  show Nat.land (18446744073709551616 - 1 - (n - 1) % 18446744073709551616) 511=_
  rw[YH (by omega)]
  have:=Nat.and_two_pow_sub_one_eq_mod (18446744073709551616 - 1 - (n - 1)) 9
  have e:Nat.land (18446744073709551616 - 1 - (n - 1)) 511=(18446744073709551616 - 1 - (n - 1)) % 512:=this
  rw[e]
  unfold UM
  omega
 have hl:UM n<512:=X7 _ (by decide)
 rw[Wb,Vb,hx]
 show OR.val (.int .i64 (IntKind.wrap .i64 ((UM n:Nat):Int))) H=_
 rw[AF (by omega) (by omega)];rfl
theorem jU(H:Heap):Ks Ro (nI .i64 0) (nI .i64 511) H=.val (nI .i64 0) H:=rfl
theorem gu(E:Env Zx fs fuel){m:Nat}(hm:m<=16777216):
  ∃H',Z7 (LK Zx fs fuel 0) fs fuel (n+2) 12 [nI .i64 m] H=.ret (nI .i64 (UM m)) H'∧ZK H H' []:=by
 rw[Z1 (ZU E.n12 (.inl (by decide)) _ _) E.f12]
 by_cases h0:m=0
 ·subst h0
  have d1:decide (0<0)=false:=rfl
  rw[show UM 0=0 from rfl]
  simp only[zF,jU,Do,NR,Zu,ZT,decide_false,Zu,c12,Z9,Xg,ZY,Xe]
  refine⟨_,rfl,?_⟩
  exact ZK.refl _ _
 ·have d1:decide (m<0)=false:=Ze (by omega)
  have e1:=λG=>jh (u:=m) (by omega) (by omega) G
  have e2:=λG=>cR (n:=m) (by omega) hm G
  simp only[d1,e1,e2,Do,NR,Zu,Zu,c12,Z9,Xg,ZY,Xe]
  refine⟨_,rfl,?_⟩
  exact ZK.refl _ _
theorem ZcV(E:Env Zx fs fuel)(hk:1<=k){m:Nat}(hm:m<=16777216):
  Z7 (LK Zx fs fuel k) fs fuel (n+1) 12 [nI .i64 m] H=.ret (nI .i64 (UM m)) H:=by
 obtain⟨H',e,g⟩:=gu E (n:=898) (H:=H) hm
 exact Xc (r:=0) rfl rfl e g (rfl) hk
structure Cb(H:Heap)(b N:Nat)(l:List UInt8):Prop where
 row: ∃r,H.t.get b=some (.row r)∧r.size=N∧r.own=true∧r.fz=0∧r.sz=1∧ ∀i,i<l.length->r.get i=Vf (l.getD i 0)
 lt:b<H.nx
 ro:H.ro<=b
theorem Cb.keep{H H':Heap}{N:Nat}{l:List UInt8}{S:List Nat}(h:Cb H b N l)(k:ZK H H' S)(hS:b∉S):Cb H' b N l:=by
 obtain⟨⟨r,h1,h2⟩,h3,h4⟩:=h
 exact⟨⟨r,by rw[k.get b h3 hS];exact h1,h2⟩,Yk h3 k.nx,by rw[k.ro];exact h4⟩
theorem Zba{N:Nat}{l m:List UInt8}(h:Cb H b N l)(hN:l.length+m.length<=N):
  ∃H',PS (.slice b 0 l.length none) 5 1 1 H m.length (m.map Vf)=.val (.slice b 0 (l.length+m.length) none) H'∧Cb H' b N (l++m)∧ZK H H' [b]:=by
 obtain⟨⟨r,h1,h2,h3,h4,h5,h6⟩,h7,h8⟩:=h
 have hrow: ∀k:Row->OR,XA H b k=k r:=λk=>by unfold XA;rw[h1]
 have hcap:VO r 0 none=N:=by
  show cond (Nat.beq r.sz 1) (r.size - 0) (Nat.div (r.size - 0) r.sz)=_
  rw[h5,h2];rfl
 have hsz:MU r 1 none=true:=by show Nat.beq r.sz 1=true;rw[h5];rfl
 have Pe:H.may r b=true:=by unfold Heap.may;rw[h3,Zj h8];rfl
 have e0: ∀(n:Nat) (new:List AV),l.length+n<=N->PS (.slice b 0 l.length none) 5 1 1 H n new=Kq H (.slice b 0 l.length none) b 0 l.length n 1 none r new:=λn new hn=>by
  show XA H b (λr=>Yb (MU r 1 none) (cond (Nat.ble (Nat.add l.length n) (VO r 0 none)) (Kq H (.slice b 0 l.length none) b 0 l.length n 1 none r new) (Ow H 5 b 0 l.length n 1 1 none r new)))=_
  rw[hrow,hsz,hcap,show Nat.ble (Nat.add l.length n) N=true from Zj hn];rfl
 rw[e0 _ _ hN]
 by_cases h0:m=[]
 ·subst h0
  exact⟨H,rfl,⟨⟨r,h1,h2,h3,h4,h5,by rw[Zo];exact h6⟩,h7,h8⟩,ZK.refl _ _⟩
 ·have hp:0<m.length:=by rcases m with _|_;exact absurd rfl h0;exact Qr _
  refine⟨H.put b (.row (r.setCells (WO r.cells (0+l.length*1) (m.map Vf)))),?_,⟨⟨_,Xv _ _ _,h2,h3,h4,h5,λi hi=>?_⟩,h7,h8⟩,ZK.put λ_=>Zv.2 rfl⟩
  ·show cond (Nat.beq m.length 0) _ (Yb (H.may r b) (Yb (Nat.ble (0+(l.length+m.length)*1) r.size) (Yb (Nat.ble r.fz (0+l.length*1)) (.val (.slice b 0 (l.length+m.length) none) _))))=_
   rw[YZ,Ze (by omega),Pe,h2,h4,Zj (by omega),Zj (ZA _)];rfl
  ·rw[Zk] at hi
   rw[Row.get_eq]
   show((WO r.cells (0+l.length*1) (m.map Vf)).get i).getD r.dflt=_
   rw[XM,Zb,Qa,ZW]
   by_cases hA:i<l.length
   ·rw[if_neg (by omega)]
    have:=h6 i hA
    rw[Row.get_eq] at this
    rw[this,Zh,Zh,YN hA]
   ·rw[if_pos (by omega),Xb,Zp (by omega),Zh,YY (by omega),Zp (by omega)];rfl
theorem sB{N:Nat}{l m:List UInt8}{v:AV}(h:Cb H b N l)(hv:BV H v m)(hN:l.length+m.length<=N):
  ∃H',TP 5 1 1 (.slice b 0 l.length none) v H=.val (.slice b 0 (l.length+m.length) none) H'∧Cb H' b N (l++m)∧ZK H H' [b]:=by
 obtain⟨H',e,r⟩:=Zba h hN
 refine⟨H',?_,r⟩
 rw[O6 (by decide) hv.src,ZW];exact e
theorem Cb.bv{N:Nat}{l:List UInt8}(h:Cb H b N l)(hl:l.length=N)(h0:0<N):BV H (.slice b 0 N none) l:=by
 obtain⟨⟨r,h1,h2,h3,h4,h5,h6⟩,h7,h8⟩:=h
 exact .inr ⟨λh=>by rw[h] at hl;have:0=N:=hl;omega,b,0,none,r,by rw[hl],⟨h1,h5,by omega,λi hi=>by rw[Zb];exact h6 i hi,λk hk=>by cases hk⟩,h7⟩
def ZdF(a:AV)(H:Heap):OR:=uH (λ_=>a) NZ H
theorem ci(x:YF)(tm:TM)(H:Heap):uH x tm H=ZdF (x tm) H:=rfl
theorem lK(E:Env Zx fs fuel){N:Nat}(hro:H.ro<=H.nx)(h0:0<N)(hN:N<=140737488355328):
  ∃H',Z7 (LK Zx fs fuel k) fs fuel (n+1) 42 [.nils,nI .i64 N] H=.ret (.slice H.nx 0 0 none) H'∧Cb H' H.nx N []∧ZK H H' []:=by
 rw[Z1 (ZU E.n42 (.inr rfl) _ _) E.f42]
 have c0: ∀G:Heap,ZdF .nils G=.val (nI .i64 0) G:=λG=>rfl
 have s0: ∀G:Heap,O3 (nI .i64 0) (nI .i64 0) G=.val (nI .i64 0) G:=λG=>rfl
 have s1: ∀G:Heap,O3 (nI .i64 N) (nI .i64 0) G=.val (nI .i64 N) G:=λG=>by rw[YQ (by omega) (by omega),Qq]
 have d0:decide (N<0)=false:=Ze (by omega)
 have d1:decide (0<N)=true:=Zi h0
 have sn: ∀G:Heap,Th 1 .nils none (some (nI .i64 0)) G=.val .nils G:=λG=>rfl
 have hrep:(List.replicate N (0:UInt8)).length=N:=Z5 ..
 have ea:ZaN 5 1 1 [nI .u8 0] .nils (nI .i64 N) H=.val (.slice H.nx 0 N none) (H.new (rG 5 1 ((List.replicate N (0:UInt8)).map Vf) 0 false true false)):=by
  show Yb (Nat.ble (N*1) 140737488355328) (PS .nils 5 1 1 H N (List.replicate N [nI .u8 0]).flatten)=_
  rw[XM,Zj hN,z4]
  have:=yu (e:=5) (H:=H) (l:=(List.replicate N (0:UInt8)).map Vf) (by rw[ZW,hrep];exact h0) (by rw[ZW,hrep];exact hN)
  rw[ZW,hrep] at this
  show PS .nils 5 1 1 H N ((List.replicate N (0:UInt8)).map Vf)=_
  rw[this,Yw]
 have hs:Xa ((List.replicate N (0:UInt8)).map Vf)=N:=by rw[Y6,ZW,hrep]
 have sl:Th 1 (.slice H.nx 0 N none) none (some (nI .i64 0)) (H.new (rG 5 1 ((List.replicate N (0:UInt8)).map Vf) 0 false true false))=.val (.slice H.nx 0 0 none) (H.new (rG 5 1 ((List.replicate N (0:UInt8)).map Vf) 0 false true false)):=by
  show XA _ H.nx _=_
  unfold XA
  rw[YD rfl]
  show Yb true (Yb (Nat.ble 0 (Xa ((List.replicate N (0:UInt8)).map Vf) - 0)) (Yb (Nat.ble 0 0) (Yb (Nat.ble 0 (Xa ((List.replicate N (0:UInt8)).map Vf) - 0)) (cond (Nat.beq 0 (Xa ((List.replicate N (0:UInt8)).map Vf) - 0)) _ (.val (.slice H.nx (0+0*1) (0 - 0) none) _)))))=_
  rw[hs,Qq,Zj (ZA _),YZ,Ze (by omega)];rfl
 simp only[c0,s0,s1,d0,d1,sn,ea,sl,ci,SZ,XI,Wy,Zu,ZM,Zu,ZM,Yp,c42,Z9,Xg,ZY,Xe]
 refine⟨_,rfl,⟨⟨_,YD rfl _,hs,rfl,rfl,rfl,λi hi=>by cases hi⟩,YP _,hro⟩,ZK.new _ _ _⟩
theorem mH(E:Env Zx fs fuel){sb e:Nat}{s1 s2 s3 s4:AV}{l1 l2 l3 l4:List UInt8}(hro:H.ro<=H.nx)(hb:sb<H.nx)(g:H.t.get sb=some (rG e 1 [s1,s2,s3,s4] 0 false true true))(b1:BV H s1 l1)(b2:BV H s2 l2)(b3:BV H s3 l3)(b4:BV H s4 l4)
  (f1: ∀b∈Wo s1,b<H.nx)(f2: ∀b∈Wo s2,b<H.nx)(f3: ∀b∈Wo s3,b<H.nx)(f4: ∀b∈Wo s4,b<H.nx)(h0:0<l1.length)(hl:l1.length+l2.length+l3.length+l4.length<=1000000000):
  ∃b H',Z7 (LK Zx fs fuel k) fs fuel (n+2) 21 [.slice sb 0 4 none] H=.ret (.slice b 0 (l1.length+l2.length+l3.length+l4.length) none) H'∧BV H' (.slice b 0 (l1.length+l2.length+l3.length+l4.length) none) (l1++l2++l3++l4)∧ZK H H' []∧H.nx<=b∧b<H'.nx:=by
 rw[Z1 (ZU E.n21 (.inr rfl) _ _) E.f21]
 have hf:=E.big
 obtain⟨fu,rfl⟩: ∃fu,fuel=fu+5:=⟨fuel - 5,by omega⟩
 have ix: ∀i,i<4-> ∀G,KA 1 (.slice sb 0 4 none) (nI .i64 i) G=.val (.ptr sb i) G:=λi hi G=>by rw[Z0 hi,Zb]
 have ix0:=ix 0 (by decide);have ix1:=ix 1 (by decide);have ix2:=ix 2 (by decide);have ix3:=ix 3 (by decide)
 have ld0: ∀G,ld1 (some (rG e 1 [s1,s2,s3,s4] 0 false true true)) 0 G=.val s1 G:=λG=>Un (show 0<4 by decide) ..
 have ld1': ∀G,ld1 (some (rG e 1 [s1,s2,s3,s4] 0 false true true)) 1 G=.val s2 G:=λG=>Un (show 1<4 by decide) ..
 have ZiK: ∀G,ld1 (some (rG e 1 [s1,s2,s3,s4] 0 false true true)) 2 G=.val s3 G:=λG=>Un (show 2<4 by decide) ..
 have Zb5: ∀G,ld1 (some (rG e 1 [s1,s2,s3,s4] 0 false true true)) 3 G=.val s4 G:=λG=>Un (show 3<4 by decide) ..
 have n1:=b1.len;have n2:=b2.len;have n3:=b3.len;have n4:=b4.len
 have a1: ∀G,SG (nI .i64 0) (nI .i64 l1.length) G=.val (nI .i64 l1.length) G:=λG=>by rw[YB (by omega),Zb]
 have a2: ∀G,SG (nI .i64 l1.length) (nI .i64 l2.length) G=.val (nI .i64 (l1.length+l2.length)) G:=λG=>YB (by omega) G
 have a3: ∀G,SG (nI .i64 (l1.length+l2.length)) (nI .i64 l3.length) G=.val (nI .i64 (l1.length+l2.length+l3.length)) G:=λG=>YB (by omega) G
 have a4: ∀G,SG (nI .i64 (l1.length+l2.length+l3.length)) (nI .i64 l4.length) G=.val (nI .i64 (l1.length+l2.length+l3.length+l4.length)) G:=λG=>YB (by omega) G
 have dz: ∀x:Nat,decide (x<0)=false:=λx=>Ze (TV _)
 have p0: ∀G,Tl Wd Xl (nI .i64 0) (nI .i64 4) G=.val (.bool true) G:=λ_=>rfl
 have p1: ∀G,Tl Wd Xl (nI .i64 1) (nI .i64 4) G=.val (.bool true) G:=λ_=>rfl
 have p2: ∀G,Tl Wd Xl (nI .i64 2) (nI .i64 4) G=.val (.bool true) G:=λ_=>rfl
 have p3: ∀G,Tl Wd Xl (nI .i64 3) (nI .i64 4) G=.val (.bool true) G:=λ_=>rfl
 have p4: ∀G,Tl Wd Xl (nI .i64 4) (nI .i64 4) G=.val (.bool false) G:=λ_=>rfl
 have q0: ∀G,SG (nI .i64 0) (nI .i64 1) G=.val (nI .i64 1) G:=λ_=>rfl
 have q1: ∀G,SG (nI .i64 1) (nI .i64 1) G=.val (nI .i64 2) G:=λ_=>rfl
 have q2: ∀G,SG (nI .i64 2) (nI .i64 1) G=.val (nI .i64 3) G:=λ_=>rfl
 have q3: ∀G,SG (nI .i64 3) (nI .i64 1) G=.val (nI .i64 4) G:=λ_=>rfl
 obtain⟨H1,eg,cb,k1⟩:=lK E (k:=k) (n:=n) (H:=H) (N:=l1.length+l2.length+l3.length+l4.length) hro (by omega) (by omega)
 have mv: ∀{G:Heap} {s:AV} {l:List UInt8},BV H s l->(∀b∈Wo s,b<H.nx)->(∃S,ZK H G S∧ ∀x∈S,x=H.nx)->BV G s l:=λhb hf ⟨S,kk,hS⟩=>hb.keep kk λb o n c hh hm=>by
  subst hh
  have:=hf b (by simp[Wo])
  have:=hS b hm
  omega
 obtain⟨H2,e2,cb2,k2⟩:=sB cb (mv b1 f1 ⟨[],k1,λx hx=>by cases hx⟩) (by show 0+_<=_;omega)
 have kk2:ZK H H2 [H.nx]:=(k1.more).trans k2 λc hc _=>hc
 rw[Zn] at cb2
 rw[show([]:List UInt8).length=0 from rfl,Zb] at e2
 obtain⟨H3,e3,cb3,k3⟩:=sB cb2 (mv b2 f2 ⟨_,kk2,λx hx=>Zv.1 hx⟩) (by omega)
 have kk3:ZK H H3 [H.nx]:=kk2.trans k3 λc hc _=>hc
 obtain⟨H4,e4,cb4,k4⟩:=sB cb3 (mv b3 f3 ⟨_,kk3,λx hx=>Zv.1 hx⟩) (by rw[Zk];omega)
 have kk4:ZK H H4 [H.nx]:=kk3.trans k4 λc hc _=>hc
 rw[Zk] at e4
 obtain⟨H5,e5,cb5,k5⟩:=sB cb4 (mv b4 f4 ⟨_,kk4,λx hx=>Zv.1 hx⟩) (by rw[Zk,Zk];omega)
 have kk5:ZK H H5 [H.nx]:=kk4.trans k5 λc hc _=>hc
 rw[Zk,Zk] at e5
 have gk: ∀{G S},ZK H G S->(∀x∈S,x=H.nx)->G.t.get sb=some (rG e 1 [s1,s2,s3,s4] 0 false true true):=λkk hS=>by
  rw[kk.get sb hb λh=>by have:=hS _ h;omega];exact g
 have g1:=gk k1 λx hx=>by cases hx
 have g2:=gk kk2 λx hx=>Zv.1 hx
 have g3:=gk kk3 λx hx=>Zv.1 hx
 have g4:=gk kk4 λx hx=>Zv.1 hx
 simp only[ix0,ix1,ix2,ix3,g,g1,g2,g3,g4,ld0,ld1',ZiK,Zb5,n1,n2,n3,n4,a1,a2,a3,a4,dz,p0,p1,p2,p3,p4,q0,q1,q2,q3,eg,e2,e3,e4,e5,Pk,ZV,SU,Zu,c21,mj,mp,Z9,Xg,ZY,Xe,U4]
 refine⟨H.nx,_,rfl,cb5.bv ?_ (by omega),?_,Zz _,cb5.lt⟩
 ·simp only[Zk]
 ·exact⟨kk5.nx,kk5.ro,λc hc _=>kk5.get c hc λh=>by have:=Zv.1 h;omega⟩
structure Cd(m:Mem):Prop where
 path:m.path.length<=4200
 link:m.link.length<=4200
 attrs: ∀x∈m.attrs,x.1.length+x.2.length<=9000
 mode:m.mode<4294967296
 uid:m.uid<4294967296
 gid:m.gid<4294967296
 t1: -9223372036854775808<=m.time
 t2:m.time<=9223372036854775807
 ats:m.attrs.length<=100
theorem Cd.short{m:Mem}(h:Cd m):Ea m:=
 ⟨by have:=h.path;omega,by have:=h.ats;omega,λi hi=>by
  have:=h.attrs (m.attrs.getD i ([],[])) (by rw[Zh,Zp hi];exact Wz hi)
  omega⟩
def Lo(m:Mem):List UInt8:=sQ m.path m.link m.kind m.time m.mode m.uid m.gid m.data
def UB(m:Mem):List NP:=sR m.path m.link m.kind m.time m.uid m.gid m.attrs
theorem EM{z:Int}(h1: -9223372036854775808<=z)(h2:z<=9223372036854775807):(N6 z).length<=21:=by
 unfold N6
 have h:=RN (n:=z.natAbs) (k:=20) (by decide) (by omega)
 split
 ·rw[Zl,Qw];omega
 ·rw[Qw];omega
def P7(x:NP):Prop:=PF x.1=true∧x.1.length+x.2.length<=10000
theorem zM{e:vj}{Rs:List NP}(h: ∀x∈Rs,P7 x)(he:P7 (e.key,N6 e.z)): ∀x∈QE e Rs,P7 x:=by
 intro x hx
 unfold QE at hx
 split at hx
 ·rcases ZD.1 hx with hx|hx
  ·exact h x hx
  ·rw[Zv.1 hx];exact he
 ·exact h x hx
theorem fa(a s t:List UInt8):MH a (s++t)=(MH a s||MH a t):=by unfold MH;rw[List.any_append]
theorem fq{m:Mem}(h:Cd m)(hm:OF m.attrs=true): ∀x∈m.attrs,P7 (yw x):=by
 intro x hx
 unfold OF at hm
 rw[Xf,Y2] at hm
 obtain⟨i,hi,rfl⟩:=Rt.1 hx
 have h1:=hm.1 i (Tc.2 hi)
 unfold cC at h1
 rw[Zh,Zp hi] at h1
 have h2:=h.attrs _ hx
 simp only[Option.getD_some,Xf,Bool.not_eq_true',decide_eq_true_eq,decide_eq_false_iff_not] at h1
 obtain⟨⟨⟨h3,h4⟩,h5⟩,_⟩:=h1
 refine⟨?_,?_⟩
 ·show PF ([83,67,72,73,76,89,46,120,97,116,116,114,46]++_)=true
  unfold PF
  rw[fa,h5]
  have hl:([83,67,72,73,76,89,46,120,97,116,116,114,46]++m.attrs[i].1).length<=255:=by rw[Zk];show 13+_<=_;omega
  rw[Zi hl,Ze (by simp)]
  rfl
 ·show([83,67,72,73,76,89,46,120,97,116,116,114,46]++m.attrs[i].1).length+m.attrs[i].2.length<=10000
  rw[Zk];show 13+m.attrs[i].1.length+m.attrs[i].2.length<=10000;omega
theorem z3{m:Mem}(h:Cd m)(hm:OF m.attrs=true):(∀x∈UB m,P7 x)∧(UB m).length<=105:=by
 have hp:=h.path;have hl:=h.link
 have hlo:=xy m.kind m.path
 have kk:PF [112,97,116,104]=true∧PF [108,105,110,107,112,97,116,104]=true∧PF [117,105,100]=true∧PF [103,105,100]=true∧PF [109,116,105,109,101]=true:=by decide
 have h0: ∀x∈(if (S0 (T7 m.kind m.path)).2.2=true then [] else [([112,97,116,104],T7 m.kind m.path)]:List NP),P7 x:=by
  intro x hx
  split at hx
  ·cases hx
  ·rw[Zv.1 hx];exact⟨kk.1,by show 4+(T7 m.kind m.path).length<=10000;omega⟩
 have n0:(if (S0 (T7 m.kind m.path)).2.2=true then [] else [([112,97,116,104],T7 m.kind m.path)]:List NP).length<=1:=by split<;>simp
 generalize hq:(if (S0 (T7 m.kind m.path)).2.2=true then [] else [([112,97,116,104],T7 m.kind m.path)]:List NP)=q at h0 n0
 have h1: ∀x∈(if 100<m.link.length then q++[([108,105,110,107,112,97,116,104],m.link)] else q),P7 x:=by
  intro x hx
  split at hx
  ·rcases ZD.1 hx with hx|hx
   ·exact h0 x hx
   ·rw[Zv.1 hx];exact⟨kk.2.1,by show 8+m.link.length<=10000;omega⟩
  ·exact h0 x hx
 have n1:(if 100<m.link.length then q++[([108,105,110,107,112,97,116,104],m.link)] else q).length<=2:=by
  split
  ·rw[Zk];show _+1<=_;omega
  ·omega
 unfold UB sR dU hU
 rw[hq]
 generalize(if 100<m.link.length then q++[([108,105,110,107,112,97,116,104],m.link)] else q)=q1 at h1 n1
 have f1:=EM (z:=(m.uid:Int)) (by omega) (by have:=h.uid;omega)
 have f2:=EM (z:=(m.gid:Int)) (by omega) (by have:=h.gid;omega)
 have f3:=EM h.t1 h.t2
 have a1:=zM (e:=⟨[117,105,100],108,8,m.uid,2097151⟩) h1 ⟨kk.2.2.1,by show 3+(N6 (m.uid:Int)).length<=10000;omega⟩
 have b1:=QF ⟨[117,105,100],108,8,m.uid,2097151⟩ q1
 have a2:=zM (e:=⟨[103,105,100],116,8,m.gid,2097151⟩) a1 ⟨kk.2.2.2.1,by show 3+(N6 (m.gid:Int)).length<=10000;omega⟩
 have b2:=QF ⟨[103,105,100],116,8,m.gid,2097151⟩ (QE ⟨[117,105,100],108,8,m.uid,2097151⟩ q1)
 have a3:=zM (e:=⟨[109,116,105,109,101],136,12,m.time,8589934591⟩) a2 ⟨kk.2.2.2.2,by show 5+(N6 m.time).length<=10000;omega⟩
 have b3:=QF ⟨[109,116,105,109,101],136,12,m.time,8589934591⟩ (QE ⟨[103,105,100],116,8,m.gid,2097151⟩ (QE ⟨[117,105,100],108,8,m.uid,2097151⟩ q1))
 have hF:(zN m.uid m.gid m.time).foldl (λl x=>QE x l) q1=QE ⟨[109,116,105,109,101],136,12,m.time,8589934591⟩ (QE ⟨[103,105,100],116,8,m.gid,2097151⟩ (QE ⟨[117,105,100],108,8,m.uid,2097151⟩ q1)):=rfl
 rw[hF]
 refine⟨λx hx=>?_,?_⟩
 ·rcases ZD.1 hx with hx|hx
  ·exact a3 x hx
  ·obtain⟨y,hy,rfl⟩:=Xq.1 hx
   exact fq h hm y hy
 ·rw[Zk,ZW];have:=h.ats;omega
def In(r:Nat):List UInt8:=S6 (UV (UV (UV (UV (UV (UV (KO 120) 0 100 (QP [112,97,120] 100)) 100 8 (SJ 0 8)) 108 8 (SJ 0 8)) 116 8 (SJ 0 8)) 136 12 (SJ 0 12)) 124 12 (SJ r 12))
def U3(m:Mem):List UInt8:=if UB m=[] then Lo m else In (WP (UB m)).length++WP (UB m)++List.replicate (UM (WP (UB m)).length) 0++Lo m
theorem G8(e n:Nat):Cells ⟨e,1,n,.leaf,nI .u8 0,0,false,true,true⟩ ((List.replicate n (0:UInt8)).map Vf):=by
 have h:(List.replicate n (0:UInt8)).map Vf=List.replicate n (nI .u8 0):=by rw[U9];rfl
 refine⟨by rw[ZW,Z5],λi hi=>?_⟩
 rw[ZW,Z5] at hi
 rw[h,Row.get_eq,Zh,Wp,if_pos hi]
 show(T.leaf.get i).getD (nI .u8 0)=nI .u8 0
 rw[T.get_leaf];rfl
theorem KH.szd{m:Mem}{av dv:AV}(hA:Sz H 2 av (S2 m.attrs))(hD:Sz H 1 dv (MI m.data))(h:Cd m)(hd:m.data.length<=1073741824):Szd H av dv m.attrs m.data:=
 ⟨hA,hD,h.ats,λx hx=>by have:=h.attrs x hx;omega,hd⟩
theorem ym(E:Env Zx fs fuel)(hk:12<=k){m:Mem}(gH:TL H)(hC:KH H cs m)(h:Cd m)(hm:Wm m=true):
  ∃v H',Z7 (LK Zx fs fuel k) fs fuel (n+7) 7 [.agg cs] H=.ret (.tup [v,nI .i64 0]) H'∧BV H' v (U3 m)∧ZK H H' []∧ ∃b c,v=.slice b 0 (U3 m).length c∧H.nx<=b∧b<H'.nx:=by
 rw[Z1 (ZU E.n7 (.inr rfl) _ _) E.f7]
 have hC0:=hC
 obtain⟨av,dv,rfl,hA,hD⟩:=hC
 have hm':=hm
 unfold Wm at hm'
 simp only[Xf,decide_eq_true_eq] at hm'
 obtain⟨⟨⟨⟨⟨_,hmo⟩,hmA⟩,_⟩,hdl⟩,_⟩:=hm'
 have bx: ∀G:Heap,N2 28 (.agg [.str m.path,.int .i64 m.kind,nI .u32 m.mode,nI .u32 m.uid,nI .u32 m.gid,.int .i64 m.time,av,dv,.str m.link]) G=.val (.ptr G.nx 0) (G.new (rH 28 [.str m.path,.int .i64 m.kind,nI .u32 m.mode,nI .u32 m.uid,nI .u32 m.gid,.int .i64 m.time,av,dv,.str m.link])):=λG=>Vx (l:=[.str m.path,.int .i64 m.kind,nI .u32 m.mode,nI .u32 m.uid,nI .u32 m.gid,.int .i64 m.time,av,dv,.str m.link]) (show 1<=9 by decide) 28 G
 obtain⟨H1,hH1⟩:=SK (H.new (rH 28 [.str m.path,.int .i64 m.kind,nI .u32 m.mode,nI .u32 m.uid,nI .u32 m.gid,.int .i64 m.time,av,dv,.str m.link]))
 have k1:ZK H H1 []:=by rw[<-hH1];exact ZK.new _ _ _
 have Kn:H1.nx=H.nx+1:=by rw[<-hH1];rfl
 have g1:H1.t.get H.nx=some (rH 28 [.str m.path,.int .i64 m.kind,nI .u32 m.mode,nI .u32 m.uid,nI .u32 m.gid,.int .i64 m.time,av,dv,.str m.link]):=by rw[<-hH1];exact YD rfl _
 have uj: ∀G,zq 9 (some (rH 28 [.str m.path,.int .i64 m.kind,nI .u32 m.mode,nI .u32 m.uid,nI .u32 m.gid,.int .i64 m.time,av,dv,.str m.link])) 0 G=.val (.agg [.str m.path,.int .i64 m.kind,nI .u32 m.mode,nI .u32 m.uid,nI .u32 m.gid,.int .i64 m.time,av,dv,.str m.link]) G:=λG=>TJ (show 0+9<=9 by decide) ..
 have gH1:=gH.keep0 k1
 have em:=λ{j}=>gh E (k:=k) (n:=j) hk h.short gH1.p (hC0.keep k1)
 rw[hm] at em
 obtain⟨b,q,w,H2,e2,hb,hbq,k12,gI,R2,rb⟩:=ki E (k:=k) (n:=n) (by omega) gH1 (KH.szd (hA.keep0 k1) (hD.keep0 k1) h (by omega)) h.mode h.uid h.gid h.t1 h.t2 (YR h.path (by decide)) (YR h.link (by decide))
 have k2:ZK H H2 []:=k1.trans' k12
 have hl2:=R2.len
 have hb2:=R2.lt
 have lw:=rb.len
 rw[Tg] at lw
 obtain⟨FF,ir⟩:=z3 h hmA
 have sa: ∀(b:Nat) G,OM 512 1 (.ptr b 0) none none G=.val (.slice b 0 512 (some 512)) G:=λ_ _=>rfl
 by_cases hR:UB m=[]
 ·have hR':=hR
  unfold UB at hR'
  rw[hR'] at lw
  have d1: ∀G,ND VU false (nI .i64 ([]:List NP).length) (nI .i64 0) G=.val (.bool true) G:=λ_=>rfl
  have hb1:U3 m=Lo m:=by unfold U3;rw[if_pos hR]
  have bv:=KR R2 (a:=0) (n:=512) (by decide) (by decide)
  rw[ZC,Y1 (by omega)] at bv
  have hl3:(U3 m).length=512:=by rw[hb1];exact hl2
  simp only[bx,hH1,g1,uj,em,e2,lw,sa,Us,Po,Uf,UD,Wy,YL,decide_true,Zd,Zd,ZH,Zd,c7,Z9,Xg,ZY,Yu,Xe,]
  refine⟨_,_,rfl,?_⟩
  rw[hb1]
  exact⟨bv,k2,b,some 512,by rw[<-hb1,hl3],by omega,hb2⟩
 have hlen:0<(UB m).length:=by
  rcases hx:UB m with _|⟨a,l⟩
  ·exact absurd hx hR
  ·exact Qr _
 have lw: ∀G,Ll w G=.val (nI .i64 (UB m).length) G:=lw
 have d1:decide ((UB m).length=0)=false:=Ze (by omega)
 have hb1:U3 m=In (WP (UB m)).length++WP (UB m)++List.replicate (UM (WP (UB m)).length) 0++Lo m:=by unfold U3;rw[if_neg hR]
 obtain⟨w3,H3,e3,A6,k23⟩:=uV E (k:=k) (n:=n+1) (by omega) gI (Sl.of_buf (show RP H2 w 71 2 (S2 (UB m)) (q+1) from rb)) (λx hx=>(FF x hx).1) (λx hx=>(FF x hx).2) (by omega)
 have hpl:=Io (l:=UB m) λx hx=>(FF x hx).2
 have hpl:(WP (UB m)).length<=105*10023:=by
  omega
 have ln3:=A6.len
 generalize hP:WP (UB m)=P at*
 have d2: ∀G,ND VU true (nI .i64 0) (nI .i64 0) G=.val (.bool false) G:=λ_=>rfl
 have k3:ZK H H3 []:=k2.trans' k23
 have hx3:=k23.nx
 have eG:=gI.keep0 k23
 obtain⟨H4,e4,zk,R4⟩:=CN E (k:=k) (n:=n+1) (by omega) (t:=120) (by decide) eG
 have up: ∀{G G':Heap},ZK H3 G []->ZK G G' [H3.nx]->ZK H3 G' []:=λa b=>a.trans b λx hx hlt=>by have:=Zv.1 hx;omega
 obtain⟨H5,e5,xq,R5⟩:=DX E (k:=k) (n:=n+2) (by omega) (s:=[112,97,120]) (eG.keep0 zk) m9 R4 (by decide)
 have gL:=up zk xq
 obtain⟨H6,e6,yl,R6⟩:=L7 E (k:=k) (n:=n+2) (by omega) (u:=0) (eG.keep0 gL) m8 R5 (by decide) (by decide) (by decide)
 have k36:=up gL yl
 obtain⟨H7,e7,kC,R7⟩:=L7 E (k:=k) (n:=n+2) (by omega) (u:=0) (eG.keep0 k36) af R6 (by decide) (by decide) (by decide)
 have k37:=up k36 kC
 obtain⟨H8,e8,dy,R8⟩:=L7 E (k:=k) (n:=n+2) (by omega) (u:=0) (eG.keep0 k37) ae R7 (by decide) (by decide) (by decide)
 have k38:=up k37 dy
 obtain⟨H9,e9,dA,R9⟩:=L7 E (k:=k) (n:=n+2) (by omega) (u:=0) (eG.keep0 k38) sH R8 (by decide) (by decide) (by decide)
 have k39:=up k38 dA
 obtain⟨Ha,ea,k9a,Ra⟩:=L7 E (k:=k) (n:=n+2) (by omega) (u:=P.length) (eG.keep0 k39) vR R9 (by omega) (by decide) (by decide)
 have k3a:=up k39 k9a
 obtain⟨Hb,eb,kab,Rb⟩:=wq E (k:=k) (n:=n+1) (by omega) (eG.keep0 k3a) Ra
 have k3b:=up k3a kab
 have k2b:ZK H2 Hb []:=k23.trans' k3b
 have kb:ZK H Hb []:=k2.trans' k2b
 have hRb:=Rb.lt
 have gHb:=eG.keep0 k3b
 have hrob:=gHb.p.ro
 have et:=λ{j}=>ZcV E (k:=k) (n:=j) (by omega) (m:=P.length) (H:=Hb) (by omega)
 obtain⟨Hc,hHc⟩:=SK (Hb.new (.row ⟨5,1,UM P.length,.leaf,nI .u8 0,0,false,true,true⟩))
 have kbc:ZK Hb Hc []:=by rw[<-hHc];exact ZK.new _ _ _
 have nxc:Hc.nx=Hb.nx+1:=by rw[<-hHc];rfl
 obtain⟨Hd,hHd⟩:=SK (Hc.new (rH 24 [.slice H3.nx 0 512 (some 512),w3,.slice Hb.nx 0 (UM P.length) none,.slice b 0 512 (some 512)]))
 have kcd:ZK Hc Hd []:=by rw[<-hHd];exact ZK.new _ _ _
 have nxd:Hd.nx=Hc.nx+1:=by rw[<-hHd];rfl
 have kbd:=kbc.trans' kcd
 have mk: ∀G:Heap,dW 5 1 1 [nI .u8 0] (nI .i64 (UM P.length)) (nI .i64 (UM P.length)) G=.val (.slice G.nx 0 (UM P.length) none) (G.new (.row ⟨5,1,UM P.length,.leaf,nI .u8 0,0,false,true,true⟩)):=λG=>uz (by have:UM P.length<512:=X7 _ (by decide);omega) (by have:UM P.length<512:=X7 _ (by decide);omega) _ _ _
 have hw:wrO (.row ⟨5,1,UM P.length,.leaf,nI .u8 0,0,false,true,true⟩)=true:=rfl
 have bs4: ∀(x y z u:AV) (G:Heap),x.cells=[x]->y.cells=[y]->z.cells=[z]->u.cells=[u]->TQ 24 1 4 (List.replicate 4 [.nils]).flatten [(0,1,x),(1,1,y),(2,1,z),(3,1,u)] G=.val (.slice G.nx 0 4 none) (G.new (rH 24 [x,y,z,u])):=λx y z u G hx hy hz hu=>by
  rw[En (by decide) rfl,NE hx (show 0<4 by decide),NE hy (show 1<4 by decide),NE hz (show 2<4 by decide),NE hu (show 3<4 by decide),Hi];rfl
 have bs:=bs4 (.slice H3.nx 0 512 (some 512)) w3 (.slice Hb.nx 0 (UM P.length) none) (.slice b 0 512 (some 512))
 have cw:=A6.cells
 have hpz:(List.replicate (UM P.length) (0:UInt8)).length=UM P.length:=Z5 ..
 have v1:=KR (Rb.keep0 kbd) (a:=0) (n:=512) (by decide) (by decide)
 rw[ZC,Y1 (by have:=Rb.len;omega)] at v1
 have v2:=(A6.keep k3b (λ_ _=>by simp)).keep kbd (λ_ _=>by simp)
 have v3:=yE (H:=Hd) (b:=Hb.nx) (n:=UM P.length) (c:=none) (l:=List.replicate (UM P.length) 0) (by rw[kcd.get _ (by omega) (by simp),<-hHc];exact YD rfl _) (G8 5 _) rfl (by omega) hpz.symm (λk h=>by cases h)
 have v4:=KR ((R2.keep0 k2b).keep0 kbd) (a:=0) (n:=512) (by decide) (by decide)
 rw[ZC,Y1 (by omega)] at v4
 have l1:=Rb.len
 obtain⟨z,He,ee,bve,kde,hz1,hz2⟩:=mH E (k:=k) (n:=n+4) (H:=Hd) (sb:=Hc.nx) (e:=24) (by rw[kbd.ro];omega) (by omega) (by rw[<-hHd];exact YD rfl _) v1 v2.bv v3 v4
  (λx hx=>by simp[Wo] at hx;omega) (λx hx=>(v2.blk x hx).2) (λx hx=>by simp[Wo] at hx;omega) (λx hx=>by simp[Wo] at hx;omega) (by omega) (by have:UM P.length<512:=X7 _ (by decide);rw[hpz,l1,hl2];omega)
 have lwc: ∀n,H3.nx<=n->WC n w3=true:=λn hn=>A6.low hn
 have lwx:=lwc Hb.nx (by omega);have lwy:=lwc Hc.nx (by omega)
 have hf:=E.big
 obtain⟨fu,rfl⟩: ∃fu,fuel=fu+5:=⟨fuel - 5,by omega⟩
 have b4: ∀G,SA [.str [],.str [],.str [],.str []] [(0,1,.str [109,111,100,101]),(1,1,.str [117,105,100]),(2,1,.str [103,105,100]),(3,1,.str [109,116,105,109,101])] G=.val (.agg [.str [109,111,100,101],.str [117,105,100],.str [103,105,100],.str [109,116,105,109,101]]) G:=λ_=>rfl
 have i0: ∀G,Hz 4 (.agg [.str [109,111,100,101],.str [117,105,100],.str [103,105,100],.str [109,116,105,109,101]]) (nI .i64 0) G=.val (.str [109,111,100,101]) G:=λ_=>rfl
 have i1: ∀G,Hz 4 (.agg [.str [109,111,100,101],.str [117,105,100],.str [103,105,100],.str [109,116,105,109,101]]) (nI .i64 1) G=.val (.str [117,105,100]) G:=λ_=>rfl
 have i2: ∀G,Hz 4 (.agg [.str [109,111,100,101],.str [117,105,100],.str [103,105,100],.str [109,116,105,109,101]]) (nI .i64 2) G=.val (.str [103,105,100]) G:=λ_=>rfl
 have i3: ∀G,Hz 4 (.agg [.str [109,111,100,101],.str [117,105,100],.str [103,105,100],.str [109,116,105,109,101]]) (nI .i64 3) G=.val (.str [109,116,105,109,101]) G:=λ_=>rfl
 have p0: ∀G,Tl Wd Xl (nI .i64 0) (nI .i64 4) G=.val (.bool true) G:=λ_=>rfl
 have p1: ∀G,Tl Wd Xl (nI .i64 1) (nI .i64 4) G=.val (.bool true) G:=λ_=>rfl
 have p2: ∀G,Tl Wd Xl (nI .i64 2) (nI .i64 4) G=.val (.bool true) G:=λ_=>rfl
 have p3: ∀G,Tl Wd Xl (nI .i64 3) (nI .i64 4) G=.val (.bool true) G:=λ_=>rfl
 have p4: ∀G,Tl Wd Xl (nI .i64 4) (nI .i64 4) G=.val (.bool false) G:=λ_=>rfl
 have q0: ∀G,SG (nI .i64 0) (nI .i64 1) G=.val (nI .i64 1) G:=λ_=>rfl
 have q1: ∀G,SG (nI .i64 1) (nI .i64 1) G=.val (nI .i64 2) G:=λ_=>rfl
 have q2: ∀G,SG (nI .i64 2) (nI .i64 1) G=.val (nI .i64 3) G:=λ_=>rfl
 have q3: ∀G,SG (nI .i64 3) (nI .i64 1) G=.val (nI .i64 4) G:=λ_=>rfl
 simp(disch:=first|assumption|omega|(simp -implicitDefEqProofs only[Xh,Xi]<;>first|assumption|omega)|decide) only[bx,hH1,g1,uj,em,e2,lw,sa,Us,Po,Uf,UD,Wy,d1,e3,d2,e4,e5,b4,i0,i1,i2,i3,p0,p1,p2,p3,p4,q0,q1,q2,q3,e6,e7,e8,e9,ln3,ea,eb,et,mk,hHc,bs,hHd,ee,lwx,lwy,Pk,G3,Ly,Te,YL,Zd,Zd,ZJ,ZZ,ZB,ZG,Zd,ZJ,Yg,c7,bW,Z9,Xg,ZY,Yu,Z3,Yf,Xe,U4,CK]
 refine⟨_,_,rfl,?_⟩
 have hlz:(U3 m).length=(In P.length).length+P.length+(List.replicate (UM P.length) (0:UInt8)).length+(Lo m).length:=by rw[hb1];simp only[Zk]
 rw[hlz,hb1]
 exact⟨bve,(kb.trans' kbd).trans' kde,z,none,rfl,by omega,hz2⟩
end
end
end Go.AI
