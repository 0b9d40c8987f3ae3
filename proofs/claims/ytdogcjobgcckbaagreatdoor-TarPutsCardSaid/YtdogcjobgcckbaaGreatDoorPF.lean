/- Records, and a whole head: walked: proved without conditions but those that each names. -/
import Derived.Test.YtdogcjobgcckbaaGreatDoorPD
set_option maxRecDepth 1000000
set_option maxHeartbeats 0
set_option linter.unusedVariables false
set_option linter.unusedSimpArgs false
namespace Go.AI
open Go
noncomputable section
section
variable {Zn:Lib} {fs:T CF} {fuel k n i h b:Nat} {H H0:Heap} {s:List UInt8} {cs:List AV}
def QR(k:List UInt8):Bool:=!decide (k=[])&&decide (k.length<=255)&&!Ts [0,61,10] k
theorem cA(E:Env Zn fs fuel){a b:List UInt8}(hal:a.length<=90000)(hro:H.ro<=H.nx):
  ∃H',ZE (LK Zn fs fuel 5) fs fuel (n+2) 47 [.agg [.str a,.str b]] H=.ret (.bool (QR a)) H'∧Zs H H' []:=by
 rw[ZI (ZA E.n47 (.inl (by decide)) _ _) E.f47]
 have bx: ∀G:Heap,Ni 81 (.agg [.str a,.str b]) G=.val (.ptr G.nx 0) (G.new (rH 81 [.str a,.str b])):=λG=>XS (l:=[.str a,.str b]) (show 1<=2 by decide) 81 G
 have gz:=λ(G:Heap)=>ZW (H:=G) rfl (rH 81 [.str a,.str b])
 have l0: ∀G,ld1 (some (rH 81 [.str a,.str b])) 0 G=.val (.str a) G:=λG=>rfl
 have ea: ∀{j},ZE (LK Zn fs fuel 5) fs fuel (j+1) 63 [.str a,.str [0,61,10]] (H.new (rH 81 [.str a,.str b]))=.ret (.bool (Ts [0,61,10] a)) (H.new (rH 81 [.str a,.str b])):=λ{j}=>iw E (k:=5) (n:=j) (by decide) p8 hal (by show H.ro<=H.nx+1;omega)
 by_cases h1:a=[]
 ·have d1:decide (a=[])=true:=Ze h1
  rw[show QR a=false by unfold QR;rw[d1];rfl]
  simp only[bx,gz,l0,d1,Wd,Wu,Wu,Zg,Zg,Yq,Zg,c47,Zu,Ye,Zw,Z6]
  refine⟨_,rfl,?_⟩
  exact Zs.new _ _ _
 have d1:decide (a=[])=false:=Zb h1
 by_cases h2:a.length<=255
 ·have d2:decide (a.length<=255)=true:=Ze h2
  rw[show QR a=!Ts [0,61,10] a by unfold QR;rw[d1,d2];rfl]
  cases ha:Ts [0,61,10] a
  all_goals
   rw[ha] at ea
   simp only[bx,gz,l0,d1,d2,ea,Wd,Wu,Yt,Wu,ZG,Zg,Zg,Yq,Y2,Yt,Zg,c47,Zu,Ye,Zw,Z8,Z6]
   refine⟨_,rfl,?_⟩
   exact Zs.new _ _ _
 ·have d2:decide (a.length<=255)=false:=Zb h2
  rw[show QR a=false by unfold QR;rw[d1,d2];rfl]
  simp only[bx,gz,l0,d1,d2,Wd,Wu,Yt,Wu,ZG,Zg,Zg,Y2,Yt,Zg,c47,Zu,Ye,Zw,Z6]
  refine⟨_,rfl,?_⟩
  exact Zs.new _ _ _
theorem ZiM(E:Env Zn fs fuel)(hk:6<=k){a b:List UInt8}(hal:a.length<=90000)(hro:H.ro<=H.nx):
  ZE (LK Zn fs fuel k) fs fuel (n+1) 47 [.agg [.str a,.str b]] H=.ret (.bool (QR a)) H:=by
 obtain⟨H',e,g⟩:=cA E (n:=898) (H:=H) hal hro
 exact Yl (r:=5) rfl rfl e g (rfl) hk
theorem kK(E:Env Zn fs fuel){a b:List UInt8}(hal:a.length<=90000)(hro:H.ro<=H.nx):
  ∃H',ZE (LK Zn fs fuel 6) fs fuel (n+2) 46 [.agg [.str a,.str b]] H=.ret (.bool (!QR a)) H'∧Zs H H' []:=by
 rw[ZI (ZA E.n46 (.inl (by decide)) _ _) E.f46]
 have bx: ∀G:Heap,Ni 81 (.agg [.str a,.str b]) G=.val (.ptr G.nx 0) (G.new (rH 81 [.str a,.str b])):=λG=>XS (l:=[.str a,.str b]) (show 1<=2 by decide) 81 G
 have gz:=λ(G:Heap)=>ZW (H:=G) rfl (rH 81 [.str a,.str b])
 have ld2: ∀G,EW 2 (some (rH 81 [.str a,.str b])) 0 G=.val (.agg [.str a,.str b]) G:=λG=>Vr (show 0+2<=2 by decide) ..
 have em:=λ{j}=>ZiM E (k:=6) (n:=j) (by decide) (a:=a) (b:=b) (H:=(H.new (rH 81 [.str a,.str b]))) hal (by show H.ro<=H.nx+1;omega)
 cases hm:QR a
 all_goals
  rw[hm] at em
  simp only[bx,gz,ld2,em,Wd,Yq,Y2,c46,Zu,Ye,Zw,Z8,Z6]
  refine⟨_,rfl,?_⟩
  exact Zs.new _ _ _
theorem ZiP(E:Env Zn fs fuel)(hk:7<=k){a b:List UInt8}(hal:a.length<=90000)(hro:H.ro<=H.nx):
  ZE (LK Zn fs fuel k) fs fuel (n+1) 46 [.agg [.str a,.str b]] H=.ret (.bool (!QR a)) H:=by
 obtain⟨H',e,g⟩:=kK E (n:=898) (H:=H) hal hro
 exact Yl (r:=6) rfl rfl e g (rfl) hk
theorem ZmZ(E:Env Zn fs fuel)(hk:4<=k){m:Nat}(g:Pv H)(hro:H.ro<=H.nx)(hm:m<9223372036854775808):
  ZE (LK Zn fs fuel k) fs fuel (n+3) 73 [nI .i64 m] H=.ret (.str (dec m)) H:=by
 rw[ZI (ZA E.n73 (.inr rfl) _ _) E.f73]
 have e2: ∀{j},ZE (LK Zn fs fuel k) fs fuel (j+2) 92 [nI .i64 m] H=.ret (.str (dec m)) H:=λ{j}=>by
  rw[ZI (ZA E.n92 (.inr rfl) _ _) E.f92]
  have e1:ZE (LK Zn fs fuel k) fs fuel (j+1) 91 [nI .i64 m,nI .i64 10] H=.ret (.str (dec m)) H:=by
   have:=gh E (k:=k) (n:=j) (by omega) (z:=.ofNat m) (H:=H) g hro (by show _<=(m:Int);omega) (by show(m:Int)<_;omega)
   rwa [Cm] at this
  simp only[e1,c92,Zu,Ye,Zw,Z6]
 simp only[e2,c73,Zu,Ye,Zw,Z6]
theorem FM{a:Nat}(h:a<=b):VI a<=VI b:=TX (Pc b) (Ub h (Dd b))
def Gy(rest:Nat):Nat->Nat->Nat
 |0,x=>x
 |j+1,x=>if x=rest+VI x then x else Gy rest j (rest+VI x)
theorem Bp{rest x:Nat}(h:x=rest+VI x): ∀j,Gy rest j x=x
 |0=>rfl
 |j+1=>by unfold Gy;rw[if_pos h]
def O5(rest:Nat):Nat:=Gy rest 20 (rest+1)
structure PSI(Hs:Heap)(rest:Nat)(m:Nat)(tm:TM)(H:Heap):Prop where
 h:H=Hs
 t3:W8 tm=nI .i64 rest
 x: ∃x j,Y4 tm=nI .i64 x∧x+m=rest+21∧m<=j+1∧O5 rest=Gy rest j x∧x<=rest+VI x
def PSQ(Hs:Heap)(rest:Nat)(o:Out)(tm:TM)(H:Heap):Prop:=o=.exit 0∧H=Hs∧Y4 tm=nI .i64 (O5 rest)∧O5 rest<=rest+21
theorem Zca(E:Env Zn fs fuel)(hk:4<=k){Hs:Heap}{rest:Nat}(g:Pv Hs)(hro:Hs.ro<=Hs.nx)(hr:rest<=1000000)(y f dd qq)(X0:X)(m:Nat)(tm:TM)(H:Heap)(hI:PSI Hs rest m tm H):
  ∃o tm' H',DX ⟨ZE (LK Zn fs fuel k) fs fuel (n+3),y,f,dd,qq⟩ tm H X0=.ok o tm' H' X0∧((o=.normal∧ ∃k,k<m∧PSI Hs rest k tm' H')∨(o≠.normal∧PSQ Hs rest o tm' H')):=by
 obtain⟨rfl,t3,x,j,t4,hxm,hmj,hp,hx⟩:=hI
 have GY:=t3;have Qk:=t4
 simp only[Px,Tp] at t3 t4
 have nd:=TX (n:=x) (k:=20) (by decide) (by omega)
 have ei:=λ{j}=>ZmZ E (k:=k) (n:=j) hk (m:=x) (H:=H) g hro (by omega)
 have dl:=Rr x
 have ad: ∀G,Ty (nI .i64 rest) (nI .i64 (VI x)) G=.val (nI .i64 (rest+VI x)) G:=λG=>YI (by omega) G
 by_cases hq:x=rest+VI x
 ·have d1:decide (x≠rest+VI x)=false:=Zb λh=>h hq
  simp only[t3,t4,ei,dl,ad,d1,Vi,ZG,DX,Zu,Ye,Z6]
  refine⟨_,_,_,rfl,.inr ⟨by simp,rfl,rfl,?_,?_⟩⟩
  ·rw[hp,Bp hq];simp only[Z6,Ye];exact t4
  ·rw[hp,Bp hq];omega
 ·have d1:decide (x≠rest+VI x)=true:=Ze hq
  simp only[t3,t4,ei,dl,ad,d1,Vi,ZG,DX,Zu,Ye,Z6]
  obtain⟨j',rfl⟩: ∃j',j=j'+1:=⟨j - 1,by omega⟩
  refine⟨_,_,_,rfl,.inl ⟨rfl,rest+21 - (rest+VI x),by omega,rfl,GY,rest+VI x,j',rfl,by omega,by omega,?_,?_⟩⟩
  ·rw[hp]
   show(if x=rest+VI x then x else Gy rest j' (rest+VI x))=_
   rw[if_neg hq]
  ·have:=FM hx;omega
theorem Bq{rest:Nat}(hr:rest<=1000000):O5 rest<=rest+21:=by
 have: ∀j x,x<=rest+21->Gy rest j x<=rest+21:=by
  intro j
  induction j with
  |zero=>intro x h;exact h
  |succ j ih=>
   intro x h
   unfold Gy
   split
   ·exact h
   ·refine ih _ ?_
    have:=TX (n:=x) (k:=20) (by decide) (by omega)
    omega
 exact this 20 (rest+1) (by omega)
theorem bj(E:Env Zn fs fuel)(hk:7<=k){a b:List UInt8}(g:Pv H)(hro:H.ro<=H.nx)(hm:QR a=true)(ha:a.length<=90000)(hb:b.length<=90000):
  ∃H',ZE (LK Zn fs fuel k) fs fuel (n+4) 48 [.agg [.str a,.str b]] H=.ret (nI .i64 (O5 (a.length+b.length+3))) H'∧Zs H H' []:=by
 rw[ZI (ZA E.n48 (.inr rfl) _ _) E.f48]
 have bx: ∀G:Heap,Ni 81 (.agg [.str a,.str b]) G=.val (.ptr G.nx 0) (G.new (rH 81 [.str a,.str b])):=λG=>XS (l:=[.str a,.str b]) (show 1<=2 by decide) 81 G
 have gz:=λ(G:Heap)=>ZW (H:=G) rfl (rH 81 [.str a,.str b])
 have l0: ∀G,ld1 (some (rH 81 [.str a,.str b])) 0 G=.val (.str a) G:=λG=>rfl
 have l1: ∀G,ld1 (some (rH 81 [.str a,.str b])) 1 G=.val (.str b) G:=λG=>rfl
 have ld2: ∀G,EW 2 (some (rH 81 [.str a,.str b])) 0 G=.val (.agg [.str a,.str b]) G:=λG=>Vr (show 0+2<=2 by decide) ..
 have em:=λ{j}=>ZiM E (k:=k) (n:=j) (by omega) (a:=a) (b:=b) (H:=(H.new (rH 81 [.str a,.str b]))) ha (by show H.ro<=H.nx+1;omega)
 rw[hm] at em
 have k1:Zs H (H.new (rH 81 [.str a,.str b])) []:=Zs.new _ _ _
 have a1: ∀G,Ty (nI .i64 a.length) (nI .i64 b.length) G=.val (nI .i64 (a.length+b.length)) G:=λG=>YI (by omega) G
 have a2: ∀G,Ty (nI .i64 (a.length+b.length)) (nI .i64 3) G=.val (nI .i64 (a.length+b.length+3)) G:=λG=>YI (by omega) G
 have a3: ∀G,Ty (nI .i64 (a.length+b.length+3)) (nI .i64 1) G=.val (nI .i64 (a.length+b.length+3+1)) G:=λG=>YI (by omega) G
 have hf:=E.big
 simp only[bx,gz,l0,l1,ld2,em,a1,a2,a3,Wd,ZG,Zg,Zd,Zd,Zg,Zd,Zg,c48,Zu,Ye,Z8,Z6]
 generalize hL:Wv (DX _) fuel _ _ _=LL
 obtain⟨o,Pu,H1,rfl,_,rfl,rfl,t4,_⟩:=YA (P:=λT=>PSI (H.new (rH 81 [.str a,.str b])) (a.length+b.length+3) 20 T (H.new (rH 81 [.str a,.str b]))) (Q:=PSQ (H.new (rH 81 [.str a,.str b])) (a.length+b.length+3))
  (λT hi=>YP (PSI (H.new (rH 81 [.str a,.str b])) (a.length+b.length+3)) (PSQ (H.new (rH 81 [.str a,.str b])) (a.length+b.length+3)) (λm tm H' h=>Zca E (k:=k) (n:=n) (by omega) (g.keep k1 (by simp)) (by show H.ro<=H.nx+1;omega) (by omega) _ _ _ _ _ m tm H' h) fuel 20 T _ (by omega) hi) hL
  (by exact⟨rfl,rfl,_,20,rfl,by omega,by omega,rfl,by have:=Pc (a.length+b.length+3+1);omega⟩)
 simp only[Tp] at t4
 simp only[t4,Zu,Ye,Zw,Z6]
 refine⟨_,rfl,?_⟩
 exact k1
theorem jH(E:Env Zn fs fuel)(hk:4<=k){v:AV}{l:List UInt8}{lo m:Nat}(g:Pv H)(h:GB H v l lo)(hlo:lo<=H.nx)(hro:H.ro<=H.nx)(hm:m<1000000000000000000)(hl:l.length<=100000000):
  ∃v' H',ZE (LK Zn fs fuel k) fs fuel (n+4) 49 [v,nI .i64 m,nI .i64 10] H=.ret v' H'∧GB H' v' (l++dec m) lo∧Zs H H' (XP v)∧(∀b∈XP v',b∈XP v∨H.nx<=b):=by
 have nd2:VI m<=18:=TX (by decide) hm
 have dl:=Rr m
 have main: ∃v' H',ZE (LK Zn fs fuel k) fs fuel (n+2) 93 [v,nI .u64 m,nI .i64 10] H=.ret v' H'∧GB H' v' (l++dec m) lo∧Zs H H' (XP v)∧(∀b∈XP v',b∈XP v∨H.nx<=b):=by
  rw[ZI (ZA E.n93 (.inr rfl) _ _) E.f93]
  by_cases h1:m<100
  ·have d1:decide (m<100)=true:=Ze h1
   have es:=λ{j}=>ZdR E (k:=k) (n:=j) (by omega) (x:=m) (H:=H) h1
   have iv: ∀G,Ol .i64 (nI .u64 m) G=.val (nI .i64 m) G:=λG=>UB (by omega) G
   obtain⟨v',H',e1,r⟩:=yW h hlo hro (dec m) (by omega)
   simp only[d1,es,iv,e1,Ya,Zy,YL,decide_true,Ya,Zy,c93,Zu,Ye,Zw,Z6]
   exact⟨_,_,rfl,r⟩
  ·have d1:decide (m<100)=false:=Zb h1
   obtain⟨H1,hH1⟩:=Sa (H.new (.row ⟨144,1,24,.leaf,nI .u8 0,0,false,true,true⟩))
   have IY:H1.nx=H.nx+1:=by rw[<-hH1];rfl
   have MX:H1.ro=H.ro:=by rw[<-hH1];rfl
   have k1:Zs H H1 []:=by rw[<-hH1];exact Zs.new H _ []
   have ga:H1.t.get H.nx=some (.row ⟨144,1,24,.leaf,nI .u8 0,0,false,true,true⟩):=by rw[<-hH1,ZW rfl]
   have en:=λ{j}=>FO E (k:=k) (n:=j) (by omega) (H:=H1) (g.keep k1 (by simp)) (d:=m) (by omega) (by omega)
   obtain⟨R,ef,fb⟩:=sN E (k:=k) (n:=n) (H:=H1) (b:=H.nx) (zo:=0) (nd:=VI m) (u:=m) (c:=some 24) ga (by omega) (by omega) rfl rfl rfl (by omega) (by omega) (Dd _)
   obtain⟨H2,hH2⟩:=Sa (H1.put H.nx (.row R))
   rw[hH2] at ef
   have k2:Zs H H2 []:=by rw[<-hH2];exact k1.then_put (by omega)
   have hx2:=k2.nx
   have s1:=fb.size
   have src:=Src.row (H:=H2) (b:=H.nx) (o:=0) (c:=some 24) (r:=R) (l:=(dec m).map Vd) (by rw[<-hH2];exact Xw _ _ _) (by rw[Zx];omega) (λi hi=>by
    rw[Zx] at hi
    rw[Zd,fb.get,if_pos (by omega),IU hi];rfl)
   obtain⟨v',H',e0,gb',k3,bk⟩:=Cp (h.keep k2 (λ_ _=>by simp)) (by omega) (by rw[k2.ro];omega) (dec m) (by omega)
   have e1:UT 5 1 1 v (.slice H.nx 0 (VI m) (some 24)) H2=.val v' H':=by
    rw[Zx,dl] at src
    rw[P9 (by decide) src,Zx];exact e0
   have sa: ∀G,LG 24 1 (.ptr H.nx 0) none (some (nI .i64 (VI m))) G=.val (.slice H.nx 0 (VI m) (some 24)) G:=λG=>Jm (by omega) (by decide) _ _ _ _
   simp only[d1,hH1,en,ef,sa,e1,Ya,Lu,Zy,YL,decide_true,Ya,Zy,c93,Zu,Ye,Zw,Z8,Z6]
   exact⟨_,_,rfl,gb',k2.trans' k3,λb hb=>(bk b hb).imp id λh=>Z5 hx2 h⟩
 obtain⟨v',H',e1,r⟩:=main
 rw[ZI (ZA E.n49 (.inr rfl) _ _) E.f49]
 have e2:ZE (LK Zn fs fuel k) fs fuel (n+3) 74 [v,nI .i64 m,nI .i64 10] H=.ret v' H':=by
  rw[ZI (ZA E.n74 (.inr rfl) _ _) E.f74]
  have d0:decide (m<0)=false:=Zb (T4 _)
  have iv: ∀G,Ol .u64 (nI .i64 m) G=.val (nI .u64 m) G:=λG=>Q9 (by omega) G
  simp only[e1,d0,iv,Zy,Zy,c74,Zu,Ye,Zw,Z6]
 simp only[e2,c49,Zu,Ye,Zw,Z6]
 exact⟨_,_,rfl,r⟩
structure IRI(Hs:Heap)(v:AV)(l:List NP)(m:Nat)(tm:TM)(H:Heap):Prop where
 h:H=Hs
 t0:Yb tm=v
 t1:Wc tm=.func 46 [] []
 t7:XQ tm=nI .i64 l.length
 i: ∃i,Wi tm=nI .i64 i∧i+m=l.length
def IRQ(Hs:Heap)(o:Out)(tm:TM)(H:Heap):Prop:=o=.exit 0∧H=Hs
theorem fR(E:Env Zn fs fuel)(hk:7<=k){v:AV}{l:List NP}{Hs:Heap}(hro:Hs.ro<=Hs.nx)(hN:Sl Hs 2 v (V8 l))(hm: ∀x∈l,QR x.1=true)(hal: ∀x∈l,x.1.length<=90000)(hl:l.length<=100000)(y f dd q)(X0:X)(m:Nat)(tm:TM)(H:Heap)(hI:IRI Hs v l m tm H):
  ∃o tm' H',D1 ⟨ZE (LK Zn fs fuel k) fs fuel (n+1),y,f,dd,q⟩ tm H X0=.ok o tm' H' X0∧((o=.normal∧ ∃k,k<m∧IRI Hs v l k tm' H')∨(o≠.normal∧IRQ Hs o tm' H')):=by
 obtain⟨rfl,t0,t1,t7,i,t8,him⟩:=hI
 have t0':=t0;have t1':=t1;have KX:=t7
 simp only[Sb,Kn,LX,sW] at t0 t1 t7 t8
 cases m with
 |zero=>
  have d1:decide (i<l.length)=false:=Zb (by omega)
  simp only[t7,t8,d1,Zy,Zy,D1,Zu,Ye,Z6]
  refine⟨_,_,_,rfl,?_⟩
  exact .inr ⟨by simp,rfl,rfl⟩
 |succ m=>
  have d1:decide (i<l.length)=true:=Ze (by omega)
  have hi:i<l.length:=by omega
  obtain⟨bb,o,r,eI,hb,gb,eL,_⟩:=(show Sz H 2 v (V8 l) from .inr hN).at_ (i:=i) (by rw[XK];exact hi)
  rw[Sy hi] at eL
  have hmm:l.getD i ([],[])∈l:=by rw[Zf,Zl hi];exact Xd hi
  have e1:=λ{j}=>ZiP E (k:=k) (n:=j) hk (a:=(l.getD i ([],[])).1) (b:=(l.getD i ([],[])).2) (H:=H) (hal _ hmm) hro
  rw[hm _ hmm] at e1
  simp(disch:=omega) only[t0,t1,t7,t8,d1,eI,gb,eL,e1,Ky,XB,ZY,Yd,Zy,YI,XB,ZY,Yd,Yq,Zy,D1,Zu,Ye,Z6]
  refine⟨_,_,_,rfl,?_⟩
  exact .inl ⟨rfl,m,by omega,rfl,t0',t1',KX,i+1,rfl,by omega⟩
theorem Zl3(E:Env Zn fs fuel)(hk:7<=k){v:AV}{l:List NP}(hro:H.ro<=H.nx)(hN:Sl H 2 v (V8 l))(hm: ∀x∈l,QR x.1=true)(hal: ∀x∈l,x.1.length<=90000)(hl:l.length<=1000):
  ZE (LK Zn fs fuel k) fs fuel (n+3) 45 [v,.func 46 [] []] H=.ret (.bool false) H:=by
 rw[ZI (ZA E.n45 (.inr rfl) _ _) E.f45]
 have e1:ZE (LK Zn fs fuel k) fs fuel (n+2) 72 [v,.func 46 [] []] H=.ret (.int .i64 (.negSucc 0)) H:=by
  rw[ZI (ZA E.n72 (.inr rfl) _ _) E.f72]
  have hf:=E.big
  have ln:=hN.len
  rw[XK] at ln
  simp only[ln,c72,Zu,Ye,Z6]
  generalize hL:Wv (D1 _) fuel _ _ _=L
  obtain⟨o,Pu,H2,rfl,_,rfl,rfl⟩:=YA (P:=λT=>IRI H v l l.length T H) (Q:=IRQ H)
   (λT hi=>YP (IRI H v l) (IRQ H) (λm tm H2 h=>fR E hk hro hN hm hal (by omega) _ _ _ _ _ m tm H2 h) fuel l.length T H (by omega) hi) hL
   (by exact⟨rfl,rfl,rfl,rfl,0,rfl,by omega⟩)
  simp only[Zu,Ye,Zw,Z6]
 simp only[e1,Gl,Gl,c45,Zu,Ye,Zw,Z6]
def J4(x:NP):List UInt8:=dec (O5 (x.1.length+x.2.length+3))++[32]++x.1++[61]++x.2++[10]
def Sv(l:List NP):List UInt8:=(l.map J4).flatten
theorem zK{x:NP}(h:x.1.length+x.2.length<=10000):(J4 x).length<=10023:=by
 unfold J4
 have h1:=Bq (rest:=x.1.length+x.2.length+3) (by omega)
 have h2:=TX (n:=O5 (x.1.length+x.2.length+3)) (k:=20) (by decide) (by omega)
 simp only[Zj,Rr,ZS,SD]
 omega
theorem MR{l:List NP}(h: ∀x∈l,x.1.length+x.2.length<=10000):(Sv l).length<=l.length*10023:=by
 unfold Sv
 induction l with
 |nil=>exact Zp _
 |cons a l ih=>
  rw[ZD,XY,Zj,ZS]
  have h1:=zK (h a (Zt ..))
  have h2:=ih λx hx=>h x (Zz _ hx)
  omega
theorem zL{l:List NP}(h:i<l.length):Sv (l.take (i+1))=Sv (l.take i)++J4 (l.getD i ([],[])):=by
 unfold Sv
 rw[WR,Zf,Zl h,Xv,UP]
 simp
structure PPI(Hs:Heap)(v:AV)(l:List NP)(m:Nat)(tm:TM)(H:Heap):Prop where
 k:Zs Hs H []
 t10:YY tm=v
 t11:Xt tm=nI .i64 l.length
 i: ∃i w,Xr tm=nI .i64 i∧i+m=l.length∧Y4 tm=w∧GB H w (Sv (l.take i)) Hs.nx
def PPQ(Hs:Heap)(l:List NP)(o:Out)(tm:TM)(H:Heap):Prop:=o=.exit 0∧Zs Hs H []∧ ∃w,Y4 tm=w∧GB H w (Sv l) Hs.nx
theorem Zb8(E:Env Zn fs fuel)(hk:7<=k){v:AV}{l:List NP}{Hs:Heap}(gH:Sd Hs)(hN:Sl Hs 2 v (V8 l))(hm: ∀x∈l,QR x.1=true)(hal: ∀x∈l,x.1.length+x.2.length<=10000)(hl:l.length<=1000)(y f dd q)(X0:X)(m:Nat)(tm:TM)(H:Heap)(hI:PPI Hs v l m tm H):
  ∃o tm' H',DP ⟨ZE (LK Zn fs fuel k) fs fuel (n+4),y,f,dd,q⟩ tm H X0=.ok o tm' H' X0∧((o=.normal∧ ∃k,k<m∧PPI Hs v l k tm' H')∨(o≠.normal∧PPQ Hs l o tm' H')):=by
 obtain⟨k0,t10,t11,i,w,t12,him,t4,gb⟩:=hI
 have ZcC:=t10;have ZnD:=t11;have Qk:=t4
 simp only[Tp,pN,fc,vx] at t4 t10 t11 t12
 cases m with
 |zero=>
  have d1:decide (i<l.length)=false:=Zb (by omega)
  simp only[t11,t12,d1,Zy,Zy,DP,Zu,Ye,Z6]
  rw[Z9 (by omega)] at gb
  refine⟨_,_,_,rfl,?_⟩
  exact .inr ⟨by simp,rfl,k0,w,Qk,gb⟩
 |succ m=>
  have d1:decide (i<l.length)=true:=Ze (by omega)
  have hi:i<l.length:=by omega
  obtain⟨bb,o,r,eI,hb,gbb,eL,_⟩:=(show Sz H 2 v (V8 l) from .inr (hN.keep0 k0)).at_ (i:=i) (by rw[XK];exact hi)
  rw[Sy hi] at eL
  have hmm:l.getD i ([],[])∈l:=by rw[Zf,Zl hi];exact Xd hi
  have hpl:=MR (l:=l.take i) λx hx=>hal x (X5 hx)
  rw[ZC] at hpl
  have hpl:(Sv (l.take i)).length<=1000*10023:=by
   omega
  have hpush:=zL hi
  have hx1:=hal _ hmm
  have hx2:=hm _ hmm
  generalize l.getD i ([],[])=a at*
  have hx0:=k0.nx
  have gy:=gH.keep0 k0
  have hro:=gy.p.ro;have vy:=gy.p.nx
  obtain⟨lw1,lw2⟩:=(⟨λn hn=>gb.low hn,gb.blk⟩:(∀n,H.nx<=n->Wx n w=true)∧ ∀b∈XP w,Hs.nx<=b∧b<H.nx)
  obtain⟨H1,hH1⟩:=Sa (H.new (rH 81 [.str a.1,.str a.2]))
  have k01:Zs H H1 []:=by rw[<-hH1];exact Zs.new _ _ _
  have IY:H1.nx=H.nx+1:=by rw[<-hH1];rfl
  have g1:H1.t.get H.nx=some (rH 81 [.str a.1,.str a.2]):=by rw[<-hH1];exact ZW rfl _
  have sf:=Tn (n:=2) (b:=H.nx) (l:=[.str [],.str []]) (vs:=[.str a.1,.str a.2]) (H:=H.new (rH 81 [.str [],.str []])) rfl rfl (by decide) hro 81 1 false true
  rw[Tm rfl,hH1] at sf
  have ld2: ∀G,EW 2 (some (rH 81 [.str a.1,.str a.2])) 0 G=.val (.agg [.str a.1,.str a.2]) G:=λG=>Vr (show 0+2<=2 by decide) ..
  have l0: ∀G,ld1 (some (rH 81 [.str a.1,.str a.2])) 0 G=.val (.str a.1) G:=λG=>rfl
  have l1: ∀G,ld1 (some (rH 81 [.str a.1,.str a.2])) 1 G=.val (.str a.2) G:=λG=>rfl
  have gH1:=gy.keep0 k01
  obtain⟨H2,e2,k12⟩:=bj E (k:=k) (n:=n) hk (H:=H1) (a:=a.1) (b:=a.2) gH1.g gH1.p.ro hx2 (by omega) (by omega)
  have hps:=Bq (rest:=a.1.length+a.2.length+3) (by omega)
  generalize hpz:O5 (a.1.length+a.2.length+3)=z at*
  have sS:=gH1.keep0 k12
  have hx2':=k12.nx
  have ID:=(gb.keep k01 (λ_ _=>by simp)).keep k12 (λ_ _=>by simp)
  have g2:H2.t.get H.nx=some (rH 81 [.str a.1,.str a.2]):=by rw[k12.get _ (by omega) (by simp)];exact g1
  have ln:=gb.len
  have ad: ∀G,Ty (nI .i64 (Sv (l.take i)).length) (nI .i64 z) G=.val (nI .i64 ((Sv (l.take i)).length+z)) G:=λG=>YI (by omega) G
  have d2:decide (16777216<(Sv (l.take i)).length+z)=false:=Zb (by omega)
  obtain⟨w3,H3,e3,K7,k23,bk3⟩:=jH E (k:=k) (n:=n) (by omega) (m:=z) sS.g ID (by omega) sS.p.ro (by omega) (by omega)
  have hx3:=k23.nx
  have hdl:=Rr z
  have hdn:=TX (n:=z) (k:=20) (by decide) (by omega)
  have nb: ∀x∈XP w,x≠H.nx:=λx hx=>by have:=(lw2 x hx).2;omega
  have g3:H3.t.get H.nx=some (rH 81 [.str a.1,.str a.2]):=by rw[k23.get _ (by omega) (λh=>nb _ h rfl)];exact g2
  have jT: ∀x∈XP w3,x≠H.nx∧Hs.nx<=x:=λx hx=>by
   rcases bk3 x hx with h|h
   ·exact⟨nb x h,(lw2 x h).1⟩
   ·exact⟨by omega,by omega⟩
  have lw3:=λn hn=>K7.low (n:=n) hn
  have lwa:=lw3 H3.nx (Zp _)
  have ZaO:H3.ro<=H3.nx:=by rw[k23.ro];exact Z5 sS.p.ro hx3
  obtain⟨H4,Nu⟩:=Sa (H3.new (rH 5 [nI .u8 32]))
  have Hj:Zs H3 H4 []:=by rw[<-Nu];exact Zs.new _ _ _
  have nx4:H4.nx=H3.nx+1:=by rw[<-Nu];rfl
  have lwd:=lw3 H4.nx (by omega)
  have q4:H4.t.get H3.nx=some (rH 5 [nI .u8 32]):=by rw[<-Nu];exact ZW rfl _
  have g4:H4.t.get H.nx=some (rH 81 [.str a.1,.str a.2]):=by rw[Hj.get _ (by omega) (by simp)];exact g3
  obtain⟨H5,hH5⟩:=Sa (H4.new (rH 5 [nI .u8 61]))
  have EA:Zs H4 H5 []:=by rw[<-hH5];exact Zs.new _ _ _
  have nx5:H5.nx=H4.nx+1:=by rw[<-hH5];rfl
  have lwe:=lw3 H5.nx (by omega)
  have q5:H5.t.get H4.nx=some (rH 5 [nI .u8 61]):=by rw[<-hH5];exact ZW rfl _
  have aq:=Hj.trans' EA
  have q45:H5.t.get H3.nx=some (rH 5 [nI .u8 32]):=by rw[EA.get _ (by omega) (by simp)];exact q4
  have g5:H5.t.get H.nx=some (rH 81 [.str a.1,.str a.2]):=by rw[aq.get _ (by omega) (by simp)];exact g3
  have ro5:H5.ro<=H5.nx:=by rw[aq.ro];omega
  have bvA:=Ee (H:=H5) (b:=H3.nx) (a:=0) (n:=1) (c:=none) (l:=[32]) q45 (by omega) (by decide) (by decide) (λk h=>by cases h)
  obtain⟨w6,H6,e6,am,CM,bk6⟩:=Kd (K7.keep aq (λ_ _=>by simp)) bvA (by omega) ro5 (by rw[Zj];show _+1<=_;omega)
  have hx6:=CM.nx
  have g6:H6.t.get H.nx=some (rH 81 [.str a.1,.str a.2]):=by rw[CM.get _ (by omega) (λh=>(jT _ h).1 rfl)];exact g5
  have q6:H6.t.get H4.nx=some (rH 5 [nI .u8 61]):=by rw[CM.get _ (by omega) (λh=>by have:=(K7.blk _ h).2;omega)];exact q5
  have bw6: ∀x∈XP w6,x≠H.nx∧Hs.nx<=x∧x≠H4.nx:=λx hx=>by
   rcases bk6 x hx with h|h
   ·exact⟨(jT x h).1,(jT x h).2,by have:=(K7.blk _ h).2;omega⟩
   ·exact⟨by omega,by omega,by omega⟩
  have ro6:H6.ro<=H6.nx:=by rw[CM.ro];omega
  obtain⟨w7,H7,e7,gb7,fT,bk7⟩:=yW am (by omega) ro6 a.1 (by rw[Zj,Zj];show _+1+_<=_;omega)
  have hx7:=fT.nx
  have g7:H7.t.get H.nx=some (rH 81 [.str a.1,.str a.2]):=by rw[fT.get _ (by omega) (λh=>(bw6 _ h).1 rfl)];exact g6
  have q7:H7.t.get H4.nx=some (rH 5 [nI .u8 61]):=by rw[fT.get _ (by omega) (λh=>(bw6 _ h).2.2 rfl)];exact q6
  have bw7: ∀x∈XP w7,x≠H.nx∧Hs.nx<=x:=λx hx=>by
   rcases bk7 x hx with h|h
   ·exact⟨(bw6 x h).1,(bw6 x h).2.1⟩
   ·exact⟨by omega,by omega⟩
  have ro7:H7.ro<=H7.nx:=by rw[fT.ro];omega
  have bvB:=Ee (H:=H7) (b:=H4.nx) (a:=0) (n:=1) (c:=none) (l:=[61]) q7 (by omega) (by decide) (by decide) (λk h=>by cases h)
  obtain⟨w8,H8,e8,gb8,k78,bk8⟩:=Kd gb7 bvB (by omega) ro7 (by rw[Zj,Zj,Zj];show _+1+_+1<=_;omega)
  have hx8:=k78.nx
  have g8:H8.t.get H.nx=some (rH 81 [.str a.1,.str a.2]):=by rw[k78.get _ (by omega) (λh=>(bw7 _ h).1 rfl)];exact g7
  have bw8: ∀x∈XP w8,x≠H.nx∧Hs.nx<=x:=λx hx=>by
   rcases bk8 x hx with h|h
   ·exact bw7 x h
   ·exact⟨by omega,by omega⟩
  have ro8:H8.ro<=H8.nx:=by rw[k78.ro];omega
  obtain⟨w9,H9,e9,gb9,k89,bk9⟩:=yW gb8 (by omega) ro8 a.2 (by rw[Zj,Zj,Zj,Zj];show _+1+_+1+_<=_;omega)
  have hx9:=k89.nx
  have bw9: ∀x∈XP w9,Hs.nx<=x:=λx hx=>by
   rcases bk9 x hx with h|h
   ·exact(bw8 x h).2
   ·omega
  obtain⟨Ha,an⟩:=Sa (H9.new (rH 5 [nI .u8 10]))
  have k9a:Zs H9 Ha []:=by rw[<-an];exact Zs.new _ _ _
  have nxa:Ha.nx=H9.nx+1:=by rw[<-an];rfl
  have roa:Ha.ro<=Ha.nx:=by rw[k9a.ro,k89.ro];omega
  have bvC:=Ee (H:=Ha) (b:=H9.nx) (a:=0) (n:=1) (c:=none) (l:=[10]) (by rw[<-an];exact ZW rfl _) (by omega) (by decide) (by decide) (λk h=>by cases h)
  obtain⟨wb,Hb,eb,Zml,kab,bkb⟩:=Kd (gb9.keep k9a (λ_ _=>by simp)) bvC (by omega) roa (by simp only[Zj];show _+1+_+1+_+1<=_;omega)
  have bs1: ∀(x:Nat) (G:Heap),UU 5 1 1 [nI .u8 0] [(0,1,nI .u8 x)] G=.val (.slice G.nx 0 1 none) (G.new (rH 5 [nI .u8 x])):=λx G=>by rw[N3 _ _ _ rfl];rfl
  have kk:Zs Hs Hb []:=by
   refine(((((((k0.trans' (k01.trans' k12)).trans k23 ?_).trans' aq).trans CM ?_).trans fT ?_).trans k78 ?_).trans k89 ?_).trans' k9a|>.trans kab ?_
   ·intro c hc hlt;have:=(lw2 c hc).1;omega
   ·intro c hc hlt;have:=(jT c hc).2;omega
   ·intro c hc hlt;have:=(bw6 c hc).2.1;omega
   ·intro c hc hlt;have:=(bw7 c hc).2;omega
   ·intro c hc hlt;have:=(bw8 c hc).2;omega
   ·intro c hc hlt;have:=bw9 c hc;omega
  simp(disch:=first|assumption|omega|(simp -implicitDefEqProofs only[X3,X4]<;>first|assumption|omega)|decide) only[t4,t10,t11,t12,d1,eI,gbb,eL,sf,g1,ld2,l0,l1,e2,ln,ad,d2,e3,bs1,Nu,hH5,g4,g5,e6,g6,e7,e8,g8,e9,an,eb,lwa,Ya,Ys,ZD,ZM,Zy,Z3,YI,decide_true,decide_false,Zg,Zd,Zd,Zg,YD,Ys,Ya,ZD,ZM,Zy,Z3,Zd,Zg,YD,DP,Zu,Ye,Zw,Z8,Yp,Yv,Y6,Nat.reducePow,Nat.reduceDiv,Nat.reduceMod,reduceCtorEq,Z6,Vk]
  refine⟨_,_,_,rfl,.inl ⟨rfl,m,by omega,kk,ZcC,ZnD,i+1,wb,rfl,by omega,rfl,?_⟩⟩
  rw[hpush]
  have:J4 a=dec z++[32]++a.1++[61]++a.2++[10]:=by unfold J4;rw[hpz]
  rw[this]
  simpa only[Xj,Yk,Y3,YN] using Zml
theorem qi(E:Env Zn fs fuel)(hk:7<=k){v:AV}{l:List NP}(gH:Sd H)(hN:Sl H 2 v (V8 l))(hm: ∀x∈l,QR x.1=true)(hal: ∀x∈l,x.1.length+x.2.length<=10000)(hl:l.length<=1000):
  ∃w H',ZE (LK Zn fs fuel k) fs fuel (n+5) 20 [v] H=.ret (.tup [w,nI .i64 0]) H'∧GB H' w (Sv l) H.nx∧Zs H H' []:=by
 rw[ZI (ZA E.n20 (.inr rfl) _ _) E.f20]
 have hf:=E.big
 have ec:=λ{j}=>Zl3 E (k:=k) (n:=j) hk (H:=H) gH.p.ro hN hm (λx hx=>by have:=hal x hx;omega) hl
 have ln:=hN.len
 rw[XK] at ln
 simp only[ec,ln,c20,Zu,Ye,Z6]
 generalize hL:Wv (DP _) fuel _ _ _=L
 obtain⟨o,Pu,H2,rfl,_,rfl,k2,w,t4,gb⟩:=YA (P:=λT=>PPI H v l l.length T H) (Q:=PPQ H l)
  (λT hi=>YP (PPI H v l) (PPQ H l) (λm tm H2 h=>Zb8 E (n:=n) hk gH hN hm hal hl _ _ _ _ _ m tm H2 h) fuel l.length T H (by omega) hi) hL
  (by exact⟨Zs.refl _ _,rfl,rfl,0,.nils,rfl,by omega,rfl,by rw[YN];exact .inl ⟨rfl,rfl⟩⟩)
 simp only[Tp] at t4
 simp only[t4,Zu,Ye,Zw,Z6,Vk]
 refine⟨_,_,rfl,?_⟩
 exact⟨gb,k2⟩
def VJ(n:Nat):Nat:=(512 - n % 512) % 512
theorem ZbY(h0:0<n)(h:n<=16777216)(H:Heap):DI RI (.int .i64 (.negSucc (n - 1))) (nI .i64 511) H=.val (nI .i64 (VJ n)) H:=by
 show ZP (P3 .i64 .i64) (TK .i64 (.ofNat (RI (TG .i64) (SP (TG .i64) (.negSucc (n - 1))) (SP (TG .i64) (.ofNat 511)))) H)=_
 have hx:RI (TG .i64) (SP (TG .i64) (.negSucc (n - 1))) (SP (TG .i64) (.ofNat 511))=VJ n:=by
  show Nat.land (18446744073709551616 - 1 - (n - 1) % 18446744073709551616) 511=_
  rw[YB (by omega)]
  have:=Nat.and_two_pow_sub_one_eq_mod (18446744073709551616 - 1 - (n - 1)) 9
  have e:Nat.land (18446744073709551616 - 1 - (n - 1)) 511=(18446744073709551616 - 1 - (n - 1)) % 512:=this
  rw[e]
  unfold VJ
  omega
 have hl:VJ n<512:=WF _ (by decide)
 rw[XG,Vn,hx]
 show OR.val (.int .i64 (IntKind.wrap .i64 ((VJ n:Nat):Int))) H=_
 rw[Jr (by omega) (by omega)];rfl
theorem cr(H:Heap):DI RI (nI .i64 0) (nI .i64 511) H=.val (nI .i64 0) H:=rfl
theorem bZ(E:Env Zn fs fuel){m:Nat}(hm:m<=16777216):
  ∃H',ZE (LK Zn fs fuel 0) fs fuel (n+2) 13 [nI .i64 m] H=.ret (nI .i64 (VJ m)) H'∧Zs H H' []:=by
 rw[ZI (ZA E.n13 (.inl (by decide)) _ _) E.f13]
 by_cases h0:m=0
 ·subst h0
  have d1:decide (0<0)=false:=rfl
  rw[show VJ 0=0 from rfl]
  simp only[xu,cr,Gq,FP,Zy,U5,decide_false,Zy,c13,Zu,Ye,Zw,Z6]
  refine⟨_,rfl,?_⟩
  exact Zs.refl _ _
 ·have d1:decide (m<0)=false:=Zb (by omega)
  have e1:=λG=>dj (u:=m) (by omega) (by omega) G
  have e2:=λG=>ZbY (n:=m) (by omega) hm G
  simp only[d1,e1,e2,Gq,FP,Zy,Zy,c13,Zu,Ye,Zw,Z6]
  refine⟨_,rfl,?_⟩
  exact Zs.refl _ _
theorem ZcG(E:Env Zn fs fuel)(hk:1<=k){m:Nat}(hm:m<=16777216):
  ZE (LK Zn fs fuel k) fs fuel (n+1) 13 [nI .i64 m] H=.ret (nI .i64 (VJ m)) H:=by
 obtain⟨H',e,g⟩:=bZ E (n:=898) (H:=H) hm
 exact Yl (r:=0) rfl rfl e g (rfl) hk
structure Aa(H:Heap)(b N:Nat)(l:List UInt8):Prop where
 row: ∃r,H.t.get b=some (.row r)∧r.size=N∧r.own=true∧r.fz=0∧r.sz=1∧ ∀i,i<l.length->r.get i=Vd (l.getD i 0)
 lt:b<H.nx
 ro:H.ro<=b
theorem Aa.keep{H H':Heap}{N:Nat}{l:List UInt8}{S:List Nat}(h:Aa H b N l)(k:Zs H H' S)(hS:b∉S):Aa H' b N l:=by
 obtain⟨⟨r,h1,h2⟩,h3,h4⟩:=h
 exact⟨⟨r,by rw[k.get b h3 hS];exact h1,h2⟩,ZT h3 k.nx,by rw[k.ro];exact h4⟩
theorem ZeE{N:Nat}{l m:List UInt8}(h:Aa H b N l)(hN:l.length+m.length<=N):
  ∃H',Oz (.slice b 0 l.length none) 5 1 1 H m.length (m.map Vd)=.val (.slice b 0 (l.length+m.length) none) H'∧Aa H' b N (l++m)∧Zs H H' [b]:=by
 obtain⟨⟨r,h1,h2,h3,h4,h5,h6⟩,h7,h8⟩:=h
 have hrow: ∀k:Row->OR,Xg H b k=k r:=λk=>by unfold Xg;rw[h1]
 have hcap:Te r 0 none=N:=by
  show cond (Nat.beq r.sz 1) (r.size - 0) (Nat.div (r.size - 0) r.sz)=_
  rw[h5,h2];rfl
 have hsz:GX r 1 none=true:=by show Nat.beq r.sz 1=true;rw[h5];rfl
 have OI:H.may r b=true:=by unfold Heap.may;rw[h3,Zk h8];rfl
 have e0: ∀(n:Nat) (new:List AV),l.length+n<=N->Oz (.slice b 0 l.length none) 5 1 1 H n new=L4 H (.slice b 0 l.length none) b 0 l.length n 1 none r new:=λn new hn=>by
  show Xg H b (λr=>ZP (GX r 1 none) (cond (Nat.ble (Nat.add l.length n) (Te r 0 none)) (L4 H (.slice b 0 l.length none) b 0 l.length n 1 none r new) (Oy H 5 b 0 l.length n 1 1 none r new)))=_
  rw[hrow,hsz,hcap,show Nat.ble (Nat.add l.length n) N=true from Zk hn];rfl
 rw[e0 _ _ hN]
 by_cases h0:m=[]
 ·subst h0
  exact⟨H,rfl,⟨⟨r,h1,h2,h3,h4,h5,by rw[Yd];exact h6⟩,h7,h8⟩,Zs.refl _ _⟩
 ·have hp:0<m.length:=by rcases m with _|_;exact absurd rfl h0;exact So _
  refine⟨H.put b (.row (r.setCells (WY r.cells (0+l.length*1) (m.map Vd)))),?_,⟨⟨_,Xw _ _ _,h2,h3,h4,h5,λi hi=>?_⟩,h7,h8⟩,Zs.put λ_=>Zq.2 rfl⟩
  ·show cond (Nat.beq m.length 0) _ (ZP (H.may r b) (ZP (Nat.ble (0+(l.length+m.length)*1) r.size) (ZP (Nat.ble r.fz (0+l.length*1)) (.val (.slice b 0 (l.length+m.length) none) _))))=_
   rw[Yy,Zb (by omega),OI,h2,h4,Zk (by omega),Zk (ZZ _)];rfl
  ·rw[Zj] at hi
   rw[Row.get_eq]
   show((WY r.cells (0+l.length*1) (m.map Vd)).get i).getD r.dflt=_
   rw[Xl,Zd,Qy,Zx]
   by_cases hA:i<l.length
   ·rw[if_neg (by omega)]
    have:=h6 i hA
    rw[Row.get_eq] at this
    rw[this,Zf,Zf,Yh hA]
   ·rw[if_pos (by omega),YE,Zl (by omega),Zf,Yi (by omega),Zl (by omega)];rfl
theorem pm{N:Nat}{l m:List UInt8}{v:AV}(h:Aa H b N l)(hv:BV H v m)(hN:l.length+m.length<=N):
  ∃H',UT 5 1 1 (.slice b 0 l.length none) v H=.val (.slice b 0 (l.length+m.length) none) H'∧Aa H' b N (l++m)∧Zs H H' [b]:=by
 obtain⟨H',e,r⟩:=ZeE h hN
 refine⟨H',?_,r⟩
 rw[P9 (by decide) hv.src,Zx];exact e
theorem Aa.bv{N:Nat}{l:List UInt8}(h:Aa H b N l)(hl:l.length=N)(h0:0<N):BV H (.slice b 0 N none) l:=by
 obtain⟨⟨r,h1,h2,h3,h4,h5,h6⟩,h7,h8⟩:=h
 exact .inr ⟨λh=>by rw[h] at hl;have:0=N:=hl;omega,b,0,none,r,by rw[hl],⟨h1,h5,by omega,λi hi=>by rw[Zd];exact h6 i hi,λk hk=>by cases hk⟩,h7⟩
def Zg6(a:AV)(H:Heap):OR:=rU (λ_=>a) M9 H
theorem ZbE(x:Z1)(tm:TM)(H:Heap):rU x tm H=Zg6 (x tm) H:=rfl
theorem gJ(E:Env Zn fs fuel){N:Nat}(hro:H.ro<=H.nx)(h0:0<N)(hN:N<=140737488355328):
  ∃H',ZE (LK Zn fs fuel k) fs fuel (n+1) 55 [.nils,nI .i64 N] H=.ret (.slice H.nx 0 0 none) H'∧Aa H' H.nx N []∧Zs H H' []:=by
 rw[ZI (ZA E.n55 (.inr rfl) _ _) E.f55]
 have c0: ∀G:Heap,Zg6 .nils G=.val (nI .i64 0) G:=λG=>rfl
 have s0: ∀G:Heap,M6 (nI .i64 0) (nI .i64 0) G=.val (nI .i64 0) G:=λG=>rfl
 have s1: ∀G:Heap,M6 (nI .i64 N) (nI .i64 0) G=.val (nI .i64 N) G:=λG=>by rw[XL (by omega) (by omega),Nat.sub_zero]
 have d0:decide (N<0)=false:=Zb (by omega)
 have d1:decide (0<N)=true:=Ze h0
 have sn: ∀G:Heap,Pq 1 .nils none (some (nI .i64 0)) G=.val .nils G:=λG=>rfl
 have hrep:(List.replicate N (0:UInt8)).length=N:=ZH ..
 have ea:Zel 5 1 1 [nI .u8 0] .nils (nI .i64 N) H=.val (.slice H.nx 0 N none) (H.new (rG 5 1 ((List.replicate N (0:UInt8)).map Vd) 0 false true false)):=by
  show ZP (Nat.ble (N*1) 140737488355328) (Oz .nils 5 1 1 H N (List.replicate N [nI .u8 0]).flatten)=_
  rw[Xl,Zk hN,xS]
  have:=wu (e:=5) (H:=H) (l:=(List.replicate N (0:UInt8)).map Vd) (by rw[Zx,hrep];exact h0) (by rw[Zx,hrep];exact hN)
  rw[Zx,hrep] at this
  show Oz .nils 5 1 1 H N ((List.replicate N (0:UInt8)).map Vd)=_
  rw[this,QF]
 have hs:YK ((List.replicate N (0:UInt8)).map Vd)=N:=by rw[YF,Zx,hrep]
 have sl:Pq 1 (.slice H.nx 0 N none) none (some (nI .i64 0)) (H.new (rG 5 1 ((List.replicate N (0:UInt8)).map Vd) 0 false true false))=.val (.slice H.nx 0 0 none) (H.new (rG 5 1 ((List.replicate N (0:UInt8)).map Vd) 0 false true false)):=by
  show Xg _ H.nx _=_
  unfold Xg
  rw[ZW rfl]
  show ZP true (ZP (Nat.ble 0 (YK ((List.replicate N (0:UInt8)).map Vd) - 0)) (ZP (Nat.ble 0 0) (ZP (Nat.ble 0 (YK ((List.replicate N (0:UInt8)).map Vd) - 0)) (cond (Nat.beq 0 (YK ((List.replicate N (0:UInt8)).map Vd) - 0)) _ (.val (.slice H.nx (0+0*1) (0 - 0) none) _)))))=_
  rw[hs,Nat.sub_zero,Zk (ZZ _),Yy,Zb (by omega)];rfl
 simp only[c0,s0,s1,d0,d1,sn,ea,sl,ZbE,Lv,XZ,UM,Zy,Z3,Zy,Z3,Me,c55,Zu,Ye,Zw,Z6]
 refine⟨_,rfl,⟨⟨_,ZW rfl _,hs,rfl,rfl,rfl,λi hi=>by cases hi⟩,YM _,hro⟩,Zs.new _ _ _⟩
theorem it(E:Env Zn fs fuel){sb e:Nat}{s1 s2 s3 s4:AV}{l1 l2 l3 l4:List UInt8}(hro:H.ro<=H.nx)(hb:sb<H.nx)(g:H.t.get sb=some (rG e 1 [s1,s2,s3,s4] 0 false true true))(b1:BV H s1 l1)(b2:BV H s2 l2)(b3:BV H s3 l3)(b4:BV H s4 l4)
  (f1: ∀b∈XP s1,b<H.nx)(f2: ∀b∈XP s2,b<H.nx)(f3: ∀b∈XP s3,b<H.nx)(f4: ∀b∈XP s4,b<H.nx)(h0:0<l1.length)(hl:l1.length+l2.length+l3.length+l4.length<=1000000000):
  ∃b H',ZE (LK Zn fs fuel k) fs fuel (n+2) 25 [.slice sb 0 4 none] H=.ret (.slice b 0 (l1.length+l2.length+l3.length+l4.length) none) H'∧BV H' (.slice b 0 (l1.length+l2.length+l3.length+l4.length) none) (l1++l2++l3++l4)∧Zs H H' []∧H.nx<=b∧b<H'.nx:=by
 rw[ZI (ZA E.n25 (.inr rfl) _ _) E.f25]
 have hf:=E.big
 obtain⟨fu,rfl⟩: ∃fu,fuel=fu+5:=⟨fuel - 5,by omega⟩
 have ix: ∀i,i<4-> ∀G,Gd 1 (.slice sb 0 4 none) (nI .i64 i) G=.val (.ptr sb i) G:=λi hi G=>by rw[Xb hi,Zd]
 have ix0:=ix 0 (by decide);have ix1:=ix 1 (by decide);have ix2:=ix 2 (by decide);have ix3:=ix 3 (by decide)
 have ld0: ∀G,ld1 (some (rG e 1 [s1,s2,s3,s4] 0 false true true)) 0 G=.val s1 G:=λG=>WH (show 0<4 by decide) ..
 have ld1': ∀G,ld1 (some (rG e 1 [s1,s2,s3,s4] 0 false true true)) 1 G=.val s2 G:=λG=>WH (show 1<4 by decide) ..
 have Zna: ∀G,ld1 (some (rG e 1 [s1,s2,s3,s4] 0 false true true)) 2 G=.val s3 G:=λG=>WH (show 2<4 by decide) ..
 have Znb: ∀G,ld1 (some (rG e 1 [s1,s2,s3,s4] 0 false true true)) 3 G=.val s4 G:=λG=>WH (show 3<4 by decide) ..
 have n1:=b1.len;have n2:=b2.len;have n3:=b3.len;have n4:=b4.len
 have a1: ∀G,Ty (nI .i64 0) (nI .i64 l1.length) G=.val (nI .i64 l1.length) G:=λG=>by rw[YI (by omega),Zd]
 have a2: ∀G,Ty (nI .i64 l1.length) (nI .i64 l2.length) G=.val (nI .i64 (l1.length+l2.length)) G:=λG=>YI (by omega) G
 have a3: ∀G,Ty (nI .i64 (l1.length+l2.length)) (nI .i64 l3.length) G=.val (nI .i64 (l1.length+l2.length+l3.length)) G:=λG=>YI (by omega) G
 have a4: ∀G,Ty (nI .i64 (l1.length+l2.length+l3.length)) (nI .i64 l4.length) G=.val (nI .i64 (l1.length+l2.length+l3.length+l4.length)) G:=λG=>YI (by omega) G
 have dz: ∀x:Nat,decide (x<0)=false:=λx=>Zb (T4 _)
 have p0: ∀G,Tf XE YH (nI .i64 0) (nI .i64 4) G=.val (.bool true) G:=λ_=>rfl
 have p1: ∀G,Tf XE YH (nI .i64 1) (nI .i64 4) G=.val (.bool true) G:=λ_=>rfl
 have p2: ∀G,Tf XE YH (nI .i64 2) (nI .i64 4) G=.val (.bool true) G:=λ_=>rfl
 have p3: ∀G,Tf XE YH (nI .i64 3) (nI .i64 4) G=.val (.bool true) G:=λ_=>rfl
 have p4: ∀G,Tf XE YH (nI .i64 4) (nI .i64 4) G=.val (.bool false) G:=λ_=>rfl
 have q0: ∀G,Ty (nI .i64 0) (nI .i64 1) G=.val (nI .i64 1) G:=λ_=>rfl
 have q1: ∀G,Ty (nI .i64 1) (nI .i64 1) G=.val (nI .i64 2) G:=λ_=>rfl
 have q2: ∀G,Ty (nI .i64 2) (nI .i64 1) G=.val (nI .i64 3) G:=λ_=>rfl
 have q3: ∀G,Ty (nI .i64 3) (nI .i64 1) G=.val (nI .i64 4) G:=λ_=>rfl
 obtain⟨H1,eg,cb,k1⟩:=gJ E (k:=k) (n:=n) (H:=H) (N:=l1.length+l2.length+l3.length+l4.length) hro (by omega) (by omega)
 have mv: ∀{G:Heap} {s:AV} {l:List UInt8},BV H s l->(∀b∈XP s,b<H.nx)->(∃S,Zs H G S∧ ∀x∈S,x=H.nx)->BV G s l:=λhb hf ⟨S,kk,hS⟩=>hb.keep kk λb o n c hh hm=>by
  subst hh
  have:=hf b (by simp[XP])
  have:=hS b hm
  omega
 obtain⟨H2,e2,cb2,k2⟩:=pm cb (mv b1 f1 ⟨[],k1,λx hx=>by cases hx⟩) (by show 0+_<=_;omega)
 have kk2:Zs H H2 [H.nx]:=(k1.more).trans k2 λc hc _=>hc
 rw[ZY] at cb2
 rw[show([]:List UInt8).length=0 from rfl,Zd] at e2
 obtain⟨H3,e3,cb3,k3⟩:=pm cb2 (mv b2 f2 ⟨_,kk2,λx hx=>Zq.1 hx⟩) (by omega)
 have kk3:Zs H H3 [H.nx]:=kk2.trans k3 λc hc _=>hc
 obtain⟨H4,e4,cb4,k4⟩:=pm cb3 (mv b3 f3 ⟨_,kk3,λx hx=>Zq.1 hx⟩) (by rw[Zj];omega)
 have kk4:Zs H H4 [H.nx]:=kk3.trans k4 λc hc _=>hc
 rw[Zj] at e4
 obtain⟨H5,e5,cb5,k5⟩:=pm cb4 (mv b4 f4 ⟨_,kk4,λx hx=>Zq.1 hx⟩) (by rw[Zj,Zj];omega)
 have kk5:Zs H H5 [H.nx]:=kk4.trans k5 λc hc _=>hc
 rw[Zj,Zj] at e5
 have gk: ∀{G S},Zs H G S->(∀x∈S,x=H.nx)->G.t.get sb=some (rG e 1 [s1,s2,s3,s4] 0 false true true):=λkk hS=>by
  rw[kk.get sb hb λh=>by have:=hS _ h;omega];exact g
 have g1:=gk k1 λx hx=>by cases hx
 have g2:=gk kk2 λx hx=>Zq.1 hx
 have g3:=gk kk3 λx hx=>Zq.1 hx
 have g4:=gk kk4 λx hx=>Zq.1 hx
 simp only[ix0,ix1,ix2,ix3,g,g1,g2,g3,g4,ld0,ld1',Zna,Znb,n1,n2,n3,n4,a1,a2,a3,a4,dz,p0,p1,p2,p3,p4,q0,q1,q2,q3,eg,e2,e3,e4,e5,Nw,Ya,Sr,Zy,c25,jV,jW,Zu,Ye,Zw,Z6,Vk]
 refine⟨H.nx,_,rfl,cb5.bv ?_ (by omega),?_,Zp _,cb5.lt⟩
 ·simp only[Zj]
 ·exact⟨kk5.nx,kk5.ro,λc hc _=>kk5.get c hc λh=>by have:=Zq.1 h;omega⟩
structure Dv(m:Mem):Prop where
 path:m.path.length<=4200
 link:m.link.length<=4200
 attrs: ∀x∈m.attrs,x.1.length+x.2.length<=9000
 mode:m.mode<4294967296
 uid:m.uid<4294967296
 gid:m.gid<4294967296
 t1: -9223372036854775808<=m.time
 t2:m.time<=9223372036854775807
 ats:m.attrs.length<=100
theorem Dv.short{m:Mem}(h:Dv m):JJ m:=
 ⟨by have:=h.path;omega,by have:=h.ats;omega,λi hi=>by
  have:=h.attrs (m.attrs.getD i ([],[])) (by rw[Zf,Zl hi];exact Xd hi)
  omega⟩
def ED(m:Mem):List UInt8:=pO m.path m.link m.kind m.time m.mode m.uid m.gid m.data
def Tq(m:Mem):List NP:=pP m.path m.link m.kind m.time m.uid m.gid m.attrs
theorem Cl{z:Int}(h1: -9223372036854775808<=z)(h2:z<=9223372036854775807):(SQ z).length<=21:=by
 unfold SQ
 have h:=TX (n:=z.natAbs) (k:=20) (by decide) (by omega)
 split
 ·rw[ZS,Rr];omega
 ·rw[Rr];omega
def OU(x:NP):Prop:=QR x.1=true∧x.1.length+x.2.length<=10000
theorem xB{e:Ab}{Rs:List NP}(h: ∀x∈Rs,OU x)(he:OU (e.key,SQ e.z)): ∀x∈WK e Rs,OU x:=by
 intro x hx
 unfold WK at hx
 split at hx
 ·rcases Zr.1 hx with hx|hx
  ·exact h x hx
  ·rw[Zq.1 hx];exact he
 ·exact h x hx
theorem aE(a s t:List UInt8):Ts a (s++t)=(Ts a s||Ts a t):=by unfold Ts;rw[List.any_append]
theorem aN{m:Mem}(h:Dv m)(hm:Pb m.attrs=true): ∀x∈m.attrs,OU (TQ x):=by
 intro x hx
 unfold Pb at hm
 rw[Yw,Yo] at hm
 obtain⟨i,hi,rfl⟩:=TW.1 hx
 have h1:=hm.1 i (T1.2 hi)
 unfold dL at h1
 rw[Zf,Zl hi] at h1
 have h2:=h.attrs _ hx
 simp only[Option.getD_some,Yw,T0,decide_eq_true_eq,decide_eq_false_iff_not] at h1
 obtain⟨⟨⟨h3,h4⟩,h5⟩,_⟩:=h1
 refine⟨?_,?_⟩
 ·show QR ([83,67,72,73,76,89,46,120,97,116,116,114,46]++_)=true
  unfold QR
  rw[aE,h5]
  have hl:([83,67,72,73,76,89,46,120,97,116,116,114,46]++m.attrs[i].1).length<=255:=by rw[Zj];show 13+_<=_;omega
  rw[Ze hl,Zb (by simp)]
  rfl
 ·show([83,67,72,73,76,89,46,120,97,116,116,114,46]++m.attrs[i].1).length+m.attrs[i].2.length<=10000
  rw[Zj];show 13+m.attrs[i].1.length+m.attrs[i].2.length<=10000;omega
theorem xR{m:Mem}(h:Dv m)(hm:Pb m.attrs=true):(∀x∈Tq m,OU x)∧(Tq m).length<=105:=by
 have hp:=h.path;have hl:=h.link
 have hlo:=CS m.kind m.path
 have kk:QR [112,97,116,104]=true∧QR [108,105,110,107,112,97,116,104]=true∧QR [117,105,100]=true∧QR [103,105,100]=true∧QR [109,116,105,109,101]=true:=by decide
 have h0: ∀x∈(if (VR (W0 m.kind m.path)).2.2=true then [] else [([112,97,116,104],W0 m.kind m.path)]:List NP),OU x:=by
  intro x hx
  split at hx
  ·cases hx
  ·rw[Zq.1 hx];exact⟨kk.1,by show 4+(W0 m.kind m.path).length<=10000;omega⟩
 have n0:(if (VR (W0 m.kind m.path)).2.2=true then [] else [([112,97,116,104],W0 m.kind m.path)]:List NP).length<=1:=by split<;>simp
 generalize hq:(if (VR (W0 m.kind m.path)).2.2=true then [] else [([112,97,116,104],W0 m.kind m.path)]:List NP)=q at h0 n0
 have h1: ∀x∈(if 100<m.link.length then q++[([108,105,110,107,112,97,116,104],m.link)] else q),OU x:=by
  intro x hx
  split at hx
  ·rcases Zr.1 hx with hx|hx
   ·exact h0 x hx
   ·rw[Zq.1 hx];exact⟨kk.2.1,by show 8+m.link.length<=10000;omega⟩
  ·exact h0 x hx
 have n1:(if 100<m.link.length then q++[([108,105,110,107,112,97,116,104],m.link)] else q).length<=2:=by
  split
  ·rw[Zj];show _+1<=_;omega
  ·omega
 unfold Tq pP Zbu bW
 rw[hq]
 generalize(if 100<m.link.length then q++[([108,105,110,107,112,97,116,104],m.link)] else q)=q1 at h1 n1
 have f1:=Cl (z:=(m.uid:Int)) (by omega) (by have:=h.uid;omega)
 have f2:=Cl (z:=(m.gid:Int)) (by omega) (by have:=h.gid;omega)
 have f3:=Cl h.t1 h.t2
 have a1:=xB (e:=⟨[117,105,100],108,8,m.uid,2097151⟩) h1 ⟨kk.2.2.1,by show 3+(SQ (m.uid:Int)).length<=10000;omega⟩
 have b1:=Pe ⟨[117,105,100],108,8,m.uid,2097151⟩ q1
 have a2:=xB (e:=⟨[103,105,100],116,8,m.gid,2097151⟩) a1 ⟨kk.2.2.2.1,by show 3+(SQ (m.gid:Int)).length<=10000;omega⟩
 have b2:=Pe ⟨[103,105,100],116,8,m.gid,2097151⟩ (WK ⟨[117,105,100],108,8,m.uid,2097151⟩ q1)
 have a3:=xB (e:=⟨[109,116,105,109,101],136,12,m.time,8589934591⟩) a2 ⟨kk.2.2.2.2,by show 5+(SQ m.time).length<=10000;omega⟩
 have b3:=Pe ⟨[109,116,105,109,101],136,12,m.time,8589934591⟩ (WK ⟨[103,105,100],116,8,m.gid,2097151⟩ (WK ⟨[117,105,100],108,8,m.uid,2097151⟩ q1))
 have hF:(xC m.uid m.gid m.time).foldl (λl x=>WK x l) q1=WK ⟨[109,116,105,109,101],136,12,m.time,8589934591⟩ (WK ⟨[103,105,100],116,8,m.gid,2097151⟩ (WK ⟨[117,105,100],108,8,m.uid,2097151⟩ q1)):=rfl
 rw[hF]
 refine⟨λx hx=>?_,?_⟩
 ·rcases Zr.1 hx with hx|hx
  ·exact a3 x hx
  ·obtain⟨y,hy,rfl⟩:=YQ.1 hx
   exact aN h hm y hy
 ·rw[Zj,Zx];have:=h.ats;omega
def qh(r:Nat):List UInt8:=J6 (Ti (Ti (Ti (Ti (Ti (Ti (Nh 120) 0 100 (Qg [112,97,120] 100)) 100 8 (Py 0 8)) 108 8 (Py 0 8)) 116 8 (Py 0 8)) 136 12 (Py 0 12)) 124 12 (Py r 12))
def R0(m:Mem):List UInt8:=if Tq m=[] then ED m else qh (Sv (Tq m)).length++Sv (Tq m)++List.replicate (VJ (Sv (Tq m)).length) 0++ED m
theorem EN(e n:Nat):Cells ⟨e,1,n,.leaf,nI .u8 0,0,false,true,true⟩ ((List.replicate n (0:UInt8)).map Vd):=by
 have h:(List.replicate n (0:UInt8)).map Vd=List.replicate n (nI .u8 0):=by rw[Sk];rfl
 refine⟨by rw[Zx,ZH],λi hi=>?_⟩
 rw[Zx,ZH] at hi
 rw[h,Row.get_eq,Zf,XO,if_pos hi]
 show(T.leaf.get i).getD (nI .u8 0)=nI .u8 0
 rw[T.get_leaf];rfl
theorem QN.szd{m:Mem}{av dv:AV}(hA:Sz H 2 av (V8 m.attrs))(hD:Sz H 1 dv (OX m.data))(h:Dv m)(hd:m.data.length<=1073741824):Szd H av dv m.attrs m.data:=
 ⟨hA,hD,h.ats,λx hx=>by have:=h.attrs x hx;omega,hd⟩
theorem wn(E:Env Zn fs fuel)(hk:12<=k){m:Mem}(gH:Sd H)(hC:QN H cs m)(h:Dv m)(hm:YZ m=true):
  ∃v H',ZE (LK Zn fs fuel k) fs fuel (n+7) 7 [.agg cs] H=.ret (.tup [v,nI .i64 0]) H'∧BV H' v (R0 m)∧Zs H H' []∧ ∃b c,v=.slice b 0 (R0 m).length c∧H.nx<=b∧b<H'.nx:=by
 rw[ZI (ZA E.n7 (.inr rfl) _ _) E.f7]
 have hC0:=hC
 obtain⟨av,dv,rfl,hA,hD⟩:=hC
 have hm':=hm
 unfold YZ at hm'
 simp only[Yw,decide_eq_true_eq] at hm'
 obtain⟨⟨⟨⟨⟨_,hmo⟩,hmA⟩,_⟩,hdl⟩,_⟩:=hm'
 have bx: ∀G:Heap,Ni 36 (.agg [.str m.path,.int .i64 m.kind,nI .u32 m.mode,nI .u32 m.uid,nI .u32 m.gid,.int .i64 m.time,av,dv,.str m.link]) G=.val (.ptr G.nx 0) (G.new (rH 36 [.str m.path,.int .i64 m.kind,nI .u32 m.mode,nI .u32 m.uid,nI .u32 m.gid,.int .i64 m.time,av,dv,.str m.link])):=λG=>XS (l:=[.str m.path,.int .i64 m.kind,nI .u32 m.mode,nI .u32 m.uid,nI .u32 m.gid,.int .i64 m.time,av,dv,.str m.link]) (show 1<=9 by decide) 36 G
 obtain⟨H1,hH1⟩:=Sa (H.new (rH 36 [.str m.path,.int .i64 m.kind,nI .u32 m.mode,nI .u32 m.uid,nI .u32 m.gid,.int .i64 m.time,av,dv,.str m.link]))
 have k1:Zs H H1 []:=by rw[<-hH1];exact Zs.new _ _ _
 have IY:H1.nx=H.nx+1:=by rw[<-hH1];rfl
 have g1:H1.t.get H.nx=some (rH 36 [.str m.path,.int .i64 m.kind,nI .u32 m.mode,nI .u32 m.uid,nI .u32 m.gid,.int .i64 m.time,av,dv,.str m.link]):=by rw[<-hH1];exact ZW rfl _
 have wm: ∀G,EW 9 (some (rH 36 [.str m.path,.int .i64 m.kind,nI .u32 m.mode,nI .u32 m.uid,nI .u32 m.gid,.int .i64 m.time,av,dv,.str m.link])) 0 G=.val (.agg [.str m.path,.int .i64 m.kind,nI .u32 m.mode,nI .u32 m.uid,nI .u32 m.gid,.int .i64 m.time,av,dv,.str m.link]) G:=λG=>Vr (show 0+9<=9 by decide) ..
 have gH1:=gH.keep0 k1
 have em:=λ{j}=>x9 E (k:=k) (n:=j) hk h.short gH1.p (hC0.keep k1)
 rw[hm] at em
 obtain⟨b,q,w,H2,e2,hb,hbq,k12,sS,R2,rb⟩:=fC E (k:=k) (n:=n) (by omega) gH1 (QN.szd (hA.keep0 k1) (hD.keep0 k1) h (by omega)) h.mode h.uid h.gid h.t1 h.t2 (Z5 h.path (by decide)) (Z5 h.link (by decide))
 have k2:Zs H H2 []:=k1.trans' k12
 have hl2:=R2.len
 have hb2:=R2.lt
 have lw:=rb.len
 rw[XK] at lw
 obtain⟨MX,au⟩:=xR h hmA
 have sa: ∀(b:Nat) G,LG 512 1 (.ptr b 0) none none G=.val (.slice b 0 512 (some 512)) G:=λ_ _=>rfl
 by_cases hR:Tq m=[]
 ·have hR':=hR
  unfold Tq at hR'
  rw[hR'] at lw
  have d1: ∀G,N6 Vp false (nI .i64 ([]:List NP).length) (nI .i64 0) G=.val (.bool true) G:=λ_=>rfl
  have hb1:R0 m=ED m:=by unfold R0;rw[if_pos hR]
  have bv:=yG R2 (a:=0) (n:=512) (by decide) (by decide)
  rw[Yk,Z9 (by omega)] at bv
  have hl3:(R0 m).length=512:=by rw[hb1];exact hl2
  simp only[bx,hH1,g1,wm,em,e2,lw,sa,Wd,Lu,Om,NB,UM,YL,decide_true,Zg,Zg,SD,Zg,c7,Zu,Ye,Zw,Z8,Z6,]
  refine⟨_,_,rfl,?_⟩
  rw[hb1]
  exact⟨bv,k2,b,some 512,by rw[<-hb1,hl3],by omega,hb2⟩
 have hlen:0<(Tq m).length:=by
  rcases hx:Tq m with _|⟨a,l⟩
  ·exact absurd hx hR
  ·exact So _
 have lw: ∀G,NV w G=.val (nI .i64 (Tq m).length) G:=lw
 have d1:decide ((Tq m).length=0)=false:=Zb (by omega)
 have hb1:R0 m=qh (Sv (Tq m)).length++Sv (Tq m)++List.replicate (VJ (Sv (Tq m)).length) 0++ED m:=by unfold R0;rw[if_neg hR]
 obtain⟨w3,H3,e3,K7,k23⟩:=qi E (k:=k) (n:=n+1) (by omega) sS (Sl.of_buf (show RM H2 w 81 2 (V8 (Tq m)) (q+1) from rb)) (λx hx=>(MX x hx).1) (λx hx=>(MX x hx).2) (by omega)
 have hpl:=MR (l:=Tq m) λx hx=>(MX x hx).2
 have hpl:(Sv (Tq m)).length<=105*10023:=by
  omega
 have ln3:=K7.len
 generalize hP:Sv (Tq m)=P at*
 have d2: ∀G,N6 Vp true (nI .i64 0) (nI .i64 0) G=.val (.bool false) G:=λ_=>rfl
 have k3:Zs H H3 []:=k2.trans' k23
 have hx3:=k23.nx
 have gA:=sS.keep0 k23
 obtain⟨H4,e4,Hj,R4⟩:=Az E (k:=k) (n:=n+1) (by omega) (t:=120) (by decide) gA
 have up: ∀{G G':Heap},Zs H3 G []->Zs G G' [H3.nx]->Zs H3 G' []:=λa b=>a.trans b λx hx hlt=>by have:=Zq.1 hx;omega
 obtain⟨H5,e5,EA,R5⟩:=BW E (k:=k) (n:=n+2) (by omega) (s:=[112,97,120]) (gA.keep0 Hj) iX R4 (by decide)
 have aq:=up Hj EA
 obtain⟨H6,e6,CM,R6⟩:=Jf E (k:=k) (n:=n+2) (by omega) (u:=0) (gA.keep0 aq) iW R5 (by decide) (by decide) (by decide)
 have k36:=up aq CM
 obtain⟨H7,e7,fT,R7⟩:=Jf E (k:=k) (n:=n+2) (by omega) (u:=0) (gA.keep0 k36) Zc3 R6 (by decide) (by decide) (by decide)
 have k37:=up k36 fT
 obtain⟨H8,e8,k78,R8⟩:=Jf E (k:=k) (n:=n+2) (by omega) (u:=0) (gA.keep0 k37) Zc2 R7 (by decide) (by decide) (by decide)
 have k38:=up k37 k78
 obtain⟨H9,e9,k89,R9⟩:=Jf E (k:=k) (n:=n+2) (by omega) (u:=0) (gA.keep0 k38) pC R8 (by decide) (by decide) (by decide)
 have k39:=up k38 k89
 obtain⟨Ha,ea,k9a,Ra⟩:=Jf E (k:=k) (n:=n+2) (by omega) (u:=P.length) (gA.keep0 k39) iZ R9 (by omega) (by decide) (by decide)
 have k3a:=up k39 k9a
 obtain⟨Hb,eb,kab,Rb⟩:=uH E (k:=k) (n:=n+1) (by omega) (gA.keep0 k3a) Ra
 have k3b:=up k3a kab
 have k2b:Zs H2 Hb []:=k23.trans' k3b
 have kb:Zs H Hb []:=k2.trans' k2b
 have hRb:=Rb.lt
 have gHb:=gA.keep0 k3b
 have hrob:=gHb.p.ro
 have et:=λ{j}=>ZcG E (k:=k) (n:=j) (by omega) (m:=P.length) (H:=Hb) (by omega)
 obtain⟨Hc,hHc⟩:=Sa (Hb.new (.row ⟨5,1,VJ P.length,.leaf,nI .u8 0,0,false,true,true⟩))
 have kbc:Zs Hb Hc []:=by rw[<-hHc];exact Zs.new _ _ _
 have nxc:Hc.nx=Hb.nx+1:=by rw[<-hHc];rfl
 obtain⟨Hd,hHd⟩:=Sa (Hc.new (rH 24 [.slice H3.nx 0 512 (some 512),w3,.slice Hb.nx 0 (VJ P.length) none,.slice b 0 512 (some 512)]))
 have kcd:Zs Hc Hd []:=by rw[<-hHd];exact Zs.new _ _ _
 have nxd:Hd.nx=Hc.nx+1:=by rw[<-hHd];rfl
 have kbd:=kbc.trans' kcd
 have mk: ∀G:Heap,eZ 5 1 1 [nI .u8 0] (nI .i64 (VJ P.length)) (nI .i64 (VJ P.length)) G=.val (.slice G.nx 0 (VJ P.length) none) (G.new (.row ⟨5,1,VJ P.length,.leaf,nI .u8 0,0,false,true,true⟩)):=λG=>xq (by have:VJ P.length<512:=WF _ (by decide);omega) (by have:VJ P.length<512:=WF _ (by decide);omega) _ _ _
 have hw:wrO (.row ⟨5,1,VJ P.length,.leaf,nI .u8 0,0,false,true,true⟩)=true:=rfl
 have bs4: ∀(x y z u:AV) (G:Heap),x.cells=[x]->y.cells=[y]->z.cells=[z]->u.cells=[u]->UU 24 1 4 (List.replicate 4 [.nils]).flatten [(0,1,x),(1,1,y),(2,1,z),(3,1,u)] G=.val (.slice G.nx 0 4 none) (G.new (rH 24 [x,y,z,u])):=λx y z u G hx hy hz hu=>by
  rw[DL (by decide) rfl,ME hx (show 0<4 by decide),ME hy (show 1<4 by decide),ME hz (show 2<4 by decide),ME hu (show 3<4 by decide),Fr];rfl
 have bs:=bs4 (.slice H3.nx 0 512 (some 512)) w3 (.slice Hb.nx 0 (VJ P.length) none) (.slice b 0 512 (some 512))
 have cw:=K7.cells
 have hpz:(List.replicate (VJ P.length) (0:UInt8)).length=VJ P.length:=ZH ..
 have v1:=yG (Rb.keep0 kbd) (a:=0) (n:=512) (by decide) (by decide)
 rw[Yk,Z9 (by have:=Rb.len;omega)] at v1
 have v2:=(K7.keep k3b (λ_ _=>by simp)).keep kbd (λ_ _=>by simp)
 have v3:=wB (H:=Hd) (b:=Hb.nx) (n:=VJ P.length) (c:=none) (l:=List.replicate (VJ P.length) 0) (by rw[kcd.get _ (by omega) (by simp),<-hHc];exact ZW rfl _) (EN 5 _) rfl (by omega) hpz.symm (λk h=>by cases h)
 have v4:=yG ((R2.keep0 k2b).keep0 kbd) (a:=0) (n:=512) (by decide) (by decide)
 rw[Yk,Z9 (by omega)] at v4
 have l1:=Rb.len
 obtain⟨z,He,ee,bve,kde,hz1,hz2⟩:=it E (k:=k) (n:=n+4) (H:=Hd) (sb:=Hc.nx) (e:=24) (by rw[kbd.ro];omega) (by omega) (by rw[<-hHd];exact ZW rfl _) v1 v2.bv v3 v4
  (λx hx=>by simp[XP] at hx;omega) (λx hx=>(v2.blk x hx).2) (λx hx=>by simp[XP] at hx;omega) (λx hx=>by simp[XP] at hx;omega) (by omega) (by have:VJ P.length<512:=WF _ (by decide);rw[hpz,l1,hl2];omega)
 have lwc: ∀n,H3.nx<=n->Wx n w3=true:=λn hn=>K7.low hn
 have lwx:=lwc Hb.nx (by omega);have lwy:=lwc Hc.nx (by omega)
 have hf:=E.big
 obtain⟨fu,rfl⟩: ∃fu,fuel=fu+5:=⟨fuel - 5,by omega⟩
 have b4: ∀G,Q1 [.str [],.str [],.str [],.str []] [(0,1,.str [109,111,100,101]),(1,1,.str [117,105,100]),(2,1,.str [103,105,100]),(3,1,.str [109,116,105,109,101])] G=.val (.agg [.str [109,111,100,101],.str [117,105,100],.str [103,105,100],.str [109,116,105,109,101]]) G:=λ_=>rfl
 have i0: ∀G,Fy 4 (.agg [.str [109,111,100,101],.str [117,105,100],.str [103,105,100],.str [109,116,105,109,101]]) (nI .i64 0) G=.val (.str [109,111,100,101]) G:=λ_=>rfl
 have i1: ∀G,Fy 4 (.agg [.str [109,111,100,101],.str [117,105,100],.str [103,105,100],.str [109,116,105,109,101]]) (nI .i64 1) G=.val (.str [117,105,100]) G:=λ_=>rfl
 have i2: ∀G,Fy 4 (.agg [.str [109,111,100,101],.str [117,105,100],.str [103,105,100],.str [109,116,105,109,101]]) (nI .i64 2) G=.val (.str [103,105,100]) G:=λ_=>rfl
 have i3: ∀G,Fy 4 (.agg [.str [109,111,100,101],.str [117,105,100],.str [103,105,100],.str [109,116,105,109,101]]) (nI .i64 3) G=.val (.str [109,116,105,109,101]) G:=λ_=>rfl
 have p0: ∀G,Tf XE YH (nI .i64 0) (nI .i64 4) G=.val (.bool true) G:=λ_=>rfl
 have p1: ∀G,Tf XE YH (nI .i64 1) (nI .i64 4) G=.val (.bool true) G:=λ_=>rfl
 have p2: ∀G,Tf XE YH (nI .i64 2) (nI .i64 4) G=.val (.bool true) G:=λ_=>rfl
 have p3: ∀G,Tf XE YH (nI .i64 3) (nI .i64 4) G=.val (.bool true) G:=λ_=>rfl
 have p4: ∀G,Tf XE YH (nI .i64 4) (nI .i64 4) G=.val (.bool false) G:=λ_=>rfl
 have q0: ∀G,Ty (nI .i64 0) (nI .i64 1) G=.val (nI .i64 1) G:=λ_=>rfl
 have q1: ∀G,Ty (nI .i64 1) (nI .i64 1) G=.val (nI .i64 2) G:=λ_=>rfl
 have q2: ∀G,Ty (nI .i64 2) (nI .i64 1) G=.val (nI .i64 3) G:=λ_=>rfl
 have q3: ∀G,Ty (nI .i64 3) (nI .i64 1) G=.val (nI .i64 4) G:=λ_=>rfl
 simp(disch:=first|assumption|omega|(simp -implicitDefEqProofs only[X3,X4]<;>first|assumption|omega)|decide) only[bx,hH1,g1,wm,em,e2,lw,sa,Wd,Lu,Om,NB,UM,d1,e3,d2,e4,e5,b4,i0,i1,i2,i3,p0,p1,p2,p3,p4,q0,q1,q2,q3,e6,e7,e8,e9,ln3,ea,eb,et,mk,hHc,bs,hHd,ee,lwx,lwy,Nw,EH,QG,Up,YL,Zg,Zg,YD,Ys,ZD,ZM,Zg,YD,WV,c7,ZcU,Zu,Ye,Zw,Z8,Yp,Y6,Z6,Vk,QS]
 refine⟨_,_,rfl,?_⟩
 have hlz:(R0 m).length=(qh P.length).length+P.length+(List.replicate (VJ P.length) (0:UInt8)).length+(ED m).length:=by rw[hb1];simp only[Zj]
 rw[hlz,hb1]
 exact⟨bve,(kb.trans' kbd).trans' kde,z,none,rfl,by omega,hz2⟩
end
end
end Go.AI
