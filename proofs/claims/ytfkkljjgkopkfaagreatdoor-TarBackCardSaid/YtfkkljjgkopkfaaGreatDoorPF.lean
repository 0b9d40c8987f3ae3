/- Records, and a whole head: walked; proved, conditions as named. -/
import Derived.Test.YtfkkljjgkopkfaaGreatDoorPD
set_option maxRecDepth 1000000
set_option maxHeartbeats 0
set_option linter.all false
namespace Go.AI
open Go
noncomputable section
section
variable {Zq:Lib} {fs:T CF} {Zk k n i h b:Nat} {H H0:Heap} {s:Zd} {cs:List AV}
def Ox(k:Zd):Bool:=!decide (k=[])&&decide (k.length<=255)&&!MV [0,61,10] k
def ZbH(E:Env Zq fs Zk){a b:Zd}(hal:a.length<=90000)(hro:H.ro<=H.nx):
  ∃H',ZA (LK Zq fs Zk 5) fs Zk (n+2) 36 [.agg [.str a,.str b]] H=.ret (.bool (Ox a)) H'∧Zu H H' []:=by
 rw[Z5 E.f36 (.inl (by decide))];have bx: ∀G:Heap,MW 73 (.agg [.str a,.str b]) G=.val (.ptr G.nx 0) (G.new (rH 73 [.str a,.str b])):=λG=>W4 (l:=[.str a,.str b]) (show 1<=2 by decide) 73 G;have gz:=λ(G:Heap)=>ZR (H:=G) rfl (rH 73 [.str a,.str b]);have l0: ∀G,ld1 (some (rH 73 [.str a,.str b])) 0 G=.val (.str a) G:=λG=>rfl;have ea: ∀{j},ZA (LK Zq fs Zk 5) fs Zk (j+1) 50 [.str a,.str [0,61,10]] (H.new (rH 73 [.str a,.str b]))=.ret (.bool (MV [0,61,10] a)) (H.new (rH 73 [.str a,.str b])):=λ{j}=>bF E (k:=5) (n:=j) (by decide) jG hal (by show H.ro<=H.nx+1;omega)
 by_cases h1:a=[]
 ·have d1:decide (a=[])=true:=Zi h1
  rw[show Ox a=false by unfold Ox;rw[d1];rfl];simp only[bx,gz,l0,d1,UJ,VL,VL,Zo,Zo,YI,Zo,c36,ZG,Yj,Zz,Yg];refine⟨_,rfl,?_⟩;exact Zu.new _ _ _
 have d1:decide (a=[])=false:=Zc h1
 by_cases h2:a.length<=255
 ·have d2:decide (a.length<=255)=true:=Zi h2
  rw[show Ox a=!MV [0,61,10] a by unfold Ox;rw[d1,d2];rfl];cases ha:MV [0,61,10] a
  all_goals
   rw[ha] at ea;simp only[bx,gz,l0,d1,d2,ea,UJ,VL,Y4,VL,ZZ,Zo,Zo,YI,YX,Y4,Zo,c36,ZG,Yj,Zz,Yc,Yg];refine⟨_,rfl,?_⟩;exact Zu.new _ _ _
 ·have d2:decide (a.length<=255)=false:=Zc h2
  rw[show Ox a=false by unfold Ox;rw[d1,d2];rfl];simp only[bx,gz,l0,d1,d2,UJ,VL,Y4,VL,ZZ,Zo,Zo,YX,Y4,Zo,c36,ZG,Yj,Zz,Yg];refine⟨_,rfl,?_⟩;exact Zu.new _ _ _
def Zjd(E:Env Zq fs Zk)(hk:6<=k){a b:Zd}(hal:a.length<=90000)(hro:H.ro<=H.nx):
  ZA (LK Zq fs Zk k) fs Zk (n+1) 36 [.agg [.str a,.str b]] H=.ret (.bool (Ox a)) H:=by
 obtain⟨H',e,g⟩:=ZbH E (n:=898) (H:=H) hal hro;exact Yh (r:=5) rfl rfl e g (rfl) hk
def dw(E:Env Zq fs Zk){a b:Zd}(hal:a.length<=90000)(hro:H.ro<=H.nx):
  ∃H',ZA (LK Zq fs Zk 6) fs Zk (n+2) 35 [.agg [.str a,.str b]] H=.ret (.bool (!Ox a)) H'∧Zu H H' []:=by
 rw[Z5 E.f35 (.inl (by decide))];have bx: ∀G:Heap,MW 73 (.agg [.str a,.str b]) G=.val (.ptr G.nx 0) (G.new (rH 73 [.str a,.str b])):=λG=>W4 (l:=[.str a,.str b]) (show 1<=2 by decide) 73 G;have gz:=λ(G:Heap)=>ZR (H:=G) rfl (rH 73 [.str a,.str b]);have ld2: ∀G,zI 2 (some (rH 73 [.str a,.str b])) 0 G=.val (.agg [.str a,.str b]) G:=λG=>Tg (show 0+2<=2 by decide) ..;have em:=λ{j}=>Zjd E (k:=6) (n:=j) (by decide) (a:=a) (b:=b) (H:=(H.new (rH 73 [.str a,.str b]))) hal (by show H.ro<=H.nx+1;omega);cases hm:Ox a
 all_goals
  rw[hm] at em;simp only[bx,gz,ld2,em,UJ,YI,YX,c35,ZG,Yj,Zz,Yc,Yg];refine⟨_,rfl,?_⟩;exact Zu.new _ _ _
def ZlW(E:Env Zq fs Zk)(hk:7<=k){a b:Zd}(hal:a.length<=90000)(hro:H.ro<=H.nx):
  ZA (LK Zq fs Zk k) fs Zk (n+1) 35 [.agg [.str a,.str b]] H=.ret (.bool (!Ox a)) H:=by
 obtain⟨H',e,g⟩:=dw E (n:=898) (H:=H) hal hro;exact Yh (r:=6) rfl rfl e g (rfl) hk
def ZpM(E:Env Zq fs Zk)(hk:4<=k){m:Nat}(g:Qw H)(hro:H.ro<=H.nx)(hm:m<9223372036854775808):
  ZA (LK Zq fs Zk k) fs Zk (n+3) 61 [nI .i64 m] H=.ret (.str (dec m)) H:=by
 rw[Z5 E.f61 (.inr rfl)];have e2: ∀{j},ZA (LK Zq fs Zk k) fs Zk (j+2) 91 [nI .i64 m] H=.ret (.str (dec m)) H:=λ{j}=>by
  rw[Z5 E.f91 (.inr rfl)];have e1:ZA (LK Zq fs Zk k) fs Zk (j+1) 90 [nI .i64 m,nI .i64 10] H=.ret (.str (dec m)) H:=by
   have:=aH E (k:=k) (n:=j) (by omega) (z:=.ofNat m) (H:=H) g hro (by show _<=(m:Int);omega) (by show(m:Int)<_;omega)
   rwa [GR] at this
  simp only[e1,c91,ZG,Yj,Zz,Yg]
 simp only[e2,c61,ZG,Yj,Zz,Yg]
def JV{a:Nat}(h:a<=b):WS a<=WS b:=TI (SV b) (UD h (LN b))
def Jh(rest:Nat):Nat->Nat->Nat
 |0,x=>x
 |j+1,x=>if x=rest+WS x then x else Jh rest j (rest+WS x)
theorem AW{rest x:Nat}(h:x=rest+WS x): ∀j,Jh rest j x=x
 |0=>rfl
 |j+1=>by unfold Jh;rw[if_pos h]
def HY(rest:Nat):Nat:=Jh rest 20 (rest+1)
structure PSI(Hs:Heap)(rest:Nat)(m:Nat)(tm:TM)(H:Heap):Prop where
 h:H=Hs
 t3:V0 tm=nI .i64 rest
 x: ∃x j,Xo tm=nI .i64 x∧x+m=rest+21∧m<=j+1∧HY rest=Jh rest j x∧x<=rest+WS x
def PSQ(Hs:Heap)(rest:Nat)(o:Out)(tm:TM)(H:Heap):Prop:=o=.exit 0∧H=Hs∧Xo tm=nI .i64 (HY rest)∧HY rest<=rest+21
def ZeX(E:Env Zq fs Zk)(hk:4<=k){Hs:Heap}{rest:Nat}(g:Qw Hs)(hro:Hs.ro<=Hs.nx)(hr:rest<=1000000)(y f dd qq)(X0:X)(m:Nat)(tm:TM)(H:Heap)(hI:PSI Hs rest m tm H):
  ∃o tm' H',Bj ⟨ZA (LK Zq fs Zk k) fs Zk (n+3),y,f,dd,qq⟩ tm H X0=.ok o tm' H' X0∧((o=.normal∧ ∃k,k<m∧PSI Hs rest k tm' H')∨(o≠.normal∧PSQ Hs rest o tm' H')):=by
 obtain⟨rfl,t3,x,j,t4,hxm,hmj,hp,hx⟩:=hI;have D7:=t3;have Gk:=t4;simp only[Il,Pt] at t3 t4;have nd:=TI (n:=x) (k:=20) (by decide) (by omega);have ei:=λ{j}=>ZpM E (k:=k) (n:=j) hk (m:=x) (H:=H) g hro (by omega);have dl:=SE x;have ad: ∀G,Sr (nI .i64 rest) (nI .i64 (WS x)) G=.val (nI .i64 (rest+WS x)) G:=λG=>Y0 (by omega) G
 by_cases hq:x=rest+WS x
 ·have d1:decide (x≠rest+WS x)=false:=Zc λh=>h hq
  simp only[t3,t4,ei,dl,ad,d1,UI,ZZ,Bj,ZG,Yj,Yg];refine⟨_,_,_,rfl,.inr ⟨by simp,rfl,rfl,?_,?_⟩⟩
  ·rw[hp,AW hq];simp only[Yg,Yj];exact t4
  ·rw[hp,AW hq];omega
 ·have d1:decide (x≠rest+WS x)=true:=Zi hq
  simp only[t3,t4,ei,dl,ad,d1,UI,ZZ,Bj,ZG,Yj,Yg];obtain⟨j',rfl⟩: ∃j',j=j'+1:=⟨j - 1,by omega⟩;refine⟨_,_,_,rfl,.inl ⟨rfl,rest+21 - (rest+WS x),by omega,rfl,D7,rest+WS x,j',rfl,by omega,by omega,?_,?_⟩⟩
  ·rw[hp]
   show(if x=rest+WS x then x else Jh rest j' (rest+WS x))=_;rw[if_neg hq]
  ·have:=JV hx;omega
def mT{rest:Nat}(hr:rest<=1000000):HY rest<=rest+21:=by
 have: ∀j x,x<=rest+21->Jh rest j x<=rest+21:=by
  intro j
  induction j with
  |zero=>intro x h;exact h
  |succ j ih=>
   intro x h;unfold Jh
   split
   ·exact h
   ·refine ih _ ?_
    have:=TI (n:=x) (k:=20) (by decide) (by omega);omega
 exact this 20 (rest+1) (by omega)
def Zb3(E:Env Zq fs Zk)(hk:7<=k){a b:Zd}(g:Qw H)(hro:H.ro<=H.nx)(hm:Ox a=true)(ha:a.length<=90000)(hb:b.length<=90000):
  ∃H',ZA (LK Zq fs Zk k) fs Zk (n+4) 37 [.agg [.str a,.str b]] H=.ret (nI .i64 (HY (a.length+b.length+3))) H'∧Zu H H' []:=by
 rw[Z5 E.f37 (.inr rfl)];have bx: ∀G:Heap,MW 73 (.agg [.str a,.str b]) G=.val (.ptr G.nx 0) (G.new (rH 73 [.str a,.str b])):=λG=>W4 (l:=[.str a,.str b]) (show 1<=2 by decide) 73 G;have gz:=λ(G:Heap)=>ZR (H:=G) rfl (rH 73 [.str a,.str b]);have l0: ∀G,ld1 (some (rH 73 [.str a,.str b])) 0 G=.val (.str a) G:=λG=>rfl;have l1: ∀G,ld1 (some (rH 73 [.str a,.str b])) 1 G=.val (.str b) G:=λG=>rfl;have ld2: ∀G,zI 2 (some (rH 73 [.str a,.str b])) 0 G=.val (.agg [.str a,.str b]) G:=λG=>Tg (show 0+2<=2 by decide) ..;have em:=λ{j}=>Zjd E (k:=k) (n:=j) (by omega) (a:=a) (b:=b) (H:=(H.new (rH 73 [.str a,.str b]))) ha (by show H.ro<=H.nx+1;omega);rw[hm] at em;have k1:Zu H (H.new (rH 73 [.str a,.str b])) []:=Zu.new _ _ _;have a1: ∀G,Sr (nI .i64 a.length) (nI .i64 b.length) G=.val (nI .i64 (a.length+b.length)) G:=λG=>Y0 (by omega) G;have a2: ∀G,Sr (nI .i64 (a.length+b.length)) (nI .i64 3) G=.val (nI .i64 (a.length+b.length+3)) G:=λG=>Y0 (by omega) G;have a3: ∀G,Sr (nI .i64 (a.length+b.length+3)) (nI .i64 1) G=.val (nI .i64 (a.length+b.length+3+1)) G:=λG=>Y0 (by omega) G;have hf:=E.big;simp only[bx,gz,l0,l1,ld2,em,a1,a2,a3,UJ,ZZ,Zo,Zl,Zl,Zo,Zl,Zo,c37,ZG,Yj,Yc,Yg];generalize hL:Vq (Bj _) Zk _ _ _=LL;obtain⟨o,OS,H1,rfl,_,rfl,rfl,t4,_⟩:=YP (P:=λT=>PSI (H.new (rH 73 [.str a,.str b])) (a.length+b.length+3) 20 T (H.new (rH 73 [.str a,.str b]))) (Q:=PSQ (H.new (rH 73 [.str a,.str b])) (a.length+b.length+3))
  (λT hi=>Y5 (PSI (H.new (rH 73 [.str a,.str b])) (a.length+b.length+3)) (PSQ (H.new (rH 73 [.str a,.str b])) (a.length+b.length+3)) (λm tm H' h=>ZeX E (k:=k) (n:=n) (by omega) (g.keep k1 (by simp)) (by show H.ro<=H.nx+1;omega) (by omega) _ _ _ _ _ m tm H' h) Zk 20 T _ (by omega) hi) hL
  (by exact⟨rfl,rfl,_,20,rfl,by omega,by omega,rfl,by have:=SV (a.length+b.length+3+1);omega⟩)
 simp only[Pt] at t4;simp only[t4,ZG,Yj,Zz,Yg];refine⟨_,rfl,?_⟩;exact k1
def cK(E:Env Zq fs Zk)(hk:4<=k){v:AV}{l:Zd}{lo m:Nat}(g:Qw H)(h:GB H v l lo)(hlo:lo<=H.nx)(hro:H.ro<=H.nx)(hm:m<1000000000000000000)(hl:l.length<=100000000):
  ∃v' H',ZA (LK Zq fs Zk k) fs Zk (n+4) 38 [v,nI .i64 m,nI .i64 10] H=.ret v' H'∧GB H' v' (l++dec m) lo∧Zu H H' (Xk v)∧(∀b∈Xk v',b∈Xk v∨H.nx<=b):=by
 have nd2:WS m<=18:=TI (by decide) hm;have dl:=SE m;have main: ∃v' H',ZA (LK Zq fs Zk k) fs Zk (n+2) 92 [v,nI .u64 m,nI .i64 10] H=.ret v' H'∧GB H' v' (l++dec m) lo∧Zu H H' (Xk v)∧(∀b∈Xk v',b∈Xk v∨H.nx<=b):=by
  rw[Z5 E.f92 (.inr rfl)]
  by_cases h1:m<100
  ·have d1:decide (m<100)=true:=Zi h1
   have es:=λ{j}=>Zgt E (k:=k) (n:=j) (by omega) (x:=m) (H:=H) h1;have iv: ∀G,O1 .i64 (nI .u64 m) G=.val (nI .i64 m) G:=λG=>V1 (by omega) G;obtain⟨v',H',e1,r⟩:=nK h hlo hro (dec m) (by omega);simp only[d1,es,iv,e1,Ys,ZE,YQ,decide_true,Ys,ZE,c92,ZG,Yj,Zz,Yg];exact⟨_,_,rfl,r⟩
  ·have d1:decide (m<100)=false:=Zc h1
   obtain⟨H1,hH1⟩:=TO (H.new (.row ⟨174,1,24,.leaf,nI .u8 0,0,false,true,true⟩));have NB:H1.nx=H.nx+1:=by rw[<-hH1];rfl
   have FI:H1.ro=H.ro:=by rw[<-hH1];rfl
   have k1:Zu H H1 []:=by rw[<-hH1];exact Zu.new H _ []
   have ga:H1.t.get H.nx=some (.row ⟨174,1,24,.leaf,nI .u8 0,0,false,true,true⟩):=by rw[<-hH1,ZR rfl]
   have en:=λ{j}=>EC E (k:=k) (n:=j) (by omega) (H:=H1) (g.keep k1 (by simp)) (d:=m) (by omega) (by omega);obtain⟨R,ef,fb⟩:=nD E (k:=k) (n:=n) (H:=H1) (b:=H.nx) (zo:=0) (nd:=WS m) (u:=m) (c:=some 24) ga (by omega) (by omega) rfl rfl rfl (by omega) (by omega) (LN _);obtain⟨H2,hH2⟩:=TO (H1.put H.nx (.row R));rw[hH2] at ef;have k2:Zu H H2 []:=by rw[<-hH2];exact k1.then_put (by omega)
   have hx2:=k2.nx;have s1:=fb.size;have src:=Src.row (H:=H2) (b:=H.nx) (o:=0) (c:=some 24) (r:=R) (l:=(dec m).map Vk) (by rw[<-hH2];exact Yp _ _ _) (by rw[Zx];omega) (λi hi=>by
    rw[Zx] at hi
    rw[Zl,fb.get,if_pos (by omega),uj hi];rfl)
   obtain⟨v',H',e0,gb',k3,bk⟩:=Ei (h.keep k2 (λ_ _=>by simp)) (by omega) (by rw[k2.ro];omega) (dec m) (by omega);have e1:TH 5 1 1 v (.slice H.nx 0 (WS m) (some 24)) H2=.val v' H':=by
    rw[Zx,dl] at src;rw[Oi (by decide) src,Zx];exact e0
   have sa: ∀G,O5 24 1 (.ptr H.nx 0) none (some (nI .i64 (WS m))) G=.val (.slice H.nx 0 (WS m) (some 24)) G:=λG=>wJ (by omega) (by decide) _ _ _ _;simp only[d1,hH1,en,ef,sa,e1,Ys,SK,ZE,YQ,decide_true,Ys,ZE,c92,ZG,Yj,Zz,Yc,Yg];exact⟨_,_,rfl,gb',k2.trans' k3,λb hb=>(bk b hb).imp id λh=>Yb hx2 h⟩
 obtain⟨v',H',e1,r⟩:=main;rw[Z5 E.f38 (.inr rfl)];have e2:ZA (LK Zq fs Zk k) fs Zk (n+3) 62 [v,nI .i64 m,nI .i64 10] H=.ret v' H':=by
  rw[Z5 E.f62 (.inr rfl)];have d0:decide (m<0)=false:=Zc (UZ _);have iv: ∀G,O1 .u64 (nI .i64 m) G=.val (nI .u64 m) G:=λG=>T4 (by omega) G;simp only[e1,d0,iv,ZE,ZE,c62,ZG,Yj,Zz,Yg]
 simp only[e2,c38,ZG,Yj,Zz,Yg];exact⟨_,_,rfl,r⟩
structure IRI(Hs:Heap)(v:AV)(l:List NP)(m:Nat)(tm:TM)(H:Heap):Prop where
 h:H=Hs
 t0:Z6 tm=v
 t1:Xn tm=.func 35 [] []
 t7:XE tm=nI .i64 l.length
 i: ∃i,Xt tm=nI .i64 i∧i+m=l.length
def IRQ(Hs:Heap)(o:Out)(tm:TM)(H:Heap):Prop:=o=.exit 0∧H=Hs
def Zaq(E:Env Zq fs Zk)(hk:7<=k){v:AV}{l:List NP}{Hs:Heap}(hro:Hs.ro<=Hs.nx)(hN:Sl Hs 2 v (TN l))(hm: ∀x∈l,Ox x.1=true)(hal: ∀x∈l,x.1.length<=90000)(hl:l.length<=100000)(y f dd q)(X0:X)(m:Nat)(tm:TM)(H:Heap)(hI:IRI Hs v l m tm H):
  ∃o tm' H',Bl ⟨ZA (LK Zq fs Zk k) fs Zk (n+1),y,f,dd,q⟩ tm H X0=.ok o tm' H' X0∧((o=.normal∧ ∃k,k<m∧IRI Hs v l k tm' H')∨(o≠.normal∧IRQ Hs o tm' H')):=by
 obtain⟨rfl,t0,t1,t7,i,t8,him⟩:=hI;have t0':=t0;have t1':=t1;have Cm:=t7;simp only[Pa,Kp,G8,G9] at t0 t1 t7 t8;cases m with
 |zero=>
  have d1:decide (i<l.length)=false:=Zc (by omega);simp only[t7,t8,d1,ZE,ZE,Bl,ZG,Yj,Yg];refine⟨_,_,_,rfl,?_⟩;exact .inr ⟨by simp,rfl,rfl⟩
 |succ m=>
  have d1:decide (i<l.length)=true:=Zi (by omega);have hi:i<l.length:=by omega
  obtain⟨bb,o,r,eI,hb,gb,eL,_⟩:=(show Sz H 2 v (TN l) from .inr hN).at_ (i:=i) (by rw[Vm];exact hi);rw[Np hi] at eL;have hmm:l.getD i ([],[])∈l:=by rw[Ze,Zm hi];exact XD hi
  have e1:=λ{j}=>ZlW E (k:=k) (n:=j) hk (a:=(l.getD i ([],[])).1) (b:=(l.getD i ([],[])).2) (H:=H) (hal _ hmm) hro;rw[hm _ hmm] at e1;simp(disch:=omega) only[t0,t1,t7,t8,d1,eI,gb,eL,e1,La,Y3,ZQ,ZM,ZE,Y0,Y3,ZQ,ZM,YI,ZE,Bl,ZG,Yj,Yg];refine⟨_,_,_,rfl,?_⟩;exact .inl ⟨rfl,m,by omega,rfl,t0',t1',Cm,i+1,rfl,by omega⟩
def ZoS(E:Env Zq fs Zk)(hk:7<=k){v:AV}{l:List NP}(hro:H.ro<=H.nx)(hN:Sl H 2 v (TN l))(hm: ∀x∈l,Ox x.1=true)(hal: ∀x∈l,x.1.length<=90000)(hl:l.length<=1000):
  ZA (LK Zq fs Zk k) fs Zk (n+3) 34 [v,.func 35 [] []] H=.ret (.bool false) H:=by
 rw[Z5 E.f34 (.inr rfl)];have e1:ZA (LK Zq fs Zk k) fs Zk (n+2) 60 [v,.func 35 [] []] H=.ret (.int .i64 (.negSucc 0)) H:=by
  rw[Z5 E.f60 (.inr rfl)];have hf:=E.big;have ln:=hN.len;rw[Vm] at ln;simp only[ln,c60,ZG,Yj,Yg];generalize hL:Vq (Bl _) Zk _ _ _=L;obtain⟨o,OS,H2,rfl,_,rfl,rfl⟩:=YP (P:=λT=>IRI H v l l.length T H) (Q:=IRQ H)
   (λT hi=>Y5 (IRI H v l) (IRQ H) (λm tm H2 h=>Zaq E hk hro hN hm hal (by omega) _ _ _ _ _ m tm H2 h) Zk l.length T H (by omega) hi) hL
   (by exact⟨rfl,rfl,rfl,rfl,0,rfl,by omega⟩)
  simp only[ZG,Yj,Zz,Yg]
 simp only[e1,LQ,LQ,c34,ZG,Yj,Zz,Yg]
def QO(x:NP):Zd:=dec (HY (x.1.length+x.2.length+3))++[32]++x.1++[61]++x.2++[10]
def VO(l:List NP):Zd:=(l.map QO).flatten
def dt{x:NP}(h:x.1.length+x.2.length<=10000):(QO x).length<=10023:=by
 unfold QO;have h1:=mT (rest:=x.1.length+x.2.length+3) (by omega);have h2:=TI (n:=HY (x.1.length+x.2.length+3)) (k:=20) (by decide) (by omega);simp only[Zh,SE,ZL,XU];omega
def FC{l:List NP}(h: ∀x∈l,x.1.length+x.2.length<=10000):(VO l).length<=l.length*10023:=by
 unfold VO
 induction l with
 |nil=>exact Zs _
 |cons a l ih=>
  rw[ZD,XC,Zh,ZL];have h1:=dt (h a (Zw ..));have h2:=ih λx hx=>h x (ZC _ hx);omega
def du{l:List NP}(h:i<l.length):VO (l.take (i+1))=VO (l.take i)++QO (l.getD i ([],[])):=by
 unfold VO;rw[WF,Ze,Zm h,Xg,UA];simp
structure PPI(Hs:Heap)(v:AV)(l:List NP)(m:Nat)(tm:TM)(H:Heap):Prop where
 k:Zu Hs H []
 t10:YH tm=v
 t11:Y1 tm=nI .i64 l.length
 i: ∃i w,Y2 tm=nI .i64 i∧i+m=l.length∧Xo tm=w∧GB H w (VO (l.take i)) Hs.nx
def PPQ(Hs:Heap)(l:List NP)(o:Out)(tm:TM)(H:Heap):Prop:=o=.exit 0∧Zu Hs H []∧ ∃w,Xo tm=w∧GB H w (VO l) Hs.nx
def ZeW(E:Env Zq fs Zk)(hk:7<=k){v:AV}{l:List NP}{Hs:Heap}(gH:V8 Hs)(hN:Sl Hs 2 v (TN l))(hm: ∀x∈l,Ox x.1=true)(hal: ∀x∈l,x.1.length+x.2.length<=10000)(hl:l.length<=1000)(y f dd q)(X0:X)(m:Nat)(tm:TM)(H:Heap)(hI:PPI Hs v l m tm H):
  ∃o tm' H',Bg ⟨ZA (LK Zq fs Zk k) fs Zk (n+4),y,f,dd,q⟩ tm H X0=.ok o tm' H' X0∧((o=.normal∧ ∃k,k<m∧PPI Hs v l k tm' H')∨(o≠.normal∧PPQ Hs l o tm' H')):=by
 obtain⟨k0,t10,t11,i,w,t12,him,t4,gb⟩:=hI;have od:=t10;have ZqA:=t11;have Gk:=t4;simp only[Pt,Du,jt,sZ] at t4 t10 t11 t12;cases m with
 |zero=>
  have d1:decide (i<l.length)=false:=Zc (by omega);simp only[t11,t12,d1,ZE,ZE,Bg,ZG,Yj,Yg];rw[Z1 (by omega)] at gb;refine⟨_,_,_,rfl,?_⟩;exact .inr ⟨by simp,rfl,k0,w,Gk,gb⟩
 |succ m=>
  have d1:decide (i<l.length)=true:=Zi (by omega);have hi:i<l.length:=by omega
  obtain⟨bb,o,r,eI,hb,gbb,eL,_⟩:=(show Sz H 2 v (TN l) from .inr (hN.keep0 k0)).at_ (i:=i) (by rw[Vm];exact hi);rw[Np hi] at eL;have hmm:l.getD i ([],[])∈l:=by rw[Ze,Zm hi];exact XD hi
  have hpl:=FC (l:=l.take i) λx hx=>hal x (Vu hx);rw[Zy] at hpl;have hpl:(VO (l.take i)).length<=1000*10023:=by
   omega
  have hpush:=du hi;have hx1:=hal _ hmm;have hx2:=hm _ hmm;generalize l.getD i ([],[])=a at*;have hx0:=k0.nx;have cD:=gH.keep0 k0;have hro:=cD.p.ro;have rf:=cD.p.nx;obtain⟨lw1,lw2⟩:=(⟨λn hn=>gb.low hn,gb.blk⟩:(∀n,H.nx<=n->WZ n w=true)∧ ∀b∈Xk w,Hs.nx<=b∧b<H.nx);obtain⟨H1,hH1⟩:=TO (H.new (rH 73 [.str a.1,.str a.2]));have k01:Zu H H1 []:=by rw[<-hH1];exact Zu.new _ _ _
  have NB:H1.nx=H.nx+1:=by rw[<-hH1];rfl
  have g1:H1.t.get H.nx=some (rH 73 [.str a.1,.str a.2]):=by rw[<-hH1];exact ZR rfl _
  have sf:=TL (n:=2) (b:=H.nx) (l:=[.str [],.str []]) (vs:=[.str a.1,.str a.2]) (H:=H.new (rH 73 [.str [],.str []])) rfl rfl (by decide) hro 73 1 false true;rw[TJ rfl,hH1] at sf;have ld2: ∀G,zI 2 (some (rH 73 [.str a.1,.str a.2])) 0 G=.val (.agg [.str a.1,.str a.2]) G:=λG=>Tg (show 0+2<=2 by decide) ..;have l0: ∀G,ld1 (some (rH 73 [.str a.1,.str a.2])) 0 G=.val (.str a.1) G:=λG=>rfl;have l1: ∀G,ld1 (some (rH 73 [.str a.1,.str a.2])) 1 G=.val (.str a.2) G:=λG=>rfl;have fh:=cD.keep0 k01;obtain⟨H2,e2,k12⟩:=Zb3 E (k:=k) (n:=n) hk (H:=H1) (a:=a.1) (b:=a.2) fh.g fh.p.ro hx2 (by omega) (by omega);have hps:=mT (rest:=a.1.length+a.2.length+3) (by omega);generalize hpz:HY (a.1.length+a.2.length+3)=z at*;have fi:=fh.keep0 k12;have hx2':=k12.nx;have tc:=(gb.keep k01 (λ_ _=>by simp)).keep k12 (λ_ _=>by simp);have g2:H2.t.get H.nx=some (rH 73 [.str a.1,.str a.2]):=by rw[k12.get _ (by omega) (by simp)];exact g1
  have ln:=gb.len;have ad: ∀G,Sr (nI .i64 (VO (l.take i)).length) (nI .i64 z) G=.val (nI .i64 ((VO (l.take i)).length+z)) G:=λG=>Y0 (by omega) G;have d2:decide (16777216<(VO (l.take i)).length+z)=false:=Zc (by omega);obtain⟨w3,H3,e3,Dk,k23,bk3⟩:=cK E (k:=k) (n:=n) (by omega) (m:=z) fi.g tc (by omega) fi.p.ro (by omega) (by omega);have hx3:=k23.nx;have hdl:=SE z;have hdn:=TI (n:=z) (k:=20) (by decide) (by omega);have nb: ∀x∈Xk w,x≠H.nx:=λx hx=>by have:=(lw2 x hx).2;omega
  have g3:H3.t.get H.nx=some (rH 73 [.str a.1,.str a.2]):=by rw[k23.get _ (by omega) (λh=>nb _ h rfl)];exact g2
  have cC: ∀x∈Xk w3,x≠H.nx∧Hs.nx<=x:=λx hx=>by
   rcases bk3 x hx with h|h
   ·exact⟨nb x h,(lw2 x h).1⟩
   ·exact⟨by omega,by omega⟩
  have lw3:=λn hn=>Dk.low (n:=n) hn;have lwa:=lw3 H3.nx (Zs _);have fF:H3.ro<=H3.nx:=by rw[k23.ro];exact Yb fi.p.ro hx3
  obtain⟨H4,MR⟩:=TO (H3.new (rH 5 [nI .u8 32]));have Fg:Zu H3 H4 []:=by rw[<-MR];exact Zu.new _ _ _
  have nx4:H4.nx=H3.nx+1:=by rw[<-MR];rfl
  have lwd:=lw3 H4.nx (by omega);have q4:H4.t.get H3.nx=some (rH 5 [nI .u8 32]):=by rw[<-MR];exact ZR rfl _
  have g4:H4.t.get H.nx=some (rH 73 [.str a.1,.str a.2]):=by rw[Fg.get _ (by omega) (by simp)];exact g3
  obtain⟨H5,hH5⟩:=TO (H4.new (rH 5 [nI .u8 61]));have Dy:Zu H4 H5 []:=by rw[<-hH5];exact Zu.new _ _ _
  have nx5:H5.nx=H4.nx+1:=by rw[<-hH5];rfl
  have lwe:=lw3 H5.nx (by omega);have q5:H5.t.get H4.nx=some (rH 5 [nI .u8 61]):=by rw[<-hH5];exact ZR rfl _
  have fO:=Fg.trans' Dy;have q45:H5.t.get H3.nx=some (rH 5 [nI .u8 32]):=by rw[Dy.get _ (by omega) (by simp)];exact q4
  have g5:H5.t.get H.nx=some (rH 73 [.str a.1,.str a.2]):=by rw[fO.get _ (by omega) (by simp)];exact g3
  have ro5:H5.ro<=H5.nx:=by rw[fO.ro];omega
  have bvA:=E7 (H:=H5) (b:=H3.nx) (a:=0) (n:=1) (c:=none) (l:=[32]) q45 (by omega) (by decide) (by decide) (λk h=>by cases h);obtain⟨w6,H6,e6,gb6,v5,bk6⟩:=Iy (Dk.keep fO (λ_ _=>by simp)) bvA (by omega) ro5 (by rw[Zh];show _+1<=_;omega);have hx6:=v5.nx;have g6:H6.t.get H.nx=some (rH 73 [.str a.1,.str a.2]):=by rw[v5.get _ (by omega) (λh=>(cC _ h).1 rfl)];exact g5
  have q6:H6.t.get H4.nx=some (rH 5 [nI .u8 61]):=by rw[v5.get _ (by omega) (λh=>by have:=(Dk.blk _ h).2;omega)];exact q5
  have bw6: ∀x∈Xk w6,x≠H.nx∧Hs.nx<=x∧x≠H4.nx:=λx hx=>by
   rcases bk6 x hx with h|h
   ·exact⟨(cC x h).1,(cC x h).2,by have:=(Dk.blk _ h).2;omega⟩
   ·exact⟨by omega,by omega,by omega⟩
  have ro6:H6.ro<=H6.nx:=by rw[v5.ro];omega
  obtain⟨w7,H7,e7,gb7,cE,bk7⟩:=nK gb6 (by omega) ro6 a.1 (by rw[Zh,Zh];show _+1+_<=_;omega);have hx7:=cE.nx;have g7:H7.t.get H.nx=some (rH 73 [.str a.1,.str a.2]):=by rw[cE.get _ (by omega) (λh=>(bw6 _ h).1 rfl)];exact g6
  have q7:H7.t.get H4.nx=some (rH 5 [nI .u8 61]):=by rw[cE.get _ (by omega) (λh=>(bw6 _ h).2.2 rfl)];exact q6
  have bw7: ∀x∈Xk w7,x≠H.nx∧Hs.nx<=x:=λx hx=>by
   rcases bk7 x hx with h|h
   ·exact⟨(bw6 x h).1,(bw6 x h).2.1⟩
   ·exact⟨by omega,by omega⟩
  have ro7:H7.ro<=H7.nx:=by rw[cE.ro];omega
  have bvB:=E7 (H:=H7) (b:=H4.nx) (a:=0) (n:=1) (c:=none) (l:=[61]) q7 (by omega) (by decide) (by decide) (λk h=>by cases h);obtain⟨w8,H8,e8,gb8,k78,bk8⟩:=Iy gb7 bvB (by omega) ro7 (by rw[Zh,Zh,Zh];show _+1+_+1<=_;omega);have hx8:=k78.nx;have g8:H8.t.get H.nx=some (rH 73 [.str a.1,.str a.2]):=by rw[k78.get _ (by omega) (λh=>(bw7 _ h).1 rfl)];exact g7
  have bw8: ∀x∈Xk w8,x≠H.nx∧Hs.nx<=x:=λx hx=>by
   rcases bk8 x hx with h|h
   ·exact bw7 x h
   ·exact⟨by omega,by omega⟩
  have ro8:H8.ro<=H8.nx:=by rw[k78.ro];omega
  obtain⟨w9,H9,e9,gb9,k89,bk9⟩:=nK gb8 (by omega) ro8 a.2 (by rw[Zh,Zh,Zh,Zh];show _+1+_+1+_<=_;omega);have hx9:=k89.nx;have bw9: ∀x∈Xk w9,Hs.nx<=x:=λx hx=>by
   rcases bk9 x hx with h|h
   ·exact(bw8 x h).2
   ·omega
  obtain⟨Ha,hHa⟩:=TO (H9.new (rH 5 [nI .u8 10]));have k9a:Zu H9 Ha []:=by rw[<-hHa];exact Zu.new _ _ _
  have nxa:Ha.nx=H9.nx+1:=by rw[<-hHa];rfl
  have roa:Ha.ro<=Ha.nx:=by rw[k9a.ro,k89.ro];omega
  have bvC:=E7 (H:=Ha) (b:=H9.nx) (a:=0) (n:=1) (c:=none) (l:=[10]) (by rw[<-hHa];exact ZR rfl _) (by omega) (by decide) (by decide) (λk h=>by cases h);obtain⟨wb,Hb,eb,Zpa,kab,bkb⟩:=Iy (gb9.keep k9a (λ_ _=>by simp)) bvC (by omega) roa (by simp only[Zh];show _+1+_+1+_+1<=_;omega);have bs1: ∀(x:Nat) (G:Heap),US 5 1 1 [nI .u8 0] [(0,1,nI .u8 x)] G=.val (.slice G.nx 0 1 none) (G.new (rH 5 [nI .u8 x])):=λx G=>by rw[E6 _ _ _ rfl];rfl
  have kk:Zu Hs Hb []:=by
   refine(((((((k0.trans' (k01.trans' k12)).trans k23 ?_).trans' fO).trans v5 ?_).trans cE ?_).trans k78 ?_).trans k89 ?_).trans' k9a|>.trans kab ?_
   ·intro c hc hlt;have:=(lw2 c hc).1;omega
   ·intro c hc hlt;have:=(cC c hc).2;omega
   ·intro c hc hlt;have:=(bw6 c hc).2.1;omega
   ·intro c hc hlt;have:=(bw7 c hc).2;omega
   ·intro c hc hlt;have:=(bw8 c hc).2;omega
   ·intro c hc hlt;have:=bw9 c hc;omega
  simp(disch:=first|assumption|omega|(simp -implicitDefEqProofs only[VV,VW]<;>first|assumption|omega)|decide) only[t4,t10,t11,t12,d1,eI,gbb,eL,sf,g1,ld2,l0,l1,e2,ln,ad,d2,e3,bs1,MR,hH5,g4,g5,e6,g6,e7,e8,g8,e9,hHa,eb,lwa,Ys,YO,ZD,ZO,ZE,Yn,Y0,decide_true,decide_false,Zo,Zl,Zl,Zo,YW,YO,Ys,ZD,ZO,ZE,Yn,Zl,Zo,YW,Bg,ZG,Yj,Zz,Yc,Xc,XZ,M0,Nat.reducePow,Nat.reduceDiv,Nat.reduceMod,reduceCtorEq,Yg,UH]
  refine⟨_,_,_,rfl,.inl ⟨rfl,m,by omega,kk,od,ZqA,i+1,wb,rfl,by omega,rfl,?_⟩⟩;rw[hpush];have:QO a=dec z++[32]++a.1++[61]++a.2++[10]:=by unfold QO;rw[hpz]
  rw[this]
  simpa only[Yq,YL,Wt,Xd] using Zpa
def mQ(E:Env Zq fs Zk)(hk:7<=k){v:AV}{l:List NP}(gH:V8 H)(hN:Sl H 2 v (TN l))(hm: ∀x∈l,Ox x.1=true)(hal: ∀x∈l,x.1.length+x.2.length<=10000)(hl:l.length<=1000):
  ∃w H',ZA (LK Zq fs Zk k) fs Zk (n+5) 16 [v] H=.ret (.tup [w,nI .i64 0]) H'∧GB H' w (VO l) H.nx∧Zu H H' []:=by
 rw[Z5 E.f16 (.inr rfl)];have hf:=E.big;have ec:=λ{j}=>ZoS E (k:=k) (n:=j) hk (H:=H) gH.p.ro hN hm (λx hx=>by have:=hal x hx;omega) hl;have ln:=hN.len;rw[Vm] at ln;simp only[ec,ln,c16,ZG,Yj,Yg];generalize hL:Vq (Bg _) Zk _ _ _=L;obtain⟨o,OS,H2,rfl,_,rfl,k2,w,t4,gb⟩:=YP (P:=λT=>PPI H v l l.length T H) (Q:=PPQ H l)
  (λT hi=>Y5 (PPI H v l) (PPQ H l) (λm tm H2 h=>ZeW E (n:=n) hk gH hN hm hal hl _ _ _ _ _ m tm H2 h) Zk l.length T H (by omega) hi) hL
  (by exact⟨Zu.refl _ _,rfl,rfl,0,.nils,rfl,by omega,rfl,by rw[Xd];exact .inl ⟨rfl,rfl⟩⟩)
 simp only[Pt] at t4;simp only[t4,ZG,Yj,Zz,Yg,UH];refine⟨_,_,rfl,?_⟩;exact⟨gb,k2⟩
def VC(n:Nat):Nat:=(512 - n % 512) % 512
def ZeQ(h0:0<n)(h:n<=16777216)(H:Heap):Gt SU (.int .i64 (.negSucc (n - 1))) (nI .i64 511) H=.val (nI .i64 (VC n)) H:=by
 show ZJ (PV .i64 .i64) (Tp .i64 (.ofNat (SU (Uh .i64) (U1 (Uh .i64) (.negSucc (n - 1))) (U1 (Uh .i64) (.ofNat 511)))) H)=_;have hx:SU (Uh .i64) (U1 (Uh .i64) (.negSucc (n - 1))) (U1 (Uh .i64) (.ofNat 511))=VC n:=by
  show Nat.land (18446744073709551616 - 1 - (n - 1) % 18446744073709551616) 511=_;rw[Yd (by omega)];have:=TR (18446744073709551616 - 1 - (n - 1)) 9;have e:Nat.land (18446744073709551616 - 1 - (n - 1)) 511=(18446744073709551616 - 1 - (n - 1)) % 512:=this;rw[e];unfold VC;omega
 have hl:VC n<512:=Wh _ (by decide);rw[XG,Wo,hx];show OR.val (.int .i64 (IntKind.wrap .i64 ((VC n:Nat):Int))) H=_;rw[E4 (by omega) (by omega)];rfl
def Zbw(H:Heap):Gt SU (nI .i64 0) (nI .i64 511) H=.val (nI .i64 0) H:=rfl
def Zcq(E:Env Zq fs Zk){m:Nat}(hm:m<=16777216):
  ∃H',ZA (LK Zq fs Zk 0) fs Zk (n+2) 8 [nI .i64 m] H=.ret (nI .i64 (VC m)) H'∧Zu H H' []:=by
 rw[Z5 E.f8 (.inl (by decide))]
 by_cases h0:m=0
 ·subst h0
  have d1:decide (0<0)=false:=rfl;rw[show VC 0=0 from rfl];simp only[Fm,Zbw,Fq,M9,ZE,Vc,decide_false,ZE,c8,ZG,Yj,Zz,Yg];refine⟨_,rfl,?_⟩;exact Zu.refl _ _
 ·have d1:decide (m<0)=false:=Zc (by omega)
  have e1:=λG=>qv (u:=m) (by omega) (by omega) G;have e2:=λG=>ZeQ (n:=m) (by omega) hm G;simp only[d1,e1,e2,Fq,M9,ZE,ZE,c8,ZG,Yj,Zz,Yg];refine⟨_,rfl,?_⟩;exact Zu.refl _ _
def Zcp(E:Env Zq fs Zk)(hk:1<=k){m:Nat}(hm:m<=16777216):
  ZA (LK Zq fs Zk k) fs Zk (n+1) 8 [nI .i64 m] H=.ret (nI .i64 (VC m)) H:=by
 obtain⟨H',e,g⟩:=Zcq E (n:=898) (H:=H) hm;exact Yh (r:=0) rfl rfl e g (rfl) hk
structure zK(H:Heap)(b N:Nat)(l:Zd):Prop where
 row: ∃r,H.t.get b=some (.row r)∧r.size=N∧r.own=true∧r.fz=0∧r.sz=1∧ ∀i,i<l.length->r.get i=Vk (l.getD i 0)
 lt:b<H.nx
 ro:H.ro<=b
def zK.keep{H H':Heap}{N:Nat}{l:Zd}{S:List Nat}(h:zK H b N l)(k:Zu H H' S)(hS:b∉S):zK H' b N l:=by
 obtain⟨⟨r,h1,h2⟩,h3,h4⟩:=h;exact⟨⟨r,by rw[k.get b h3 hS];exact h1,h2⟩,ZK h3 k.nx,by rw[k.ro];exact h4⟩
def Zhz{N:Nat}{l m:Zd}(h:zK H b N l)(hN:l.length+m.length<=N):
  ∃H',Oh (.slice b 0 l.length none) 5 1 1 H m.length (m.map Vk)=.val (.slice b 0 (l.length+m.length) none) H'∧zK H' b N (l++m)∧Zu H H' [b]:=by
 obtain⟨⟨r,h1,h2,h3,h4,h5,h6⟩,h7,h8⟩:=h;have hrow: ∀k:Row->OR,Yx H b k=k r:=λk=>by unfold Yx;rw[h1]
 have hcap:Wa r 0 none=N:=by
  show cond (Nat.beq r.sz 1) (r.size - 0) (Nat.div (r.size - 0) r.sz)=_;rw[h5,h2];rfl
 have hsz:Oa r 1 none=true:=by show Nat.beq r.sz 1=true;rw[h5];rfl
 have S5:H.may r b=true:=by unfold Heap.may;rw[h3,Zj h8];rfl
 have e0: ∀(n:Nat) (new:List AV),l.length+n<=N->Oh (.slice b 0 l.length none) 5 1 1 H n new=KG H (.slice b 0 l.length none) b 0 l.length n 1 none r new:=λn new hn=>by
  show Yx H b (λr=>ZJ (Oa r 1 none) (cond (Nat.ble (Nat.add l.length n) (Wa r 0 none)) (KG H (.slice b 0 l.length none) b 0 l.length n 1 none r new) (NG H 5 b 0 l.length n 1 1 none r new)))=_;rw[hrow,hsz,hcap,show Nat.ble (Nat.add l.length n) N=true from Zj hn];rfl
 rw[e0 _ _ hN]
 by_cases h0:m=[]
 ·subst h0
  exact⟨H,rfl,⟨⟨r,h1,h2,h3,h4,h5,by rw[ZM];exact h6⟩,h7,h8⟩,Zu.refl _ _⟩
 ·have hp:0<m.length:=by rcases m with _|_;exact absurd rfl h0;exact RL _
  refine⟨H.put b (.row (r.setCells (XV r.cells (0+l.length*1) (m.map Vk)))),?_,⟨⟨_,Yp _ _ _,h2,h3,h4,h5,λi hi=>?_⟩,h7,h8⟩,Zu.put λ_=>Zn.2 rfl⟩
  ·show cond (Nat.beq m.length 0) _ (ZJ (H.may r b) (ZJ (Nat.ble (0+(l.length+m.length)*1) r.size) (ZJ (Nat.ble r.fz (0+l.length*1)) (.val (.slice b 0 (l.length+m.length) none) _))))=_
   rw[Yl,Zc (by omega),S5,h2,h4,Zj (by omega),Zj (ZN _)];rfl
  ·rw[Zh] at hi
   rw[Row.get_eq];show((XV r.cells (0+l.length*1) (m.map Vk)).get i).getD r.dflt=_;rw[Y6,Zl,SM,Zx]
   by_cases hA:i<l.length
   ·rw[if_neg (by omega)]
    have:=h6 i hA;rw[Row.get_eq] at this;rw[this,Ze,Ze,ZW hA]
   ·rw[if_pos (by omega),Z3,Zm (by omega),Ze,Z0 (by omega),Zm (by omega)];rfl
def kN{N:Nat}{l m:Zd}{v:AV}(h:zK H b N l)(hv:BV H v m)(hN:l.length+m.length<=N):
  ∃H',TH 5 1 1 (.slice b 0 l.length none) v H=.val (.slice b 0 (l.length+m.length) none) H'∧zK H' b N (l++m)∧Zu H H' [b]:=by
 obtain⟨H',e,r⟩:=Zhz h hN;refine⟨H',?_,r⟩;rw[Oi (by decide) hv.src,Zx];exact e
def zK.bv{N:Nat}{l:Zd}(h:zK H b N l)(hl:l.length=N)(h0:0<N):BV H (.slice b 0 N none) l:=by
 obtain⟨⟨r,h1,h2,h3,h4,h5,h6⟩,h7,h8⟩:=h;exact .inr ⟨λh=>by rw[h] at hl;have:0=N:=hl;omega,b,0,none,r,by rw[hl],⟨h1,h5,by omega,λi hi=>by rw[Zl];exact h6 i hi,λk hk=>by cases hk⟩,h7⟩
def Zkn(a:AV)(H:Heap):OR:=qz (λ_=>a) ot H
def Zez(x:WI)(tm:TM)(H:Heap):qz x tm H=Zkn (x tm) H:=rfl
def aS(E:Env Zq fs Zk){N:Nat}(hro:H.ro<=H.nx)(h0:0<N)(hN:N<=140737488355328):
  ∃H',ZA (LK Zq fs Zk k) fs Zk (n+1) 44 [.nils,nI .i64 N] H=.ret (.slice H.nx 0 0 none) H'∧zK H' H.nx N []∧Zu H H' []:=by
 rw[Z5 E.f44 (.inr rfl)];have c0: ∀G:Heap,Zkn .nils G=.val (nI .i64 0) G:=λG=>rfl;have s0: ∀G:Heap,Mh (nI .i64 0) (nI .i64 0) G=.val (nI .i64 0) G:=λG=>rfl;have s1: ∀G:Heap,Mh (nI .i64 N) (nI .i64 0) G=.val (nI .i64 N) G:=λG=>by rw[Wz (by omega) (by omega),RK]
 have d0:decide (N<0)=false:=Zc (by omega);have d1:decide (0<N)=true:=Zi h0;have sn: ∀G:Heap,Uo 1 .nils none (some (nI .i64 0)) G=.val .nils G:=λG=>rfl;have hrep:(List.replicate N (0:UInt8)).length=N:=ZB ..;have ea:ZgX 5 1 1 [nI .u8 0] .nils (nI .i64 N) H=.val (.slice H.nx 0 N none) (H.new (rG 5 1 ((List.replicate N (0:UInt8)).map Vk) 0 false true false)):=by
  show ZJ (Nat.ble (N*1) 140737488355328) (Oh .nils 5 1 1 H N (List.replicate N [nI .u8 0]).flatten)=_;rw[Y6,Zj hN,uK];have:=tE (e:=5) (H:=H) (l:=(List.replicate N (0:UInt8)).map Vk) (by rw[Zx,hrep];exact h0) (by rw[Zx,hrep];exact hN);rw[Zx,hrep] at this;show Oh .nils 5 1 1 H N ((List.replicate N (0:UInt8)).map Vk)=_;rw[this,NA]
 have hs:YN ((List.replicate N (0:UInt8)).map Vk)=N:=by rw[Yw,Zx,hrep]
 have sl:Uo 1 (.slice H.nx 0 N none) none (some (nI .i64 0)) (H.new (rG 5 1 ((List.replicate N (0:UInt8)).map Vk) 0 false true false))=.val (.slice H.nx 0 0 none) (H.new (rG 5 1 ((List.replicate N (0:UInt8)).map Vk) 0 false true false)):=by
  show Yx _ H.nx _=_;unfold Yx;rw[ZR rfl];show ZJ true (ZJ (Nat.ble 0 (YN ((List.replicate N (0:UInt8)).map Vk) - 0)) (ZJ (Nat.ble 0 0) (ZJ (Nat.ble 0 (YN ((List.replicate N (0:UInt8)).map Vk) - 0)) (cond (Nat.beq 0 (YN ((List.replicate N (0:UInt8)).map Vk) - 0)) _ (.val (.slice H.nx (0+0*1) (0 - 0) none) _)))))=_;rw[hs,RK,Zj (ZN _),Yl,Zc (by omega)];rfl
 simp only[c0,s0,s1,d0,d1,sn,ea,sl,Zez,Th,YY,XH,ZE,Yn,ZE,Yn,Oz,c44,ZG,Yj,Zz,Yg];refine⟨_,rfl,⟨⟨_,ZR rfl _,hs,rfl,rfl,rfl,λi hi=>by cases hi⟩,ZU _,hro⟩,Zu.new _ _ _⟩
def bE(E:Env Zq fs Zk){sb e:Nat}{s1 s2 s3 s4:AV}{l1 l2 l3 l4:Zd}(hro:H.ro<=H.nx)(hb:sb<H.nx)(g:H.t.get sb=some (rG e 1 [s1,s2,s3,s4] 0 false true true))(b1:BV H s1 l1)(b2:BV H s2 l2)(b3:BV H s3 l3)(b4:BV H s4 l4)
  (f1: ∀b∈Xk s1,b<H.nx)(f2: ∀b∈Xk s2,b<H.nx)(f3: ∀b∈Xk s3,b<H.nx)(f4: ∀b∈Xk s4,b<H.nx)(h0:0<l1.length)(hl:l1.length+l2.length+l3.length+l4.length<=1000000000):
  ∃b H',ZA (LK Zq fs Zk k) fs Zk (n+2) 21 [.slice sb 0 4 none] H=.ret (.slice b 0 (l1.length+l2.length+l3.length+l4.length) none) H'∧BV H' (.slice b 0 (l1.length+l2.length+l3.length+l4.length) none) (l1++l2++l3++l4)∧Zu H H' []∧H.nx<=b∧b<H'.nx:=by
 rw[Z5 E.f21 (.inr rfl)];have hf:=E.big;obtain⟨fu,rfl⟩: ∃fu,Zk=fu+5:=⟨Zk - 5,by omega⟩;have ix: ∀i,i<4-> ∀G,Dv 1 (.slice sb 0 4 none) (nI .i64 i) G=.val (.ptr sb i) G:=λi hi G=>by rw[XP hi,Zl]
 have ix0:=ix 0 (by decide);have ix1:=ix 1 (by decide);have ix2:=ix 2 (by decide);have ix3:=ix 3 (by decide);have ld0: ∀G,ld1 (some (rG e 1 [s1,s2,s3,s4] 0 false true true)) 0 G=.val s1 G:=λG=>XQ (show 0<4 by decide) ..;have ld1': ∀G,ld1 (some (rG e 1 [s1,s2,s3,s4] 0 false true true)) 1 G=.val s2 G:=λG=>XQ (show 1<4 by decide) ..;have Zp0: ∀G,ld1 (some (rG e 1 [s1,s2,s3,s4] 0 false true true)) 2 G=.val s3 G:=λG=>XQ (show 2<4 by decide) ..;have Zis: ∀G,ld1 (some (rG e 1 [s1,s2,s3,s4] 0 false true true)) 3 G=.val s4 G:=λG=>XQ (show 3<4 by decide) ..;have n1:=b1.len;have n2:=b2.len;have n3:=b3.len;have n4:=b4.len;have a1: ∀G,Sr (nI .i64 0) (nI .i64 l1.length) G=.val (nI .i64 l1.length) G:=λG=>by rw[Y0 (by omega),Zl]
 have a2: ∀G,Sr (nI .i64 l1.length) (nI .i64 l2.length) G=.val (nI .i64 (l1.length+l2.length)) G:=λG=>Y0 (by omega) G;have a3: ∀G,Sr (nI .i64 (l1.length+l2.length)) (nI .i64 l3.length) G=.val (nI .i64 (l1.length+l2.length+l3.length)) G:=λG=>Y0 (by omega) G;have a4: ∀G,Sr (nI .i64 (l1.length+l2.length+l3.length)) (nI .i64 l4.length) G=.val (nI .i64 (l1.length+l2.length+l3.length+l4.length)) G:=λG=>Y0 (by omega) G;have dz: ∀x:Nat,decide (x<0)=false:=λx=>Zc (UZ _);have p0: ∀G,T2 XF Yt (nI .i64 0) (nI .i64 4) G=.val (.bool true) G:=λ_=>rfl;have p1: ∀G,T2 XF Yt (nI .i64 1) (nI .i64 4) G=.val (.bool true) G:=λ_=>rfl;have p2: ∀G,T2 XF Yt (nI .i64 2) (nI .i64 4) G=.val (.bool true) G:=λ_=>rfl;have p3: ∀G,T2 XF Yt (nI .i64 3) (nI .i64 4) G=.val (.bool true) G:=λ_=>rfl;have p4: ∀G,T2 XF Yt (nI .i64 4) (nI .i64 4) G=.val (.bool false) G:=λ_=>rfl;have q0: ∀G,Sr (nI .i64 0) (nI .i64 1) G=.val (nI .i64 1) G:=λ_=>rfl;have q1: ∀G,Sr (nI .i64 1) (nI .i64 1) G=.val (nI .i64 2) G:=λ_=>rfl;have q2: ∀G,Sr (nI .i64 2) (nI .i64 1) G=.val (nI .i64 3) G:=λ_=>rfl;have q3: ∀G,Sr (nI .i64 3) (nI .i64 1) G=.val (nI .i64 4) G:=λ_=>rfl;obtain⟨H1,eg,cb,k1⟩:=aS E (k:=k) (n:=n) (H:=H) (N:=l1.length+l2.length+l3.length+l4.length) hro (by omega) (by omega);have mv: ∀{G:Heap} {s:AV} {l:Zd},BV H s l->(∀b∈Xk s,b<H.nx)->(∃S,Zu H G S∧ ∀x∈S,x=H.nx)->BV G s l:=λhb hf ⟨S,kk,hS⟩=>hb.keep kk λb o n c hh hm=>by
  subst hh;have:=hf b (by simp[Xk]);have:=hS b hm;omega
 obtain⟨H2,e2,cb2,k2⟩:=kN cb (mv b1 f1 ⟨[],k1,λx hx=>by cases hx⟩) (by show 0+_<=_;omega);have kk2:Zu H H2 [H.nx]:=(k1.more).trans k2 λc hc _=>hc;rw[ZQ] at cb2;rw[show([]:Zd).length=0 from rfl,Zl] at e2;obtain⟨H3,e3,cb3,k3⟩:=kN cb2 (mv b2 f2 ⟨_,kk2,λx hx=>Zn.1 hx⟩) (by omega);have kk3:Zu H H3 [H.nx]:=kk2.trans k3 λc hc _=>hc;obtain⟨H4,e4,cb4,k4⟩:=kN cb3 (mv b3 f3 ⟨_,kk3,λx hx=>Zn.1 hx⟩) (by rw[Zh];omega);have kk4:Zu H H4 [H.nx]:=kk3.trans k4 λc hc _=>hc;rw[Zh] at e4;obtain⟨H5,e5,cb5,k5⟩:=kN cb4 (mv b4 f4 ⟨_,kk4,λx hx=>Zn.1 hx⟩) (by rw[Zh,Zh];omega);have kk5:Zu H H5 [H.nx]:=kk4.trans k5 λc hc _=>hc;rw[Zh,Zh] at e5;have gk: ∀{G S},Zu H G S->(∀x∈S,x=H.nx)->G.t.get sb=some (rG e 1 [s1,s2,s3,s4] 0 false true true):=λkk hS=>by
  rw[kk.get sb hb λh=>by have:=hS _ h;omega];exact g
 have g1:=gk k1 λx hx=>by cases hx
 have g2:=gk kk2 λx hx=>Zn.1 hx;have g3:=gk kk3 λx hx=>Zn.1 hx;have g4:=gk kk4 λx hx=>Zn.1 hx;simp only[ix0,ix1,ix2,ix3,g,g1,g2,g3,g4,ld0,ld1',Zp0,Zis,n1,n2,n3,n4,a1,a2,a3,a4,dz,p0,p1,p2,p3,p4,q0,q1,q2,q3,eg,e2,e3,e4,e5,P2,Ys,WH,ZE,c21,be,bf,ZG,Yj,Zz,Yg,UH];refine⟨H.nx,_,rfl,cb5.bv ?_ (by omega),?_,Zs _,cb5.lt⟩
 ·simp only[Zh]
 ·exact⟨kk5.nx,kk5.ro,λc hc _=>kk5.get c hc λh=>by have:=Zn.1 h;omega⟩
structure vu(m:Mem):Prop where
 path:m.path.length<=4200
 link:m.link.length<=4200
 attrs: ∀x∈m.attrs,x.1.length+x.2.length<=9000
 mode:m.mode<4294967296
 uid:m.uid<4294967296
 gid:m.gid<4294967296
 t1: -9223372036854775808<=m.time
 t2:m.time<=9223372036854775807
 ats:m.attrs.length<=100
def vu.short{m:Mem}(h:vu m):CS m:=
 ⟨by have:=h.path;omega,by have:=h.ats;omega,λi hi=>by
  have:=h.attrs (m.attrs.getD i ([],[])) (by rw[Ze,Zm hi];exact XD hi)
  omega⟩
def Ug(m:Mem):Zd:=ri m.path m.link m.kind m.time m.mode m.uid m.gid m.data
def X2(m:Mem):List NP:=rj m.path m.link m.kind m.time m.uid m.gid m.attrs
def BF{z:Int}(h1: -9223372036854775808<=z)(h2:z<=9223372036854775807):(QC z).length<=21:=by
 unfold QC;have h:=TI (n:=z.natAbs) (k:=20) (by decide) (by omega)
 split
 ·rw[ZL,SE];omega
 ·rw[SE];omega
def MT(x:NP):Prop:=Ox x.1=true∧x.1.length+x.2.length<=10000
def ut{e:If}{Rs:List NP}(h: ∀x∈Rs,MT x)(he:MT (e.key,QC e.z)): ∀x∈RT e Rs,MT x:=by
 intro x hx;unfold RT at hx
 split at hx
 ·rcases Zt.1 hx with hx|hx
  ·exact h x hx
  ·rw[Zn.1 hx];exact he
 ·exact h x hx
def ZcN(a s t:Zd):MV a (s++t)=(MV a s||MV a t):=by unfold MV;rw[List.any_append]
def ZcS{m:Mem}(h:vu m)(hm:Ow m.attrs=true): ∀x∈m.attrs,MT (tH x):=by
 intro x hx;unfold Ow at hm;rw[Z4,Ya] at hm;obtain⟨i,hi,rfl⟩:=Tl.1 hx;have h1:=hm.1 i (XM.2 hi);unfold mE at h1;rw[Ze,Zm hi] at h1;have h2:=h.attrs _ hx;simp only[RM,Z4,UM,decide_eq_true_eq,decide_eq_false_iff_not] at h1;obtain⟨⟨⟨h3,h4⟩,h5⟩,_⟩:=h1;refine⟨?_,?_⟩
 ·show Ox ([83,67,72,73,76,89,46,120,97,116,116,114,46]++_)=true
  unfold Ox;rw[ZcN,h5];have hl:([83,67,72,73,76,89,46,120,97,116,116,114,46]++m.attrs[i].1).length<=255:=by rw[Zh];show 13+_<=_;omega
  rw[Zi hl,Zc (by simp)];rfl
 ·show([83,67,72,73,76,89,46,120,97,116,116,114,46]++m.attrs[i].1).length+m.attrs[i].2.length<=10000
  rw[Zh];show 13+m.attrs[i].1.length+m.attrs[i].2.length<=10000;omega
def CI{m:Mem}(h:vu m)(hm:Ow m.attrs=true):(∀x∈X2 m,MT x)∧(X2 m).length<=105:=by
 have hp:=h.path;have hl:=h.link;have hlo:=r8 m.kind m.path;have kk:Ox [112,97,116,104]=true∧Ox [108,105,110,107,112,97,116,104]=true∧Ox [117,105,100]=true∧Ox [103,105,100]=true∧Ox [109,116,105,109,101]=true:=by decide
 have h0: ∀x∈(if (Wx (Wp m.kind m.path)).2.2=true then [] else [([112,97,116,104],Wp m.kind m.path)]:List NP),MT x:=by
  intro x hx
  split at hx
  ·cases hx
  ·rw[Zn.1 hx];exact⟨kk.1,by show 4+(Wp m.kind m.path).length<=10000;omega⟩
 have n0:(if (Wx (Wp m.kind m.path)).2.2=true then [] else [([112,97,116,104],Wp m.kind m.path)]:List NP).length<=1:=by split<;>simp
 generalize hq:(if (Wx (Wp m.kind m.path)).2.2=true then [] else [([112,97,116,104],Wp m.kind m.path)]:List NP)=q at h0 n0;have h1: ∀x∈(if 100<m.link.length then q++[([108,105,110,107,112,97,116,104],m.link)] else q),MT x:=by
  intro x hx
  split at hx
  ·rcases Zt.1 hx with hx|hx
   ·exact h0 x hx
   ·rw[Zn.1 hx];exact⟨kk.2.1,by show 8+m.link.length<=10000;omega⟩
  ·exact h0 x hx
 have n1:(if 100<m.link.length then q++[([108,105,110,107,112,97,116,104],m.link)] else q).length<=2:=by
  split
  ·rw[Zh];show _+1<=_;omega
  ·omega
 unfold X2 rj ZaU iN;rw[hq];generalize(if 100<m.link.length then q++[([108,105,110,107,112,97,116,104],m.link)] else q)=q1 at h1 n1;have f1:=BF (z:=(m.uid:Int)) (by omega) (by have:=h.uid;omega);have f2:=BF (z:=(m.gid:Int)) (by omega) (by have:=h.gid;omega);have f3:=BF h.t1 h.t2;have a1:=ut (e:=⟨[117,105,100],108,8,m.uid,2097151⟩) h1 ⟨kk.2.2.1,by show 3+(QC (m.uid:Int)).length<=10000;omega⟩;have b1:=Pe ⟨[117,105,100],108,8,m.uid,2097151⟩ q1;have a2:=ut (e:=⟨[103,105,100],116,8,m.gid,2097151⟩) a1 ⟨kk.2.2.2.1,by show 3+(QC (m.gid:Int)).length<=10000;omega⟩;have b2:=Pe ⟨[103,105,100],116,8,m.gid,2097151⟩ (RT ⟨[117,105,100],108,8,m.uid,2097151⟩ q1);have a3:=ut (e:=⟨[109,116,105,109,101],136,12,m.time,8589934591⟩) a2 ⟨kk.2.2.2.2,by show 5+(QC m.time).length<=10000;omega⟩;have b3:=Pe ⟨[109,116,105,109,101],136,12,m.time,8589934591⟩ (RT ⟨[103,105,100],116,8,m.gid,2097151⟩ (RT ⟨[117,105,100],108,8,m.uid,2097151⟩ q1));have hF:(uu m.uid m.gid m.time).foldl (λl x=>RT x l) q1=RT ⟨[109,116,105,109,101],136,12,m.time,8589934591⟩ (RT ⟨[103,105,100],116,8,m.gid,2097151⟩ (RT ⟨[117,105,100],108,8,m.uid,2097151⟩ q1)):=rfl;rw[hF];refine⟨λx hx=>?_,?_⟩
 ·rcases Zt.1 hx with hx|hx
  ·exact a3 x hx
  ·obtain⟨y,hy,rfl⟩:=YC.1 hx
   exact ZcS h hm y hy
 ·rw[Zh,Zx];have:=h.ats;omega
def Ch(r:Nat):Zd:=PB (Un (Un (Un (Un (Un (Un (NK 120) 0 100 (UK [112,97,120] 100)) 100 8 (UR 0 8)) 108 8 (UR 0 8)) 116 8 (UR 0 8)) 136 12 (UR 0 12)) 124 12 (UR r 12))
def QL(m:Mem):Zd:=if X2 m=[] then Ug m else Ch (VO (X2 m)).length++VO (X2 m)++List.replicate (VC (VO (X2 m)).length) 0++Ug m
def DO(e n:Nat):Cells ⟨e,1,n,.leaf,nI .u8 0,0,false,true,true⟩ ((List.replicate n (0:UInt8)).map Vk):=by
 have h:(List.replicate n (0:UInt8)).map Vk=List.replicate n (nI .u8 0):=by rw[SC];rfl
 refine⟨by rw[Zx,ZB],λi hi=>?_⟩;rw[Zx,ZB] at hi;rw[h,Row.get_eq,Ze,XJ,if_pos hi];show(T.leaf.get i).getD (nI .u8 0)=nI .u8 0;rw[T.get_leaf];rfl
def NF.szd{m:Mem}{av dv:AV}(hA:Sz H 2 av (TN m.attrs))(hD:Sz H 1 dv (ML m.data))(h:vu m)(hd:m.data.length<=1073741824):Szd H av dv m.attrs m.data:=
 ⟨hA,hD,h.ats,λx hx=>by have:=h.attrs x hx;omega,hd⟩
def tf(E:Env Zq fs Zk)(hk:12<=k){m:Mem}(gH:V8 H)(hC:NF H cs m)(h:vu m)(hm:Xh m=true):
  ∃v H',ZA (LK Zq fs Zk k) fs Zk (n+7) 6 [.agg cs] H=.ret (.tup [v,nI .i64 0]) H'∧BV H' v (QL m)∧Zu H H' []∧ ∃b c,v=.slice b 0 (QL m).length c∧H.nx<=b∧b<H'.nx:=by
 rw[Z5 E.f6 (.inr rfl)];have hC0:=hC;obtain⟨av,dv,rfl,hA,hD⟩:=hC;have hm':=hm;unfold Xh at hm';simp only[Z4,decide_eq_true_eq] at hm';obtain⟨⟨⟨⟨⟨_,hmo⟩,hmA⟩,_⟩,hdl⟩,_⟩:=hm';have bx: ∀G:Heap,MW 34 (.agg [.str m.path,.int .i64 m.kind,nI .u32 m.mode,nI .u32 m.uid,nI .u32 m.gid,.int .i64 m.time,av,dv,.str m.link]) G=.val (.ptr G.nx 0) (G.new (rH 34 [.str m.path,.int .i64 m.kind,nI .u32 m.mode,nI .u32 m.uid,nI .u32 m.gid,.int .i64 m.time,av,dv,.str m.link])):=λG=>W4 (l:=[.str m.path,.int .i64 m.kind,nI .u32 m.mode,nI .u32 m.uid,nI .u32 m.gid,.int .i64 m.time,av,dv,.str m.link]) (show 1<=9 by decide) 34 G;obtain⟨H1,hH1⟩:=TO (H.new (rH 34 [.str m.path,.int .i64 m.kind,nI .u32 m.mode,nI .u32 m.uid,nI .u32 m.gid,.int .i64 m.time,av,dv,.str m.link]));have k1:Zu H H1 []:=by rw[<-hH1];exact Zu.new _ _ _
 have NB:H1.nx=H.nx+1:=by rw[<-hH1];rfl
 have g1:H1.t.get H.nx=some (rH 34 [.str m.path,.int .i64 m.kind,nI .u32 m.mode,nI .u32 m.uid,nI .u32 m.gid,.int .i64 m.time,av,dv,.str m.link]):=by rw[<-hH1];exact ZR rfl _
 have n7: ∀G,zI 9 (some (rH 34 [.str m.path,.int .i64 m.kind,nI .u32 m.mode,nI .u32 m.uid,nI .u32 m.gid,.int .i64 m.time,av,dv,.str m.link])) 0 G=.val (.agg [.str m.path,.int .i64 m.kind,nI .u32 m.mode,nI .u32 m.uid,nI .u32 m.gid,.int .i64 m.time,av,dv,.str m.link]) G:=λG=>Tg (show 0+9<=9 by decide) ..;have fh:=gH.keep0 k1;have em:=λ{j}=>uR E (k:=k) (n:=j) hk h.short fh.p (hC0.keep k1);rw[hm] at em;obtain⟨b,q,w,H2,e2,hb,hbq,k12,fi,R2,rb⟩:=Zag E (k:=k) (n:=n) (by omega) fh (NF.szd (hA.keep0 k1) (hD.keep0 k1) h (by omega)) h.mode h.uid h.gid h.t1 h.t2 (Yb h.path (by decide)) (Yb h.link (by decide));have k2:Zu H H2 []:=k1.trans' k12;have hl2:=R2.len;have hb2:=R2.lt;have lw:=rb.len;rw[Vm] at lw;obtain⟨FI,m9⟩:=CI h hmA;have sa: ∀(b:Nat) G,O5 512 1 (.ptr b 0) none none G=.val (.slice b 0 512 (some 512)) G:=λ_ _=>rfl
 by_cases hR:X2 m=[]
 ·have hR':=hR
  unfold X2 at hR';rw[hR'] at lw;have d1: ∀G,NL WX false (nI .i64 ([]:List NP).length) (nI .i64 0) G=.val (.bool true) G:=λ_=>rfl;have hb1:QL m=Ug m:=by unfold QL;rw[if_pos hR]
  have bv:=KH R2 (a:=0) (n:=512) (by decide) (by decide);rw[YL,Z1 (by omega)] at bv;have hl3:(QL m).length=512:=by rw[hb1];exact hl2
  simp only[bx,hH1,g1,n7,em,e2,lw,sa,UJ,SK,XA,XR,XH,YQ,decide_true,Zo,Zo,XU,Zo,c6,ZG,Yj,Zz,Yc,Yg,];refine⟨_,_,rfl,?_⟩;rw[hb1];exact⟨bv,k2,b,some 512,by rw[<-hb1,hl3],by omega,hb2⟩
 have hlen:0<(X2 m).length:=by
  rcases hx:X2 m with _|⟨a,l⟩
  ·exact absurd hx hR
  ·exact RL _
 have lw: ∀G,Kq w G=.val (nI .i64 (X2 m).length) G:=lw;have d1:decide ((X2 m).length=0)=false:=Zc (by omega);have hb1:QL m=Ch (VO (X2 m)).length++VO (X2 m)++List.replicate (VC (VO (X2 m)).length) 0++Ug m:=by unfold QL;rw[if_neg hR]
 obtain⟨w3,H3,e3,Dk,k23⟩:=mQ E (k:=k) (n:=n+1) (by omega) fi (Sl.of_buf (show TZ H2 w 73 2 (TN (X2 m)) (q+1) from rb)) (λx hx=>(FI x hx).1) (λx hx=>(FI x hx).2) (by omega);have hpl:=FC (l:=X2 m) λx hx=>(FI x hx).2;have hpl:(VO (X2 m)).length<=105*10023:=by
  omega
 have ln3:=Dk.len;generalize hP:VO (X2 m)=P at*;have d2: ∀G,NL WX true (nI .i64 0) (nI .i64 0) G=.val (.bool false) G:=λ_=>rfl;have k3:Zu H H3 []:=k2.trans' k23;have hx3:=k23.nx;have gH3:=fi.keep0 k23;obtain⟨H4,e4,Fg,R4⟩:=yn E (k:=k) (n:=n+1) (by omega) (t:=120) (by decide) gH3;have up: ∀{G G':Heap},Zu H3 G []->Zu G G' [H3.nx]->Zu H3 G' []:=λa b=>a.trans b λx hx hlt=>by have:=Zn.1 hx;omega
 obtain⟨H5,e5,Dy,R5⟩:=zz E (k:=k) (n:=n+2) (by omega) (s:=[112,97,120]) (gH3.keep0 Fg) nA R4 (by decide);have fO:=up Fg Dy;obtain⟨H6,e6,v5,R6⟩:=JY E (k:=k) (n:=n+2) (by omega) (u:=0) (gH3.keep0 fO) vM R5 (by decide) (by decide) (by decide);have k36:=up fO v5;obtain⟨H7,e7,cE,R7⟩:=JY E (k:=k) (n:=n+2) (by omega) (u:=0) (gH3.keep0 k36) ax R6 (by decide) (by decide) (by decide);have k37:=up k36 cE;obtain⟨H8,e8,k78,R8⟩:=JY E (k:=k) (n:=n+2) (by omega) (u:=0) (gH3.keep0 k37) aw R7 (by decide) (by decide) (by decide);have k38:=up k37 k78;obtain⟨H9,e9,k89,R9⟩:=JY E (k:=k) (n:=n+2) (by omega) (u:=0) (gH3.keep0 k38) vN R8 (by decide) (by decide) (by decide);have k39:=up k38 k89;obtain⟨Ha,ea,k9a,Ra⟩:=JY E (k:=k) (n:=n+2) (by omega) (u:=P.length) (gH3.keep0 k39) BA R9 (by omega) (by decide) (by decide);have k3a:=up k39 k9a;obtain⟨Hb,eb,kab,Rb⟩:=pF E (k:=k) (n:=n+1) (by omega) (gH3.keep0 k3a) Ra;have k3b:=up k3a kab;have k2b:Zu H2 Hb []:=k23.trans' k3b;have kb:Zu H Hb []:=k2.trans' k2b;have hRb:=Rb.lt;have gHb:=gH3.keep0 k3b;have hrob:=gHb.p.ro;have et:=λ{j}=>Zcp E (k:=k) (n:=j) (by omega) (m:=P.length) (H:=Hb) (by omega);obtain⟨Hc,hHc⟩:=TO (Hb.new (.row ⟨5,1,VC P.length,.leaf,nI .u8 0,0,false,true,true⟩));have kbc:Zu Hb Hc []:=by rw[<-hHc];exact Zu.new _ _ _
 have nxc:Hc.nx=Hb.nx+1:=by rw[<-hHc];rfl
 obtain⟨Hd,hHd⟩:=TO (Hc.new (rH 23 [.slice H3.nx 0 512 (some 512),w3,.slice Hb.nx 0 (VC P.length) none,.slice b 0 512 (some 512)]));have kcd:Zu Hc Hd []:=by rw[<-hHd];exact Zu.new _ _ _
 have nxd:Hd.nx=Hc.nx+1:=by rw[<-hHd];rfl
 have kbd:=kbc.trans' kcd;have mk: ∀G:Heap,Zes 5 1 1 [nI .u8 0] (nI .i64 (VC P.length)) (nI .i64 (VC P.length)) G=.val (.slice G.nx 0 (VC P.length) none) (G.new (.row ⟨5,1,VC P.length,.leaf,nI .u8 0,0,false,true,true⟩)):=λG=>mq (by have:VC P.length<512:=Wh _ (by decide);omega) (by have:VC P.length<512:=Wh _ (by decide);omega) _ _ _;have hw:wrO (.row ⟨5,1,VC P.length,.leaf,nI .u8 0,0,false,true,true⟩)=true:=rfl;have bs4: ∀(x y z u:AV) (G:Heap),x.cells=[x]->y.cells=[y]->z.cells=[z]->u.cells=[u]->US 23 1 4 (List.replicate 4 [.nils]).flatten [(0,1,x),(1,1,y),(2,1,z),(3,1,u)] G=.val (.slice G.nx 0 4 none) (G.new (rH 23 [x,y,z,u])):=λx y z u G hx hy hz hu=>by
  rw[Bc (by decide) rfl,Nw hx (show 0<4 by decide),Nw hy (show 1<4 by decide),Nw hz (show 2<4 by decide),Nw hu (show 3<4 by decide),JQ];rfl
 have bs:=bs4 (.slice H3.nx 0 512 (some 512)) w3 (.slice Hb.nx 0 (VC P.length) none) (.slice b 0 512 (some 512));have cw:=Dk.cells;have hpz:(List.replicate (VC P.length) (0:UInt8)).length=VC P.length:=ZB ..;have v1:=KH (Rb.keep0 kbd) (a:=0) (n:=512) (by decide) (by decide);rw[YL,Z1 (by have:=Rb.len;omega)] at v1;have v2:=(Dk.keep k3b (λ_ _=>by simp)).keep kbd (λ_ _=>by simp);have v3:=tQ (H:=Hd) (b:=Hb.nx) (n:=VC P.length) (c:=none) (l:=List.replicate (VC P.length) 0) (by rw[kcd.get _ (by omega) (by simp),<-hHc];exact ZR rfl _) (DO 5 _) rfl (by omega) hpz.symm (λk h=>by cases h);have v4:=KH ((R2.keep0 k2b).keep0 kbd) (a:=0) (n:=512) (by decide) (by decide);rw[YL,Z1 (by omega)] at v4;have l1:=Rb.len;obtain⟨z,He,ee,bve,kde,hz1,hz2⟩:=bE E (k:=k) (n:=n+4) (H:=Hd) (sb:=Hc.nx) (e:=23) (by rw[kbd.ro];omega) (by omega) (by rw[<-hHd];exact ZR rfl _) v1 v2.bv v3 v4
  (λx hx=>by simp[Xk] at hx;omega) (λx hx=>(v2.blk x hx).2) (λx hx=>by simp[Xk] at hx;omega) (λx hx=>by simp[Xk] at hx;omega) (by omega) (by have:VC P.length<512:=Wh _ (by decide);rw[hpz,l1,hl2];omega)
 have lwc: ∀n,H3.nx<=n->WZ n w3=true:=λn hn=>Dk.low hn;have lwx:=lwc Hb.nx (by omega);have lwy:=lwc Hc.nx (by omega);have hf:=E.big;obtain⟨fu,rfl⟩: ∃fu,Zk=fu+5:=⟨Zk - 5,by omega⟩;have b4: ∀G,TS [.str [],.str [],.str [],.str []] [(0,1,.str [109,111,100,101]),(1,1,.str [117,105,100]),(2,1,.str [103,105,100]),(3,1,.str [109,116,105,109,101])] G=.val (.agg [.str [109,111,100,101],.str [117,105,100],.str [103,105,100],.str [109,116,105,109,101]]) G:=λ_=>rfl;have i0: ∀G,Er 4 (.agg [.str [109,111,100,101],.str [117,105,100],.str [103,105,100],.str [109,116,105,109,101]]) (nI .i64 0) G=.val (.str [109,111,100,101]) G:=λ_=>rfl;have i1: ∀G,Er 4 (.agg [.str [109,111,100,101],.str [117,105,100],.str [103,105,100],.str [109,116,105,109,101]]) (nI .i64 1) G=.val (.str [117,105,100]) G:=λ_=>rfl;have i2: ∀G,Er 4 (.agg [.str [109,111,100,101],.str [117,105,100],.str [103,105,100],.str [109,116,105,109,101]]) (nI .i64 2) G=.val (.str [103,105,100]) G:=λ_=>rfl;have i3: ∀G,Er 4 (.agg [.str [109,111,100,101],.str [117,105,100],.str [103,105,100],.str [109,116,105,109,101]]) (nI .i64 3) G=.val (.str [109,116,105,109,101]) G:=λ_=>rfl;have p0: ∀G,T2 XF Yt (nI .i64 0) (nI .i64 4) G=.val (.bool true) G:=λ_=>rfl;have p1: ∀G,T2 XF Yt (nI .i64 1) (nI .i64 4) G=.val (.bool true) G:=λ_=>rfl;have p2: ∀G,T2 XF Yt (nI .i64 2) (nI .i64 4) G=.val (.bool true) G:=λ_=>rfl;have p3: ∀G,T2 XF Yt (nI .i64 3) (nI .i64 4) G=.val (.bool true) G:=λ_=>rfl;have p4: ∀G,T2 XF Yt (nI .i64 4) (nI .i64 4) G=.val (.bool false) G:=λ_=>rfl;have q0: ∀G,Sr (nI .i64 0) (nI .i64 1) G=.val (nI .i64 1) G:=λ_=>rfl;have q1: ∀G,Sr (nI .i64 1) (nI .i64 1) G=.val (nI .i64 2) G:=λ_=>rfl;have q2: ∀G,Sr (nI .i64 2) (nI .i64 1) G=.val (nI .i64 3) G:=λ_=>rfl;have q3: ∀G,Sr (nI .i64 3) (nI .i64 1) G=.val (nI .i64 4) G:=λ_=>rfl;simp(disch:=first|assumption|omega|(simp -implicitDefEqProofs only[VV,VW]<;>first|assumption|omega)|decide) only[bx,hH1,g1,n7,em,e2,lw,sa,UJ,SK,XA,XR,XH,d1,e3,d2,e4,e5,b4,i0,i1,i2,i3,p0,p1,p2,p3,p4,q0,q1,q2,q3,e6,e7,e8,e9,ln3,ea,eb,et,mk,hHc,bs,hHd,ee,lwx,lwy,P2,DE,Jd,Ud,YQ,Zo,Zo,YW,YO,ZD,ZO,Zo,YW,Vh,c6,ZfA,ZG,Yj,Zz,Yc,Xc,M0,Yg,UH,KA]
 refine⟨_,_,rfl,?_⟩;have hlz:(QL m).length=(Ch P.length).length+P.length+(List.replicate (VC P.length) (0:UInt8)).length+(Ug m).length:=by rw[hb1];simp only[Zh]
 rw[hlz,hb1];exact⟨bve,(kb.trans' kbd).trans' kde,z,none,rfl,by omega,hz2⟩
end
end
end Go.AI
