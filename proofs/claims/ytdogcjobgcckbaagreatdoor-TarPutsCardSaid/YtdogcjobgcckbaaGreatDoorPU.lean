/- Records and blocks, by the document's code: walked: proved without conditions but those that each names. -/
import Derived.Test.YtdogcjobgcckbaaGreatDoorPT
import Derived.Test.YtdogcjobgcckbaaGreatDoorPY
set_option maxRecDepth 1000000
set_option maxHeartbeats 0
set_option linter.unusedVariables false
set_option linter.unusedSimpArgs false
namespace Go.AI
open Go
noncomputable section
section
variable {Zn:Lib} {fs:T CF} {fuel k n i h b:Nat} {H H0:Heap} {s:List UInt8} {cs:List AV}
theorem lD{a:UInt8}:a∈([0,61,10]:List UInt8)↔a.toNat=0∨a.toNat=61∨a.toNat=10:=by
 rw[Ox (by decide),Ox (by decide),Ox (by decide)]
 simp
structure LTI(s:List UInt8)(H0:Heap)(m:Nat)(tm:TM)(H:Heap):Prop where
 heap:H=H0
 t0:Yb tm=.str s
 i: ∃i,W8 tm=nI .i64 i∧i+m=s.length
def LTQ(s:List UInt8)(H0:Heap)(o:Out)(tm:TM)(H:Heap):Prop:=H=H0∧Yb tm=.str s∧o=.exit 0
theorem Zbo(hs:s.length<=90000)(ha:Ts [0,61,10] s=false)(cx:Ctx)(X0:X)(m:Nat)(tm:TM)(H:Heap)(hI:LTI s H0 m tm H):
  ∃o tm' H',D2 cx tm H X0=.ok o tm' H' X0∧((o=.normal∧ ∃k,k<m∧LTI s H0 k tm' H')∨(o≠.normal∧LTQ s H0 o tm' H')):=by
 obtain⟨rfl,t0,i,t3,him⟩:=hI
 have t0':=t0
 simp only[Sb,Px] at t0 t3
 cases m with
 |zero=>
  have d1:decide (i<s.length)=false:=Zb (by omega)
  simp only[t0,t3,d1,Zy,ZG,D2,Zu,Ye,Z6]
  refine⟨_,_,_,rfl,?_⟩
  exact .inr ⟨by simp,rfl,t0',rfl⟩
 |succ m=>
  have hi:i<s.length:=by omega
  have d1:decide (i<s.length)=true:=Ze hi
  have hm: ¬s.getD i 0∈([0,61,10]:List UInt8):=λh=>by
   unfold Ts at ha
   rw[List.any_eq_false] at ha
   have h1:s.getD i 0∈s:=by rw[Zf,Zl hi];exact Xd hi
   exact ha _ h1 (by simpa using h)
  rw[lD] at hm
  have d2:decide ((s.getD i 0).toNat=0)=false:=Zb λh=>hm (.inl h)
  have d3:decide ((s.getD i 0).toNat=61)=false:=Zb λh=>hm (.inr (.inl h))
  have d4:decide ((s.getD i 0).toNat=10)=false:=Zb λh=>hm (.inr (.inr h))
  simp(disch:=omega) only[t0,t3,d1,d2,d3,d4,XD,Zy,YL,YI,ZG,D2,Zu,Ye,Z6]
  refine⟨_,_,_,rfl,?_⟩
  exact .inl ⟨rfl,m,by omega,rfl,t0',i+1,rfl,by omega⟩
theorem vL(E:Env Zn fs fuel)(hs:s.length<=255)(ha:Ts [0,61,10] s=false):
  ∃H',ZE (LK Zn fs fuel 0) fs fuel (n+2) 81 [.str s] H=.ret (.bool true) H'∧Zs H H' []:=by
 rw[ZI (ZA E.n81 (.inl (by decide)) _ _) E.f81]
 have hf:=E.big
 simp only[c81,Zu,Z6]
 generalize hL:Wv (D2 _) fuel _ _ _=L
 obtain⟨o,Pu,H1,rfl,_,rfl,t0,rfl⟩:=YA (P:=λT=>LTI s H s.length T H) (Q:=LTQ s H)
  (λT hi=>YP (LTI s H) (LTQ s H) (λm tm H1 h=>Zbo (by omega) ha _ _ m tm H1 h) fuel s.length T H (by omega) hi) hL
  ⟨rfl,rfl,0,rfl,by omega⟩
 simp only[Sb] at t0
 have d1:decide (s.length<=255)=true:=Ze hs
 simp only[t0,d1,Yt,ZG,Zu,Ye,Zw,Z6]
 refine⟨_,rfl,?_⟩
 exact Zs.refl _ _
theorem Zba(E:Env Zn fs fuel)(hk:1<=k)(hs:s.length<=255)(ha:Ts [0,61,10] s=false):
  ZE (LK Zn fs fuel k) fs fuel (n+1) 81 [.str s] H=.ret (.bool true) H:=by
 obtain⟨H',e,g⟩:=vL E (n:=898) (H:=H) hs ha
 exact Yl (r:=0) rfl rfl e g (rfl) hk
theorem oY(x:UInt8)(G:Heap):BR (.slice G.nx 0 1 none) (G.new (rH 5 [nI .u8 x.toNat]))=.val (.str [x]) (G.new (rH 5 [nI .u8 x.toNat])):=
 M5 (ZW rfl _) rfl (show 0+1<=1 by decide) λi hi=>by
  obtain rfl:i=0:=by omega
  rfl
theorem iE{d:Nat}(h:d<10){k:IntKind}(G:Heap):Ol .u8 (nI k (48+d)) G=.val (nI .u8 (OE d).toNat) G:=by
 rw[RA (by omega),HC h]
theorem tW(x:Nat)(G:Heap):UU 5 1 1 [nI .u8 0] [(0,1,nI .u8 x)] G=.val (.slice G.nx 0 1 none) (G.new (rH 5 [nI .u8 x])):=by rw[N3 _ _ _ rfl];rfl
structure DGI(Hs:Heap)(n0:Nat)(m:Nat)(tm:TM)(H:Heap):Prop where
 k:Zs Hs H []
 i: ∃u s,Yb tm=nI .u64 u∧W8 tm=.str s∧u<18446744073709551616∧VI u=m∧dec n0=dec u++s
def DGQ(Hs:Heap)(n0:Nat)(o:Out)(tm:TM)(H:Heap):Prop:=o=.exit 0∧Zs Hs H []∧ ∃u s,Yb tm=nI .u64 u∧W8 tm=.str s∧u<10∧dec n0=dec u++s
theorem Zaj{Hs:Heap}{n0:Nat}(hn:n0<18446744073709551616)(cx:Ctx)(X0:X)(m:Nat)(tm:TM)(H:Heap)(hI:DGI Hs n0 m tm H):
  ∃o tm' H',DZ cx tm H X0=.ok o tm' H' X0∧((o=.normal∧ ∃k,k<m∧DGI Hs n0 k tm' H')∨(o≠.normal∧DGQ Hs n0 o tm' H')):=by
 obtain⟨k0,u,s,t0,t3,hu,hm,hd⟩:=hI
 have t0':=t0;have GY:=t3
 simp only[Sb,Px] at t0 t3
 by_cases h9:9<u
 ·have d1:decide (9<u)=true:=Ze h9
  have e1:=λG:Heap=>Re (a:=u) (b:=10) (by decide) G
  have e2:=λG:Heap=>Dx (a:=48) (b:=u % 10) (by omega) G
  have e3:=λG:Heap=>iE (k:=.u64) (WF u (show 0<10 by decide)) G
  have e4:=λG:Heap=>S9 (a:=u) (b:=10) (by decide) hu G
  have bs:=tW (OE (u % 10)).toNat H
  have st:=oY (OE (u % 10)) H
  have hl:s.length<=20:=by
   have h1:=congrArg List.length hd
   rw[Zj,Rr] at h1
   have h2:=TX (n:=n0) (k:=20) (by decide) (Nat.lt_trans hn (by decide))
   omega
  have ad:=λG:Heap=>VU (a:=[OE (u % 10)]) (b:=s) (by show 1+_<=_;omega) G
  simp only[t0,t3,d1,e1,e2,e3,e4,bs,st,ad,Ys,ZD,ZM,Z3,DZ,Zu,Ye,Zw,Z6]
  refine⟨_,_,_,rfl,.inl ⟨rfl,VI (u/10),?_,k0.then_new _,u/10,[OE (u % 10)]++s,rfl,rfl,by omega,rfl,?_⟩⟩
  ·rw[<-hm,Jb (n:=u) (by omega)];omega
  ·rw[hd,iD (n:=u) (by omega),Xj]
 ·have d1:decide (9<u)=false:=Zb h9
  simp only[t0,d1,Z3,DZ,Zu,Ye,Z6]
  refine⟨_,_,_,rfl,?_⟩
  exact .inr ⟨by simp,rfl,k0,u,s,t0',GY,by omega,hd⟩
theorem sH(E:Env Zn fs fuel){m:Nat}(hm:m<18446744073709551616):
  ∃H',ZE (LK Zn fs fuel 0) fs fuel (n+2) 56 [nI .u64 m] H=.ret (.str (dec m)) H'∧Zs H H' []:=by
 rw[ZI (ZA E.n56 (.inl (by decide)) _ _) E.f56]
 have hf:=E.big
 simp only[c56,Zu,Z6]
 generalize hL:Wv (DZ _) fuel _ _ _=L
 have hnd:=TX (n:=m) (k:=20) (by decide) (Nat.lt_trans hm (by decide))
 obtain⟨o,Pu,H1,rfl,_,rfl,k1,u,s,t0,t3,hu,hd⟩:=YA (P:=λT=>DGI H m (VI m) T H) (Q:=DGQ H m)
  (λT hi=>YP (DGI H m) (DGQ H m) (λj tm H1 h=>Zaj hm _ _ j tm H1 h) fuel (VI m) T H (by omega) hi) hL
  ⟨Zs.refl _ _,m,[],rfl,rfl,hm,rfl,by rw[Yd]⟩
 simp only[Sb,Px] at t0 t3
 have e2:=λG:Heap=>Dx (a:=48) (b:=u) (by omega) G
 have e3:=λG:Heap=>iE (k:=.u64) hu G
 have bs:=tW (OE u).toNat H1
 have st:=oY (OE u) H1
 have hl:s.length<=20:=by
  have h1:=congrArg List.length hd
  rw[Zj,Rr] at h1
  omega
 have ad:=λG:Heap=>VU (a:=[OE u]) (b:=s) (by show 1+_<=_;omega) G
 rw[hd,sF hu]
 simp only[t0,t3,e2,e3,bs,st,ad,Ys,ZD,ZM,Zu,Ye,Zw,Z6]
 refine⟨_,rfl,?_⟩
 exact k1.then_new _
theorem digits(E:Env Zn fs fuel)(hk:1<=k){m:Nat}(hm:m<18446744073709551616):
  ZE (LK Zn fs fuel k) fs fuel (n+1) 56 [nI .u64 m] H=.ret (.str (dec m)) H:=by
 obtain⟨H',e,g⟩:=sH E (n:=898) (H:=H) hm
 exact Yl (r:=0) rfl rfl e g (rfl) hk
theorem jG{z:Int}(h1: -9223372036854775808<=z)(h2:z<9223372036854775807)(G:Heap):Ty (.int .i64 z) (nI .i64 1) G=.val (.int .i64 (z+1)) G:=by
 show ZP (P3 .i64 .i64) (TK .i64 (y8 z (.ofNat 1)) G)=_
 rw[XG,Vn,pT,Jr (by show _<=z+1;omega) (by show z+1<_;omega)];rfl
theorem ZfQ{p:Nat}(h:p<9223372036854775808)(G:Heap):rP (.int .i64 (-(p:Int))) G=.val (nI .i64 p) G:=by
 cases p with
 |zero=>rfl
 |succ p=>
  show TK .i64 (EV 0 (.negSucc p)) G=_
  rw[Vn,Jr (by show _<=(0:Int) - .negSucc p;omega) (by show(0:Int) - .negSucc p<_;omega)]
  show OR.val (.int .i64 ((0:Int) - .negSucc p)) G=.val (.int .i64 ((p+1:Nat):Int)) G
  congr 2;omega
theorem nR(E:Env Zn fs fuel){z:Int}(h1: -9223372036854775808<=z)(h2:z<=9223372036854775807):
  ∃H',ZE (LK Zn fs fuel 1) fs fuel (n+2) 29 [.int .i64 z] H=.ret (.str (SQ z)) H'∧Zs H H' []:=by
 rw[ZI (ZA E.n29 (.inl (by decide)) _ _) E.f29]
 have e0:=λG:Heap=>Lo .i64 z 0 G
 by_cases h0:z<((0:Nat):Int)
 ·have d1:decide (z<((0:Nat):Int))=true:=Ze h0
  obtain⟨p,rfl⟩: ∃p:Nat,z= -((p:Int)+1):=⟨(-z - 1).toNat,by omega⟩
  have e1:=λG:Heap=>jG (z:= -((p:Int)+1)) h1 (by omega) G
  rw[show -((p:Int)+1)+1= -(p:Int) by omega] at e1
  have e2:=λG:Heap=>ZfQ (p:=p) (by omega) G
  have e3:=λG:Heap=>Q9 (j:=.i64) (a:=p) (by omega) G
  have e4:=λG:Heap=>Dx (a:=p) (b:=1) (by omega) G
  have e5:=λ{j}=>digits E (k:=1) (n:=j) (by decide) (m:=p+1) (H:=H) (by omega)
  have hd:=Rr (p+1)
  have hn:=TX (n:=p+1) (k:=20) (by decide) (by omega)
  have e6:=λG:Heap=>VU (a:=[45]) (b:=dec (p+1)) (by show 1+_<=_;omega) G
  rw[show SQ (-((p:Int)+1))=[45]++dec (p+1) by unfold SQ;rw[if_pos (show -((p:Int)+1)<0 by omega),show(-((p:Int)+1)).natAbs=p+1 by omega];rfl]
  simp only[e0,d1,e1,e2,e3,e4,e5,e6,Gq,c29,Zu,Ye,Zw,Z6]
  refine⟨_,rfl,?_⟩
  exact Zs.refl _ _
 ·have d1:decide (z<((0:Nat):Int))=false:=Zb h0
  obtain⟨p,rfl⟩: ∃p:Nat,z=(p:Int):=⟨z.toNat,by omega⟩
  have e0: ∀G:Heap,Tf XE YH (.int .i64 (p:Int)) (nI .i64 0) G=.val (.bool false) G:=λG=>by rw[e0,d1]
  have e3: ∀G:Heap,Ol .u64 (.int .i64 (p:Int)) G=.val (nI .u64 p) G:=λG=>Q9 (j:=.i64) (a:=p) (by omega) G
  have e5:=λ{j}=>digits E (k:=1) (n:=j) (by decide) (m:=p) (H:=H) (by omega)
  rw[show SQ (p:Int)=dec p by unfold SQ;rw[if_neg (show ¬(p:Int)<0 by omega),Int.natAbs_natCast]]
  simp only[e0,e3,e5,c29,Zu,Ye,Zw,Z6]
  refine⟨_,rfl,?_⟩
  exact Zs.refl _ _
theorem iL(E:Env Zn fs fuel)(hk:2<=k){z:Int}(h1: -9223372036854775808<=z)(h2:z<=9223372036854775807):
  ZE (LK Zn fs fuel k) fs fuel (n+1) 29 [.int .i64 z] H=.ret (.str (SQ z)) H:=by
 obtain⟨H',e,g⟩:=nR E (n:=898) (H:=H) h1 h2
 exact Yl (r:=1) rfl rfl e g (rfl) hk
structure SZI(Hs:Heap)(rest:Nat)(m:Nat)(tm:TM)(H:Heap):Prop where
 h:H=Hs
 t3:W8 tm=nI .i64 rest
 i: ∃x,Y4 tm=nI .i64 x∧x+m=O5 rest
def SZQ(Hs:Heap)(rest:Nat)(o:Out)(tm:TM)(H:Heap):Prop:=o=.exit 0∧H=Hs∧Y4 tm=nI .i64 (O5 rest)
theorem ZcB(E:Env Zn fs fuel)(hk:1<=k){Hs:Heap}{rest:Nat}(hr:rest<=20000)(y f dd qq)(X0:X)(m:Nat)(tm:TM)(H:Heap)(hI:SZI Hs rest m tm H):
  ∃o tm' H',D0 ⟨ZE (LK Zn fs fuel k) fs fuel (n+1),y,f,dd,qq⟩ tm H X0=.ok o tm' H' X0∧((o=.normal∧ ∃k,k<m∧SZI Hs rest k tm' H')∨(o≠.normal∧SZQ Hs rest o tm' H')):=by
 obtain⟨rfl,t3,x,t4,hxm⟩:=hI
 have GY:=t3;have Qk:=t4
 simp only[Px,Tp] at t3 t4
 obtain⟨pf1,pf2⟩:=zN (rest:=rest) (by omega)
 have pl:=Bq (rest:=rest) (by omega)
 have e1:=λG:Heap=>Q9 (j:=.i64) (a:=x) (by omega) G
 have e2:=λ{j}=>digits E (k:=k) (n:=j) hk (m:=x) (H:=H) (by omega)
 have dl:=Rr x
 have nd:=TX (n:=x) (k:=20) (by decide) (by omega)
 have ad: ∀G,Ty (nI .i64 rest) (nI .i64 (VI x)) G=.val (nI .i64 (rest+VI x)) G:=λG=>YI (by omega) G
 cases m with
 |zero=>
  obtain rfl:x=O5 rest:=by omega
  have d1:decide (O5 rest≠rest+VI (O5 rest))=false:=Zb λh=>h pf2
  simp only[t3,t4,e1,e2,dl,ad,d1,Vi,ZG,D0,Zu,Ye,Z6]
  refine⟨_,_,_,rfl,.inr ⟨by simp,rfl,rfl,?_⟩⟩
  simp only[Z6,Ye];exact t4
 |succ m=>
  have d1:decide (x≠rest+VI x)=true:=Ze (pf1 x (by omega))
  simp(disch:=omega) only[t3,t4,e1,e2,dl,ad,d1,Vi,YI,ZG,D0,Zu,Ye,Z6]
  refine⟨_,_,_,rfl,?_⟩
  exact .inl ⟨rfl,m,by omega,rfl,GY,x+1,rfl,by omega⟩
theorem nQ(E:Env Zn fs fuel){a b:List UInt8}(hm:QR a=true)(hab:a.length+b.length<=10000):
  ∃H',ZE (LK Zn fs fuel 1) fs fuel (n+2) 57 [.agg [.str a,.str b]] H=.ret (nI .i64 (O5 (a.length+b.length+3))) H'∧Zs H H' []:=by
 rw[ZI (ZA E.n57 (.inl (by decide)) _ _) E.f57]
 have bx: ∀G:Heap,Ni 67 (.agg [.str a,.str b]) G=.val (.ptr G.nx 0) (G.new (rH 67 [.str a,.str b])):=λG=>XS (l:=[.str a,.str b]) (show 1<=2 by decide) 67 G
 have l0: ∀G,ld1 (some (rH 67 [.str a,.str b])) 0 G=.val (.str a) G:=λG=>rfl
 have l1: ∀G,ld1 (some (rH 67 [.str a,.str b])) 1 G=.val (.str b) G:=λG=>rfl
 have hf:=E.big
 unfold QR at hm
 simp only[Yw,T0,decide_eq_true_eq,decide_eq_false_iff_not] at hm
 obtain⟨⟨hm1,hm2⟩,hm3⟩:=hm
 have d1:decide (a=[])=false:=Zb hm1
 obtain⟨H1,hH1⟩:=Sa (H.new (rH 67 [.str a,.str b]))
 have k1:Zs H H1 []:=by rw[<-hH1];exact Zs.new _ _ _
 have g1:H1.t.get H.nx=some (rH 67 [.str a,.str b]):=by rw[<-hH1];exact ZW rfl _
 have el:=λ{j}=>Zba E (k:=1) (n:=j) (by decide) (s:=a) (H:=H1) hm2 hm3
 have a1: ∀G,Ty (nI .i64 a.length) (nI .i64 b.length) G=.val (nI .i64 (a.length+b.length)) G:=λG=>YI (by omega) G
 have a2: ∀G,Ty (nI .i64 (a.length+b.length)) (nI .i64 3) G=.val (nI .i64 (a.length+b.length+3)) G:=λG=>YI (by omega) G
 have pl:=Bq (rest:=a.length+b.length+3) (by omega)
 simp only[bx,hH1,g1,l0,l1,el,d1,a1,a2,Wd,YT,YT,ZG,Zg,Zd,Zd,Zg,Zd,Zg,c57,Zu,Ye,Z8,Z6]
 generalize hL:Wv (D0 _) fuel _ _ _=LL
 obtain⟨o,Pu,H2,rfl,_,rfl,rfl,t4⟩:=YA (P:=λT=>SZI H1 (a.length+b.length+3) (O5 (a.length+b.length+3)) T H1) (Q:=SZQ H1 (a.length+b.length+3))
  (λT hi=>YP (SZI H1 (a.length+b.length+3)) (SZQ H1 (a.length+b.length+3)) (λm tm H' h=>ZcB E (k:=1) (n:=n) (by decide) (by omega) _ _ _ _ _ m tm H' h) fuel (O5 (a.length+b.length+3)) T H1 (by omega) hi) hL
  (by exact⟨rfl,rfl,0,rfl,by omega⟩)
 simp only[Tp] at t4
 simp only[t4,Zu,Ye,Zw,Z6,Vk]
 refine⟨_,rfl,?_⟩
 exact k1
theorem Zc0(E:Env Zn fs fuel)(hk:2<=k){a b:List UInt8}(hm:QR a=true)(hab:a.length+b.length<=10000):
  ZE (LK Zn fs fuel k) fs fuel (n+1) 57 [.agg [.str a,.str b]] H=.ret (nI .i64 (O5 (a.length+b.length+3))) H:=by
 obtain⟨H',e,g⟩:=nQ E (n:=898) (H:=H) hm hab
 exact Yl (r:=1) rfl rfl e g (rfl) hk
theorem Jk: ∀(l:List AV),(∀v∈l,AI.same v v=true)->AI.sameL l l=true
 |[],_=>by unfold AI.sameL;rfl
 |a::l,h=>by
  unfold AI.sameL
  rw[h a (Zt ..),Jk l λv hv=>h v (Zz _ hv)];rfl
theorem Nv(p q:List UInt8)(n:Nat)(t:T Obj):Ud (.val (.agg [.str p,.str q]) ⟨n,t,n⟩) (.agg [.str p,.str q]) n=true:=
 IS (Jk _ λv hv=>by
  rcases ZO.1 hv with rfl|hv
  ·exact MY p
  ·rw[Zq.1 hv];exact MY q) n t
structure QAI(Hs:Heap)(v:AV)(l:List NP)(m:Nat)(tm:TM)(H:Heap):Prop where
 h:H=Hs
 t0:Yb tm=v
 t4:Y4 tm=.nils
 i: ∃i,YW tm=nI .i64 i∧i+m=l.length
def QAQ(Hs:Heap)(v:AV)(o:Out)(tm:TM)(H:Heap):Prop:=o=.exit 0∧H=Hs∧Yb tm=v∧Y4 tm=.nils
theorem Zcb{rest:Nat}(hr:rest<=1000000):O5 rest≠0:=by
 obtain⟨_,h⟩:=zN hr
 have:=Pc (O5 rest)
 omega
theorem Zce(E:Env Zn fs fuel)(hk:2<=k){v:AV}{l:List NP}{Hs:Heap}(hN:Sl Hs 2 v (V8 l))(hm: ∀x∈l,QR x.1=true)(hal: ∀x∈l,x.1.length+x.2.length<=10000)(hl:l.length<=1000)(y f dd q)(X0:X)(m:Nat)(tm:TM)(H:Heap)(hI:QAI Hs v l m tm H):
  ∃o tm' H',DV ⟨ZE (LK Zn fs fuel k) fs fuel (n+1),y,f,dd,q⟩ tm H X0=.ok o tm' H' X0∧((o=.normal∧ ∃k,k<m∧QAI Hs v l k tm' H')∨(o≠.normal∧QAQ Hs v o tm' H')):=by
 obtain⟨rfl,t0,t4,i,t5,him⟩:=hI
 have t0':=t0;have Qk:=t4
 simp only[Sb,QP] at t0 t5
 have ln:=hN.len
 rw[XK] at ln
 cases m with
 |zero=>
  have d1:decide (i<l.length)=false:=Zb (by omega)
  simp only[t0,t5,ln,d1,Zy,Zy,DV,Zu,Ye,Z6]
  refine⟨_,_,_,rfl,?_⟩
  exact .inr ⟨by simp,rfl,rfl,t0',Qk⟩
 |succ m=>
  have d1:decide (i<l.length)=true:=Ze (by omega)
  have hi:i<l.length:=by omega
  obtain⟨bb,o,r,eI,hb,gb,eL,_⟩:=(show Sz H 2 v (V8 l) from .inr hN).at_ (i:=i) (by rw[XK];exact hi)
  rw[Sy hi] at eL
  have hmm:l.getD i ([],[])∈l:=by rw[Zf,Zl hi];exact Xd hi
  have e1:=λ{j}=>Zc0 E (k:=k) (n:=j) hk (a:=(l.getD i ([],[])).1) (b:=(l.getD i ([],[])).2) (H:=H) (hm _ hmm) (hal _ hmm)
  have hz:=Zcb (rest:=(l.getD i ([],[])).1.length+(l.getD i ([],[])).2.length+3) (by have:=hal _ hmm;omega)
  have d2:=Zb hz
  simp(disch:=omega) only[t0,t5,ln,d1,d2,eI,gb,eL,e1,Zy,YL,YI,Zy,DV,Zu,Ye,Z6]
  refine⟨_,_,_,rfl,?_⟩
  exact .inl ⟨rfl,m,by omega,rfl,t0',Qk,i+1,rfl,by omega⟩
structure QBI(Hs:Heap)(v:AV)(l:List NP)(m:Nat)(tm:TM)(H:Heap):Prop where
 k:Zs Hs H []
 t0:Yb tm=v
 i: ∃i w,XI tm=nI .i64 i∧i+m=l.length∧Y4 tm=w∧GB H w (Sv (l.take i)) Hs.nx
def QBQ(Hs:Heap)(l:List NP)(o:Out)(tm:TM)(H:Heap):Prop:=o=.exit 2∧Zs Hs H []∧ ∃w,Y4 tm=w∧GB H w (Sv l) Hs.nx
theorem Zcf(E:Env Zn fs fuel)(hk:2<=k){v:AV}{l:List NP}{Hs:Heap}(hro:Hs.ro<=Hs.nx)(hN:Sl Hs 2 v (V8 l))(hm: ∀x∈l,QR x.1=true)(hal: ∀x∈l,x.1.length+x.2.length<=10000)(hl:l.length<=1000)(y f dd q)(X0:X)(m:Nat)(tm:TM)(H:Heap)(hI:QBI Hs v l m tm H):
  ∃o tm' H',DW ⟨ZE (LK Zn fs fuel k) fs fuel (n+1),y,f,dd,q⟩ tm H X0=.ok o tm' H' X0∧((o=.normal∧ ∃k,k<m∧QBI Hs v l k tm' H')∨(o≠.normal∧QBQ Hs l o tm' H')):=by
 obtain⟨k0,t0,i,w,t6,him,t4,gbw⟩:=hI
 have t0':=t0;have Qk:=t4
 simp only[Sb,Tp,EU] at t0 t4 t6
 have hN0:=hN.keep0 k0
 have ln:=hN0.len
 rw[XK] at ln
 cases m with
 |zero=>
  have d1:decide (i<l.length)=false:=Zb (by omega)
  simp only[t0,t6,ln,d1,Zy,Zy,DW,Zu,Ye,Z6]
  rw[Z9 (by omega)] at gbw
  refine⟨_,_,_,rfl,?_⟩
  exact .inr ⟨by simp,rfl,k0,w,Qk,gbw⟩
 |succ m=>
  have d1:decide (i<l.length)=true:=Ze (by omega)
  have hi:i<l.length:=by omega
  obtain⟨bb,o,r,eI,hb,gb,eL,eE⟩:=(show Sz H 2 v (V8 l) from .inr hN0).at_ (i:=i) (by rw[XK];exact hi)
  rw[Sy hi] at eL eE
  have hmm:l.getD i ([],[])∈l:=by rw[Zf,Zl hi];exact Xd hi
  have hpl:=MR (l:=l.take i) λx hx=>hal x (X5 hx)
  rw[ZC] at hpl
  have hpl:(Sv (l.take i)).length<=1000*10023:=by
   omega
  have hpush:=zL hi
  have hx1:=hal _ hmm
  have hx2:=hm _ hmm
  generalize l.getD i ([],[])=a at*
  have hx0:=k0.nx
  have mH:H.ro<=H.nx:=by rw[k0.ro];omega
  have el0: ∀G,ld1 (some (.row r)) o G=.val (.str a.1) G:=λG=>eE 0 G (by decide)
  have el1: ∀G,ld1 (some (.row r)) (o+1) G=.val (.str a.2) G:=λG=>eE 1 G (by decide)
  have e1:=λ{j}=>Zc0 E (k:=k) (n:=j) hk (a:=a.1) (b:=a.2) (H:=H) hx2 hx1
  have hps:=Bq (rest:=a.1.length+a.2.length+3) (by omega)
  have hp1:=zK hx1
  have hpx:J4 a=dec (O5 (a.1.length+a.2.length+3))++[32]++a.1++[61]++a.2++[10]:=rfl
  generalize O5 (a.1.length+a.2.length+3)=z at*
  have hdl:=Rr z
  have hdn:=TX (n:=z) (k:=20) (by decide) (by omega)
  have iv:=λG:Heap=>Q9 (j:=.i64) (a:=z) (by omega) G
  have e2:=λ{j}=>digits E (k:=k) (n:=j) (by omega) (m:=z) (H:=H) (by omega)
  have a1:=λG:Heap=>VU (a:=dec z) (b:=[32]) (by show _+1<=_;omega) G
  have a2:=λG:Heap=>VU (a:=dec z++[32]) (b:=a.1) (by rw[Zj];show _+1+_<=_;omega) G
  have a3:=λG:Heap=>VU (a:=dec z++[32]++a.1) (b:=[61]) (by simp only[Zj];show _+1+_+1<=_;omega) G
  have a4:=λG:Heap=>VU (a:=dec z++[32]++a.1++[61]) (b:=a.2) (by simp only[Zj];show _+1+_+1+_<=_;omega) G
  have a5:=λG:Heap=>VU (a:=dec z++[32]++a.1++[61]++a.2) (b:=[10]) (by simp only[Zj];show _+1+_+1+_+1<=_;omega) G
  rw[<-hpx] at a5
  obtain⟨w2,H2,ea,ID,k2,bk2⟩:=yW gbw hx0 mH (J4 a) (by omega)
  have ln2:=ID.len
  have d2:decide (16777216<(Sv (l.take i)++J4 a).length)=false:=Zb (by rw[Zj];omega)
  have lwa:=λn (hn:H.nx<=n)=>gbw.low hn
  have lw0:=lwa H.nx (Zp _)
  have lv0:=hN0.low (n:=H.nx) (Zp _)
  simp(disch:=omega) only[t0,t4,t6,ln,d1,eI,gb,eL,el0,el1,e1,iv,e2,a1,a2,a3,a4,a5,ea,ln2,d2,lw0,lv0,Nv,Ya,Zy,Z3,YI,decide_true,decide_false,Zg,Zg,YD,Ya,ZD,ZM,Zy,Z3,Zg,YD,DW,Zu,Ye,Z8,Yp,Yv,Nat.reducePow,Nat.reduceDiv,Nat.reduceMod,reduceCtorEq,Z6,Vk]
  refine⟨_,_,_,rfl,.inl ⟨rfl,m,by omega,k0.trans k2 (λc hc hlt=>by have:=(gbw.blk c hc).1;omega),t0',i+1,w2,rfl,by omega,rfl,?_⟩⟩
  rw[hpush];exact ID
theorem iH(E:Env Zn fs fuel)(hk:2<=k){v:AV}{l:List NP}(hro:H.ro<=H.nx)(hN:Sl H 2 v (V8 l))(hm: ∀x∈l,QR x.1=true)(hal: ∀x∈l,x.1.length+x.2.length<=10000)(hl:l.length<=1000):
  ∃w H',ZE (LK Zn fs fuel k) fs fuel (n+2) 31 [v] H=.ret (.tup [w,nI .i64 0]) H'∧GB H' w (Sv l) H.nx∧Zs H H' []:=by
 rw[ZI (ZA E.n31 (.inr rfl) _ _) E.f31]
 have hf:=E.big
 simp only[c31,Zu,Z6]
 generalize hL:Wv (DV _) fuel _ _ _=L
 obtain⟨o,Pu,H1,rfl,_,rfl,rfl,t0,t4⟩:=YA (P:=λT=>QAI H v l l.length T H) (Q:=QAQ H v)
  (λT hi=>YP (QAI H v l) (QAQ H v) (λm tm H2 h=>Zce E (n:=n) hk hN hm hal hl _ _ _ _ _ m tm H2 h) fuel l.length T H (by omega) hi) hL
  (by exact⟨rfl,rfl,rfl,0,rfl,by omega⟩)
 have t0':=t0;have Qk:=t4
 simp only[Tp] at t4
 simp only[Zu,Z6]
 generalize hL2:Wv (DW _) fuel _ _ _=L
 obtain⟨o,tm2,H2,rfl,_,rfl,k2,w,t4,gb⟩:=YA (P:=λT=>QBI H1 v l l.length T H1) (Q:=QBQ H1 l)
  (λT hi=>YP (QBI H1 v l) (QBQ H1 l) (λm tm H2 h=>Zcf E (n:=n) hk hro hN hm hal hl _ _ _ _ _ m tm H2 h) fuel l.length T H1 (by omega) hi) hL2
  (by exact⟨Zs.refl _ _,t0',0,.nils,rfl,by omega,Qk,by rw[YN];exact .inl ⟨rfl,rfl⟩⟩)
 simp only[Tp] at t4
 simp only[t4,Zu,Ye,Zw,Z6,Vk]
 refine⟨_,_,rfl,?_⟩
 exact⟨gb,k2⟩
structure HX(H:Heap)(b:Nat)(l:List UInt8):Prop where
 row: ∃r,H.t.get b=some (.row r)∧Cells r (l.map Vd)∧r.own=true∧r.fz=0∧r.sz=1∧r.exact=true
 len:l.length=512
 lt:b<H.nx
 ro:H.ro<=b
theorem HX.keep{H H':Heap}{l:List UInt8}{S:List Nat}(h:HX H b l)(k:Zs H H' S)(hS:b∉S):HX H' b l:=by
 obtain⟨⟨r,h1,h2⟩,h3,h4,h5⟩:=h
 exact⟨⟨r,by rw[k.get b h4 hS];exact h1,h2⟩,h3,ZT h4 k.nx,by rw[k.ro];exact h5⟩
theorem HX.keep0{H H':Heap}{l:List UInt8}(h:HX H b l)(k:Zs H H' []):HX H' b l:=h.keep k (by simp)
theorem HX.bv{l:List UInt8}(h:HX H b l):BV H (.slice b 0 512 none) l:=by
 obtain⟨⟨r,g,hc,_,_,hz,_⟩,hl,hb,_⟩:=h
 have:=tX (c:=none) (a:=0) (n:=512) g hc hz hb (by decide) (by omega) (λk hk=>by cases hk)
 rwa [Yk,Z9 (by omega)] at this
theorem qx{l:List UInt8}{j:Nat}{x:UInt8}(h:j<l.length):(l.set j x).getD i 0=if i=j then x else l.getD i 0:=by
 rw[Zf,Rp]
 by_cases e:i=j
 ·subst e;rw[if_pos rfl,if_pos rfl,if_pos h];rfl
 ·rw[if_neg e,if_neg (λh=>e h.symm),Zf]
theorem HX.set{j:Nat}{l:List UInt8}(h:HX H b l)(hj:j<512)(x:UInt8): ∃r,H.t.get b=some (.row r)∧tp 1 (some (.row r)) b j (nI .u8 x.toNat) H=.val Xz (H.put b (.row (r.st j (Vd x))))∧HX (H.put b (.row (r.st j (Vd x)))) b (l.set j x)∧ ∀G,ld1 (some (.row r)) j G=.val (nI .u8 (l.getD j 0).toNat) G:=by
 obtain⟨⟨r,g,hc,how,hfz,hz,hex⟩,hl,hb,hro⟩:=h
 have hs:r.size=512:=by rw[hc.size,Zx,hl]
 refine⟨r,g,To (v:=Vd x) rfl (by omega) how hro (by omega),⟨⟨r.st j (Vd x),Xw _ _ _,?_,how,hfz,hz,hex⟩,by rw[Wg,hl],hb,hro⟩,λG=>?_⟩
 ·refine⟨by rw[Zx,Wg,hl];exact hs,λi hi=>?_⟩
  rw[Zx,Wg] at hi
  rw[Row.st_get,IU (by rw[Wg];exact hi),qx (by omega)]
  by_cases e:i=j
  ·subst e;rw[if_pos rfl,if_pos rfl]
  ·rw[if_neg e,if_neg (λh=>e (by omega))]
   rw[hc.get i (by rw[Zx];exact hi),IU hi]
 ·rw[O1 (by omega),hc.get j (by rw[Zx];omega),IU (by omega)];rfl
theorem kW{l:List UInt8}{a:Nat}(hi:i<s.length)(ha:a+s.length<=l.length):Xp l a (s.take (i+1))=(Xp l a (s.take i)).set (a+i) (s.getD i 0):=by
 have t1:(s.take (i+1)).length=i+1:=by rw[ZC];omega
 have t2:(s.take i).length=i:=by rw[ZC];omega
 have l2:=Rh (l:=l) (w:=s.take i) (a:=a) (by omega)
 refine Zap (by rw[Rh (by omega),Wg,l2]) λj hj=>?_
 rw[O7 (by omega),qx (by omega),O7 (by omega),t1,t2]
 by_cases e:j=a+i
 ·rw[if_pos e,if_pos (by omega),GZ (by omega)];congr 1;omega
 ·rw[if_neg e]
  by_cases c:a<=j∧j<a+i
  ·rw[if_pos (by omega),if_pos c,GZ (by omega),GZ (by omega)]
  ·rw[if_neg (by omega),if_neg c]
theorem F3{l w:List UInt8}{a m:Nat}{x:UInt8}(ha:a+(m+1)+w.length<=l.length):Xp l (a+m) (x::w)=(Xp l (a+(m+1)) w).set (a+m) x:=by
 have l2:=Rh (l:=l) (w:=w) (a:=a+(m+1)) (by omega)
 have hl:(x::w).length=w.length+1:=rfl
 refine Zap (by rw[Rh (by omega),Wg,l2]) λj hj=>?_
 rw[O7 (by omega),qx (by omega),O7 (by omega),hl]
 by_cases e:j=a+m
 ·rw[if_pos e,if_pos (by omega),show j - (a+m)=0 by omega];rfl
 ·rw[if_neg e]
  by_cases c:a+(m+1)<=j∧j<a+(m+1)+w.length
  ·rw[if_pos (by omega),if_pos c]
   obtain⟨p,hp⟩: ∃p,j - (a+m)=p+1:=⟨j - (a+m) - 1,by omega⟩
   rw[hp,show j - (a+(m+1))=p by omega];rfl
  ·rw[if_neg (by omega),if_neg c]
structure LYI(Hs:Heap)(b:Nat)(l:List UInt8)(a:Nat)(s:List UInt8)(m:Nat)(tm:TM)(H:Heap):Prop where
 k:Zs Hs H [b]
 t0:Yb tm=.slice b 0 512 none
 t1:Wc tm=nI .i64 a
 t2:VX tm=.str s
 i: ∃i,XI tm=nI .i64 i∧i+m=s.length∧HX H b (Xp l a (s.take i))
def LYQ(Hs:Heap)(b:Nat)(l:List UInt8)(a:Nat)(s:List UInt8)(o:Out)(tm:TM)(H:Heap):Prop:=o=.exit 0∧Zs Hs H [b]∧HX H b (Xp l a s)
theorem Zbq{Hs:Heap}{a:Nat}{l:List UInt8}(hl:l.length=512)(ha:a+s.length<=512)(cx:Ctx)(X0:X)(m:Nat)(tm:TM)(H:Heap)(hI:LYI Hs b l a s m tm H):
  ∃o tm' H',DQ cx tm H X0=.ok o tm' H' X0∧((o=.normal∧ ∃k,k<m∧LYI Hs b l a s k tm' H')∨(o≠.normal∧LYQ Hs b l a s o tm' H')):=by
 obtain⟨k0,t0,t1,t2,i,t6,him,hx⟩:=hI
 have t0':=t0;have t1':=t1;have t2':=t2
 simp only[Sb,Kn,IN,EU] at t0 t1 t2 t6
 cases m with
 |zero=>
  have d1:decide (i<s.length)=false:=Zb (by omega)
  simp only[t2,t6,d1,Zy,ZG,Zy,DQ,Zu,Ye,Z6]
  rw[Z9 (by omega)] at hx
  refine⟨_,_,_,rfl,?_⟩
  exact .inr ⟨by simp,rfl,k0,hx⟩
 |succ m=>
  have hi:i<s.length:=by omega
  have d1:decide (i<s.length)=true:=Ze hi
  have hp:=kW (l:=l) (s:=s) (a:=a) hi (by omega)
  generalize hc:s.getD i 0=x at*
  obtain⟨r,g,st,hx',_⟩:=hx.set (j:=a+i) (by omega) x
  have ad: ∀G,Ty (nI .i64 a) (nI .i64 i) G=.val (nI .i64 (a+i)) G:=λG=>YI (by omega) G
  simp(disch:=omega) only[t0,t1,t2,t6,d1,hc,g,st,ad,XD,Zy,YI,ZG,Zd,Xb,Zd,Zy,Zd,Xb,DQ,Zu,Ye,Z6]
  refine⟨_,_,_,rfl,?_⟩
  exact .inl ⟨rfl,m,by omega,k0.then_put (λ_=>by simp),t0',t1',t2',i+1,rfl,by omega,by rw[hp];exact hx'⟩
theorem Ln(E:Env Zn fs fuel){a:Nat}{l:List UInt8}(g:HX H b l)(ha:a+s.length<=512):
  ∃H',ZE (LK Zn fs fuel k) fs fuel (n+1) 26 [.slice b 0 512 none,nI .i64 a,.str s] H=.ret (.tup []) H'∧Zs H H' [b]∧HX H' b (Xp l a s):=by
 rw[ZI (ZA E.n26 (.inr rfl) _ _) E.f26]
 have hf:=E.big
 have hl:=g.len
 simp only[c26,Zu,Z6]
 generalize hL:Wv (DQ _) fuel _ _ _=L
 obtain⟨o,Pu,H1,rfl,_,rfl,k1,hx⟩:=YA (P:=λT=>LYI H b l a s s.length T H) (Q:=LYQ H b l a s)
  (λT hi=>YP (LYI H b l a s) (LYQ H b l a s) (λm tm H2 h=>Zbq hl ha _ _ m tm H2 h) fuel s.length T H (by omega) hi) hL
  (by exact⟨Zs.refl _ _,rfl,rfl,rfl,0,rfl,by omega,by rw[YN,MZ];exact g⟩)
 simp only[Zu,Zw,]
 refine⟨_,rfl,?_⟩
 exact⟨k1,hx⟩
structure OCI(Hs:Heap)(b:Nat)(l:List UInt8)(a d n0:Nat)(m:Nat)(tm:TM)(H:Heap):Prop where
 k:Zs Hs H [b]
 t0:Yb tm=.slice b 0 512 none
 t1:Wc tm=nI .i64 a
 t8:Wi tm=mI m
 i: ∃u w,W8 tm=nI .i64 u∧u<9223372036854775808∧w.length+m=d∧W7 d n0=W7 m u++w∧HX H b (Xp l (a+m) w)
def OCQ(Hs:Heap)(b:Nat)(l:List UInt8)(a d n0:Nat)(o:Out)(tm:TM)(H:Heap):Prop:=o=.exit 0∧Zs Hs H [b]∧HX H b (Xp l a (W7 d n0))
theorem ZbK{Hs:Heap}{a d n0:Nat}{l:List UInt8}(hl:l.length=512)(ha:a+d<=512)(cx:Ctx)(X0:X)(m:Nat)(tm:TM)(H:Heap)(hI:OCI Hs b l a d n0 m tm H):
  ∃o tm' H',DT cx tm H X0=.ok o tm' H' X0∧((o=.normal∧ ∃k,k<m∧OCI Hs b l a d n0 k tm' H')∨(o≠.normal∧OCQ Hs b l a d n0 o tm' H')):=by
 obtain⟨k0,t0,t1,t8,u,w,t3,hu,hw,ho,hx⟩:=hI
 have t0':=t0;have t1':=t1
 simp only[Sb,Kn,Px,sW] at t0 t1 t3 t8
 cases m with
 |zero=>
  have c0: ∀G,Tf Sc W5 (mI 0) (nI .i64 0) G=.val (.bool false) G:=λ_=>rfl
  simp only[t8,c0,DT,Zu,Ye,Z6]
  rw[show w=W7 d n0 by rw[ho];rfl] at hx
  refine⟨_,_,_,rfl,?_⟩
  exact .inr ⟨by simp,rfl,k0,hx⟩
 |succ m=>
  have c0: ∀G,Tf Sc W5 (mI (m+1)) (nI .i64 0) G=.val (.bool true) G:=λG=>by rw[CU,Ze (So _)]
  have ad: ∀G,Ty (nI .i64 a) (mI (m+1)) G=.val (nI .i64 (a+m)) G:=λG=>YI (by omega) G
  have sb: ∀G,M6 (mI (m+1)) (nI .i64 1) G=.val (mI m) G:=λG=>by
   cases m with
   |zero=>rfl
   |succ m=>exact XL (a:=m+1) (b:=1) (by omega) (by omega) G
  have e1:=λG:Heap=>qo (a:=u) (b:=8) (by decide) G
  have e2:=λG:Heap=>YI (a:=48) (b:=u % 8) (by omega) G
  have e3:=λG:Heap=>iE (d:=u % 8) (by omega) (k:=.i64) G
  have e4:=λG:Heap=>Zgf (a:=u) (b:=8) (by decide) (by omega) G
  obtain⟨r,g,st,hx',_⟩:=hx.set (j:=a+m) (by omega) (OE (u % 8))
  simp(disch:=omega) only[t0,t1,t3,t8,c0,ad,sb,e1,e2,e3,e4,g,st,Zd,Xb,Zd,Zd,Xb,DT,Zu,Ye,Z6]
  refine⟨_,_,_,rfl,.inl ⟨rfl,m,by omega,k0.then_put (λ_=>by simp),t0',t1',rfl,u/8,OE (u % 8)::w,rfl,by omega,by rw[ZS];omega,?_,?_⟩⟩
  ·rw[ho]
   show W7 m (u/8)++[OE (u % 8)]++w=_
   rw[Xj];rfl
  ·rw[F3 (by omega)];exact hx'
theorem PV(E:Env Zn fs fuel){a d u:Nat}{l:List UInt8}(g:HX H b l)(hd:1<=d)(ha:a+d<=512)(hu:u<9223372036854775808):
  ∃H',ZE (LK Zn fs fuel k) fs fuel (n+1) 28 [.slice b 0 512 none,nI .i64 a,nI .i64 d,nI .i64 u] H=.ret (.tup []) H'∧Zs H H' [b]∧HX H' b (Xp l a (W7 d u)):=by
 rw[ZI (ZA E.n28 (.inr rfl) _ _) E.f28]
 have hf:=E.big
 have hl:=g.len
 have sb: ∀G,M6 (nI .i64 d) (nI .i64 1) G=.val (mI d) G:=λG=>by
  obtain⟨d',rfl⟩: ∃d',d=d'+1:=⟨d - 1,by omega⟩
  exact XL (a:=d'+1) (b:=1) (by omega) (by omega) G
 simp only[sb,c28,Zu,Ye,Z6]
 generalize hL:Wv (DT _) fuel _ _ _=L
 obtain⟨o,Pu,H1,rfl,_,rfl,k1,hx⟩:=YA (P:=λT=>OCI H b l a d u d T H) (Q:=OCQ H b l a d u)
  (λT hi=>YP (OCI H b l a d u) (OCQ H b l a d u) (λm tm H2 h=>ZbK hl ha _ _ m tm H2 h) fuel d T H (by omega) hi) hL
  (by exact⟨Zs.refl _ _,rfl,rfl,rfl,u,[],rfl,hu,by rw[SD];omega,by rw[Yd],by rw[MZ];exact g⟩)
 simp only[Zu,Zw,]
 refine⟨_,rfl,?_⟩
 exact⟨k1,hx⟩
structure SUI(Hs:Heap)(b:Nat)(l:List UInt8)(m:Nat)(tm:TM)(H:Heap):Prop where
 h:H=Hs
 t0:Yb tm=.slice b 0 512 none
 i: ∃i,Y4 tm=nI .i64 i∧i+m=512∧W8 tm=nI .i64 (My (l.take i))
def SUQ(Hs:Heap)(b:Nat)(l:List UInt8)(o:Out)(tm:TM)(H:Heap):Prop:=o=.exit 0∧H=Hs∧Yb tm=.slice b 0 512 none∧W8 tm=nI .i64 (My l)
theorem Zcz{l:List UInt8}{Hs:Heap}(hx:HX Hs b l)(cx:Ctx)(X0:X)(m:Nat)(tm:TM)(H:Heap)(hI:SUI Hs b l m tm H):
  ∃o tm' H',DU cx tm H X0=.ok o tm' H' X0∧((o=.normal∧ ∃k,k<m∧SUI Hs b l k tm' H')∨(o≠.normal∧SUQ Hs b l o tm' H')):=by
 obtain⟨rfl,t0,i,t4,him,t3⟩:=hI
 have t0':=t0;have GY:=t3
 simp only[Sb,Px,Tp] at t0 t3 t4
 have hl:=hx.len
 cases m with
 |zero=>
  have d1:decide (i<512)=false:=Zb (by omega)
  rw[Z9 (by omega)] at GY
  simp only[t0,t4,d1,Zy,Zy,DU,Zu,Ye,Z6]
  refine⟨_,_,_,rfl,?_⟩
  exact .inr ⟨by simp,rfl,rfl,t0',GY⟩
 |succ m=>
  have d1:decide (i<512)=true:=Ze (by omega)
  obtain⟨r,g,_,_,ld⟩:=hx.set (j:=i) (by omega) 0
  have hs:=Dp (l.take i)
  rw[ZC] at hs
  have hu:=(l.getD i 0).toNat_lt
  have iv:=λG:Heap=>UB (j:=.u8) (a:=(l.getD i 0).toNat) (by omega) G
  have ad: ∀G,Ty (nI .i64 (My (l.take i))) (nI .i64 (l.getD i 0).toNat) G=.val (nI .i64 (My (l.take i)+(l.getD i 0).toNat)) G:=λG=>YI (by omega) G
  rw[<-yr (by omega)] at ad
  have ad2: ∀G,Ty (nI .i64 i) (nI .i64 1) G=.val (nI .i64 (i+1)) G:=λG=>YI (by omega) G
  simp(disch:=omega) only[t0,t3,t4,d1,g,ld,iv,ad,ad2,Zy,Zd,Xb,Zd,Zy,Zd,Xb,DU,Zu,Ye,Z6]
  refine⟨_,_,_,rfl,?_⟩
  exact .inl ⟨rfl,m,by omega,rfl,t0',i+1,rfl,by omega,rfl⟩
theorem AR(E:Env Zn fs fuel){l:List UInt8}(g:HX H b l):
  ∃H',ZE (LK Zn fs fuel k) fs fuel (n+2) 30 [.slice b 0 512 none] H=.ret (.slice b 0 512 none) H'∧Zs H H' [b]∧HX H' b (RL l):=by
 rw[ZI (ZA E.n30 (.inr rfl) _ _) E.f30]
 have hf:=E.big
 obtain⟨H1,e1,k1,g1⟩:=Ln E (k:=k) (n:=n) (a:=148) (s:=[32,32,32,32,32,32,32,32]) g (by decide)
 simp only[e1,c30,Zu,Ye,Z6]
 generalize hL:Wv (DU _) fuel _ _ _=L
 obtain⟨o,Pu,H2,rfl,_,rfl,h2,t0,t3⟩:=YA (P:=λT=>SUI H1 b (Xp l 148 [32,32,32,32,32,32,32,32]) 512 T H1) (Q:=SUQ H1 b (Xp l 148 [32,32,32,32,32,32,32,32]))
  (λT hi=>YP (SUI H1 b (Xp l 148 [32,32,32,32,32,32,32,32])) (SUQ H1 b (Xp l 148 [32,32,32,32,32,32,32,32])) (λm tm H2 h=>Zcz g1 _ _ m tm H2 h) fuel 512 T H1 (by omega) hi) hL
  (by exact⟨rfl,rfl,0,rfl,rfl,rfl⟩)
 subst h2
 simp only[Sb,Px] at t0 t3
 have hs:=Dp (Xp l 148 [32,32,32,32,32,32,32,32])
 rw[g1.len] at hs
 obtain⟨H3,e3,k3,g3⟩:=PV E (k:=k) (n:=n) (a:=148) (d:=6) (u:=My (Xp l 148 [32,32,32,32,32,32,32,32])) g1 (by decide) (by decide) (by omega)
 obtain⟨r,gr,st,g4,_⟩:=g3.set (j:=154) (by decide) 0
 have st:tp 1 (some (.row r)) b 154 (nI .u8 0) H3=.val Xz (H3.put b (.row (r.st 154 (Vd 0)))):=st
 simp(disch:=omega) only[t0,t3,e3,gr,st,Zd,Xb,Zd,Zd,Xb,Zu,Ye,Zw,Z6]
 refine⟨_,rfl,?_⟩
 refine⟨((k1.trans k3 λc hc _=>hc).then_put λ_=>by simp),?_⟩
 have:(Xp (Xp l 148 [32,32,32,32,32,32,32,32]) 148 (W7 6 (My (Xp l 148 [32,32,32,32,32,32,32,32])))).set 154 0=RL l:=by
  have:=F3 (l:=Xp (Xp l 148 [32,32,32,32,32,32,32,32]) 148 (W7 6 (My (Xp l 148 [32,32,32,32,32,32,32,32])))) (w:=[]) (a:=154) (m:=0) (x:=0) (by rw[g3.len];decide)
  rw[MZ] at this
  exact this.symm
 rw[<-this];exact g4
def Q3(s:List UInt8):List UInt8×List UInt8×Bool:=if s.length<=100 then([],s,true) else SS s (s.length - 2)
structure PRI(Hs:Heap)(s:List UInt8)(m:Nat)(tm:TM)(H:Heap):Prop where
 h:H=Hs
 t0:Yb tm=.str s
 t5:YW tm=nI .i64 m
 lt:m+1<s.length
 e:SS s (s.length - 2)=SS s m
def PRQ(Hs:Heap)(s:List UInt8)(o:Out)(tm:TM)(H:Heap):Prop:=H=Hs∧((o=.ret∧VX tm=.str (SS s (s.length - 2)).1∧W8 tm=.str (SS s (s.length - 2)).2.1∧Y4 tm=.bool (SS s (s.length - 2)).2.2)∨(o=.exit 0∧SS s (s.length - 2)=([],[112,97,120],false)))
theorem Zb9(hs:s.length<=90000){Hs:Heap}(cx:Ctx)(X0:X)(m:Nat)(tm:TM)(H:Heap)(hI:PRI Hs s m tm H):
  ∃o tm' H',L7 cx tm H X0=.ok o tm' H' X0∧((o=.normal∧ ∃k,k<m∧PRI Hs s k tm' H')∨(o≠.normal∧PRQ Hs s o tm' H')):=by
 obtain⟨rfl,t0,t5,hlt,he⟩:=hI
 have t0':=t0
 simp only[Sb,QP] at t0 t5
 cases m with
 |zero=>
  have d1:decide (0<0)=false:=rfl
  simp only[t5,Z3,U5,decide_false,Z3,L7,Zu,Ye,Z6]
  refine⟨_,_,_,rfl,?_⟩
  exact .inr ⟨by simp,rfl,.inr ⟨rfl,he⟩⟩
 |succ m=>
  obtain⟨K,hK⟩:=Sa (m+1)
  rw[hK] at t5 hlt he
  have d1:decide (0<K)=true:=Ze (by omega)
  have s1: ∀G,M6 (nI .i64 s.length) (nI .i64 (K)) G=.val (nI .i64 (s.length - (K))) G:=λG=>XL (by omega) (by omega) G
  have s2: ∀G,M6 (nI .i64 (s.length - (K))) (nI .i64 1) G=.val (nI .i64 (s.length - (K) - 1)) G:=λG=>XL (by omega) (by omega) G
  have s3: ∀G,M6 (nI .i64 K) (nI .i64 1) G=.val (nI .i64 m) G:=λG=>by rw[XL (by omega) (by omega),<-hK];rfl
  have ad: ∀G,Ty (nI .i64 (K)) (nI .i64 1) G=.val (nI .i64 (K+1)) G:=λG=>YI (by omega) G
  have e0:SS s (K)=if (s.getD (K) 0).toNat=47∧K<=155∧s.length - (K) - 1<=100 then(s.take (K),s.drop (K+1),true) else SS s m:=by rw[<-hK];rfl
  have go: ¬((s.getD (K) 0).toNat=47∧K<=155∧s.length - (K) - 1<=100)->SS s (s.length - 2)=SS s m:=λh=>by rw[he,e0,if_neg h]
  by_cases h1:(s.getD (K) 0).toNat=47
  ·have d2:decide ((s.getD (K) 0).toNat=47)=true:=Ze h1
   by_cases h2:K<=155
   ·have d3:decide (K<=155)=true:=Ze h2
    by_cases h3:s.length - (K) - 1<=100
    ·have d4:decide (s.length - (K) - 1<=100)=true:=Ze h3
     have e1:SS s (s.length - 2)=(s.take (K),s.drop (K+1),true):=by rw[he,e0,if_pos ⟨h1,h2,h3⟩]
     simp(disch:=omega) only[t0,t5,d1,d2,d3,d4,s1,s2,ad,XD,Yt,Z3,YL,ZG,Ur,Us,ZD,ZM,Z3,Yt,L7,Zu,Ye,Z8,Yp,Z6,Vk]
     refine⟨_,_,_,rfl,?_⟩
     exact .inr ⟨by simp,rfl,.inl ⟨rfl,by rw[e1];rfl,by rw[e1];rfl,by rw[e1];rfl⟩⟩
    ·have d4:decide (s.length - (K) - 1<=100)=false:=Zb h3
     simp(disch:=omega) only[t0,t5,d1,d2,d3,d4,s1,s2,s3,XD,Yt,Z3,YL,ZG,Z3,Yt,L7,Zu,Ye,Z6,Vk]
     refine⟨_,_,_,rfl,?_⟩
     exact .inl ⟨rfl,m,by omega,rfl,t0',rfl,by omega,go λh=>h3 h.2.2⟩
   ·have d3:decide (K<=155)=false:=Zb h2
    simp(disch:=omega) only[t0,t5,d1,d2,d3,s3,XD,Yt,Z3,YL,Z3,Yt,L7,Zu,Ye,Z6,Vk]
    refine⟨_,_,_,rfl,?_⟩
    exact .inl ⟨rfl,m,by omega,rfl,t0',rfl,by omega,go λh=>h2 h.2.1⟩
  ·have d2:decide ((s.getD (K) 0).toNat=47)=false:=Zb h1
   simp(disch:=omega) only[t0,t5,d1,d2,s3,XD,Z3,YL,Z3,L7,Zu,Ye,Z6,Vk]
   refine⟨_,_,_,rfl,?_⟩
   exact .inl ⟨rfl,m,by omega,rfl,t0',rfl,by omega,go λh=>h1 h.1⟩
theorem nN(E:Env Zn fs fuel)(hs:s.length<=90000):
  ∃H',ZE (LK Zn fs fuel 0) fs fuel (n+2) 27 [.str s] H=.ret (.tup [.str (Q3 s).1,.str (Q3 s).2.1,.bool (Q3 s).2.2]) H'∧Zs H H' []:=by
 rw[ZI (ZA E.n27 (.inl (by decide)) _ _) E.f27]
 have hf:=E.big
 by_cases h1:s.length<=100
 ·have d1:decide (s.length<=100)=true:=Ze h1
  rw[show Q3 s=([],s,true) by unfold Q3;rw[if_pos h1]]
  simp only[d1,Yt,ZG,Yt,c27,Zu,Ye,Zw,Z6]
  refine⟨_,rfl,?_⟩
  exact Zs.refl _ _
 have d1:decide (s.length<=100)=false:=Zb h1
 rw[show Q3 s=SS s (s.length - 2) by unfold Q3;rw[if_neg h1]]
 have sb: ∀G,M6 (nI .i64 s.length) (nI .i64 2) G=.val (nI .i64 (s.length - 2)) G:=λG=>XL (by omega) (by omega) G
 simp only[d1,sb,Yt,ZG,Yt,c27,Zu,Ye,Z6]
 generalize hL:Wv (L7 _) fuel _ _ _=L
 obtain⟨o,Pu,H1,rfl,_,rfl,z⟩:=YA (P:=λT=>PRI H s (s.length - 2) T H) (Q:=PRQ H s)
  (λT hi=>YP (PRI H s) (PRQ H s) (λm tm H1 h=>Zb9 hs _ _ m tm H1 h) fuel (s.length - 2) T H (by omega) hi) hL
  (by exact⟨rfl,rfl,rfl,by omega,rfl⟩)
 rcases z with⟨rfl,t2,t3,t4⟩|⟨rfl,e⟩
 ·simp only[IN,Px,Tp] at t2 t3 t4
  simp only[t2,t3,t4,Zu,Zw,Z6]
  refine⟨_,rfl,?_⟩
  exact Zs.refl _ _
 ·rw[e]
  simp only[Zu,Ye,Zw,Z6]
  refine⟨_,rfl,?_⟩
  exact Zs.refl _ _
theorem Zhd(E:Env Zn fs fuel)(hk:1<=k)(hs:s.length<=90000):
  ZE (LK Zn fs fuel k) fs fuel (n+1) 27 [.str s] H=.ret (.tup [.str (Q3 s).1,.str (Q3 s).2.1,.bool (Q3 s).2.2]) H:=by
 obtain⟨H',e,g⟩:=nN E (n:=898) (H:=H) hs
 exact Yl (r:=0) rfl rfl e g (rfl) hk
structure FLI(Hs:Heap)(v:AV)(l:List UInt8)(lo:Nat)(m:Nat)(tm:TM)(H:Heap):Prop where
 k:Zs Hs H (XP v)
 i: ∃i w,i+m=VJ l.length∧Yb tm=w∧GB H w (l++List.replicate i 0) lo∧ ∀b∈XP w,b∈XP v∨Hs.nx<=b
def FLQ(Hs:Heap)(v:AV)(l:List UInt8)(lo:Nat)(o:Out)(tm:TM)(H:Heap):Prop:=o=.exit 0∧Zs Hs H (XP v)∧ ∃w,Yb tm=w∧GB H w (l++List.replicate (VJ l.length) 0) lo∧ ∀b∈XP w,b∈XP v∨Hs.nx<=b
theorem hJ{Hs:Heap}{v:AV}{l:List UInt8}{lo:Nat}(hlo:lo<=Hs.nx)(hro:Hs.ro<=Hs.nx)(hl:l.length<=1000000000)(cx:Ctx)(X0:X)(m:Nat)(tm:TM)(H:Heap)(hI:FLI Hs v l lo m tm H):
  ∃o tm' H',DN cx tm H X0=.ok o tm' H' X0∧((o=.normal∧ ∃k,k<m∧FLI Hs v l lo k tm' H')∨(o≠.normal∧FLQ Hs v l lo o tm' H')):=by
 obtain⟨k0,i,w,him,t0,gb,hb⟩:=hI
 have t0':=t0
 simp only[Sb] at t0
 have hx0:=k0.nx
 have hpz:VJ l.length<512:=WF _ (by decide)
 have hll:(l++List.replicate i (0:UInt8)).length=l.length+i:=by rw[Zj,ZH]
 have ln:=gb.len
 rw[hll] at ln
 have e1:=λG:Heap=>qo (a:=l.length+i) (b:=512) (by decide) G
 cases m with
 |zero=>
  have d2:decide (¬(l.length+i) % 512=0)=false:=Zb (by unfold VJ at him;omega)
  simp only[t0,ln,e1,d2,Vi,DN,Zu,Ye,Z6]
  rw[show i=VJ l.length by omega] at gb
  refine⟨_,_,_,rfl,?_⟩
  exact .inr ⟨by simp,rfl,k0,w,t0',gb,hb⟩
 |succ m=>
  have d2:decide (¬(l.length+i) % 512=0)=true:=Ze (by unfold VJ at him;omega)
  obtain⟨H1,hH1⟩:=Sa (H.new (rH 5 [nI .u8 0]))
  have k1:Zs H H1 []:=by rw[<-hH1];exact Zs.new _ _ _
  have IY:H1.nx=H.nx+1:=by rw[<-hH1];rfl
  have q1:H1.t.get H.nx=some (rH 5 [nI .u8 0]):=by rw[<-hH1];exact ZW rfl _
  have bv:=Ee (H:=H1) (b:=H.nx) (a:=0) (n:=1) (c:=none) (l:=[0]) q1 (by omega) (by decide) (by decide) (λk h=>by cases h)
  have MX:H1.ro<=H1.nx:=by rw[k1.ro,k0.ro];omega
  obtain⟨w2,H2,ea,ID,k2,bk2⟩:=Kd (gb.keep k1 (λ_ _=>by simp)) bv (by omega) MX (by rw[hll];show _+1<=_;omega)
  have bs:UU 5 1 1 [nI .u8 0] [(0,1,nI .u8 0)] H=.val (.slice H.nx 0 1 none) H1:=by rw[tW,hH1]
  simp only[t0,ln,e1,d2,bs,ea,Ys,Ya,ZD,ZM,Vi,Ys,Ya,ZD,ZM,DN,Zu,Ye,Z6]
  refine⟨_,_,_,rfl,.inl ⟨rfl,m,by omega,(k0.trans k1 λc hc _=>by cases hc).trans k2 (λc hc hlt=>?_),i+1,w2,by omega,rfl,?_,λb h=>?_⟩⟩
  ·rcases hb c hc with h|h
   ·exact h
   ·omega
  ·rw[List.replicate_succ',<-Xj];exact ID
  ·rcases bk2 b h with h|h
   ·exact hb b h
   ·exact .inr (by omega)
theorem wW(E:Env Zn fs fuel){v:AV}{l:List UInt8}{lo:Nat}(g:GB H v l lo)(hlo:lo<=H.nx)(hro:H.ro<=H.nx)(hl:l.length<=1000000000):
  ∃w H',ZE (LK Zn fs fuel k) fs fuel (n+1) 18 [v] H=.ret w H'∧GB H' w (l++List.replicate (VJ l.length) 0) lo∧Zs H H' (XP v)∧ ∀b∈XP w,b∈XP v∨H.nx<=b:=by
 rw[ZI (ZA E.n18 (.inr rfl) _ _) E.f18]
 have hf:=E.big
 have hpz:VJ l.length<512:=WF _ (by decide)
 simp only[c18,Zu,Z6]
 generalize hL:Wv (DN _) fuel _ _ _=L
 obtain⟨o,Pu,H1,rfl,_,rfl,k1,w,t0,gb,hb⟩:=YA (P:=λT=>FLI H v l lo (VJ l.length) T H) (Q:=FLQ H v l lo)
  (λT hi=>YP (FLI H v l lo) (FLQ H v l lo) (λm tm H2 h=>hJ hlo hro hl _ _ m tm H2 h) fuel (VJ l.length) T H (by omega) hi) hL
  (by exact⟨Zs.refl _ _,0,v,by omega,rfl,by rw[List.replicate_zero,Yd];exact g,λb h=>.inl h⟩)
 simp only[Sb] at t0
 simp only[t0,Zu,Ye,Zw,Z6]
 refine⟨_,_,rfl,?_⟩
 exact⟨gb,k1,hb⟩
theorem Zfs{lo:Nat}{l m:List UInt8}{v:AV}(g:HX H b l)(hv:BV H v m)(h0:0<m.length)(hm:m.length<=1000000000)(hlo:lo<=H.nx)(hro:H.ro<=H.nx):
  ∃w H',UT 5 1 1 (.slice b 0 512 none) v H=.val w H'∧GB H' w (l++m) lo∧Zs H H' []∧ ∀c∈XP w,H.nx<=c:=by
 obtain⟨⟨r,h1,hc,h2,h3,h4,h5⟩,hl,h7,h8⟩:=g
 have hs:r.size=512:=by rw[hc.size,Zx,hl]
 have hrow: ∀k:Row->OR,Xg H b k=k r:=λk=>by unfold Xg;rw[h1]
 have hcap:Te r 0 none=512:=by
  show cond (Nat.beq r.sz 1) (r.size - 0) (Nat.div (r.size - 0) r.sz)=_
  rw[h4,hs];rfl
 have hsz:GX r 1 none=true:=by show Nat.beq r.sz 1=true;rw[h4];rfl
 have hld:Vf r 0 512=l.map Vd:=by
  rw[hc.load (o:=0) (n:=512) (by rw[Zx];omega),Yk,Z9 (by rw[Zx];omega)]
 have hnb:Nat.ble (512+m.length) 512=false:=by
  cases h:Nat.ble (512+m.length) 512 with
  |false=>rfl
  |true=>have:=ZR h;omega
 refine⟨.slice H.nx 0 (512+m.length) none,H.new (rG 5 1 ((l++m).map Vd) 0 false true false),?_,?_,Zs.new _ _ _,λc hc=>?_⟩
 ·rw[P9 (by decide) hv.src,Zx]
  show Xg H b (λr=>ZP (GX r 1 none) (cond (Nat.ble (Nat.add 512 m.length) (Te r 0 none)) (L4 H (.slice b 0 512 none) b 0 512 m.length 1 none r (m.map Vd)) (Oy H 5 b 0 512 m.length 1 1 none r (m.map Vd))))=_
  rw[hrow,hsz,hcap,show Nat.ble (Nat.add 512 m.length) 512=false from hnb]
  show ZP (Nat.ble ((512+m.length)*1) 140737488355328) (ZP (Nat.ble (0+512*1) r.size) (cond r.exact (ZP (Nat.beq (Nat.mod 0 1) 0) (.val (.slice H.nx 0 (512+m.length) none) (H.newRow 5 1 (Vf r 0 512++m.map Vd) false))) _))=_
  rw[Xl,Zk (by omega),hs,h5,hld,QF,<-Xv];rfl
 ·have:=sU (H:=H) (s:=l++m) hro hlo false
  rwa [Zj,hl] at this
 ·obtain rfl:c=H.nx:=by simpa [XP] using hc
  exact Zp _
end
end
end Go.AI
