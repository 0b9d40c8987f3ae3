/- Which chunks a range touches, by the program's code and the document's: walked, and the same; the law walked: proved without conditions but those that each names. -/
import Derived.Test.YthhmkldnnnajhaaGreatDoorP7
import Derived.Test.YthhmkldnnnajhaaGreatDoorPC
set_option maxRecDepth 1000000
set_option maxHeartbeats 0
set_option linter.unusedVariables false
set_option linter.unusedSimpArgs false
namespace Go.AI
open Go
noncomputable section
theorem rF(a b:Nat)(H:Heap):vC true [nI .i64 a,nI .i64 b] H=.val (nI .i64 (max a b)) H:=by
 show YP (MU .i64 .i64) (min2 true .i64 (cond (cond true (Ct (.ofNat a) (.ofNat b)) (Ct (.ofNat b) (.ofNat a))) (.ofNat b) (.ofNat a)) H [])=_
 rw[UY,Me,Me]
 show OR.val (.int .i64 (cond (decide (a<b)) (.ofNat b) (.ofNat a))) H=_
 by_cases h:a<b
 ·rw[Zr h,Nat.max_eq_right (by omega)];rfl
 ·rw[Zj h,Nat.max_eq_left (by omega)];rfl
theorem Is(z:Int)(H:Heap):vC true [.int .i64 z,nI .i64 0] H=.val (nI .i64 z.toNat) H:=by
 cases z with
 |ofNat a=>
  show vC true [nI .i64 a,nI .i64 0] H=_
  rw[rF];simp
 |negSucc a=>rfl
theorem pg{z:Int}(h1: -9223372036854775808<=z)(h2:z<9223372036854775808):IntKind.i64.wrap z=z:=by
 show(if (true&&decide (z % (18446744073709551616:Int)≥(9223372036854775808:Int)))=true then z % (18446744073709551616:Int) - 18446744073709551616 else z % (18446744073709551616:Int))=z
 by_cases h:z % (18446744073709551616:Int)≥(9223372036854775808:Int)
 ·rw[Zr h,if_pos (by rfl)];omega
 ·rw[Zj h,if_neg (by decide)];omega
def goT(hit:Mq->Bool):Nat->Nat×Nat->List Mq->Nat×Nat
 |_,p,[]=>p
 |k,p,x::l=>goT hit (k+1) (if hit x=true then(if p.2=0 then k else p.1,k+1) else p) l
def M3(A M:Nat)(x:Mq):Bool:=decide (0<M)&&decide (x.at_<((A+M:Nat):Int))&&decide ((A:Int)<x.at_+x.size)
theorem jX{a b:Nat}(h1:a<=16777216)(h2:b<=9223372036854775807)(H:Heap):uI (nI .i64 a) (nI .i64 b) H=.val (.int .i64 ((a:Int) - b)) H:=by
 show YP (MU .i64 .i64) (OM .i64 (Cv (.ofNat a) (.ofNat b)) H)=_
 have e:Cv (.ofNat a) (.ofNat b)=(a:Int) - b:=by
  show cond (Nat.ble b a) (Int.ofNat (Nat.sub a b)) (Int.ofNat a - Int.ofNat b)=_
  cases h:Nat.ble b a with
  |true=>
   have:=YE h
   show((a - b:Nat):Int)=_
   omega
  |false=>rfl
 rw[UY,KE,e,pg (by omega) (by omega)];rfl
theorem KU{a S:Nat}{x:Mq}{l:List Mq}(h:Nr a (x::l)=some S): ∃w:Nat,x.at_=(a:Int)∧x.size=(w:Int)∧1<=w∧w<=65536∧Nr (a+w) l=some S:=by
 unfold Nr at h
 split at h
 ·rename_i hc
  exact⟨x.size.toNat,hc.1,by omega,by omega,by omega,h⟩
 ·cases h
theorem GJ: ∀{l:List Mq} {a S:Nat},Nr a l=some S->a<=S
 |[],a,S,h=>by unfold Nr at h;cases h;exact Z2 _
 |x::l,a,S,h=>by
  obtain⟨w,_,_,_,_,h2⟩:=KU h
  have:=GJ h2;omega
structure aA(H0:Heap)(cv:AV)(l:List Mq)(A M S:Nat)(m:Nat)(tm:TM)(H:Heap):Prop where
 t1:YQ tm=nI .i64 A
 t2:XC tm=nI .i64 M
 t22:XA tm=cv
 t23:Y8 tm=nI .i64 l.length
 i: ∃i a fr to,XI tm=nI .i64 i∧X5 tm=nI .i64 fr∧Wl tm=nI .i64 to∧i+m=l.length∧to<=i∧Nr a (l.drop i)=some S∧goT (M3 A M) 0 (0,0) l=goT (M3 A M) i (fr,to) (l.drop i)
 k:Yw H0 H []
def TPQ(H0:Heap)(l:List Mq)(A M:Nat)(o:Out)(tm:TM)(H:Heap):Prop:=o=.exit 0∧Yw H0 H []∧X5 tm=nI .i64 (goT (M3 A M) 0 (0,0) l).1∧Wl tm=nI .i64 (goT (M3 A M) 0 (0,0) l).2
theorem mi{cv:AV}{l:List Mq}(hl:l.length<=90000)(hs: ∀x∈l,x.sum.length=32){A M S:Nat}(hS:S<=16777216)(hM:M<=S)(hAM:0<M->A+M<=S)(hA:A<=9223372036854775807){H0:Heap}(hro:H0.ro<=H0.nx)(hN:Sz H0 35 cv (Nq l))(cx:Ctx)(X0:X)(m:Nat)(tm:TM)(H:Heap)(hI:aA H0 cv l A M S m tm H):
  ∃o tm' H',MX cx tm H X0=.ok o tm' H' X0∧((o=.normal∧ ∃k,k<m∧aA H0 cv l A M S k tm' H')∨(o≠.normal∧TPQ H0 l A M o tm' H')):=by
 obtain⟨t1,t2,t22,t23,⟨i,a,fr,to,t24,t6,t7,him,hto,hr,hg⟩,k0⟩:=hI
 have t1':=t1;have t2':=t2;have ED:=t22;have EE:=t23;have AQ:=t6;have lR:=t7
 simp only[JA] at t1
 simp only[K0] at t2
 simp only[Fq] at t6
 simp only[sJ] at t7
 simp only[mU] at t22
 simp only[mV] at t23
 simp only[xc] at t24
 cases m with
 |zero=>
  have d1:decide (i<l.length)=false:=Zj (by omega)
  simp(maxSteps:=4000000) (disch:=first|assumption|omega|(simp -implicitDefEqProofs only[Yr,Ys]<;>first|assumption|omega)|decide) only[t23,t24,d1,ZG,Zz,ZK,ZT,ZP,ZS,Z9,Ya,ZO,Z8,Yc,Yb,Zx,Zt,Zs,ZU,Nat.reduceSub,Nat.reduceAdd,Nat.reduceLeDiff,Zi,Zh,Nat.reduceEqDiff,decide_true,decide_false,ZJ,Zf,Zd,YH,YJ,ZZ,ZC,Zv,ZY,ZX,ZM,Zk,Zl,Yf,ZD,Zd,Zf,Yg,ZV,Ye,U3,Yj,Zn,Zw,Zq,ZA,Zo,Zp,Zm,Zu,YW,YX,Y5,Y4,YI,Y3,Xg,ZQ,XB,Xe,XL,XM,XN,Xc,ZO,MX,YU,WD,Yp,Yq,ZE,ZH,ZF,Nat.reduceEqDiff,reduceCtorEq,WE,UF]
  rw[V5 (by omega)] at hg
  refine⟨_,_,_,rfl,.inr ⟨by simp,rfl,k0,?_,?_⟩⟩
  ·rw[hg];exact AQ
  ·rw[hg];exact lR
 |succ m=>
  have d1:decide (i<l.length)=true:=Zr (by omega)
  have hi:i<l.length:=by omega
  have hN:=hN.keep0 k0
  obtain⟨bb,o,r,eI,hb,gb,eL,eE⟩:=hN.at_ (i:=i) (by rw[TX];omega)
  rw[KL hi] at eL
  have hsum:(l.getD i default).sum.length=32:=hs _ (by rw[ZN,ZW hi];exact Vc hi)
  have hdr:l.drop i=l.getD i default::l.drop (i+1):=by
   rw[US hi,ZN,ZW hi];rfl
  rw[hdr] at hr hg
  generalize hx:l.getD i default=x at*
  obtain⟨w,xa,xs,w1,w2,hr2⟩:=KU hr
  have hle:=GJ hr2
  have xl:(TW x).length=35:=by unfold TW;simp[hsum]
  obtain⟨H1,hH1⟩: ∃G,H.new (rG 108 1 (TW x) 0 false true true)=G:=⟨_,rfl⟩
  have k1:Yw H0 H1 []:=by rw[<-hH1];exact k0.then_new _
  have g1:H1.t.get H.nx=some (rG 108 1 (TW x) 0 false true true):=by rw[<-hH1];exact YN rfl _
  have gbz:(H.new (rG 108 1 z35 0 false true true)).t.get bb=some (.row r):=by rw[WH (by omega)];exact gb
  have sf:=TL (n:=35) (b:=H.nx) (l:=z35) (vs:=TW x) (H:=H.new (rG 108 1 z35 0 false true true)) Ln xl (by decide) (by show H.ro<=_;rw[k0.ro];have:=k0.nx;omega) 108 1 false true
  rw[Ty rfl,hH1] at sf
  have gz:=λ(G:Heap)=>YN (H:=H) rfl (rG 108 1 z35 0 false true true)
  have l0: ∀G,ld1 (some (rG 108 1 (TW x) 0 false true true)) 0 G=.val (nI .i64 a) G:=λG=>by rw[X1 (by rw[xl];decide)];show OR.val (.int .i64 x.at_) G=_;rw[xa];rfl
  have l1: ∀G,ld1 (some (rG 108 1 (TW x) 0 false true true)) 1 G=.val (nI .i64 w) G:=λG=>by rw[X1 (by rw[xl];decide)];show OR.val (.int .i64 x.size) G=_;rw[xs];rfl
  have ok: ∀(b:Bool),M3 A M x=b-> ∃k,k<m+1∧True:=λ_ _=>⟨m,by omega,trivial⟩
  rw[goT] at hg
  by_cases h1:0<M
  ·have d2:decide (0<M)=true:=Zr h1
   have hAM:=hAM h1
   by_cases h2:a<A+M
   ·have d3:decide (a<A+M)=true:=Zr h2
    by_cases h3:A<a+w
    ·have d4:decide (A<a+w)=true:=Zr h3
     rw[if_pos (by unfold M3;rw[xa,xs];simp;omega)] at hg
     by_cases h4:to=0
     ·have d5:decide (to=0)=true:=Zr h4
      rw[if_pos h4] at hg
      simp(maxSteps:=4000000) (disch:=first|assumption|omega|(simp -implicitDefEqProofs only[Yr,Ys]<;>first|assumption|omega)|decide) only[t1,t2,t6,t7,t22,t23,t24,d1,eI,gb,gbz,eL,gz,sf,hH1,g1,l0,l1,V7,d2,d3,d4,d5,ZG,Zz,ZK,ZT,ZP,ZS,Z9,Ya,ZO,Z8,Yc,Yb,Zx,Zt,Zs,ZU,Nat.reduceSub,Nat.reduceAdd,Nat.reduceLeDiff,Zi,Zh,Nat.reduceEqDiff,decide_true,decide_false,ZJ,Zf,Zd,YH,YJ,ZZ,ZC,Zv,ZY,ZX,ZM,Zk,Zl,Yf,ZD,Zd,Zf,Yg,ZV,Ye,U3,Yj,Zn,Zw,Zq,ZA,Zo,Zp,Zm,Zu,YW,YX,Y5,Y4,YI,Y3,Xg,ZQ,XB,Xe,XL,XM,XN,Xc,ZO,MX,YU,WD,Yp,Yq,ZE,ZH,ZF,Nat.reduceEqDiff,reduceCtorEq,WE,UF]
      refine⟨_,_,_,rfl,?_⟩
      exact .inl ⟨rfl,m,by omega,t1',t2',ED,EE,⟨i+1,a+w,i,i+1,rfl,rfl,rfl,by omega,by omega,hr2,hg⟩,k1⟩
     ·have d5:decide (to=0)=false:=Zj h4
      rw[if_neg h4] at hg
      simp(maxSteps:=4000000) (disch:=first|assumption|omega|(simp -implicitDefEqProofs only[Yr,Ys]<;>first|assumption|omega)|decide) only[t1,t2,t6,t7,t22,t23,t24,d1,eI,gb,gbz,eL,gz,sf,hH1,g1,l0,l1,V7,d2,d3,d4,d5,ZG,Zz,ZK,ZT,ZP,ZS,Z9,Ya,ZO,Z8,Yc,Yb,Zx,Zt,Zs,ZU,Nat.reduceSub,Nat.reduceAdd,Nat.reduceLeDiff,Zi,Zh,Nat.reduceEqDiff,decide_true,decide_false,ZJ,Zf,Zd,YH,YJ,ZZ,ZC,Zv,ZY,ZX,ZM,Zk,Zl,Yf,ZD,Zd,Zf,Yg,ZV,Ye,U3,Yj,Zn,Zw,Zq,ZA,Zo,Zp,Zm,Zu,YW,YX,Y5,Y4,YI,Y3,Xg,ZQ,XB,Xe,XL,XM,XN,Xc,ZO,MX,YU,WD,Yp,Yq,ZE,ZH,ZF,Nat.reduceEqDiff,reduceCtorEq,WE,UF]
      refine⟨_,_,_,rfl,?_⟩
      exact .inl ⟨rfl,m,by omega,t1',t2',ED,EE,⟨i+1,a+w,fr,i+1,rfl,AQ,rfl,by omega,by omega,hr2,hg⟩,k1⟩
    ·have d4:decide (A<a+w)=false:=Zj h3
     rw[if_neg (by unfold M3;rw[xa,xs];simp;omega)] at hg
     simp(maxSteps:=4000000) (disch:=first|assumption|omega|(simp -implicitDefEqProofs only[Yr,Ys]<;>first|assumption|omega)|decide) only[t1,t2,t6,t7,t22,t23,t24,d1,eI,gb,gbz,eL,gz,sf,hH1,g1,l0,l1,V7,d2,d3,d4,ZG,Zz,ZK,ZT,ZP,ZS,Z9,Ya,ZO,Z8,Yc,Yb,Zx,Zt,Zs,ZU,Nat.reduceSub,Nat.reduceAdd,Nat.reduceLeDiff,Zi,Zh,Nat.reduceEqDiff,decide_true,decide_false,ZJ,Zf,Zd,YH,YJ,ZZ,ZC,Zv,ZY,ZX,ZM,Zk,Zl,Yf,ZD,Zd,Zf,Yg,ZV,Ye,U3,Yj,Zn,Zw,Zq,ZA,Zo,Zp,Zm,Zu,YW,YX,Y5,Y4,YI,Y3,Xg,ZQ,XB,Xe,XL,XM,XN,Xc,ZO,MX,YU,WD,Yp,Yq,ZE,ZH,ZF,Nat.reduceEqDiff,reduceCtorEq,WE,UF]
     refine⟨_,_,_,rfl,?_⟩
     exact .inl ⟨rfl,m,by omega,t1',t2',ED,EE,⟨i+1,a+w,fr,to,rfl,AQ,lR,by omega,by omega,hr2,hg⟩,k1⟩
   ·have d3:decide (a<A+M)=false:=Zj h2
    rw[if_neg (by unfold M3;rw[xa,xs];simp;omega)] at hg
    simp(maxSteps:=4000000) (disch:=first|assumption|omega|(simp -implicitDefEqProofs only[Yr,Ys]<;>first|assumption|omega)|decide) only[t1,t2,t6,t7,t22,t23,t24,d1,eI,gb,gbz,eL,gz,sf,hH1,g1,l0,l1,V7,d2,d3,ZG,Zz,ZK,ZT,ZP,ZS,Z9,Ya,ZO,Z8,Yc,Yb,Zx,Zt,Zs,ZU,Nat.reduceSub,Nat.reduceAdd,Nat.reduceLeDiff,Zi,Zh,Nat.reduceEqDiff,decide_true,decide_false,ZJ,Zf,Zd,YH,YJ,ZZ,ZC,Zv,ZY,ZX,ZM,Zk,Zl,Yf,ZD,Zd,Zf,Yg,ZV,Ye,U3,Yj,Zn,Zw,Zq,ZA,Zo,Zp,Zm,Zu,YW,YX,Y5,Y4,YI,Y3,Xg,ZQ,XB,Xe,XL,XM,XN,Xc,ZO,MX,YU,WD,Yp,Yq,ZE,ZH,ZF,Nat.reduceEqDiff,reduceCtorEq,WE,UF]
    refine⟨_,_,_,rfl,?_⟩
    exact .inl ⟨rfl,m,by omega,t1',t2',ED,EE,⟨i+1,a+w,fr,to,rfl,AQ,lR,by omega,by omega,hr2,hg⟩,k1⟩
  ·have d2:decide (0<M)=false:=Zj h1
   rw[if_neg (by unfold M3;rw[xa,xs];simp;omega)] at hg
   simp(maxSteps:=4000000) (disch:=first|assumption|omega|(simp -implicitDefEqProofs only[Yr,Ys]<;>first|assumption|omega)|decide) only[t1,t2,t6,t7,t22,t23,t24,d1,eI,gb,gbz,eL,gz,sf,hH1,g1,l0,l1,V7,d2,ZG,Zz,ZK,ZT,ZP,ZS,Z9,Ya,ZO,Z8,Yc,Yb,Zx,Zt,Zs,ZU,Nat.reduceSub,Nat.reduceAdd,Nat.reduceLeDiff,Zi,Zh,Nat.reduceEqDiff,decide_true,decide_false,ZJ,Zf,Zd,YH,YJ,ZZ,ZC,Zv,ZY,ZX,ZM,Zk,Zl,Yf,ZD,Zd,Zf,Yg,ZV,Ye,U3,Yj,Zn,Zw,Zq,ZA,Zo,Zp,Zm,Zu,YW,YX,Y5,Y4,YI,Y3,Xg,ZQ,XB,Xe,XL,XM,XN,Xc,ZO,MX,YU,WD,Yp,Yq,ZE,ZH,ZF,Nat.reduceEqDiff,reduceCtorEq,WE,UF]
   refine⟨_,_,_,rfl,?_⟩
   exact .inl ⟨rfl,m,by omega,t1',t2',ED,EE,⟨i+1,a+w,fr,to,rfl,AQ,lR,by omega,by omega,hr2,hg⟩,k1⟩
theorem yK{Z7:Lib}{fs:T CF}{fuel:Nat}(E:Env Z7 fs fuel){n:Nat}{cs:List AV}{e:Uk}{at_ many:Int}{H:Heap}(hs:Q7 e)(hro:H.ro<=H.nx)(he:Jk H cs e)(hsh:Sj e=true)(h1:L7 at_)(h2:L7 many):
  ∃H',Xd (LK Z7 fs fuel 14) fs fuel (n+2) 20 [.agg cs,.int .i64 at_,.int .i64 many] H=.ret (.tup [nI .i64 (goT (M3 at_.toNat (min many.toNat (e.size.toNat - at_.toNat))) 0 (0,0) e.chunks).1,nI .i64 (goT (M3 at_.toNat (min many.toNat (e.size.toNat - at_.toNat))) 0 (0,0) e.chunks).2]) H'∧Yw H H' []:=by
 rw[XR (Xk E.n20 (.inl (by decide)) _ _) E.f20]
 obtain⟨av,dv,cv,rfl,hA,hD,hC⟩:=he
 have hsz:0<=e.size∧e.size<=16777216∧Nr 0 e.chunks=some e.size.toNat:=by
  unfold Sj at hsh
  simp only[Xv,decide_eq_true_eq] at hsh
  obtain⟨⟨⟨_,h5⟩,h6⟩,h8⟩:=(⟨⟨⟨hsh.1.1.1.1,hsh.1.1.1.2⟩,hsh.1.1.2⟩,hsh.2⟩:((_∧0<=e.size)∧e.size<=16777216)∧_)
  refine⟨h5,h6,?_⟩
  cases hr:Nr 0 e.chunks with
  |none=>rw[hr] at h8;cases h8
  |some a=>
   rw[hr] at h8
   have h8:=ZB h8
   congr 1;omega
 obtain⟨hs0,hs1,hrun⟩:=hsz
 obtain⟨S,hS⟩: ∃S:Nat,e.size=(S:Int):=⟨e.size.toNat,by omega⟩
 have hSt:e.size.toNat=S:=by omega
 rw[hSt] at hrun ⊢
 obtain⟨A,hA'⟩: ∃A,at_.toNat=A:=⟨_,rfl⟩
 obtain⟨M,hM'⟩: ∃M,min many.toNat (S - A)=M:=⟨_,rfl⟩
 rw[hA',hM']
 have cj:A<=9223372036854775807:=by have:=h1.2;omega
 obtain⟨H1,hH1⟩: ∃G,H.new (rG 31 1 [.str e.mem.path,.int .i64 e.mem.kind,nI .u32 e.mem.mode,nI .u32 e.mem.uid,nI .u32 e.mem.gid,.int .i64 e.mem.time,av,dv,.str e.mem.link,.int .i64 e.size,.int .i64 e.head,cv] 0 false true true)=G:=⟨_,rfl⟩
 have k1:Yw H H1 []:=by rw[<-hH1];exact Yw.new _ _ _
 have g1:H1.t.get H.nx=some (rG 31 1 [.str e.mem.path,.int .i64 e.mem.kind,nI .u32 e.mem.mode,nI .u32 e.mem.uid,nI .u32 e.mem.gid,.int .i64 e.mem.time,av,dv,.str e.mem.link,.int .i64 e.size,.int .i64 e.head,cv] 0 false true true):=by rw[<-hH1];exact YN rfl _
 have lc:=hC.len
 rw[TX] at lc
 have m1:=λG=>Is at_ G
 have m2:=λG=>Is many G
 have m3: ∀G,uI (.int .i64 e.size) (nI .i64 A) G=.val (.int .i64 ((S:Int) - A)) G:=λG=>by rw[hS];exact jX (by omega) cj G
 have m4:=λG=>Is ((S:Int) - A) G
 have m5:((S:Int) - (A:Int)).toNat=S - A:=by omega
 rw[hA'] at m1
 rw[m5] at m4
 have hcl:=hs.chunks
 simp(maxSteps:=4000000) (disch:=first|assumption|omega|(simp -implicitDefEqProofs only[Yr,Ys]<;>first|assumption|omega)|decide) only[Vy,hH1,g1,lc,m1,m2,m3,m4,hM',X1,VQ,Ke,VC,Qn,Xc,ZG,Zz,ZK,ZT,ZP,ZS,Z9,Ya,ZO,Z8,Yc,Yb,Zx,Zt,Zs,ZU,Nat.reduceSub,Nat.reduceAdd,Nat.reduceLeDiff,Zi,Zh,Nat.reduceEqDiff,decide_true,decide_false,ZJ,Zf,Zd,YH,YJ,ZZ,ZC,Zv,ZY,ZX,ZM,Zk,Zl,Yf,ZD,Zd,Zf,Yg,ZV,Ye,U3,Yj,Zn,Zw,Zq,ZA,Zo,Zp,Zm,Zu,YW,YX,Y5,Y4,YI,Y3,Xg,ZQ,XB,Xe,XL,XM,XN,Xc,ZO,c20,YU,WD,Yp,Yq,ZE,ZH,ZF,Nat.reduceEqDiff,reduceCtorEq,WE,UF]
 generalize hL:TH (MX _) fuel _ _ _=Lp
 obtain⟨oc,MR,H2,rfl,_,rfl,k2,t6,t7⟩:=WW (P:=λT=>aA H1 cv e.chunks A M S e.chunks.length T H1) (Q:=TPQ H1 e.chunks A M)
  (λT hi=>Vd (aA H1 cv e.chunks A M S) (TPQ H1 e.chunks A M) (λm tm H2 h=>mi hcl hs.sums (by omega) (by omega) (by omega) cj (by rw[k1.ro];exact YZ hro k1.nx) (hC.keep0 k1) _ _ m tm H2 h) fuel e.chunks.length T H1 (by have:=E.big;omega) hi) hL
  (by exact⟨rfl,rfl,rfl,rfl,⟨0,0,0,0,rfl,rfl,rfl,by omega,Z2 _,hrun,rfl⟩,Yw.refl _ _⟩)
 simp only[Fq] at t6
 simp only[sJ] at t7
 simp(maxSteps:=4000000) (disch:=first|assumption|omega|(simp -implicitDefEqProofs only[Yr,Ys]<;>first|assumption|omega)|decide) only[t6,t7,ZG,Zz,ZK,ZT,ZP,ZS,Z9,Ya,ZO,Z8,Yc,Yb,Zx,Zt,Zs,ZU,Nat.reduceSub,Nat.reduceAdd,Nat.reduceLeDiff,Zi,Zh,Nat.reduceEqDiff,decide_true,decide_false,ZJ,Zf,Zd,YH,YJ,ZZ,ZC,Zv,ZY,ZX,ZM,Zk,Zl,Yf,ZD,Zd,Zf,Yg,ZV,Ye,U3,Yj,Zn,Zw,Zq,ZA,Zo,Zp,Zm,Zu,YW,YX,Y5,Y4,YI,Y3,Xg,ZQ,XB,Xe,XL,XM,XN,Xc,ZO,c20,YU,WD,Yp,Yq,ZE,ZH,ZF,Nat.reduceEqDiff,reduceCtorEq,WE,UF]
 refine⟨_,rfl,?_⟩
 exact k1.trans' k2
theorem j9{Z7:Lib}{fs:T CF}{fuel:Nat}(E:Env Z7 fs fuel){k n:Nat}(hk:15<=k){cs:List AV}{e:Uk}{at_ many:Int}{H:Heap}(hs:Q7 e)(hro:H.ro<=H.nx)(he:Jk H cs e)(hsh:Sj e=true)(h1:L7 at_)(h2:L7 many):
  Xd (LK Z7 fs fuel k) fs fuel (n+1) 20 [.agg cs,.int .i64 at_,.int .i64 many] H=.ret (.tup [nI .i64 (goT (M3 at_.toNat (min many.toNat (e.size.toNat - at_.toNat))) 0 (0,0) e.chunks).1,nI .i64 (goT (M3 at_.toNat (min many.toNat (e.size.toNat - at_.toNat))) 0 (0,0) e.chunks).2]) H:=by
 obtain⟨H',e,g⟩:=yK E (n:=898) (H:=H) hs hro he hsh h1 h2
 exact Wy (r:=14) rfl rfl e g (rfl) hk
def Lx(A S a:Nat)(many:Int)(t:Nat):Bool:=decide (A<=a+t)&&decide (a+t<S)&&decide (((a+t - A:Nat):Int)<many)
def JC(A S:Nat)(many:Int)(x:Mq):Bool:=(List.range x.size.toNat).any (Lx A S x.at_.toNat many)
theorem tx(f:Nat->Bool)(n:Nat):(List.range (n+1)).any f=((List.range n).any f||f n):=by
 rw[List.range_succ,List.any_append];simp
structure ay(H0:Heap)(q qe:Nat)(A:Nat)(many:Int)(fr to k:Nat)(a S w:Nat)(m:Nat)(tm:TM)(H:Heap):Prop where
 heap:H=H0
 t1:YQ tm=nI .i64 A
 t2:XC tm=.int .i64 many
 t3:Xm tm=.ptr qe 0
 t8:XD tm=nI .i64 fr
 t9:XP tm=nI .i64 to
 t10:YG tm=nI .i64 k
 t11:Yz tm=.ptr q 0
 j: ∃j,YD tm=nI .i64 j∧Yn tm=.bool ((List.range j).any (Lx A S a many))∧j+m=w
def TDK(H0:Heap)(q qe:Nat)(A:Nat)(many:Int)(fr to k:Nat)(a S w:Nat)(o:Out)(tm:TM)(H:Heap):Prop:=o=.exit 2∧H=H0∧YQ tm=nI .i64 A∧XC tm=.int .i64 many∧Xm tm=.ptr qe 0∧XD tm=nI .i64 fr∧XP tm=nI .i64 to∧YG tm=nI .i64 k∧Yn tm=.bool ((List.range w).any (Lx A S a many))
theorem q7{H0:Heap}{q qe A:Nat}{many:Int}{fr to k a S w:Nat}{cq ce:Obj}(gq:H0.t.get q=some cq)(ge:H0.t.get qe=some ce)(lA: ∀G,ld1 (some cq) 0 G=.val (nI .i64 a) G)(lS: ∀G,ld1 (some cq) 1 G=.val (nI .i64 w) G)(lE: ∀G,ld1 (some ce) 9 G=.val (nI .i64 S) G)(hA:A<=9223372036854775807)(hw:a+w<=16777216)(cx:Ctx)(X0:X)(m:Nat)(tm:TM)(H:Heap)(hI:ay H0 q qe A many fr to k a S w m tm H):
  ∃o tm' H',LJ cx tm H X0=.ok o tm' H' X0∧((o=.normal∧ ∃i,i<m∧ay H0 q qe A many fr to k a S w i tm' H')∨(o≠.normal∧TDK H0 q qe A many fr to k a S w o tm' H')):=by
 obtain⟨rfl,t1,t2,t3,t8,t9,t10,t11,j,t13,t12,hjm⟩:=hI
 have t1':=t1;have t2':=t2;have KW:=t3;have lU:=t8;have po:=t9;have Lz:=t10;have MB:=t11;have MC:=t12
 simp only[JA] at t1
 simp only[K0] at t2
 simp only[Fp] at t3
 simp only[Dg] at t11
 simp only[Ik] at t12
 simp only[y9] at t13
 have hm:=tx (Lx A S a many) j
 cases m with
 |zero=>
  have d1:decide (j<w)=false:=Zj (by omega)
  obtain rfl:j=w:=by omega
  simp(maxSteps:=4000000) (disch:=first|assumption|omega|(simp -implicitDefEqProofs only[Yr,Ys]<;>first|assumption|omega)|decide) only[t11,t13,gq,lS,d1,ZG,Zz,ZK,ZT,ZP,ZS,Z9,Ya,ZO,Z8,Yc,Yb,Zx,Zt,Zs,ZU,Nat.reduceSub,Nat.reduceAdd,Nat.reduceLeDiff,Zi,Zh,Nat.reduceEqDiff,decide_true,decide_false,ZJ,Zf,Zd,YH,YJ,ZZ,ZC,Zv,ZY,ZX,ZM,Zk,Zl,Yf,ZD,Zd,Zf,Yg,ZV,Ye,U3,Yj,Zn,Zw,Zq,ZA,Zo,Zp,Zm,Zu,YW,YX,Y5,Y4,YI,Y3,Xg,ZQ,XB,Xe,XL,XM,XN,Xc,ZO,YI,ZK,LJ,YU,WD,Yp,Yq,ZE,ZH,ZF,Nat.reduceEqDiff,reduceCtorEq,WE,UF,N6]
  refine⟨_,_,_,rfl,?_⟩
  exact .inr ⟨by simp,rfl,rfl,t1',t2',KW,lU,po,Lz,MC⟩
 |succ m=>
  have d1:decide (j<w)=true:=Zr (by omega)
  have z0:decide (A<0)=false:=rfl
  have z1:decide (0<=A)=true:=Zr (Zi _)
  have fin: ∀b,Lx A S a many j=b->b=true->(List.range (j+1)).any (Lx A S a many)=true:=λb h h2=>by rw[hm,h,h2,Bool.or_true]
  have fout:Lx A S a many j=false->(List.range (j+1)).any (Lx A S a many)=(List.range j).any (Lx A S a many):=λh=>by rw[hm,h,Bool.or_false]
  by_cases h1:A<=a+j
  ·have d2:decide (A<=a+j)=true:=Zr h1
   by_cases h2:a+j<S
   ·have d3:decide (a+j<S)=true:=Zr h2
    by_cases h3:((a+j - A:Nat):Int)<many
    ·have d4:decide (((a+j - A:Nat):Int)<many)=true:=Zr h3
     simp(maxSteps:=4000000) (disch:=first|assumption|omega|(simp -implicitDefEqProofs only[Yr,Ys]<;>first|assumption|omega)|decide) only[t1,t2,t3,t11,t13,gq,ge,lA,lS,lE,d1,z0,z1,d2,d3,d4,ZG,Zz,ZK,ZT,ZP,ZS,Z9,Ya,ZO,Z8,Yc,Yb,Zx,Zt,Zs,ZU,Nat.reduceSub,Nat.reduceAdd,Nat.reduceLeDiff,Zi,Zh,Nat.reduceEqDiff,decide_true,decide_false,ZJ,Zf,Zd,YH,YJ,ZZ,ZC,Zv,ZY,ZX,ZM,Zk,Zl,Yf,ZD,Zd,Zf,Yg,ZV,Ye,U3,Yj,Zn,Zw,Zq,ZA,Zo,Zp,Zm,Zu,YW,YX,Y5,Y4,YI,Y3,Xg,ZQ,XB,Xe,XL,XM,XN,Xc,ZO,YI,ZK,LJ,YU,WD,Yp,Yq,ZE,ZH,ZF,Nat.reduceEqDiff,reduceCtorEq,WE,UF,N6]
     refine⟨_,_,_,rfl,?_⟩
     exact .inl ⟨rfl,m,by omega,rfl,t1',t2',KW,lU,po,Lz,MB,j+1,rfl,by rw[fin true (by unfold Lx;rw[d2,d3,d4];rfl) rfl];rfl,by omega⟩
    ·have d4:decide (((a+j - A:Nat):Int)<many)=false:=Zj h3
     simp(maxSteps:=4000000) (disch:=first|assumption|omega|(simp -implicitDefEqProofs only[Yr,Ys]<;>first|assumption|omega)|decide) only[t1,t2,t3,t11,t13,gq,ge,lA,lS,lE,d1,z0,z1,d2,d3,d4,ZG,Zz,ZK,ZT,ZP,ZS,Z9,Ya,ZO,Z8,Yc,Yb,Zx,Zt,Zs,ZU,Nat.reduceSub,Nat.reduceAdd,Nat.reduceLeDiff,Zi,Zh,Nat.reduceEqDiff,decide_true,decide_false,ZJ,Zf,Zd,YH,YJ,ZZ,ZC,Zv,ZY,ZX,ZM,Zk,Zl,Yf,ZD,Zd,Zf,Yg,ZV,Ye,U3,Yj,Zn,Zw,Zq,ZA,Zo,Zp,Zm,Zu,YW,YX,Y5,Y4,YI,Y3,Xg,ZQ,XB,Xe,XL,XM,XN,Xc,ZO,YI,ZK,LJ,YU,WD,Yp,Yq,ZE,ZH,ZF,Nat.reduceEqDiff,reduceCtorEq,WE,UF,N6]
     refine⟨_,_,_,rfl,?_⟩
     exact .inl ⟨rfl,m,by omega,rfl,t1',t2',KW,lU,po,Lz,MB,j+1,rfl,by rw[fout (by unfold Lx;rw[d2,d3,d4];rfl)];exact MC,by omega⟩
   ·have d3:decide (a+j<S)=false:=Zj h2
    simp(maxSteps:=4000000) (disch:=first|assumption|omega|(simp -implicitDefEqProofs only[Yr,Ys]<;>first|assumption|omega)|decide) only[t1,t2,t3,t11,t13,gq,ge,lA,lS,lE,d1,z0,z1,d2,d3,ZG,Zz,ZK,ZT,ZP,ZS,Z9,Ya,ZO,Z8,Yc,Yb,Zx,Zt,Zs,ZU,Nat.reduceSub,Nat.reduceAdd,Nat.reduceLeDiff,Zi,Zh,Nat.reduceEqDiff,decide_true,decide_false,ZJ,Zf,Zd,YH,YJ,ZZ,ZC,Zv,ZY,ZX,ZM,Zk,Zl,Yf,ZD,Zd,Zf,Yg,ZV,Ye,U3,Yj,Zn,Zw,Zq,ZA,Zo,Zp,Zm,Zu,YW,YX,Y5,Y4,YI,Y3,Xg,ZQ,XB,Xe,XL,XM,XN,Xc,ZO,YI,ZK,LJ,YU,WD,Yp,Yq,ZE,ZH,ZF,Nat.reduceEqDiff,reduceCtorEq,WE,UF,N6]
    refine⟨_,_,_,rfl,?_⟩
    exact .inl ⟨rfl,m,by omega,rfl,t1',t2',KW,lU,po,Lz,MB,j+1,rfl,by rw[fout (by unfold Lx;rw[d2,d3];rfl)];exact MC,by omega⟩
  ·have d2:decide (A<=a+j)=false:=Zj h1
   simp(maxSteps:=4000000) (disch:=first|assumption|omega|(simp -implicitDefEqProofs only[Yr,Ys]<;>first|assumption|omega)|decide) only[t1,t2,t3,t11,t13,gq,ge,lA,lS,lE,d1,z0,z1,d2,ZG,Zz,ZK,ZT,ZP,ZS,Z9,Ya,ZO,Z8,Yc,Yb,Zx,Zt,Zs,ZU,Nat.reduceSub,Nat.reduceAdd,Nat.reduceLeDiff,Zi,Zh,Nat.reduceEqDiff,decide_true,decide_false,ZJ,Zf,Zd,YH,YJ,ZZ,ZC,Zv,ZY,ZX,ZM,Zk,Zl,Yf,ZD,Zd,Zf,Yg,ZV,Ye,U3,Yj,Zn,Zw,Zq,ZA,Zo,Zp,Zm,Zu,YW,YX,Y5,Y4,YI,Y3,Xg,ZQ,XB,Xe,XL,XM,XN,Xc,ZO,YI,ZK,LJ,YU,WD,Yp,Yq,ZE,ZH,ZF,Nat.reduceEqDiff,reduceCtorEq,WE,UF,N6]
   refine⟨_,_,_,rfl,?_⟩
   exact .inl ⟨rfl,m,by omega,rfl,t1',t2',KW,lU,po,Lz,MB,j+1,rfl,by rw[fout (by unfold Lx;rw[d2];rfl)];exact MC,by omega⟩
structure ax(H0:Heap)(qe:Nat)(ce:Obj)(l:List Mq)(A:Nat)(many:Int)(S:Nat)(m:Nat)(tm:TM)(H:Heap):Prop where
 t1:YQ tm=nI .i64 A
 t2:XC tm=.int .i64 many
 t3:Xm tm=.ptr qe 0
 i: ∃i a fr to,YG tm=nI .i64 i∧XD tm=nI .i64 fr∧XP tm=nI .i64 to∧i+m=l.length∧to<=i∧Nr a (l.drop i)=some S∧goT (JC A S many) 0 (0,0) l=goT (JC A S many) i (fr,to) (l.drop i)
 k:Yw H0 H []
def TDQ(H0:Heap)(l:List Mq)(A:Nat)(many:Int)(S:Nat)(o:Out)(tm:TM)(H:Heap):Prop:=o=.exit 0∧Yw H0 H []∧XD tm=nI .i64 (goT (JC A S many) 0 (0,0) l).1∧XP tm=nI .i64 (goT (JC A S many) 0 (0,0) l).2
theorem mg{cv:AV}{l:List Mq}(hl:l.length<=90000)(hs: ∀x∈l,x.sum.length=32){A S:Nat}{many:Int}(hS:S<=16777216)(hA:A<=9223372036854775807){H0:Heap}{qe:Nat}{ce:Obj}(hq:qe<H0.nx)(ge:H0.t.get qe=some ce)(lE: ∀G,ld1 (some ce) 9 G=.val (nI .i64 S) G)(lC: ∀G,ld1 (some ce) 11 G=.val cv G)(hro:H0.ro<=H0.nx)(hN:Sz H0 35 cv (Nq l))(cx:Ctx)(hcx:100000<=cx.fuel)(X0:X)(m:Nat)(tm:TM)(H:Heap)(hI:ax H0 qe ce l A many S m tm H):
  ∃o tm' H',LL cx tm H X0=.ok o tm' H' X0∧((o=.normal∧ ∃k,k<m∧ax H0 qe ce l A many S k tm' H')∨(o≠.normal∧TDQ H0 l A many S o tm' H')):=by
 obtain⟨t1,t2,t3,⟨i,a,fr,to,t10,t8,t9,him,hto,hr,hg⟩,k0⟩:=hI
 have t1':=t1;have t2':=t2;have KW:=t3;have lU:=t8;have po:=t9;have Lz:=t10
 simp only[Fp] at t3
 simp only[wR] at t8
 simp only[sK] at t9
 simp only[Df] at t10
 have ge0:H.t.get qe=some ce:=by rw[k0.get _ hq (by simp)];exact ge
 have ln:=hN.len
 rw[TX] at ln
 cases m with
 |zero=>
  have d1:decide (i<l.length)=false:=Zj (by omega)
  simp(maxSteps:=4000000) (disch:=first|assumption|omega|(simp -implicitDefEqProofs only[Yr,Ys]<;>first|assumption|omega)|decide) only[t3,t10,ge0,lC,ln,d1,ZG,Zz,ZK,ZT,ZP,ZS,Z9,Ya,ZO,Z8,Yc,Yb,Zx,Zt,Zs,ZU,Nat.reduceSub,Nat.reduceAdd,Nat.reduceLeDiff,Zi,Zh,Nat.reduceEqDiff,decide_true,decide_false,ZJ,Zf,Zd,YH,YJ,ZZ,ZC,Zv,ZY,ZX,ZM,Zk,Zl,Yf,ZD,Zd,Zf,Yg,ZV,Ye,U3,Yj,Zn,Zw,Zq,ZA,Zo,Zp,Zm,Zu,YW,YX,Y5,Y4,YI,Y3,Xg,ZQ,XB,Xe,XL,XM,XN,Xc,ZO,YI,ZK,LL,YU,WD,Yp,Yq,ZE,ZH,ZF,Nat.reduceEqDiff,reduceCtorEq,WE,N6]
  rw[V5 (by omega)] at hg
  refine⟨_,_,_,rfl,.inr ⟨by simp,rfl,k0,?_,?_⟩⟩
  ·rw[hg];exact lU
  ·rw[hg];exact po
 |succ m=>
  have d1:decide (i<l.length)=true:=Zr (by omega)
  have hi:i<l.length:=by omega
  have hN:=hN.keep0 k0
  obtain⟨bb,o,r,eI,hb,gb,eL,eE⟩:=hN.at_ (i:=i) (by rw[TX];omega)
  rw[KL hi] at eL
  have hsum:(l.getD i default).sum.length=32:=hs _ (by rw[ZN,ZW hi];exact Vc hi)
  have hdr:l.drop i=l.getD i default::l.drop (i+1):=by
   rw[US hi,ZN,ZW hi];rfl
  rw[hdr] at hr hg
  generalize hx:l.getD i default=x at*
  obtain⟨w,xa,xs,w1,w2,hr2⟩:=KU hr
  have hle:=GJ hr2
  have hh:JC A S many x=(List.range w).any (Lx A S a many):=by
   unfold JC;rw[xa,xs];rfl
  have xl:(TW x).length=35:=by unfold TW;simp[hsum]
  obtain⟨H1,hH1⟩: ∃G,H.new (rG 55 1 (TW x) 0 false true true)=G:=⟨_,rfl⟩
  have k1':Yw H H1 []:=by rw[<-hH1];exact Yw.new _ _ _
  have k1:Yw H0 H1 []:=k0.trans' k1'
  have g1:H1.t.get H.nx=some (rG 55 1 (TW x) 0 false true true):=by rw[<-hH1];exact YN rfl _
  have ge1:H1.t.get qe=some ce:=by rw[k1.get _ hq (by simp)];exact ge
  have gbz:(H.new (rG 55 1 z35 0 false true true)).t.get bb=some (.row r):=by rw[WH (by omega)];exact gb
  have sf:=TL (n:=35) (b:=H.nx) (l:=z35) (vs:=TW x) (H:=H.new (rG 55 1 z35 0 false true true)) Ln xl (by decide) (by show H.ro<=_;rw[k0.ro];have:=k0.nx;omega) 55 1 false true
  rw[Ty rfl,hH1] at sf
  have gz:=λ(G:Heap)=>YN (H:=H) rfl (rG 55 1 z35 0 false true true)
  have l0: ∀G,ld1 (some (rG 55 1 (TW x) 0 false true true)) 0 G=.val (nI .i64 a) G:=λG=>by rw[X1 (by rw[xl];decide)];show OR.val (.int .i64 x.at_) G=_;rw[xa];rfl
  have l1: ∀G,ld1 (some (rG 55 1 (TW x) 0 false true true)) 1 G=.val (nI .i64 w) G:=λG=>by rw[X1 (by rw[xl];decide)];show OR.val (.int .i64 x.size) G=_;rw[xs];rfl
  rw[goT,hh] at hg
  simp(maxSteps:=4000000) (disch:=first|assumption|omega|(simp -implicitDefEqProofs only[Yr,Ys]<;>first|assumption|omega)|decide) only[t3,t8,t9,t10,d1,ge0,lC,ln,eI,gb,gbz,eL,gz,sf,hH1,g1,V7,ZG,Zz,ZK,ZT,ZP,ZS,Z9,Ya,ZO,Z8,Yc,Yb,Zx,Zt,Zs,ZU,Nat.reduceSub,Nat.reduceAdd,Nat.reduceLeDiff,Zi,Zh,Nat.reduceEqDiff,decide_true,decide_false,ZJ,Zf,Zd,YH,YJ,ZZ,ZC,Zv,ZY,ZX,ZM,Zk,Zl,Yf,ZD,Zd,Zf,Yg,ZV,Ye,U3,Yj,Zn,Zw,Zq,ZA,Zo,Zp,Zm,Zu,YW,YX,Y5,Y4,YI,Y3,Xg,ZQ,XB,Xe,XL,XM,XN,Xc,ZO,YI,ZK,LL,YU,WD,Yp,Yq,ZE,ZH,ZF,Nat.reduceEqDiff,reduceCtorEq,WE,N6]
  generalize hL:TH (LJ _) cx.fuel _ _ _=Lp
  obtain⟨oc,MR,H2,rfl,_,rfl,rfl,s1,s2,s3,s8,s9,s10,s12⟩:=WW (P:=λT=>ay H1 H.nx qe A many fr to i a S w w T H1) (Q:=TDK H1 H.nx qe A many fr to i a S w)
   (λT hi=>Vd (ay H1 H.nx qe A many fr to i a S w) (TDK H1 H.nx qe A many fr to i a S w) (λm tm H2 h=>q7 g1 ge1 l0 l1 lE hA (by omega) _ _ m tm H2 h) cx.fuel w T H1 (by omega) hi) hL
   (by exact⟨rfl,t1',t2',KW,lU,po,Lz,rfl,0,rfl,rfl,by omega⟩)
  have s1':=s1;have s2':=s2;have s3':=s3;have s8':=s8;have s9':=s9
  simp only[wR] at s8
  simp only[sK] at s9
  simp only[Df] at s10
  simp only[Ik] at s12
  cases hb:(List.range w).any (Lx A S a many) with
  |true=>
   rw[hb] at s12 hg
   rw[if_pos rfl] at hg
   by_cases h4:to=0
   ·have d5:decide (to=0)=true:=Zr h4
    rw[if_pos h4] at hg
    simp(maxSteps:=4000000) (disch:=first|assumption|omega|(simp -implicitDefEqProofs only[Yr,Ys]<;>first|assumption|omega)|decide) only[s8,s9,s10,s12,d5,ZG,Zz,ZK,ZT,ZP,ZS,Z9,Ya,ZO,Z8,Yc,Yb,Zx,Zt,Zs,ZU,Nat.reduceSub,Nat.reduceAdd,Nat.reduceLeDiff,Zi,Zh,Nat.reduceEqDiff,decide_true,decide_false,ZJ,Zf,Zd,YH,YJ,ZZ,ZC,Zv,ZY,ZX,ZM,Zk,Zl,Yf,ZD,Zd,Zf,Yg,ZV,Ye,U3,Yj,Zn,Zw,Zq,ZA,Zo,Zp,Zm,Zu,YW,YX,Y5,Y4,YI,Y3,Xg,ZQ,XB,Xe,XL,XM,XN,Xc,ZO,YI,ZK,LL,YU,WD,Yp,Yq,ZE,ZH,ZF,Nat.reduceEqDiff,reduceCtorEq,WE,N6]
    refine⟨_,_,_,rfl,?_⟩
    exact .inl ⟨rfl,m,by omega,s1',s2',s3',⟨i+1,a+w,i,i+1,rfl,rfl,rfl,by omega,by omega,hr2,hg⟩,k1⟩
   ·have d5:decide (to=0)=false:=Zj h4
    rw[if_neg h4] at hg
    simp(maxSteps:=4000000) (disch:=first|assumption|omega|(simp -implicitDefEqProofs only[Yr,Ys]<;>first|assumption|omega)|decide) only[s8,s9,s10,s12,d5,ZG,Zz,ZK,ZT,ZP,ZS,Z9,Ya,ZO,Z8,Yc,Yb,Zx,Zt,Zs,ZU,Nat.reduceSub,Nat.reduceAdd,Nat.reduceLeDiff,Zi,Zh,Nat.reduceEqDiff,decide_true,decide_false,ZJ,Zf,Zd,YH,YJ,ZZ,ZC,Zv,ZY,ZX,ZM,Zk,Zl,Yf,ZD,Zd,Zf,Yg,ZV,Ye,U3,Yj,Zn,Zw,Zq,ZA,Zo,Zp,Zm,Zu,YW,YX,Y5,Y4,YI,Y3,Xg,ZQ,XB,Xe,XL,XM,XN,Xc,ZO,YI,ZK,LL,YU,WD,Yp,Yq,ZE,ZH,ZF,Nat.reduceEqDiff,reduceCtorEq,WE,N6]
    refine⟨_,_,_,rfl,?_⟩
    exact .inl ⟨rfl,m,by omega,s1',s2',s3',⟨i+1,a+w,fr,i+1,rfl,s8',rfl,by omega,by omega,hr2,hg⟩,k1⟩
  |false=>
   rw[hb] at s12 hg
   rw[if_neg (by simp)] at hg
   simp(maxSteps:=4000000) (disch:=first|assumption|omega|(simp -implicitDefEqProofs only[Yr,Ys]<;>first|assumption|omega)|decide) only[s8,s9,s10,s12,ZG,Zz,ZK,ZT,ZP,ZS,Z9,Ya,ZO,Z8,Yc,Yb,Zx,Zt,Zs,ZU,Nat.reduceSub,Nat.reduceAdd,Nat.reduceLeDiff,Zi,Zh,Nat.reduceEqDiff,decide_true,decide_false,ZJ,Zf,Zd,YH,YJ,ZZ,ZC,Zv,ZY,ZX,ZM,Zk,Zl,Yf,ZD,Zd,Zf,Yg,ZV,Ye,U3,Yj,Zn,Zw,Zq,ZA,Zo,Zp,Zm,Zu,YW,YX,Y5,Y4,YI,Y3,Xg,ZQ,XB,Xe,XL,XM,XN,Xc,ZO,YI,ZK,LL,YU,WD,Yp,Yq,ZE,ZH,ZF,Nat.reduceEqDiff,reduceCtorEq,WE,N6]
   refine⟨_,_,_,rfl,?_⟩
   exact .inl ⟨rfl,m,by omega,s1',s2',s3',⟨i+1,a+w,fr,to,rfl,s8',s9',by omega,by omega,hr2,hg⟩,k1⟩
theorem Gj{e:Uk}(hsh:Sj e=true): ∃S:Nat,e.size=(S:Int)∧S<=16777216∧Nr 0 e.chunks=some S:=by
 unfold Sj at hsh
 simp only[Xv,decide_eq_true_eq] at hsh
 obtain⟨⟨⟨_,h5⟩,h6⟩,h8⟩:=(⟨⟨⟨hsh.1.1.1.1,hsh.1.1.1.2⟩,hsh.1.1.2⟩,hsh.2⟩:((_∧0<=e.size)∧e.size<=16777216)∧_)
 cases hr:Nr 0 e.chunks with
 |none=>rw[hr] at h8;cases h8
 |some a=>
  rw[hr] at h8
  have h8:=ZB h8
  exact⟨a,h8.symm,by omega,rfl⟩
theorem yJ{Z7:Lib}{fs:T CF}{fuel:Nat}(E:Env Z7 fs fuel){n:Nat}{cs:List AV}{e:Uk}{A:Nat}{many:Int}{H:Heap}(hs:Q7 e)(hro:H.ro<=H.nx)(he:Jk H cs e)(hsh:Sj e=true)(h1:A<=9223372036854775807):
  ∃H',Xd (LK Z7 fs fuel 14) fs fuel (n+2) 21 [.agg cs,nI .i64 A,.int .i64 many] H=.ret (.tup [nI .i64 (goT (JC A e.size.toNat many) 0 (0,0) e.chunks).1,nI .i64 (goT (JC A e.size.toNat many) 0 (0,0) e.chunks).2]) H'∧Yw H H' []:=by
 rw[XR (Xk E.n21 (.inl (by decide)) _ _) E.f21]
 obtain⟨av,dv,cv,rfl,hA,hD,hC⟩:=he
 obtain⟨S,hS,hS2,hrun⟩:=Gj hsh
 have hSt:e.size.toNat=S:=by omega
 rw[hSt]
 obtain⟨H1,hH1⟩: ∃G,H.new (rG 42 1 [.str e.mem.path,.int .i64 e.mem.kind,nI .u32 e.mem.mode,nI .u32 e.mem.uid,nI .u32 e.mem.gid,.int .i64 e.mem.time,av,dv,.str e.mem.link,.int .i64 e.size,.int .i64 e.head,cv] 0 false true true)=G:=⟨_,rfl⟩
 have k1:Yw H H1 []:=by rw[<-hH1];exact Yw.new _ _ _
 have g1:H1.t.get H.nx=some (rG 42 1 [.str e.mem.path,.int .i64 e.mem.kind,nI .u32 e.mem.mode,nI .u32 e.mem.uid,nI .u32 e.mem.gid,.int .i64 e.mem.time,av,dv,.str e.mem.link,.int .i64 e.size,.int .i64 e.head,cv] 0 false true true):=by rw[<-hH1];exact YN rfl _
 have hcl:=hs.chunks
 have lE: ∀G,ld1 (some (rG 42 1 [.str e.mem.path,.int .i64 e.mem.kind,nI .u32 e.mem.mode,nI .u32 e.mem.uid,nI .u32 e.mem.gid,.int .i64 e.mem.time,av,dv,.str e.mem.link,.int .i64 e.size,.int .i64 e.head,cv] 0 false true true)) 9 G=.val (nI .i64 S) G:=λG=>by
  rw[X1 (show 9<12 by decide)];show OR.val (.int .i64 e.size) G=_;rw[hS];rfl
 have lC: ∀G,ld1 (some (rG 42 1 [.str e.mem.path,.int .i64 e.mem.kind,nI .u32 e.mem.mode,nI .u32 e.mem.uid,nI .u32 e.mem.gid,.int .i64 e.mem.time,av,dv,.str e.mem.link,.int .i64 e.size,.int .i64 e.head,cv] 0 false true true)) 11 G=.val cv G:=λG=>by
  rw[X1 (show 11<12 by decide)];rfl
 simp(maxSteps:=4000000) (disch:=first|assumption|omega|(simp -implicitDefEqProofs only[Yr,Ys]<;>first|assumption|omega)|decide) only[Vy,hH1,ZG,Zz,ZK,ZT,ZP,ZS,Z9,Ya,ZO,Z8,Yc,Yb,Zx,Zt,Zs,ZU,Nat.reduceSub,Nat.reduceAdd,Nat.reduceLeDiff,Zi,Zh,Nat.reduceEqDiff,decide_true,decide_false,ZJ,Zf,Zd,YH,YJ,ZZ,ZC,Zv,ZY,ZX,ZM,Zk,Zl,Yf,ZD,Zd,Zf,Yg,ZV,Ye,U3,Yj,Zn,Zw,Zq,ZA,Zo,Zp,Zm,Zu,YW,YX,Y5,Y4,YI,Y3,Xg,ZQ,XB,Xe,XL,XM,XN,Xc,ZO,YI,ZK,c21,YU,WD,Yp,Yq,ZE,ZH,ZF,Nat.reduceEqDiff,reduceCtorEq,WE,N6]
 generalize hL:TH (LL _) fuel _ _ _=Lp
 obtain⟨oc,MR,H2,rfl,_,rfl,k2,t8,t9⟩:=WW (P:=λT=>ax H1 H.nx (rG 42 1 [.str e.mem.path,.int .i64 e.mem.kind,nI .u32 e.mem.mode,nI .u32 e.mem.uid,nI .u32 e.mem.gid,.int .i64 e.mem.time,av,dv,.str e.mem.link,.int .i64 e.size,.int .i64 e.head,cv] 0 false true true) e.chunks A many S e.chunks.length T H1) (Q:=TDQ H1 e.chunks A many S)
  (λT hi=>Vd (ax H1 H.nx (rG 42 1 [.str e.mem.path,.int .i64 e.mem.kind,nI .u32 e.mem.mode,nI .u32 e.mem.uid,nI .u32 e.mem.gid,.int .i64 e.mem.time,av,dv,.str e.mem.link,.int .i64 e.size,.int .i64 e.head,cv] 0 false true true) e.chunks A many S) (TDQ H1 e.chunks A many S) (λm tm H2 h=>mg hcl hs.sums hS2 h1 (by rw[<-hH1];exact Xl _) g1 lE lC (by rw[k1.ro];exact YZ hro k1.nx) (hC.keep0 k1) _ E.big _ m tm H2 h) fuel e.chunks.length T H1 (by have:=E.big;omega) hi) hL
  (by exact⟨rfl,rfl,rfl,⟨0,0,0,0,rfl,rfl,rfl,by omega,Z2 _,hrun,rfl⟩,Yw.refl _ _⟩)
 simp only[wR] at t8
 simp only[sK] at t9
 simp(maxSteps:=4000000) (disch:=first|assumption|omega|(simp -implicitDefEqProofs only[Yr,Ys]<;>first|assumption|omega)|decide) only[t8,t9,ZG,Zz,ZK,ZT,ZP,ZS,Z9,Ya,ZO,Z8,Yc,Yb,Zx,Zt,Zs,ZU,Nat.reduceSub,Nat.reduceAdd,Nat.reduceLeDiff,Zi,Zh,Nat.reduceEqDiff,decide_true,decide_false,ZJ,Zf,Zd,YH,YJ,ZZ,ZC,Zv,ZY,ZX,ZM,Zk,Zl,Yf,ZD,Zd,Zf,Yg,ZV,Ye,U3,Yj,Zn,Zw,Zq,ZA,Zo,Zp,Zm,Zu,YW,YX,Y5,Y4,YI,Y3,Xg,ZQ,XB,Xe,XL,XM,XN,Xc,ZO,YI,ZK,c21,YU,WD,Yp,Yq,ZE,ZH,ZF,Nat.reduceEqDiff,reduceCtorEq,WE,N6]
 refine⟨_,rfl,?_⟩
 exact k1.trans' k2
theorem j8{Z7:Lib}{fs:T CF}{fuel:Nat}(E:Env Z7 fs fuel){k n:Nat}(hk:15<=k){cs:List AV}{e:Uk}{A:Nat}{many:Int}{H:Heap}(hs:Q7 e)(hro:H.ro<=H.nx)(he:Jk H cs e)(hsh:Sj e=true)(h1:A<=9223372036854775807):
  Xd (LK Z7 fs fuel k) fs fuel (n+1) 21 [.agg cs,nI .i64 A,.int .i64 many] H=.ret (.tup [nI .i64 (goT (JC A e.size.toNat many) 0 (0,0) e.chunks).1,nI .i64 (goT (JC A e.size.toNat many) 0 (0,0) e.chunks).2]) H:=by
 obtain⟨H',e,g⟩:=yJ E (n:=898) (H:=H) hs hro he hsh h1
 exact Wy (r:=14) rfl rfl e g (rfl) hk
theorem kL{A S a w:Nat}{many:Int}{x:Mq}(xa:x.at_=(a:Int))(xs:x.size=(w:Int))(w1:1<=w)(hle:a+w<=S):M3 A (min many.toNat (S - A)) x=JC A S many x:=by
 have hd:JC A S many x=(List.range w).any (Lx A S a many):=by unfold JC;rw[xa,xs];rfl
 rw[hd,Um]
 unfold M3
 rw[xa,xs]
 simp only[Xv,decide_eq_true_eq,List.any_eq_true,SU]
 constructor
 ·rintro ⟨⟨h1,h2⟩,h3⟩
  refine⟨A - a,by omega,?_⟩
  unfold Lx
  simp only[Xv,decide_eq_true_eq]
  omega
 ·rintro ⟨t,ht,h⟩
  unfold Lx at h
  simp only[Xv,decide_eq_true_eq] at h
  omega
theorem sG{A S:Nat}{many:Int}: ∀{l:List Mq} {a:Nat},Nr a l=some S-> ∀(k:Nat) (p:Nat×Nat),goT (M3 A (min many.toNat (S - A))) k p l=goT (JC A S many) k p l
 |[],_,_,_,_=>rfl
 |x::l,a,h,k,p=>by
  obtain⟨w,xa,xs,w1,_,h2⟩:=KU h
  have hle:=GJ h2
  rw[goT,goT,kL xa xs w1 hle]
  exact sG h2 _ _
theorem pa{e:Uk}(hsh:Sj e=true)(A:Nat)(many:Int):goT (M3 A (min many.toNat (e.size.toNat - A))) 0 (0,0) e.chunks=goT (JC A e.size.toNat many) 0 (0,0) e.chunks:=by
 obtain⟨S,hS,_,hr⟩:=Gj hsh
 rw[show e.size.toNat=S by omega]
 exact sG hr 0 (0,0)
theorem jp{e:Uk}(h:M7 [e]=true):Sj e=true:=by
 unfold M7 EF at h
 simp only[Xv] at h
 exact h.1.1.1.1
theorem zt{Z7:Lib}{fs:T CF}{fuel:Nat}(E:Env Z7 fs fuel){n:Nat}{cs:List AV}{e:Uk}{p:List UInt8}{pb:Nat}{H:Heap}(he:Jk H cs e)(g:H.t.get pb=some (rG 9 1 [.str p] 0 false true true))(hb:pb<H.nx):
  ∃H',Xd (LK Z7 fs fuel 0) fs fuel (n+2) 66 [.agg cs,.ptr pb 0] H=.ret (.bool (decide (e.mem.path=p))) H'∧Yw H H' []:=by
 rw[XR (Xk E.n66 (.inl (by decide)) _ _) E.f66]
 obtain⟨av,dv,cv,rfl,hA,hD,hC⟩:=he
 have gb: ∀ob,(H.new ob).t.get pb=some (rG 9 1 [.str p] 0 false true true):=λob=>by rw[WH (by omega)];exact g
 have gn:=λob=>YN (H:=H) rfl ob
 simp(maxSteps:=4000000) (disch:=first|assumption|omega|(simp -implicitDefEqProofs only[Yr,Ys]<;>first|assumption|omega)|decide) only[Vy,gb,gn,X1,ZG,Zz,ZK,ZT,ZP,ZS,Z9,Ya,ZO,Z8,Yc,Yb,Zx,Zt,Zs,ZU,Nat.reduceSub,Nat.reduceAdd,Nat.reduceLeDiff,Zi,Zh,Nat.reduceEqDiff,decide_true,decide_false,ZJ,Zf,Zd,YH,YJ,ZZ,ZC,Zv,ZY,ZX,ZM,Zk,Zl,Yf,ZD,Zd,Zf,Yg,ZV,Ye,U3,Yj,Zn,Zw,Zq,ZA,Zo,Zp,Zm,Zu,YW,YX,Y5,Y4,YI,Y3,Xg,ZQ,XB,Xe,XL,XM,XN,Xc,ZO,YI,ZK,aC,YU,WD,Yp,Yq,ZE,ZH,ZF,Nat.reduceEqDiff,reduceCtorEq,WE]
 refine⟨_,rfl,?_⟩
 exact Yw.new _ _ _
theorem kD{Z7:Lib}{fs:T CF}{fuel:Nat}(E:Env Z7 fs fuel){k n:Nat}(hk:1<=k){cs:List AV}{e:Uk}{p:List UInt8}{pb:Nat}{H:Heap}(he:Jk H cs e)(g:H.t.get pb=some (rG 9 1 [.str p] 0 false true true))(hb:pb<H.nx):
  Xd (LK Z7 fs fuel k) fs fuel (n+1) 66 [.agg cs,.ptr pb 0] H=.ret (.bool (decide (e.mem.path=p))) H:=by
 obtain⟨H',e,g⟩:=zt E (n:=898) (H:=H) he g hb
 exact Wy (r:=0) rfl rfl e g (rfl) hk
structure aj(ev:AV)(L:List Uk)(pb:Nat)(p:List UInt8)(H0:Heap)(m:Nat)(tm:TM)(H:Heap):Prop where
 heap:H=H0
 t0:Z0 tm=ev
 t1:YQ tm=.func 66 [] [.ptr pb 0]
 t7:Wl tm=nI .i64 L.length
 i: ∃i,XD tm=nI .i64 i∧i+m=L.length∧ ∃j,i<=j∧j<L.length∧(L.getD j default).mem.path=p
def aU(L:List Uk)(p:List UInt8)(H0:Heap)(o:Out)(tm:TM)(H:Heap):Prop:=H=H0∧o=.ret∧ ∃j,Xh tm=nI .i64 j∧j<L.length∧(L.getD j default).mem.path=p
theorem oJ{Z7:Lib}{fs:T CF}{fuel:Nat}(E:Env Z7 fs fuel){n k:Nat}(hk:1<=k){ev:AV}{L:List Uk}(hl:L.length<=90000){p:List UInt8}{pb:Nat}{H0:Heap}(g:H0.t.get pb=some (rG 9 1 [.str p] 0 false true true))(hb:pb<H0.nx)(hN:QE H0 ev L)(y f dd q)(X0:X)(m:Nat)(tm:TM)(H:Heap)(hI:aj ev L pb p H0 m tm H):
  ∃o tm' H',GW ⟨Xd (LK Z7 fs fuel k) fs fuel (n+1),y,f,dd,q⟩ tm H X0=.ok o tm' H' X0∧((o=.normal∧ ∃k,k<m∧aj ev L pb p H0 k tm' H')∨(o≠.normal∧aU L p H0 o tm' H')):=by
 obtain⟨rfl,t0,t1,t7,i,t8,him,j,hij,hj,hp⟩:=hI
 have t0':=t0;have t1':=t1;have lR:=t7
 simp only[Cp] at t0
 simp only[JA] at t1
 simp only[sJ] at t7
 simp only[wR] at t8
 have d1:decide (i<L.length)=true:=Zr (by omega)
 have hi:i<L.length:=by omega
 obtain⟨La,hS,iv,sL⟩:=hN
 obtain⟨bb,o,r,eI,hbb,gb,eL,eE⟩:=hS.at_ (i:=i) (by omega)
 have Dh:=sL i hi
 have hlf: ∀n,pb<n->VB n (.func 66 [] [.ptr pb 0])=true:=λn hn=>by
  show cond true (cond (VB n (.ptr pb 0)) true false) false=true
  rw[Yj hn];rfl
 have e1:=λ{q}=>kD (Z7:=Z7) (fs:=fs) (fuel:=fuel) E (k:=k) (n:=q) hk (H:=H) (p:=p) (pb:=pb) Dh g hb
 by_cases hq:(L.getD i default).mem.path=p
 ·rw[Zr hq] at e1
  simp(maxSteps:=4000000) (disch:=first|assumption|omega|(simp -implicitDefEqProofs only[Yr,Ys]<;>first|assumption|omega)|decide) only[t0,t1,t7,t8,d1,eI,gb,eL,e1,hlf,ZG,Zz,ZK,ZT,ZP,ZS,Z9,Ya,ZO,Z8,Yc,Yb,Zx,Zt,Zs,ZU,Nat.reduceSub,Nat.reduceAdd,Nat.reduceLeDiff,Zi,Zh,Nat.reduceEqDiff,decide_true,decide_false,ZJ,Zf,Zd,YH,YJ,ZZ,ZC,Zv,ZY,ZX,ZM,Zk,Zl,Yf,ZD,Zd,Zf,Yg,ZV,Ye,U3,Yj,Zn,Zw,Zq,ZA,Zo,Zp,Zm,Zu,YW,YX,Y5,Y4,YI,Y3,Xg,ZQ,XB,Xe,XL,XM,XN,Xc,ZO,YI,ZK,ZQ,GW,YU,WD,Yp,Yq,ZE,ZH,ZF,Nat.reduceEqDiff,reduceCtorEq,WE]
  refine⟨_,_,_,rfl,?_⟩
  exact .inr ⟨by simp,rfl,rfl,i,rfl,hi,hq⟩
 ·rw[Zj hq] at e1
  simp(maxSteps:=4000000) (disch:=first|assumption|omega|(simp -implicitDefEqProofs only[Yr,Ys]<;>first|assumption|omega)|decide) only[t0,t1,t7,t8,d1,eI,gb,eL,e1,hlf,ZG,Zz,ZK,ZT,ZP,ZS,Z9,Ya,ZO,Z8,Yc,Yb,Zx,Zt,Zs,ZU,Nat.reduceSub,Nat.reduceAdd,Nat.reduceLeDiff,Zi,Zh,Nat.reduceEqDiff,decide_true,decide_false,ZJ,Zf,Zd,YH,YJ,ZZ,ZC,Zv,ZY,ZX,ZM,Zk,Zl,Yf,ZD,Zd,Zf,Yg,ZV,Ye,U3,Yj,Zn,Zw,Zq,ZA,Zo,Zp,Zm,Zu,YW,YX,Y5,Y4,YI,Y3,Xg,ZQ,XB,Xe,XL,XM,XN,Xc,ZO,YI,ZK,ZQ,GW,YU,WD,Yp,Yq,ZE,ZH,ZF,Nat.reduceEqDiff,reduceCtorEq,WE]
  have:i≠j:=λe=>hq (by rw[e];exact hp)
  refine⟨_,_,_,rfl,?_⟩
  exact .inl ⟨rfl,m - 1,by omega,rfl,t0',t1',lR,i+1,rfl,by omega,j,by omega,hj,hp⟩
theorem oL{Z7:Lib}{fs:T CF}{fuel:Nat}(E:Env Z7 fs fuel){n k:Nat}(hk:1<=k){ev:AV}{L:List Uk}(hl:L.length<=90000){p:List UInt8}{pb:Nat}{H:Heap}(g:H.t.get pb=some (rG 9 1 [.str p] 0 false true true))(hb:pb<H.nx)(hN:QE H ev L)(hex: ∃j,j<L.length∧(L.getD j default).mem.path=p):
  ∃j,Xd (LK Z7 fs fuel k) fs fuel (n+2) 65 [ev,.func 66 [] [.ptr pb 0]] H=.ret (nI .i64 j) H∧j<L.length∧(L.getD j default).mem.path=p:=by
 rw[XR (Xk E.n65 (.inr rfl) _ _) E.f65]
 have ln:=hN.len
 obtain⟨j,hj,hp⟩:=hex
 simp(maxSteps:=4000000) (disch:=first|assumption|omega|(simp -implicitDefEqProofs only[Yr,Ys]<;>first|assumption|omega)|decide) only[ln,ZG,Zz,ZK,ZT,ZP,ZS,Z9,Ya,ZO,Z8,Yc,Yb,Zx,Zt,Zs,ZU,Nat.reduceSub,Nat.reduceAdd,Nat.reduceLeDiff,Zi,Zh,Nat.reduceEqDiff,decide_true,decide_false,ZJ,Zf,Zd,YH,YJ,ZZ,ZC,Zv,ZY,ZX,ZM,Zk,Zl,Yf,ZD,Zd,Zf,Yg,ZV,Ye,U3,Yj,Zn,Zw,Zq,ZA,Zo,Zp,Zm,Zu,YW,YX,Y5,Y4,YI,Y3,Xg,ZQ,XB,Xe,XL,XM,XN,Xc,ZO,YI,ZK,dA,YU,WD,Yp,Yq,ZE,ZH,ZF,Nat.reduceEqDiff,reduceCtorEq,WE]
 generalize hL:TH (GW _) fuel _ _ _=Lp
 obtain⟨oc,MR,H2,rfl,_,rfl,rfl,j',t4,h4,h5⟩:=WW (P:=λT=>aj ev L pb p H L.length T H) (Q:=aU L p H)
  (λT hi=>Vd (aj ev L pb p H) (aU L p H) (λm tm H2 h=>oJ E hk hl g hb hN _ _ _ _ _ m tm H2 h) fuel L.length T H (by have:=E.big;omega) hi) hL
  (by exact⟨rfl,rfl,rfl,rfl,0,rfl,by omega,j,Zi _,hj,hp⟩)
 simp only[Es] at t4
 simp(maxSteps:=4000000) (disch:=first|assumption|omega|(simp -implicitDefEqProofs only[Yr,Ys]<;>first|assumption|omega)|decide) only[t4,ZG,Zz,ZK,ZT,ZP,ZS,Z9,Ya,ZO,Z8,Yc,Yb,Zx,Zt,Zs,ZU,Nat.reduceSub,Nat.reduceAdd,Nat.reduceLeDiff,Zi,Zh,Nat.reduceEqDiff,decide_true,decide_false,ZJ,Zf,Zd,YH,YJ,ZZ,ZC,Zv,ZY,ZX,ZM,Zk,Zl,Yf,ZD,Zd,Zf,Yg,ZV,Ye,U3,Yj,Zn,Zw,Zq,ZA,Zo,Zp,Zm,Zu,YW,YX,Y5,Y4,YI,Y3,Xg,ZQ,XB,Xe,XL,XM,XN,Xc,ZO,YI,ZK,dA,YU,WD,Yp,Yq,ZE,ZH,ZF,Nat.reduceEqDiff,reduceCtorEq,WE]
 exact⟨j',rfl,h4,h5⟩
theorem sx{Z7:Lib}{fs:T CF}{fuel:Nat}(E:Env Z7 fs fuel){n k:Nat}(hk:1<=k){ev:AV}{L:List Uk}(hl:L.length<=90000){p:List UInt8}{H:Heap}(hro:H.ro<=H.nx)(hN:QE H ev L)(hex: ∃j,j<L.length∧(L.getD j default).mem.path=p):
  ∃(e:Uk) (av dv cv:AV) (H':Heap),Xd (LK Z7 fs fuel k) fs fuel (n+3) 22 [.agg [ev],.str p] H=.ret (.tup [.agg [.str e.mem.path,.int .i64 e.mem.kind,nI .u32 e.mem.mode,nI .u32 e.mem.uid,nI .u32 e.mem.gid,.int .i64 e.mem.time,av,dv,.str e.mem.link,.int .i64 e.size,.int .i64 e.head,cv],.bool true]) H'∧e.mem.path=p∧Yw H H' []∧av.cells=[av]∧dv.cells=[dv]∧cv.cells=[cv]:=by
 rw[XR (Xk E.n22 (.inr rfl) _ _) E.f22]
 have hcv:=hN.cells
 obtain⟨H1,hH1⟩: ∃G,H.new (OP ev)=G:=⟨_,rfl⟩
 have hb1:H.new (rG 47 1 [ev] 0 false true true)=H1:=hH1
 obtain⟨H2,hH2⟩: ∃G,H1.new (rG 9 1 [.str p] 0 false true true)=G:=⟨_,rfl⟩
 obtain⟨H3,hH3⟩: ∃G,H2.new (rG 31 1 [.str [],nI .i64 0,nI .u32 0,nI .u32 0,nI .u32 0,nI .i64 0,.nils,.nils,.str [],nI .i64 0,nI .i64 0,.nils] 0 false true true)=G:=⟨_,rfl⟩
 have k1:Yw H H1 []:=by rw[<-hH1];exact Yw.new _ _ _
 have k2:Yw H H2 []:=by rw[<-hH2];exact k1.then_new _
 have k3:Yw H H3 []:=by rw[<-hH3];exact k2.then_new _
 have Kd:H1.nx=H.nx+1:=by rw[<-hH1];rfl
 have nx2:H2.nx=H.nx+1+1:=by rw[<-hH2,My,Kd]
 have nx3:H3.nx=H.nx+1+1+1:=by rw[<-hH3,My,nx2]
 have g1:H3.t.get H.nx=some (OP ev):=by rw[<-hH3,WH (by omega),<-hH2,WH (by omega),<-hH1];exact YN rfl _
 have g2:H3.t.get H1.nx=some (rG 9 1 [.str p] 0 false true true):=by rw[<-hH3,WH (by omega),<-hH2];exact YN rfl _
 have g3:H3.t.get H2.nx=some (rG 31 1 [.str [],nI .i64 0,nI .u32 0,nI .u32 0,nI .u32 0,nI .i64 0,.nils,.nils,.str [],nI .i64 0,nI .i64 0,.nils] 0 false true true):=by rw[<-hH3];exact YN rfl _
 have CI: ∀G,ld1 (some (OP ev)) 0 G=.val ev G:=λG=>by unfold OP;rw[X1 (Xl 0)];rfl
 obtain⟨j,e1,hj,hp⟩:=oL E (n:=n) hk hl (pb:=H1.nx) (H:=H3) g2 (by omega) (hN.keep k3) hex
 obtain⟨La,hS,iv,sL⟩:=hN.keep k3
 obtain⟨bb,o,r,eI,hbb,gb,eL,eE⟩:=hS.at_ (i:=j) (by omega)
 have Dh:=sL j hj
 have BG:=Dh
 obtain⟨av,dv,cv,ecs,hA,hD,hC⟩:=Dh
 rw[ecs] at eL BG
 generalize he:L.getD j default=e at*
 have dj:decide (j<0)=false:=rfl
 have sf:=TL (n:=12) (b:=H2.nx) (l:=[.str [],nI .i64 0,nI .u32 0,nI .u32 0,nI .u32 0,nI .i64 0,.nils,.nils,.str [],nI .i64 0,nI .i64 0,.nils]) (vs:=[.str e.mem.path,.int .i64 e.mem.kind,nI .u32 e.mem.mode,nI .u32 e.mem.uid,nI .u32 e.mem.gid,.int .i64 e.mem.time,av,dv,.str e.mem.link,.int .i64 e.size,.int .i64 e.head,cv]) (H:=H3) rfl rfl (by decide) (by rw[k3.ro];omega) 31 1 false true
 have rv: ∀k,rV 12 true (some (rG 31 1 [.str e.mem.path,.int .i64 e.mem.kind,nI .u32 e.mem.mode,nI .u32 e.mem.uid,nI .u32 e.mem.gid,.int .i64 e.mem.time,av,dv,.str e.mem.link,.int .i64 e.size,.int .i64 e.head,cv] 0 false true true)) 0 k=k (.agg [.str e.mem.path,.int .i64 e.mem.kind,nI .u32 e.mem.mode,nI .u32 e.mem.uid,nI .u32 e.mem.gid,.int .i64 e.mem.time,av,dv,.str e.mem.link,.int .i64 e.size,.int .i64 e.head,cv]):=λk=>yl (n:=12) (l:=[.str e.mem.path,.int .i64 e.mem.kind,nI .u32 e.mem.mode,nI .u32 e.mem.uid,nI .u32 e.mem.gid,.int .i64 e.mem.time,av,dv,.str e.mem.link,.int .i64 e.size,.int .i64 e.head,cv]) rfl k
 have hlf: ∀n,H1.nx<n->VB n (.func 66 [] [.ptr H1.nx 0])=true:=λn hn=>by
  show cond true (cond (VB n (.ptr H1.nx 0)) true false) false=true
  rw[Yj hn];rfl
 simp(maxSteps:=4000000) (disch:=first|assumption|omega|(simp -implicitDefEqProofs only[Yr,Ys]<;>first|assumption|omega)|decide) only[Vy,Bo,hcv,hb1,hH2,hH3,g1,g2,g3,CI,e1,dj,eI,gb,eL,sf,rv,hlf,ZG,Zz,ZK,ZT,ZP,ZS,Z9,Ya,ZO,Z8,Yc,Yb,Zx,Zt,Zs,ZU,Nat.reduceSub,Nat.reduceAdd,Nat.reduceLeDiff,Zi,Zh,Nat.reduceEqDiff,decide_true,decide_false,ZJ,Zf,Zd,YH,YJ,ZZ,ZC,Zv,ZY,ZX,ZM,Zk,Zl,Yf,ZD,Zd,Zf,Yg,ZV,Ye,U3,Yj,Zn,Zw,Zq,ZA,Zo,Zp,Zm,Zu,YW,YX,Y5,Y4,YI,Y3,Xg,ZQ,XB,Xe,XL,XM,XN,Xc,ZO,YI,ZK,aB,YU,WD,Yp,Yq,ZE,ZH,ZF,Nat.reduceEqDiff,reduceCtorEq,WE]
 exact⟨e,av,dv,cv,_,rfl,hp,k3.then_put (λh=>by omega),hA.cells,hD.cells,hC.cells⟩
structure LC(Hs:Heap)(q:Nat)(at_ many:Int)(w2:AV)(len i:Nat)(cv:AV)(l:List Mq)(m:Nat)(tm:TM)(H:Heap):Prop where
 t1:YQ tm=.int .i64 at_
 t2:XC tm=.int .i64 many
 t3:Xm tm=.ptr q 0
 t22:XA tm=w2
 t23:Y8 tm=nI .i64 len
 t24:XI tm=nI .i64 i
 t29:Wg tm=cv
 t30:Ws tm=nI .i64 l.length
 j: ∃j,Wd tm=nI .i64 j∧j+m=l.length
 k:Yw Hs H []
def aY(Hs:Heap)(q:Nat)(at_ many:Int)(w2:AV)(len i:Nat)(o:Out)(tm:TM)(H:Heap):Prop:=Yw Hs H []∧((o=.ret∧X5 tm=.bool true)∨(o=.exit 2∧YQ tm=.int .i64 at_∧XC tm=.int .i64 many∧Xm tm=.ptr q 0∧XA tm=w2∧Y8 tm=nI .i64 len∧XI tm=nI .i64 i))
theorem oX{Z7:Lib}{fs:T CF}{fuel k n:Nat}{Hs:Heap}{q:Nat}{at_ many:Int}{w2:AV}{len i:Nat}{cv:AV}{l:List Mq}(hl:l.length<=90000)(hs: ∀x∈l,x.sum.length=32)(hro:Hs.ro<=Hs.nx)(hN:Sz Hs 35 cv (Nq l))(hwk: ∀G,Yw Hs G []->Xd (LK Z7 fs fuel k) fs fuel (n+1) 18 [] G=.ret (.bool true) G)(y f dd qq)(X0:X)(m:Nat)(tm:TM)(H:Heap)(hI:LC Hs q at_ many w2 len i cv l m tm H):
  ∃o tm' H',J0 ⟨Xd (LK Z7 fs fuel k) fs fuel (n+1),y,f,dd,qq⟩ tm H X0=.ok o tm' H' X0∧((o=.normal∧ ∃k,k<m∧LC Hs q at_ many w2 len i cv l k tm' H')∨(o≠.normal∧aY Hs q at_ many w2 len i o tm' H')):=by
 obtain⟨t1,t2,t3,t22,t23,t24,t29,t30,⟨j,t31,hjm⟩,k0⟩:=hI
 have t1':=t1;have t2':=t2;have KW:=t3;have ED:=t22;have EE:=t23;have uJ:=t24;have ZeA:=t29;have ZeB:=t30
 simp only[dT] at t29
 simp only[dU] at t30
 simp only[dV] at t31
 cases m with
 |zero=>
  have d1:decide (j<l.length)=false:=Zj (by omega)
  simp(maxSteps:=4000000) (disch:=first|assumption|omega|(simp -implicitDefEqProofs only[Yr,Ys]<;>first|assumption|omega)|decide) only[t30,t31,d1,ZG,Zz,ZK,ZT,ZP,ZS,Z9,Ya,ZO,Z8,Yc,Yb,Zx,Zt,Zs,ZU,Nat.reduceSub,Nat.reduceAdd,Nat.reduceLeDiff,Zi,Zh,Nat.reduceEqDiff,decide_true,decide_false,ZJ,Zf,Zd,YH,YJ,ZZ,ZC,Zv,ZY,ZX,ZM,Zk,Zl,Yf,ZD,Zd,Zf,Yg,ZV,Ye,U3,Yj,Zn,Zw,Zq,ZA,Zo,Zp,Zm,Zu,YW,YX,Y5,Y4,YI,Y3,Xg,ZQ,XB,Xe,XL,XM,XN,Xc,ZO,YI,ZK,Xe,J0,YU,WD,Yp,Yq,ZE,ZH,ZF,Nat.reduceEqDiff,reduceCtorEq,WE,UF]
  refine⟨_,_,_,rfl,?_⟩
  exact .inr ⟨by simp,k0,.inr ⟨rfl,t1',t2',KW,ED,EE,uJ⟩⟩
 |succ m=>
  have d1:decide (j<l.length)=true:=Zr (by omega)
  have hi:j<l.length:=by omega
  have hN:=hN.keep0 k0
  obtain⟨bb,o,r,eI,hb,gb,eL,eE⟩:=hN.at_ (i:=j) (by rw[TX];omega)
  rw[KL hi] at eL
  have hsum:(l.getD j default).sum.length=32:=hs _ (by rw[ZN,ZW hi];exact Vc hi)
  generalize hx:l.getD j default=x at*
  have xl:(TW x).length=35:=by unfold TW;simp[hsum]
  obtain⟨H1,hH1⟩: ∃G,H.new (rG 55 1 (TW x) 0 false true true)=G:=⟨_,rfl⟩
  have k1:Yw Hs H1 []:=by rw[<-hH1];exact k0.then_new _
  have g1:H1.t.get H.nx=some (rG 55 1 (TW x) 0 false true true):=by rw[<-hH1];exact YN rfl _
  have gbz:(H.new (rG 55 1 z35 0 false true true)).t.get bb=some (.row r):=by rw[WH (by omega)];exact gb
  have sf:=TL (n:=35) (b:=H.nx) (l:=z35) (vs:=TW x) (H:=H.new (rG 55 1 z35 0 false true true)) Ln xl (by decide) (by show H.ro<=_;rw[k0.ro];have:=k0.nx;omega) 55 1 false true
  rw[Ty rfl,hH1] at sf
  have gz:=λ(G:Heap)=>YN (H:=H) rfl (rG 55 1 z35 0 false true true)
  have l0: ∀G,ld1 (some (rG 55 1 (TW x) 0 false true true)) 0 G=.val (.int .i64 x.at_) G:=λG=>by rw[X1 (by rw[xl];decide)];rfl
  have l1: ∀G,ld1 (some (rG 55 1 (TW x) 0 false true true)) 1 G=.val (.int .i64 x.size) G:=λG=>by rw[X1 (by rw[xl];decide)];rfl
  have wk:=hwk H1 k1
  by_cases h1:((300:Nat):Int)<x.size
  ·have d2:decide (((300:Nat):Int)<x.size)=true:=Zr h1
   simp(maxSteps:=4000000) (disch:=first|assumption|omega|(simp -implicitDefEqProofs only[Yr,Ys]<;>first|assumption|omega)|decide) only[t29,t30,t31,d1,eI,gb,gbz,eL,gz,sf,hH1,g1,l0,l1,V7,d2,wk,ZG,Zz,ZK,ZT,ZP,ZS,Z9,Ya,ZO,Z8,Yc,Yb,Zx,Zt,Zs,ZU,Nat.reduceSub,Nat.reduceAdd,Nat.reduceLeDiff,Zi,Zh,Nat.reduceEqDiff,decide_true,decide_false,ZJ,Zf,Zd,YH,YJ,ZZ,ZC,Zv,ZY,ZX,ZM,Zk,Zl,Yf,ZD,Zd,Zf,Yg,ZV,Ye,U3,Yj,Zn,Zw,Zq,ZA,Zo,Zp,Zm,Zu,YW,YX,Y5,Y4,YI,Y3,Xg,ZQ,XB,Xe,XL,XM,XN,Xc,ZO,YI,ZK,Xe,J0,YU,WD,Yp,Yq,ZE,ZH,ZF,Nat.reduceEqDiff,reduceCtorEq,WE,UF]
   refine⟨_,_,_,rfl,?_⟩
   exact .inr ⟨by simp,k1,.inl ⟨rfl,rfl⟩⟩
  have d2:decide (((300:Nat):Int)<x.size)=false:=Zj h1
  by_cases h2:x.size<((0:Nat):Int)
  ·have d3:decide (x.size<((0:Nat):Int))=true:=Zr h2
   simp(maxSteps:=4000000) (disch:=first|assumption|omega|(simp -implicitDefEqProofs only[Yr,Ys]<;>first|assumption|omega)|decide) only[t29,t30,t31,d1,eI,gb,gbz,eL,gz,sf,hH1,g1,l0,l1,V7,d2,d3,wk,ZG,Zz,ZK,ZT,ZP,ZS,Z9,Ya,ZO,Z8,Yc,Yb,Zx,Zt,Zs,ZU,Nat.reduceSub,Nat.reduceAdd,Nat.reduceLeDiff,Zi,Zh,Nat.reduceEqDiff,decide_true,decide_false,ZJ,Zf,Zd,YH,YJ,ZZ,ZC,Zv,ZY,ZX,ZM,Zk,Zl,Yf,ZD,Zd,Zf,Yg,ZV,Ye,U3,Yj,Zn,Zw,Zq,ZA,Zo,Zp,Zm,Zu,YW,YX,Y5,Y4,YI,Y3,Xg,ZQ,XB,Xe,XL,XM,XN,Xc,ZO,YI,ZK,Xe,J0,YU,WD,Yp,Yq,ZE,ZH,ZF,Nat.reduceEqDiff,reduceCtorEq,WE,UF]
   refine⟨_,_,_,rfl,?_⟩
   exact .inr ⟨by simp,k1,.inl ⟨rfl,rfl⟩⟩
  have d3:decide (x.size<((0:Nat):Int))=false:=Zj h2
  by_cases h3:((1073741824:Nat):Int)<x.at_
  ·have d4:decide (((1073741824:Nat):Int)<x.at_)=true:=Zr h3
   simp(maxSteps:=4000000) (disch:=first|assumption|omega|(simp -implicitDefEqProofs only[Yr,Ys]<;>first|assumption|omega)|decide) only[t29,t30,t31,d1,eI,gb,gbz,eL,gz,sf,hH1,g1,l0,l1,V7,d2,d3,d4,wk,ZG,Zz,ZK,ZT,ZP,ZS,Z9,Ya,ZO,Z8,Yc,Yb,Zx,Zt,Zs,ZU,Nat.reduceSub,Nat.reduceAdd,Nat.reduceLeDiff,Zi,Zh,Nat.reduceEqDiff,decide_true,decide_false,ZJ,Zf,Zd,YH,YJ,ZZ,ZC,Zv,ZY,ZX,ZM,Zk,Zl,Yf,ZD,Zd,Zf,Yg,ZV,Ye,U3,Yj,Zn,Zw,Zq,ZA,Zo,Zp,Zm,Zu,YW,YX,Y5,Y4,YI,Y3,Xg,ZQ,XB,Xe,XL,XM,XN,Xc,ZO,YI,ZK,Xe,J0,YU,WD,Yp,Yq,ZE,ZH,ZF,Nat.reduceEqDiff,reduceCtorEq,WE,UF]
   refine⟨_,_,_,rfl,?_⟩
   exact .inr ⟨by simp,k1,.inl ⟨rfl,rfl⟩⟩
  have d4:decide (((1073741824:Nat):Int)<x.at_)=false:=Zj h3
  by_cases h4:x.at_<((0:Nat):Int)
  ·have d5:decide (x.at_<((0:Nat):Int))=true:=Zr h4
   simp(maxSteps:=4000000) (disch:=first|assumption|omega|(simp -implicitDefEqProofs only[Yr,Ys]<;>first|assumption|omega)|decide) only[t29,t30,t31,d1,eI,gb,gbz,eL,gz,sf,hH1,g1,l0,l1,V7,d2,d3,d4,d5,wk,ZG,Zz,ZK,ZT,ZP,ZS,Z9,Ya,ZO,Z8,Yc,Yb,Zx,Zt,Zs,ZU,Nat.reduceSub,Nat.reduceAdd,Nat.reduceLeDiff,Zi,Zh,Nat.reduceEqDiff,decide_true,decide_false,ZJ,Zf,Zd,YH,YJ,ZZ,ZC,Zv,ZY,ZX,ZM,Zk,Zl,Yf,ZD,Zd,Zf,Yg,ZV,Ye,U3,Yj,Zn,Zw,Zq,ZA,Zo,Zp,Zm,Zu,YW,YX,Y5,Y4,YI,Y3,Xg,ZQ,XB,Xe,XL,XM,XN,Xc,ZO,YI,ZK,Xe,J0,YU,WD,Yp,Yq,ZE,ZH,ZF,Nat.reduceEqDiff,reduceCtorEq,WE,UF]
   refine⟨_,_,_,rfl,?_⟩
   exact .inr ⟨by simp,k1,.inl ⟨rfl,rfl⟩⟩
  have d5:decide (x.at_<((0:Nat):Int))=false:=Zj h4
  simp(maxSteps:=4000000) (disch:=first|assumption|omega|(simp -implicitDefEqProofs only[Yr,Ys]<;>first|assumption|omega)|decide) only[t29,t30,t31,d1,eI,gb,gbz,eL,gz,sf,hH1,g1,l0,l1,V7,d2,d3,d4,d5,ZG,Zz,ZK,ZT,ZP,ZS,Z9,Ya,ZO,Z8,Yc,Yb,Zx,Zt,Zs,ZU,Nat.reduceSub,Nat.reduceAdd,Nat.reduceLeDiff,Zi,Zh,Nat.reduceEqDiff,decide_true,decide_false,ZJ,Zf,Zd,YH,YJ,ZZ,ZC,Zv,ZY,ZX,ZM,Zk,Zl,Yf,ZD,Zd,Zf,Yg,ZV,Ye,U3,Yj,Zn,Zw,Zq,ZA,Zo,Zp,Zm,Zu,YW,YX,Y5,Y4,YI,Y3,Xg,ZQ,XB,Xe,XL,XM,XN,Xc,ZO,YI,ZK,Xe,J0,YU,WD,Yp,Yq,ZE,ZH,ZF,Nat.reduceEqDiff,reduceCtorEq,WE,UF]
  refine⟨_,_,_,rfl,?_⟩
  exact .inl ⟨rfl,m,by omega,t1',t2',KW,ED,EE,uJ,ZeA,ZeB,⟨j+1,rfl,by omega⟩,k1⟩
structure LE(Hs:Heap)(q:Nat)(at_ many:Int)(w2:AV)(L:List Uk)(m:Nat)(tm:TM)(H:Heap):Prop where
 t1:YQ tm=.int .i64 at_
 t2:XC tm=.int .i64 many
 t3:Xm tm=.ptr q 0
 t22:XA tm=w2
 t23:Y8 tm=nI .i64 L.length
 i: ∃i,XI tm=nI .i64 i∧i+m=L.length
 k:Yw Hs H []
def aZ(Hs:Heap)(q:Nat)(at_ many:Int)(o:Out)(tm:TM)(H:Heap):Prop:=Yw Hs H []∧((o=.ret∧X5 tm=.bool true)∨(o=.exit 0∧YQ tm=.int .i64 at_∧XC tm=.int .i64 many∧Xm tm=.ptr q 0))
theorem oY{Z7:Lib}{fs:T CF}{fuel:Nat}(E:Env Z7 fs fuel){k n:Nat}{Hs:Heap}{q:Nat}{at_ many:Int}{w2:AV}{L:List Uk}(hl:L.length<=90000)(hsh: ∀i,i<L.length->Q7 (L.getD i default))(hro:Hs.ro<=Hs.nx)(hN:QE Hs w2 L)(hwk: ∀G,Yw Hs G []->Xd (LK Z7 fs fuel k) fs fuel (n+1) 18 [] G=.ret (.bool true) G)(y f qq)(X0:X)(m:Nat)(tm:TM)(H:Heap)(hI:LE Hs q at_ many w2 L m tm H):
  ∃o tm' H',EK ⟨Xd (LK Z7 fs fuel k) fs fuel (n+1),y,f,fuel,qq⟩ tm H X0=.ok o tm' H' X0∧((o=.normal∧ ∃k,k<m∧LE Hs q at_ many w2 L k tm' H')∨(o≠.normal∧aZ Hs q at_ many o tm' H')):=by
 obtain⟨t1,t2,t3,t22,t23,⟨i,t24,him⟩,k0⟩:=hI
 have t1':=t1;have t2':=t2;have KW:=t3;have ED:=t22;have EE:=t23;have uJ:=t24
 simp only[mU] at t22
 simp only[mV] at t23
 simp only[xc] at t24
 cases m with
 |zero=>
  have d1:decide (i<L.length)=false:=Zj (by omega)
  simp(maxSteps:=4000000) (disch:=first|assumption|omega|(simp -implicitDefEqProofs only[Yr,Ys]<;>first|assumption|omega)|decide) only[t23,t24,d1,ZG,Zz,ZK,ZT,ZP,ZS,Z9,Ya,ZO,Z8,Yc,Yb,Zx,Zt,Zs,ZU,Nat.reduceSub,Nat.reduceAdd,Nat.reduceLeDiff,Zi,Zh,Nat.reduceEqDiff,decide_true,decide_false,ZJ,Zf,Zd,YH,YJ,ZZ,ZC,Zv,ZY,ZX,ZM,Zk,Zl,Yf,ZD,Zd,Zf,Yg,ZV,Ye,U3,Yj,Zn,Zw,Zq,ZA,Zo,Zp,Zm,Zu,YW,YX,Y5,Y4,YI,Y3,Xg,ZQ,XB,Xe,XL,XM,XN,Xc,ZO,YI,ZK,Xe,EK,YU,WD,Yp,Yq,ZE,ZH,ZF,Nat.reduceEqDiff,reduceCtorEq,WE,UF]
  refine⟨_,_,_,rfl,?_⟩
  exact .inr ⟨by simp,k0,.inr ⟨rfl,t1',t2',KW⟩⟩
 |succ m=>
  have d1:decide (i<L.length)=true:=Zr (by omega)
  have hi:i<L.length:=by omega
  obtain⟨La,hS,iv,sL⟩:=hN.keep k0
  obtain⟨bb,o,r,eI,hb,gb,eL,eE⟩:=hS.at_ (i:=i) (by omega)
  have Dh:=sL i hi
  have Gs:=hsh i hi
  obtain⟨e,he⟩: ∃e,L.getD i default=e:=⟨_,rfl⟩
  rw[he] at Dh Gs
  obtain⟨av,dv,cv,ecs,hA,hD,hC⟩:=Dh
  rw[ecs] at eL
  have cvA:=hA.cells
  have aE:=hD.cells
  have cvC:=hC.cells
  have lcc:=λG=>hC.len G
  rw[TX] at lcc
  obtain⟨H1,hH1⟩: ∃G,H.new (rG 42 1 [.str e.mem.path,.int .i64 e.mem.kind,nI .u32 e.mem.mode,nI .u32 e.mem.uid,nI .u32 e.mem.gid,.int .i64 e.mem.time,av,dv,.str e.mem.link,.int .i64 e.size,.int .i64 e.head,cv] 0 false true true)=G:=⟨_,rfl⟩
  have k1:Yw H H1 []:=by rw[<-hH1];exact Yw.new _ _ _
  have El:Yw Hs H1 []:=k0.trans' k1
  have g5:H1.t.get H.nx=some (rG 42 1 [.str e.mem.path,.int .i64 e.mem.kind,nI .u32 e.mem.mode,nI .u32 e.mem.uid,nI .u32 e.mem.gid,.int .i64 e.mem.time,av,dv,.str e.mem.link,.int .i64 e.size,.int .i64 e.head,cv] 0 false true true):=by rw[<-hH1];exact YN rfl _
  have gbz: ∀ob,(H.new ob).t.get bb=some (.row r):=λob=>by rw[WH (by omega)];exact gb
  have sf:=TL (n:=12) (b:=H.nx) (l:=[.str [],nI .i64 0,nI .u32 0,nI .u32 0,nI .u32 0,nI .i64 0,.nils,.nils,.str [],nI .i64 0,nI .i64 0,.nils]) (vs:=[.str e.mem.path,.int .i64 e.mem.kind,nI .u32 e.mem.mode,nI .u32 e.mem.uid,nI .u32 e.mem.gid,.int .i64 e.mem.time,av,dv,.str e.mem.link,.int .i64 e.size,.int .i64 e.head,cv]) (H:=H.new (rG 42 1 [.str [],nI .i64 0,nI .u32 0,nI .u32 0,nI .u32 0,nI .i64 0,.nils,.nils,.str [],nI .i64 0,nI .i64 0,.nils] 0 false true true)) rfl rfl (by decide) (by show H.ro<=_;rw[k0.ro];have:=k0.nx;omega) 42 1 false true
  rw[Ty rfl,hH1] at sf
  have gz:=λ(ob:Obj)=>YN (H:=H) rfl ob
  have hcl:=Gs.chunks
  simp(maxSteps:=4000000) (disch:=first|assumption|omega|(simp -implicitDefEqProofs only[Yr,Ys]<;>first|assumption|omega)|decide) only[t22,t23,t24,d1,eI,gb,gbz,eL,gz,sf,hH1,g5,lcc,X1,VQ,ZG,Zz,ZK,ZT,ZP,ZS,Z9,Ya,ZO,Z8,Yc,Yb,Zx,Zt,Zs,ZU,Nat.reduceSub,Nat.reduceAdd,Nat.reduceLeDiff,Zi,Zh,Nat.reduceEqDiff,decide_true,decide_false,ZJ,Zf,Zd,YH,YJ,ZZ,ZC,Zv,ZY,ZX,ZM,Zk,Zl,Yf,ZD,Zd,Zf,Yg,ZV,Ye,U3,Yj,Zn,Zw,Zq,ZA,Zo,Zp,Zm,Zu,YW,YX,Y5,Y4,YI,Y3,Xg,ZQ,XB,Xe,XL,XM,XN,Xc,ZO,YI,ZK,Xe,EK,YU,WD,Yp,Yq,ZE,ZH,ZF,Nat.reduceEqDiff,reduceCtorEq,WE,UF]
  generalize hL:TH (J0 _) fuel _ _ _=Lp
  obtain⟨oc,MR,H2,rfl,_,k2,z⟩:=WW (P:=λT=>LC H1 q at_ many w2 L.length i cv e.chunks e.chunks.length T H1) (Q:=aY H1 q at_ many w2 L.length i)
   (λT hi=>Vd (LC H1 q at_ many w2 L.length i cv e.chunks) (aY H1 q at_ many w2 L.length i) (λm tm H2 h=>oX hcl Gs.sums (by rw[El.ro];exact YZ hro El.nx) (hC.keep0 k1) (λG hG=>hwk G (El.trans' hG)) _ _ _ _ _ m tm H2 h) fuel e.chunks.length T H1 (by have:=E.big;omega) hi) hL
   (by exact⟨t1',t2',KW,ED,EE,uJ,rfl,rfl,⟨0,rfl,by omega⟩,Yw.refl _ _⟩)
  have Fw:=El.trans' k2
  rcases z with⟨rfl,s6⟩|⟨rfl,s1,s2,s3,s22,s23,s24⟩
  ·simp only[Fq] at s6
   refine⟨_,_,_,rfl,?_⟩
   exact .inr ⟨by simp,Fw,.inl ⟨rfl,by simp only[Fq];exact s6⟩⟩
  ·have s24':=s24
   simp only[xc] at s24
   simp(maxSteps:=4000000) (disch:=first|assumption|omega|(simp -implicitDefEqProofs only[Yr,Ys]<;>first|assumption|omega)|decide) only[s24,ZG,Zz,ZK,ZT,ZP,ZS,Z9,Ya,ZO,Z8,Yc,Yb,Zx,Zt,Zs,ZU,Nat.reduceSub,Nat.reduceAdd,Nat.reduceLeDiff,Zi,Zh,Nat.reduceEqDiff,decide_true,decide_false,ZJ,Zf,Zd,YH,YJ,ZZ,ZC,Zv,ZY,ZX,ZM,Zk,Zl,Yf,ZD,Zd,Zf,Yg,ZV,Ye,U3,Yj,Zn,Zw,Zq,ZA,Zo,Zp,Zm,Zu,YW,YX,Y5,Y4,YI,Y3,Xg,ZQ,XB,Xe,XL,XM,XN,Xc,ZO,YI,ZK,Xe,EK,YU,WD,Yp,Yq,ZE,ZH,ZF,Nat.reduceEqDiff,reduceCtorEq,WE,UF]
   refine⟨_,_,_,rfl,?_⟩
   exact .inl ⟨rfl,m,by omega,s1,s2,s3,s22,s23,⟨i+1,rfl,by omega⟩,Fw⟩
structure L2(Hs:Heap)(q:Nat)(at_ many:Int)(w:AV)(L:List Uk)(m:Nat)(tm:TM)(H:Heap):Prop where
 t1:YQ tm=.int .i64 at_
 t2:XC tm=.int .i64 many
 t3:Xm tm=.ptr q 0
 t57:Ub tm=w
 t58:VD tm=nI .i64 L.length
 i: ∃i,Uy tm=nI .i64 i∧i+m=L.length
 k:Yw Hs H []
def aW(Hs:Heap)(o:Out)(tm:TM)(H:Heap):Prop:=o=.exit 4∧Yw Hs H []
theorem oT{Z7:Lib}{fs:T CF}{fuel:Nat}(E:Env Z7 fs fuel){n:Nat}{Hs:Heap}{q:Nat}{at_ many:Int}{w:AV}{L:List Uk}(hl:L.length<=90000)(hsh: ∀i,i<L.length->Q7 (L.getD i default))(hro:Hs.ro<=Hs.nx)(gP:Ob Hs)(hq:q<Hs.nx)(gq:Hs.t.get q=some (OP w))(hN:QE Hs w L)(h1:L7 at_)(h2:L7 many)(y f qq)(X0:X)(m:Nat)(tm:TM)(H:Heap)(hI:L2 Hs q at_ many w L m tm H):
  ∃o tm' H',EL ⟨Xd (LK Z7 fs fuel 15) fs fuel (n+4),y,f,fuel,qq⟩ tm H X0=.ok o tm' H' X0∧((o=.normal∧ ∃k,k<m∧L2 Hs q at_ many w L k tm' H')∨(o≠.normal∧aW Hs o tm' H')):=by
 obtain⟨t1,t2,t3,t57,t58,⟨i,t59,him⟩,k0⟩:=hI
 have t1':=t1;have t2':=t2;have KW:=t3;have qZ:=t57;have mf:=t58;have b7:=t59
 simp only[JA] at t1
 simp only[K0] at t2
 simp only[Fp] at t3
 simp only[mW] at t57
 simp only[sI] at t58
 simp only[mX] at t59
 cases m with
 |zero=>
  have d1:decide (i<L.length)=false:=Zj (by omega)
  simp(maxSteps:=4000000) (disch:=first|assumption|omega|(simp -implicitDefEqProofs only[Yr,Ys]<;>first|assumption|omega)|decide) only[t58,t59,d1,ZG,Zz,ZK,ZT,ZP,ZS,Z9,Ya,ZO,Z8,Yc,Yb,Zx,Zt,Zs,ZU,Nat.reduceSub,Nat.reduceAdd,Nat.reduceLeDiff,Zi,Zh,Nat.reduceEqDiff,decide_true,decide_false,ZJ,Zf,Zd,YH,YJ,ZZ,ZC,Zv,ZY,ZX,ZM,Zk,Zl,Yf,ZD,Zd,Zf,Yg,ZV,Ye,U3,Yj,Zn,Zw,Zq,ZA,Zo,Zp,Zm,Zu,YW,YX,Y5,Y4,YI,Y3,Xg,ZQ,XB,Xe,XL,XM,XN,Xc,ZO,YI,ZK,Xe,EL,YU,WD,Yp,Yq,ZE,ZH,ZF,Nat.reduceEqDiff,reduceCtorEq,WE,UF,N6,DZ]
  refine⟨_,_,_,rfl,?_⟩
  exact .inr ⟨by simp,rfl,k0⟩
 |succ m=>
  have d1:decide (i<L.length)=true:=Zr (by omega)
  have hi:i<L.length:=by omega
  obtain⟨La,hS,iv,sL⟩:=hN.keep k0
  obtain⟨bb,o,r,eI,hb,gb,eL,eE⟩:=hS.at_ (i:=i) (by omega)
  have Dh:=sL i hi
  have Gs:=hsh i hi
  obtain⟨e,he⟩: ∃e,L.getD i default=e:=⟨_,rfl⟩
  have hex: ∃j,j<L.length∧(L.getD j default).mem.path=e.mem.path:=⟨i,hi,by rw[he]⟩
  rw[he] at Dh Gs
  have BG:=Dh
  obtain⟨av,dv,cv,ecs,hA,hD,hC⟩:=Dh
  rw[ecs] at eL BG
  have cvA:=hA.cells
  have aE:=hD.cells
  have cvC:=hC.cells
  have n0:=k0.nx
  have roH:H.ro<=H.nx:=by rw[k0.ro];omega
  obtain⟨H1,hH1⟩: ∃G,H.new (rG 31 1 [.str e.mem.path,.int .i64 e.mem.kind,nI .u32 e.mem.mode,nI .u32 e.mem.uid,nI .u32 e.mem.gid,.int .i64 e.mem.time,av,dv,.str e.mem.link,.int .i64 e.size,.int .i64 e.head,cv] 0 false true true)=G:=⟨_,rfl⟩
  have k1:Yw H H1 []:=by rw[<-hH1];exact Yw.new _ _ _
  have El:Yw Hs H1 []:=k0.trans' k1
  have Kd:H1.nx=H.nx+1:=by rw[<-hH1];rfl
  have g5:H1.t.get H.nx=some (rG 31 1 [.str e.mem.path,.int .i64 e.mem.kind,nI .u32 e.mem.mode,nI .u32 e.mem.uid,nI .u32 e.mem.gid,.int .i64 e.mem.time,av,dv,.str e.mem.link,.int .i64 e.size,.int .i64 e.head,cv] 0 false true true):=by rw[<-hH1];exact YN rfl _
  have gbz: ∀ob,(H.new ob).t.get bb=some (.row r):=λob=>by rw[WH (by omega)];exact gb
  have sf:=TL (n:=12) (b:=H.nx) (l:=[.str [],nI .i64 0,nI .u32 0,nI .u32 0,nI .u32 0,nI .i64 0,.nils,.nils,.str [],nI .i64 0,nI .i64 0,.nils]) (vs:=[.str e.mem.path,.int .i64 e.mem.kind,nI .u32 e.mem.mode,nI .u32 e.mem.uid,nI .u32 e.mem.gid,.int .i64 e.mem.time,av,dv,.str e.mem.link,.int .i64 e.size,.int .i64 e.head,cv]) (H:=H.new (rG 31 1 [.str [],nI .i64 0,nI .u32 0,nI .u32 0,nI .u32 0,nI .i64 0,.nils,.nils,.str [],nI .i64 0,nI .i64 0,.nils] 0 false true true)) rfl rfl (by decide) (by show H.ro<=_;exact roH) 31 1 false true
  rw[Ty rfl,hH1] at sf
  have gz:=λ(ob:Obj)=>YN (H:=H) rfl ob
  have bs: ∀G,ON 31 12 1 [.str [],nI .i64 0,nI .u32 0,nI .u32 0,nI .u32 0,nI .i64 0,.nils,.nils,.str [],nI .i64 0,nI .i64 0,.nils] [(0,12,.agg [.str e.mem.path,.int .i64 e.mem.kind,nI .u32 e.mem.mode,nI .u32 e.mem.uid,nI .u32 e.mem.gid,.int .i64 e.mem.time,av,dv,.str e.mem.link,.int .i64 e.size,.int .i64 e.head,cv])] G=.val (.slice G.nx 0 1 none) (G.new (rG 31 12 [.str e.mem.path,.int .i64 e.mem.kind,nI .u32 e.mem.mode,nI .u32 e.mem.uid,nI .u32 e.mem.gid,.int .i64 e.mem.time,av,dv,.str e.mem.link,.int .i64 e.size,.int .i64 e.head,cv] 0 false true true)):=λ_=>rfl
  obtain⟨H2,hH2⟩: ∃G,H1.new (rG 31 12 [.str e.mem.path,.int .i64 e.mem.kind,nI .u32 e.mem.mode,nI .u32 e.mem.uid,nI .u32 e.mem.gid,.int .i64 e.mem.time,av,dv,.str e.mem.link,.int .i64 e.size,.int .i64 e.head,cv] 0 false true true)=G:=⟨_,rfl⟩
  have k2':Yw H1 H2 []:=by rw[<-hH2];exact Yw.new _ _ _
  have Fw:Yw Hs H2 []:=El.trans' k2'
  have kH2:Yw H H2 []:=k1.trans' k2'
  have nx2:H2.nx=H.nx+1+1:=by rw[<-hH2,My,Kd]
  have g52:H2.t.get H.nx=some (rG 31 1 [.str e.mem.path,.int .i64 e.mem.kind,nI .u32 e.mem.mode,nI .u32 e.mem.uid,nI .u32 e.mem.gid,.int .i64 e.mem.time,av,dv,.str e.mem.link,.int .i64 e.size,.int .i64 e.head,cv] 0 false true true):=by rw[k2'.get _ (by omega) (by simp)];exact g5
  have gs2:H2.t.get H1.nx=some (rG 31 12 [.str e.mem.path,.int .i64 e.mem.kind,nI .u32 e.mem.mode,nI .u32 e.mem.uid,nI .u32 e.mem.gid,.int .i64 e.mem.time,av,dv,.str e.mem.link,.int .i64 e.size,.int .i64 e.head,cv] 0 false true true):=by rw[<-hH2];exact YN rfl _
  have tf:H2.t.get q=some (OP w):=by rw[Fw.get _ hq (by simp)];exact gq
  have b1: ∀v G,LI [.nils] [(0,1,.slice v 0 1 none)] G=.val (.agg [.slice v 0 1 none]) G:=λ_ _=>rfl
  have ZdI:QE H2 (.slice H1.nx 0 1 none) [e]:=by
   refine⟨[[.str e.mem.path,.int .i64 e.mem.kind,nI .u32 e.mem.mode,nI .u32 e.mem.uid,nI .u32 e.mem.gid,.int .i64 e.mem.time,av,dv,.str e.mem.link,.int .i64 e.size,.int .i64 e.head,cv]],.inr (Sl.of_rG (ls:=[[.str e.mem.path,.int .i64 e.mem.kind,nI .u32 e.mem.mode,nI .u32 e.mem.uid,nI .u32 e.mem.gid,.int .i64 e.mem.time,av,dv,.str e.mem.link,.int .i64 e.size,.int .i64 e.head,cv]]) gs2 (by rw[nx2];omega) (λl hl=>by rw[YM.1 hl];rfl)),rfl,λj hj=>?_⟩
   obtain rfl:j=0:=by simpa using hj
   exact BG.keep kH2
  have em:=λ{j}=>j6 (Z7:=Z7) (fs:=fs) (fuel:=fuel) E (k:=15) (n:=j) (by decide) (ev:=.slice H1.nx 0 1 none) (L:=[e]) (H:=H2) (by show 1<=90000;decide) (λj hj=>by
   obtain rfl:j=0:=by simpa using hj
   exact Gs) (gP.keep0 Fw) ZdI
  cases hm:M7 [e] with
  |false=>
   rw[hm] at em
   simp(maxSteps:=4000000) (disch:=first|assumption|omega|(simp -implicitDefEqProofs only[Yr,Ys]<;>first|assumption|omega)|decide) only[t1,t2,t3,t57,t58,t59,d1,eI,gb,gbz,eL,gz,sf,hH1,g5,bs,b1,hH2,g52,em,X1,VQ,Mi,M8,VC,Qn,ZG,Zz,ZK,ZT,ZP,ZS,Z9,Ya,ZO,Z8,Yc,Yb,Zx,Zt,Zs,ZU,Nat.reduceSub,Nat.reduceAdd,Nat.reduceLeDiff,Zi,Zh,Nat.reduceEqDiff,decide_true,decide_false,ZJ,Zf,Zd,YH,YJ,ZZ,ZC,Zv,ZY,ZX,ZM,Zk,Zl,Yf,ZD,Zd,Zf,Yg,ZV,Ye,U3,Yj,Zn,Zw,Zq,ZA,Zo,Zp,Zm,Zu,YW,YX,Y5,Y4,YI,Y3,Xg,ZQ,XB,Xe,XL,XM,XN,Xc,ZO,YI,ZK,Xe,EL,YU,WD,Yp,Yq,ZE,ZH,ZF,Nat.reduceEqDiff,reduceCtorEq,WE,UF,N6,DZ]
   refine⟨_,_,_,rfl,?_⟩
   exact .inl ⟨rfl,m,by omega,t1',t2',KW,qZ,mf,⟨i+1,rfl,by omega⟩,Fw⟩
  |true=>
   rw[hm] at em
   have hs1:=jp hm
   have ep:=λ{j}=>j9 (Z7:=Z7) (fs:=fs) (fuel:=fuel) E (k:=15) (n:=j) (by decide) (cs:=[.str e.mem.path,.int .i64 e.mem.kind,nI .u32 e.mem.mode,nI .u32 e.mem.uid,nI .u32 e.mem.gid,.int .i64 e.mem.time,av,dv,.str e.mem.link,.int .i64 e.size,.int .i64 e.head,cv]) (e:=e) (at_:=at_) (many:=many) (H:=H2) Gs (by rw[Fw.ro];have:=Fw.nx;omega) (BG.keep kH2) hs1 h1 h2
   obtain⟨w3,H3,eo,hw3,k3⟩:=of_run E (k0:=15) (n:=n+3) (ev:=w) (L:=L) (H:=H2) hl hsh (by rw[Fw.ro];have:=Fw.nx;omega) (hN.keep Fw)
   have Cw:=Fw.trans' k3
   obtain⟨Lb,hS3,hLb,hEB⟩:=hw3
   obtain⟨b3,o3,r3,eI3,hb3,pj,eL3,_⟩:=hS3.at_ (i:=i) (by omega)
   have hE3:=hEB i hi
   rw[he] at hE3
   have ed:=λ{j}=>j8 (Z7:=Z7) (fs:=fs) (fuel:=fuel) E (k:=15) (n:=j) (by decide) (cs:=Lb.getD i []) (e:=e) (A:=at_.toNat) (many:=many) (H:=H3) Gs (by rw[Cw.ro];have:=Cw.nx;omega) hE3 hs1 (by have:=h1.2;omega)
   rw[<-pa hs1] at ed
   generalize hf:(goT (M3 at_.toNat (min many.toNat (e.size.toNat - at_.toNat))) 0 (0,0) e.chunks).1=f1 at ep ed
   generalize ht:(goT (M3 at_.toNat (min many.toNat (e.size.toNat - at_.toNat))) 0 (0,0) e.chunks).2=f2 at ep ed
   have mx:=λG=>Is at_ G
   have dn: ∀x:Nat,decide (x≠x)=false:=λx=>Zj (by simp)
   have dn1:=dn f1
   have dn2:=dn f2
   have g53:H3.t.get H.nx=some (rG 31 1 [.str e.mem.path,.int .i64 e.mem.kind,nI .u32 e.mem.mode,nI .u32 e.mem.uid,nI .u32 e.mem.gid,.int .i64 e.mem.time,av,dv,.str e.mem.link,.int .i64 e.size,.int .i64 e.head,cv] 0 false true true):=by rw[k3.get _ (by omega) (by simp)];exact g52
   have dL:H3.t.get q=some (OP w):=by rw[Cw.get _ hq (by simp)];exact gq
   obtain⟨e4,av4,dv4,cv4,H4,ef,hp4,k4,ca4,cd4,cc4⟩:=sx E (n:=n+1) (k:=15) (by decide) hl (p:=e.mem.path) (H:=H3) (by rw[Cw.ro];have:=Cw.nx;omega) (hN.keep Cw) hex
   have zF:=Cw.trans' k4
   have nx4:=k4.nx
   have nx3:=k3.nx
   have g54:H4.t.get H.nx=some (rG 31 1 [.str e.mem.path,.int .i64 e.mem.kind,nI .u32 e.mem.mode,nI .u32 e.mem.uid,nI .u32 e.mem.gid,.int .i64 e.mem.time,av,dv,.str e.mem.link,.int .i64 e.size,.int .i64 e.head,cv] 0 false true true):=by rw[k4.get _ (by omega) (by simp)];exact g53
   obtain⟨H5,hH5⟩: ∃G,H4.new (rG 31 1 [.str e4.mem.path,.int .i64 e4.mem.kind,nI .u32 e4.mem.mode,nI .u32 e4.mem.uid,nI .u32 e4.mem.gid,.int .i64 e4.mem.time,av4,dv4,.str e4.mem.link,.int .i64 e4.size,.int .i64 e4.head,cv4] 0 false true true)=G:=⟨_,rfl⟩
   have k5':Yw H4 H5 []:=by rw[<-hH5];exact Yw.new _ _ _
   have iC:=zF.trans' k5'
   have g55:H5.t.get H.nx=some (rG 31 1 [.str e.mem.path,.int .i64 e.mem.kind,nI .u32 e.mem.mode,nI .u32 e.mem.uid,nI .u32 e.mem.gid,.int .i64 e.mem.time,av,dv,.str e.mem.link,.int .i64 e.size,.int .i64 e.head,cv] 0 false true true):=by rw[k5'.get _ (by omega) (by simp)];exact g54
   have g65:H5.t.get H4.nx=some (rG 31 1 [.str e4.mem.path,.int .i64 e4.mem.kind,nI .u32 e4.mem.mode,nI .u32 e4.mem.uid,nI .u32 e4.mem.gid,.int .i64 e4.mem.time,av4,dv4,.str e4.mem.link,.int .i64 e4.size,.int .i64 e4.head,cv4] 0 false true true):=by rw[<-hH5];exact YN rfl _
   have sf5:=TL (n:=12) (b:=H4.nx) (l:=[.str [],nI .i64 0,nI .u32 0,nI .u32 0,nI .u32 0,nI .i64 0,.nils,.nils,.str [],nI .i64 0,nI .i64 0,.nils]) (vs:=[.str e4.mem.path,.int .i64 e4.mem.kind,nI .u32 e4.mem.mode,nI .u32 e4.mem.uid,nI .u32 e4.mem.gid,.int .i64 e4.mem.time,av4,dv4,.str e4.mem.link,.int .i64 e4.size,.int .i64 e4.head,cv4]) (H:=H4.new (rG 31 1 [.str [],nI .i64 0,nI .u32 0,nI .u32 0,nI .u32 0,nI .i64 0,.nils,.nils,.str [],nI .i64 0,nI .i64 0,.nils] 0 false true true)) rfl rfl (by decide) (by show H4.ro<=_;rw[zF.ro];omega) 31 1 false true
   rw[Ty rfl,hH5] at sf5
   have gz5:=λ(ob:Obj)=>YN (H:=H4) rfl ob
   have dp:decide (e4.mem.path=e.mem.path)=true:=Zr hp4
   simp(maxSteps:=4000000) (disch:=first|assumption|omega|(simp -implicitDefEqProofs only[Yr,Ys]<;>first|assumption|omega)|decide) only[t1,t2,t3,t57,t58,t59,d1,eI,gb,gbz,eL,gz,sf,hH1,g5,bs,b1,hH2,g52,em,X1,VQ,Mi,M8,VC,Qn,ep,eo,eI3,pj,eL3,mx,ed,dn1,dn2,tf,g53,dL,je,ef,g54,sf5,gz5,g55,g65,dp,Ke,ZG,Zz,ZK,ZT,ZP,ZS,Z9,Ya,ZO,Z8,Yc,Yb,Zx,Zt,Zs,ZU,Nat.reduceSub,Nat.reduceAdd,Nat.reduceLeDiff,Zi,Zh,Nat.reduceEqDiff,decide_true,decide_false,ZJ,Zf,Zd,YH,YJ,ZZ,ZC,Zv,ZY,ZX,ZM,Zk,Zl,Yf,ZD,Zd,Zf,Yg,ZV,Ye,U3,Yj,Zn,Zw,Zq,ZA,Zo,Zp,Zm,Zu,YW,YX,Y5,Y4,YI,Y3,Xg,ZQ,XB,Xe,XL,XM,XN,Xc,ZO,YI,ZK,Xe,EL,YU,WD,Yp,Yq,ZE,ZH,ZF,Nat.reduceEqDiff,reduceCtorEq,WE,UF,N6,DZ]
   refine⟨_,_,_,rfl,?_⟩
   exact .inl ⟨rfl,m,by omega,t1',t2',KW,qZ,mf,⟨i+1,rfl,by omega⟩,iC⟩
theorem oV{Z7:Lib}{fs:T CF}{fuel:Nat}(E:Env Z7 fs fuel){n:Nat}{H:Heap}{ev:AV}{L:List Uk}{at_ many:Int}(gP:Ob H)(hN:yP H ev L)(hl:L.length<9223372036854775808)(hat: ∀e∈L,e.mem.attrs.length<9223372036854775808)(hfl:L.length<fuel)(hfu: ∀e∈L,e.mem.attrs.length<fuel)(hok: ∀e∈L,KF e)(h1:L7 at_)(h2:L7 many)
  (hwk: ∀G,Yw H G []->Z7 18 [] G=some (.ret (.bool true) G)): ∃H',Xd (LK Z7 fs fuel 15) fs fuel (n+5) 4 [.agg [ev],.int .i64 at_,.int .i64 many] H=.ret (.bool true) H':=by
 rw[XR (Xk E.n4 (.inr rfl) _ _) E.f4]
 have hro:=gP.ro
 have hcv:ev.cells=[ev]:=by
  obtain⟨_,hS,_⟩:=hN
  exact hS.cells
 have wk: ∀G,Yw H G []->Xd (LK Z7 fs fuel 15) fs fuel (n+4) 18 [] G=.ret (.bool true) G:=λG k=>GU rfl (hwk G k)
 obtain⟨H1,hH1⟩: ∃G,H.new (OP ev)=G:=⟨_,rfl⟩
 have hb1:H.new (rG 47 1 [ev] 0 false true true)=H1:=hH1
 have k1:Yw H H1 []:=by rw[<-hH1];exact Yw.new _ _ _
 have Kd:H1.nx=H.nx+1:=by rw[<-hH1];rfl
 have g1:H1.t.get H.nx=some (OP ev):=by rw[<-hH1];exact YN rfl _
 obtain⟨w,H2,e2,⟨Ls,hSw,hwX,ZdH,hEw⟩,k2⟩:=ou E (k0:=15) (n:=n+2) hl (H:=H1) (Hb:=H) (xb:=H.nx) k1 (Z2 _) (by omega) (by rw[k1.ro];omega) hN hat hfl hfu
 have hcw:=hSw.cells
 have g2:H2.t.get H.nx=some (OP ev):=by rw[k2.get _ (by omega) (by simp)];exact g1
 have Fw:=k1.trans' k2
 have nx2:=k2.nx
 obtain⟨H3,hH3⟩: ∃G,H2.put H.nx (OP w)=G:=⟨_,rfl⟩
 have st:xS 1 (some (OP ev)) H.nx 0 (.agg [w]) H2=.val WK H3:=by
  rw[<-hH3]
  exact(F9 (n:=1) (l:=[ev]) (b:=H.nx) (o:=0) (v:=.agg [w]) (H:=H2) (by decide) rfl (Z2 1) (by rw[Fw.ro];exact hro) (Z2 0) _ _ _ _).trans rfl
 have k3:Yw H2 H3 [H.nx]:=by rw[<-hH3];exact Yw.put λ_=>by simp
 have Cw:Yw H H3 []:=Fw.trans k3 (by intro x hx hlt;rw[YM.1 hx] at hlt;omega)
 have nx3:H3.nx=H2.nx:=by rw[<-hH3,PV]
 have g3:H3.t.get H.nx=some (OP w):=by rw[<-hH3];exact UQ ..
 have hsh:=wB hok
 have sT:(P8 L).length<=90000:=by unfold P8;rw[VU,Xo];omega
 have hw3:QE H3 w (P8 L):=⟨Ls,hSw.move k3 (λb hb hm=>hwX (by rw[<-YM.1 hm];exact hb)),ZdH,λi hi=>((hEw i hi).keep (S':=[]) k3 (λb hb=>by cases hb)).toC⟩
 have ro3:H3.ro<=H3.nx:=by rw[Cw.ro];exact YZ hro Cw.nx
 obtain⟨w2,H4,e4,hw4,k4⟩:=of_run E (k0:=15) (n:=n+3) (ev:=w) (L:=P8 L) (H:=H3) sT hsh ro3 hw3
 have zF:=Cw.trans' k4
 have nx4:=k4.nx
 have ro4:H4.ro<=H4.nx:=by rw[zF.ro];exact YZ hro zF.nx
 have ln4:=hw4.len
 simp(maxSteps:=4000000) (disch:=first|assumption|omega|(simp -implicitDefEqProofs only[Yr,Ys]<;>first|assumption|omega)|decide) only[Vy,hcv,hb1,g1,je,e2,g2,st,g3,e4,ln4,ZG,Zz,ZK,ZT,ZP,ZS,Z9,Ya,ZO,Z8,Yc,Yb,Zx,Zt,Zs,ZU,Nat.reduceSub,Nat.reduceAdd,Nat.reduceLeDiff,Zi,Zh,Nat.reduceEqDiff,decide_true,decide_false,ZJ,Zf,Zd,YH,YJ,ZZ,ZC,Zv,ZY,ZX,ZM,Zk,Zl,Yf,ZD,Zd,Zf,Yg,ZV,Ye,U3,Yj,Zn,Zw,Zq,ZA,Zo,Zp,Zm,Zu,YW,YX,Y5,Y4,YI,Y3,Xg,ZQ,XB,Xe,XL,XM,XN,Xc,ZO,YI,ZK,Xe,c4,YU,WD,Yp,Yq,ZE,ZH,ZF,Nat.reduceEqDiff,reduceCtorEq,WE,UF,DZ]
 generalize hL:TH (EK _) fuel _ _ _=Lp
 obtain⟨oc,MR,H5,rfl,_,k5,z⟩:=WW (P:=λT=>LE H4 H.nx at_ many w2 (P8 L) (P8 L).length T H4) (Q:=aZ H4 H.nx at_ many)
  (λT hi=>Vd (LE H4 H.nx at_ many w2 (P8 L)) (aZ H4 H.nx at_ many) (λm tm H5 h=>oY E sT hsh ro4 hw4 (λG hG=>wk G (zF.trans' hG)) _ _ _ _ m tm H5 h) fuel (P8 L).length T H4 (by have:=E.big;omega) hi) hL
  (by exact⟨rfl,rfl,rfl,rfl,rfl,⟨0,rfl,by omega⟩,Yw.refl _ _⟩)
 have iC:=zF.trans' k5
 rcases z with⟨rfl,t6⟩|⟨rfl,t1,t2,t3⟩
 ·simp only[Fq] at t6
  simp(maxSteps:=4000000) (disch:=first|assumption|omega|(simp -implicitDefEqProofs only[Yr,Ys]<;>first|assumption|omega)|decide) only[t6,ZG,Zz,ZK,ZT,ZP,ZS,Z9,Ya,ZO,Z8,Yc,Yb,Zx,Zt,Zs,ZU,Nat.reduceSub,Nat.reduceAdd,Nat.reduceLeDiff,Zi,Zh,Nat.reduceEqDiff,decide_true,decide_false,ZJ,Zf,Zd,YH,YJ,ZZ,ZC,Zv,ZY,ZX,ZM,Zk,Zl,Yf,ZD,Zd,Zf,Yg,ZV,Ye,U3,Yj,Zn,Zw,Zq,ZA,Zo,Zp,Zm,Zu,YW,YX,Y5,Y4,YI,Y3,Xg,ZQ,XB,Xe,XL,XM,XN,Xc,ZO,YI,ZK,Xe,c4,YU,WD,Yp,Yq,ZE,ZH,ZF,Nat.reduceEqDiff,reduceCtorEq,WE,UF,DZ]
  exact⟨_,rfl⟩
 ·have t1':=t1;have t2':=t2;have KW:=t3
  simp only[Fp] at t3
  have g5:H5.t.get H.nx=some (OP w):=by rw[k5.get _ (by omega) (by simp),k4.get _ (by omega) (by simp)];exact g3
  have hw5:QE H5 w (P8 L):=hw3.keep (k4.trans' k5)
  have ln5:=hw5.len
  have CI: ∀G,ld1 (some (OP w)) 0 G=.val w G:=λG=>by unfold OP;rw[X1 (Xl 0)];rfl
  simp(maxSteps:=4000000) (disch:=first|assumption|omega|(simp -implicitDefEqProofs only[Yr,Ys]<;>first|assumption|omega)|decide) only[t3,g5,CI,ln5,ZG,Zz,ZK,ZT,ZP,ZS,Z9,Ya,ZO,Z8,Yc,Yb,Zx,Zt,Zs,ZU,Nat.reduceSub,Nat.reduceAdd,Nat.reduceLeDiff,Zi,Zh,Nat.reduceEqDiff,decide_true,decide_false,ZJ,Zf,Zd,YH,YJ,ZZ,ZC,Zv,ZY,ZX,ZM,Zk,Zl,Yf,ZD,Zd,Zf,Yg,ZV,Ye,U3,Yj,Zn,Zw,Zq,ZA,Zo,Zp,Zm,Zu,YW,YX,Y5,Y4,YI,Y3,Xg,ZQ,XB,Xe,XL,XM,XN,Xc,ZO,YI,ZK,Xe,c4,YU,WD,Yp,Yq,ZE,ZH,ZF,Nat.reduceEqDiff,reduceCtorEq,WE,UF,DZ]
  generalize hL:TH (EL _) fuel _ _ _=Lp
  obtain⟨oc,aP,H6,rfl,_,rfl,k6⟩:=WW (P:=λT=>L2 H5 H.nx at_ many w (P8 L) (P8 L).length T H5) (Q:=aW H5)
   (λT hi=>Vd (L2 H5 H.nx at_ many w (P8 L)) (aW H5) (λm tm H6 h=>oT E sT hsh (by rw[iC.ro];exact YZ hro iC.nx) (gP.keep0 iC) (by have:=k5.nx;omega) g5 hw5 h1 h2 _ _ _ _ m tm H6 h) fuel (P8 L).length T H5 (by have:=E.big;omega) hi) hL
   (by exact⟨t1',t2',KW,rfl,rfl,⟨0,rfl,by omega⟩,Yw.refl _ _⟩)
  have wk6:=wk H6 (iC.trans' k6)
  simp(maxSteps:=4000000) (disch:=first|assumption|omega|(simp -implicitDefEqProofs only[Yr,Ys]<;>first|assumption|omega)|decide) only[wk6,ZG,Zz,ZK,ZT,ZP,ZS,Z9,Ya,ZO,Z8,Yc,Yb,Zx,Zt,Zs,ZU,Nat.reduceSub,Nat.reduceAdd,Nat.reduceLeDiff,Zi,Zh,Nat.reduceEqDiff,decide_true,decide_false,ZJ,Zf,Zd,YH,YJ,ZZ,ZC,Zv,ZY,ZX,ZM,Zk,Zl,Yf,ZD,Zd,Zf,Yg,ZV,Ye,U3,Yj,Zn,Zw,Zq,ZA,Zo,Zp,Zm,Zu,YW,YX,Y5,Y4,YI,Y3,Xg,ZQ,XB,Xe,XL,XM,XN,Xc,ZO,YI,ZK,Xe,c4,YU,WD,Yp,Yq,ZE,ZH,ZF,Nat.reduceEqDiff,reduceCtorEq,WE,UF,DZ]
  exact⟨_,rfl⟩
end
end Go.AI
