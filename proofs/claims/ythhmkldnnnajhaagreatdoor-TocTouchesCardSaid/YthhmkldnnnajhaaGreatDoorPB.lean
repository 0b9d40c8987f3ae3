/- What may be an entry, and a table: walked; entries that are told of an argument: proved without conditions but those that each names. -/
import Derived.Test.YthhmkldnnnajhaaGreatDoorPA
set_option maxRecDepth 1000000
set_option maxHeartbeats 0
set_option linter.unusedVariables false
set_option linter.unusedSimpArgs false
namespace Go.AI
open Go
noncomputable section
theorem rC(k:IntKind)(a b:Int)(H:Heap):ND Y9 YB (.int k a) (.int k b) H=.val (.bool (decide (a<b))) H:=by
 show YP (MU k k) (RO (Ct a b) H)=_
 rw[UY,Sv,NW];rfl
theorem XB(k:IntKind)(a b:Int)(H:Heap):ND Tb Vl (.int k a) (.int k b) H=.val (.bool (decide (b<a))) H:=by
 show YP (MU k k) (RO (Ct b a) H)=_
 rw[UY,Sv,NW];rfl
theorem jf(k:IntKind)(a b:Int)(H:Heap):ND TG VN (.int k a) (.int k b) H=.val (.bool (decide (a<=b))) H:=by
 show YP (MU k k) (RO (!Ct b a) H)=_
 rw[UY,Sv,NW]
 show OR.val (.bool (!decide (b<a))) H=_
 congr 2
 by_cases h:b<a
 ·rw[Zr h,Zj (by omega)];rfl
 ·rw[Zj h,Zr (by omega)];rfl
theorem Y5(k:IntKind)(a:Int)(b:Nat)(H:Heap):ND Y9 YB (.int k a) (nI k b) H=.val (.bool (decide (a<(b:Int)))) H:=rC k a b H
theorem Y4(k:IntKind)(a:Int)(b:Nat)(H:Heap):ND Tb Vl (.int k a) (nI k b) H=.val (.bool (decide ((b:Int)<a))) H:=XB k a b H
theorem Xe(k:IntKind)(a:Int)(b:Nat)(H:Heap):ND TG VN (.int k a) (nI k b) H=.val (.bool (decide (a<=(b:Int)))) H:=jf k a b H
theorem YI(k:IntKind)(a:Nat)(b:Int)(H:Heap):ND Y9 YB (nI k a) (.int k b) H=.val (.bool (decide ((a:Int)<b))) H:=rC k a b H
theorem Y3(k:IntKind)(a:Nat)(b:Int)(H:Heap):ND Tb Vl (nI k a) (.int k b) H=.val (.bool (decide (b<(a:Int)))) H:=XB k a b H
theorem V7(e:Nat)(tm:TM)(H:Heap):Xa e z35 tm H=.val (.ptr H.nx 0) (H.new (rG e 1 z35 0 false true true)):=Ge ..
theorem Ln:z35.length=35:=by unfold z35;simp
structure Mq where
 at_:Int
 size:Int
 place:Int
 sum:List UInt8
def TW(x:Mq):List AV:=.int .i64 x.at_::.int .i64 x.size::.int .i64 x.place::x.sum.map Gq
def Nq(l:List Mq):List (List AV):=l.map TW
theorem TX(l:List Mq):(Nq l).length=l.length:=VU ..
instance:Inhabited Mq:=⟨⟨0,0,0,[]⟩⟩
theorem KL{l:List Mq}{i:Nat}(h:i<l.length):(Nq l).getD i []=TW (l.getD i default):=by
 unfold Nq
 rw[ZN,Vx,ZN,ZW h];rfl
structure Uk where
 mem:Mem
 size:Int
 head:Int
 chunks:List Mq
def Jk(H:Heap)(cs:List AV)(e:Uk):Prop:= ∃av dv cv,cs=[.str e.mem.path,.int .i64 e.mem.kind,nI .u32 e.mem.mode,nI .u32 e.mem.uid,nI .u32 e.mem.gid,.int .i64 e.mem.time,av,dv,.str e.mem.link,.int .i64 e.size,.int .i64 e.head,cv]∧Sz H 2 av (MA e.mem.attrs)∧Sz H 1 dv (Eo e.mem.data)∧Sz H 35 cv (Nq e.chunks)
theorem Jk.keep{H H':Heap}{cs:List AV}{e:Uk}(h:Jk H cs e)(k:Yw H H' []):Jk H' cs e:=by
 obtain⟨av,dv,cv,e,h1,h2,h3⟩:=h
 exact⟨av,dv,cv,e,h1.keep0 k,h2.keep0 k,h3.keep0 k⟩
theorem Jk.len{H:Heap}{cs:List AV}{e:Uk}(h:Jk H cs e):cs.length=12:=by
 obtain⟨av,dv,cv,rfl,_⟩:=h;rfl
structure Q7(e:Uk):Prop where
 mem:tq e.mem
 chunks:e.chunks.length<=90000
 sums: ∀x∈e.chunks,x.sum.length=32
def Nr:Nat->List Mq->Option Nat
 |a,[]=>some a
 |a,x::l=>if x.at_=(a:Int)∧1<=x.size∧x.size<=65536 then Nr (a+x.size.toNat) l else none
def Sj(e:Uk):Bool:=T4 e.mem&&decide (e.mem.data.length=0)&&decide (1<=(W2 e.mem.path).1)&&decide ((W2 e.mem.path).1<=3)&&decide (0<=e.size)&&decide (e.size<=16777216)&&(decide (e.size<=0)||decide (e.mem.kind=2))&&(match Nr 0 e.chunks with|some a=>decide ((a:Int)=e.size)|none=>false)
structure ig(H0:Heap)(b:Nat)(bc:List AV)(cv:AV)(l:List Mq)(m:Nat)(tm:TM)(H:Heap):Prop where
 t1:YQ tm=.ptr b 0
 t58:VD tm=cv
 t59:Uy tm=nI .i64 l.length
 i: ∃i a,UI tm=nI .i64 i∧Xy tm=nI .i64 a∧i+m=l.length∧a<=65536*i∧Nr 0 l=Nr a (l.drop i)
 k:Yw H0 H []
def iK(H0:Heap)(b:Nat)(l:List Mq)(o:Out)(tm:TM)(H:Heap):Prop:=Yw H0 H []∧((o=.ret∧XC tm=.bool false∧Nr 0 l=none)∨(o=.exit 0∧YQ tm=.ptr b 0∧ ∃a:Nat,Xy tm=nI .i64 a∧Nr 0 l=some a))
theorem xQ{cv:AV}{l:List Mq}(hl:l.length<=90000)(hs: ∀x∈l,x.sum.length=32){H0:Heap}{b:Nat}{bc:List AV}(hro:H0.ro<=H0.nx)(hN:Sz H0 35 cv (Nq l))(cx:Ctx)(X0:X)(m:Nat)(tm:TM)(H:Heap)(hI:ig H0 b bc cv l m tm H):
  ∃o tm' H',MZ cx tm H X0=.ok o tm' H' X0∧((o=.normal∧ ∃k,k<m∧ig H0 b bc cv l k tm' H')∨(o≠.normal∧iK H0 b l o tm' H')):=by
 obtain⟨t1,t58,t59,⟨i,a,t60,t5,him,ha,hr⟩,k0⟩:=hI
 have t1':=t1;have mf:=t58;have b7:=t59;have lQ:=t5
 simp only[JA] at t1
 simp only[wQ] at t5
 simp only[sI] at t58
 simp only[mX] at t59
 simp only[cb] at t60
 cases m with
 |zero=>
  have d1:decide (i<l.length)=false:=Zj (by omega)
  simp(maxSteps:=4000000) (disch:=first|assumption|omega|(simp -implicitDefEqProofs only[Yr,Ys]<;>first|assumption|omega)|decide) only[t59,t60,d1,ZG,Zz,ZK,ZT,ZP,ZS,Z9,Ya,ZO,Z8,Yc,Yb,Zx,Zt,Zs,ZU,Nat.reduceSub,Nat.reduceAdd,Nat.reduceLeDiff,Zi,Zh,Nat.reduceEqDiff,decide_true,decide_false,ZJ,Zf,Zd,YH,YJ,ZZ,ZC,Zv,ZY,ZX,ZM,Zk,Zl,Yf,ZD,Zd,Zf,Yg,ZV,Ye,U3,Yj,Zn,Zw,Zq,ZA,Zo,Zp,Zm,Zu,YW,YX,Y5,Y4,YI,Y3,MZ,YU,WD,Yp,Yq,ZE,ZH,ZF,Nat.reduceEqDiff,reduceCtorEq,WE,UF,N6]
  refine⟨_,_,_,rfl,?_⟩
  exact .inr ⟨by simp,k0,.inr ⟨rfl,t1',a,lQ,by rw[hr,V5 (by omega)];rfl⟩⟩
 |succ m=>
  have d1:decide (i<l.length)=true:=Zr (by omega)
  have hi:i<l.length:=by omega
  have hN:=hN.keep0 k0
  obtain⟨bb,o,r,eI,hb,gb,eL,eE⟩:=hN.at_ (i:=i) (by rw[TX];omega)
  rw[KL hi] at eL
  have hsum:(l.getD i default).sum.length=32:=hs _ (by rw[ZN,ZW hi];exact Vc hi)
  have hdr:l.drop i=l.getD i default::l.drop (i+1):=by
   rw[US hi,ZN,ZW hi];rfl
  rw[hdr] at hr
  generalize hx:l.getD i default=x at*
  have xl:(TW x).length=35:=by unfold TW;simp[hsum]
  obtain⟨H1,hH1⟩: ∃G,H.new (rG 108 1 (TW x) 0 false true true)=G:=⟨_,rfl⟩
  have k1:Yw H0 H1 []:=by rw[<-hH1];exact k0.then_new _
  have g1:H1.t.get H.nx=some (rG 108 1 (TW x) 0 false true true):=by rw[<-hH1];exact YN rfl _
  have gbz:(H.new (rG 108 1 z35 0 false true true)).t.get bb=some (.row r):=by rw[WH (by omega)];exact gb
  have sf:=TL (n:=35) (b:=H.nx) (l:=z35) (vs:=TW x) (H:=H.new (rG 108 1 z35 0 false true true)) Ln xl (by decide) (by show H.ro<=_;rw[k0.ro];have:=k0.nx;omega) 108 1 false true
  rw[Ty rfl,hH1] at sf
  have gz:=λ(G:Heap)=>YN (H:=H) rfl (rG 108 1 z35 0 false true true)
  have l0: ∀G,ld1 (some (rG 108 1 (TW x) 0 false true true)) 0 G=.val (.int .i64 x.at_) G:=λG=>by rw[X1 (by rw[xl];decide)];rfl
  have l1: ∀G,ld1 (some (rG 108 1 (TW x) 0 false true true)) 1 G=.val (.int .i64 x.size) G:=λG=>by rw[X1 (by rw[xl];decide)];rfl
  by_cases h1:x.at_=(a:Int)
  ·have d2:decide (x.at_=(a:Int))=true:=Zr h1
   by_cases h2:x.size<((1:Nat):Int)
   ·have d3:decide (x.size<((1:Nat):Int))=true:=Zr h2
    simp(maxSteps:=4000000) (disch:=first|assumption|omega|(simp -implicitDefEqProofs only[Yr,Ys]<;>first|assumption|omega)|decide) only[t1,t5,t58,t59,t60,d1,eI,gb,gbz,eL,gz,sf,hH1,g1,l0,l1,V7,d2,d3,ZG,Zz,ZK,ZT,ZP,ZS,Z9,Ya,ZO,Z8,Yc,Yb,Zx,Zt,Zs,ZU,Nat.reduceSub,Nat.reduceAdd,Nat.reduceLeDiff,Zi,Zh,Nat.reduceEqDiff,decide_true,decide_false,ZJ,Zf,Zd,YH,YJ,ZZ,ZC,Zv,ZY,ZX,ZM,Zk,Zl,Yf,ZD,Zd,Zf,Yg,ZV,Ye,U3,Yj,Zn,Zw,Zq,ZA,Zo,Zp,Zm,Zu,YW,YX,Y5,Y4,YI,Y3,MZ,YU,WD,Yp,Yq,ZE,ZH,ZF,Nat.reduceEqDiff,reduceCtorEq,WE,UF,N6]
    refine⟨_,_,_,rfl,?_⟩
    exact .inr ⟨by simp,k1,.inl ⟨rfl,rfl,by rw[hr,Nr,if_neg (by omega)]⟩⟩
   have d3:decide (x.size<((1:Nat):Int))=false:=Zj h2
   by_cases h3:((65536:Nat):Int)<x.size
   ·have d4:decide (((65536:Nat):Int)<x.size)=true:=Zr h3
    simp(maxSteps:=4000000) (disch:=first|assumption|omega|(simp -implicitDefEqProofs only[Yr,Ys]<;>first|assumption|omega)|decide) only[t1,t5,t58,t59,t60,d1,eI,gb,gbz,eL,gz,sf,hH1,g1,l0,l1,V7,d2,d3,d4,ZG,Zz,ZK,ZT,ZP,ZS,Z9,Ya,ZO,Z8,Yc,Yb,Zx,Zt,Zs,ZU,Nat.reduceSub,Nat.reduceAdd,Nat.reduceLeDiff,Zi,Zh,Nat.reduceEqDiff,decide_true,decide_false,ZJ,Zf,Zd,YH,YJ,ZZ,ZC,Zv,ZY,ZX,ZM,Zk,Zl,Yf,ZD,Zd,Zf,Yg,ZV,Ye,U3,Yj,Zn,Zw,Zq,ZA,Zo,Zp,Zm,Zu,YW,YX,Y5,Y4,YI,Y3,MZ,YU,WD,Yp,Yq,ZE,ZH,ZF,Nat.reduceEqDiff,reduceCtorEq,WE,UF,N6]
    refine⟨_,_,_,rfl,?_⟩
    exact .inr ⟨by simp,k1,.inl ⟨rfl,rfl,by rw[hr,Nr,if_neg (by omega)]⟩⟩
   have d4:decide (((65536:Nat):Int)<x.size)=false:=Zj h3
   obtain⟨w,hw⟩: ∃w:Nat,x.size=(w:Int):=⟨x.size.toNat,by omega⟩
   have l1: ∀G,ld1 (some (rG 108 1 (TW x) 0 false true true)) 1 G=.val (nI .i64 w) G:=λG=>by rw[l1,hw];rfl
   have hwl:w<=65536:=by omega
   rw[hw] at d3 d4
   have d3:decide (w<1)=false:=Zj (by omega)
   have d4:decide (65536<w)=false:=Zj (by omega)
   simp(maxSteps:=4000000) (disch:=first|assumption|omega|(simp -implicitDefEqProofs only[Yr,Ys]<;>first|assumption|omega)|decide) only[t1,t5,t58,t59,t60,d1,eI,gb,gbz,eL,gz,sf,hH1,g1,l0,l1,V7,d2,d3,d4,ZG,Zz,ZK,ZT,ZP,ZS,Z9,Ya,ZO,Z8,Yc,Yb,Zx,Zt,Zs,ZU,Nat.reduceSub,Nat.reduceAdd,Nat.reduceLeDiff,Zi,Zh,Nat.reduceEqDiff,decide_true,decide_false,ZJ,Zf,Zd,YH,YJ,ZZ,ZC,Zv,ZY,ZX,ZM,Zk,Zl,Yf,ZD,Zd,Zf,Yg,ZV,Ye,U3,Yj,Zn,Zw,Zq,ZA,Zo,Zp,Zm,Zu,YW,YX,Y5,Y4,YI,Y3,MZ,YU,WD,Yp,Yq,ZE,ZH,ZF,Nat.reduceEqDiff,reduceCtorEq,WE,UF,N6]
   refine⟨_,_,_,rfl,?_⟩
   exact .inl ⟨rfl,m,by omega,t1',mf,b7,⟨i+1,a+w,rfl,rfl,by omega,by omega,by rw[hr,Nr,if_pos (by omega),hw];rfl⟩,k1⟩
  ·have d2:decide (x.at_=(a:Int))=false:=Zj h1
   simp(maxSteps:=4000000) (disch:=first|assumption|omega|(simp -implicitDefEqProofs only[Yr,Ys]<;>first|assumption|omega)|decide) only[t1,t5,t58,t59,t60,d1,eI,gb,gbz,eL,gz,sf,hH1,g1,l0,l1,V7,d2,ZG,Zz,ZK,ZT,ZP,ZS,Z9,Ya,ZO,Z8,Yc,Yb,Zx,Zt,Zs,ZU,Nat.reduceSub,Nat.reduceAdd,Nat.reduceLeDiff,Zi,Zh,Nat.reduceEqDiff,decide_true,decide_false,ZJ,Zf,Zd,YH,YJ,ZZ,ZC,Zv,ZY,ZX,ZM,Zk,Zl,Yf,ZD,Zd,Zf,Yg,ZV,Ye,U3,Yj,Zn,Zw,Zq,ZA,Zo,Zp,Zm,Zu,YW,YX,Y5,Y4,YI,Y3,MZ,YU,WD,Yp,Yq,ZE,ZH,ZF,Nat.reduceEqDiff,reduceCtorEq,WE,UF,N6]
   refine⟨_,_,_,rfl,?_⟩
   exact .inr ⟨by simp,k1,.inl ⟨rfl,rfl,by rw[hr,Nr,if_neg (λe=>h1 e.1)]⟩⟩
theorem S2{e:Uk}(h:T4 e.mem=false∨e.mem.data.length≠0∨(W2 e.mem.path).1<1∨3<(W2 e.mem.path).1∨e.size<0∨16777216<e.size∨(0<e.size∧e.mem.kind≠2)∨Nr 0 e.chunks=none∨ ∃a:Nat,Nr 0 e.chunks=some a∧(a:Int)≠e.size):Sj e=false:=by
 unfold Sj
 rcases h with h|h|h|h|h|h|h|h|⟨a,h,h2⟩
 ·rw[h];simp
 ·rw[Zj h];simp
 ·rw[Zj (show ¬1<=(W2 e.mem.path).1 by omega)];simp
 ·rw[Zj (show ¬(W2 e.mem.path).1<=3 by omega)];simp
 ·rw[Zj (show ¬0<=e.size by omega)];simp
 ·rw[Zj (show ¬e.size<=16777216 by omega)];simp
 ·rw[Zj (show ¬e.size<=0 by omega),Zj h.2];simp
 ·rw[h];simp
 ·rw[h];simp[h2]
theorem F3{e:Uk}(h1:T4 e.mem=true)(h2:e.mem.data.length=0)(h3:1<=(W2 e.mem.path).1)(h4:(W2 e.mem.path).1<=3)(h5:0<=e.size)(h6:e.size<=16777216)(h7:e.size<=0∨e.mem.kind=2){a:Nat}(h8:Nr 0 e.chunks=some a)(h9:(a:Int)=e.size):Sj e=true:=by
 unfold Sj
 rw[h1,Zr h2,Zr h3,Zr h4,Zr h5,Zr h6,h8]
 rcases h7 with h7|h7
 ·rw[Zr h7];simp[h9]
 ·rw[Zr h7];simp[h9]
theorem Xg(k:IntKind)(a:Nat)(b:Int)(H:Heap):GB Vj false (nI k a) (.int k b) H=.val (.bool (decide ((a:Int)=b))) H:=by
 show S0 (cond (MU k k) (some (Eu (Int.ofNat a) b)) none) _=_
 rw[UY,PP]
 show RO ((a:Int)==b) H=_
 rw[D9]
 cases decide ((a:Int)=b)<;>rfl
theorem yt{Z7:Lib}{fs:T CF}{fuel:Nat}(E:Env Z7 fs fuel){n:Nat}{cs:List AV}{e:Uk}{H:Heap}(hs:Q7 e)(g:Ob H)(he:Jk H cs e):
  ∃H',Xd (LK Z7 fs fuel 12) fs fuel (n+2) 64 [.agg cs] H=.ret (.bool (Sj e)) H'∧Yw H H' []:=by
 rw[XR (Xk E.n64 (.inl (by decide)) _ _) E.f64]
 obtain⟨av,dv,cv,rfl,hA,hD,hC⟩:=he
 obtain⟨H1,hH1⟩: ∃G,H.new (rG 31 1 [.str e.mem.path,.int .i64 e.mem.kind,nI .u32 e.mem.mode,nI .u32 e.mem.uid,nI .u32 e.mem.gid,.int .i64 e.mem.time,av,dv,.str e.mem.link,.int .i64 e.size,.int .i64 e.head,cv] 0 false true true)=G:=⟨_,rfl⟩
 have k1:Yw H H1 []:=by rw[<-hH1];exact Yw.new _ _ _
 have g1:H1.t.get H.nx=some (rG 31 1 [.str e.mem.path,.int .i64 e.mem.kind,nI .u32 e.mem.mode,nI .u32 e.mem.uid,nI .u32 e.mem.gid,.int .i64 e.mem.time,av,dv,.str e.mem.link,.int .i64 e.size,.int .i64 e.head,cv] 0 false true true):=by rw[<-hH1];exact YN rfl _
 have gP:=g.keep0 k1
 have ec:=λ{j}=>tU (Z7:=Z7) (fs:=fs) (fuel:=fuel) E (k:=12) (n:=j) (by decide) (s:=e.mem.path) (H:=H1) hs.mem.path gP
 have em:=λ{j}=>j0 (Z7:=Z7) (fs:=fs) (fuel:=fuel) E (k:=12) (n:=j) (by decide) (cs:=[.str e.mem.path,.int .i64 e.mem.kind,nI .u32 e.mem.mode,nI .u32 e.mem.uid,nI .u32 e.mem.gid,.int .i64 e.mem.time,av,dv,.str e.mem.link]) (m:=e.mem) (H:=H1) hs.mem gP ⟨av,dv,rfl,hA.keep0 k1,hD.keep0 k1⟩
 have ln:=hD.len
 rw[J4] at ln
 have lc:=hC.len
 rw[TX] at lc
 have cv1:=hA.cells
 have aD:=hD.cells
 have cv3:=hC.cells
 have hl:=hs.chunks
 cases h1:T4 e.mem with
 |false=>
  rw[h1] at em
  rw[S2 (.inl h1)]
  simp(maxSteps:=4000000) (disch:=first|assumption|omega|(simp -implicitDefEqProofs only[Yr,Ys]<;>first|assumption|omega)|decide) only[ec,em,g1,hH1,ln,lc,X1,VQ,Vy,ZG,Zz,ZK,ZT,ZP,ZS,Z9,Ya,ZO,Z8,Yc,Yb,Zx,Zt,Zs,ZU,Nat.reduceSub,Nat.reduceAdd,Nat.reduceLeDiff,Zi,Zh,Nat.reduceEqDiff,decide_true,decide_false,ZJ,Zf,Zd,YH,YJ,ZZ,ZC,Zv,ZY,ZX,ZM,Zk,Zl,Yf,ZD,Zd,Zf,Yg,ZV,Ye,U3,Yj,Zn,Zw,Zq,ZA,Zo,Zp,Zm,Zu,YW,YX,Y5,Y4,YI,Y3,Xg,c64,YU,WD,Yp,Yq,ZE,ZH,ZF,Nat.reduceEqDiff,reduceCtorEq,WE,UF,N6]
  refine⟨_,rfl,?_⟩
  exact k1
 |true=>
  rw[h1] at em
  by_cases h2:0<e.mem.data.length
  ·have d2:decide (0<e.mem.data.length)=true:=Zr h2
   rw[S2 (.inr (.inl (by omega)))]
   simp(maxSteps:=4000000) (disch:=first|assumption|omega|(simp -implicitDefEqProofs only[Yr,Ys]<;>first|assumption|omega)|decide) only[ec,em,g1,hH1,ln,lc,X1,VQ,Vy,d2,ZG,Zz,ZK,ZT,ZP,ZS,Z9,Ya,ZO,Z8,Yc,Yb,Zx,Zt,Zs,ZU,Nat.reduceSub,Nat.reduceAdd,Nat.reduceLeDiff,Zi,Zh,Nat.reduceEqDiff,decide_true,decide_false,ZJ,Zf,Zd,YH,YJ,ZZ,ZC,Zv,ZY,ZX,ZM,Zk,Zl,Yf,ZD,Zd,Zf,Yg,ZV,Ye,U3,Yj,Zn,Zw,Zq,ZA,Zo,Zp,Zm,Zu,YW,YX,Y5,Y4,YI,Y3,Xg,c64,YU,WD,Yp,Yq,ZE,ZH,ZF,Nat.reduceEqDiff,reduceCtorEq,WE,UF,N6]
   refine⟨_,rfl,?_⟩
   exact k1
  have d2:decide (0<e.mem.data.length)=false:=Zj h2
  by_cases h3:(W2 e.mem.path).1<1
  ·have d3:decide ((W2 e.mem.path).1<1)=true:=Zr h3
   rw[S2 (.inr (.inr (.inl h3)))]
   simp(maxSteps:=4000000) (disch:=first|assumption|omega|(simp -implicitDefEqProofs only[Yr,Ys]<;>first|assumption|omega)|decide) only[ec,em,g1,hH1,ln,lc,X1,VQ,Vy,d2,d3,ZG,Zz,ZK,ZT,ZP,ZS,Z9,Ya,ZO,Z8,Yc,Yb,Zx,Zt,Zs,ZU,Nat.reduceSub,Nat.reduceAdd,Nat.reduceLeDiff,Zi,Zh,Nat.reduceEqDiff,decide_true,decide_false,ZJ,Zf,Zd,YH,YJ,ZZ,ZC,Zv,ZY,ZX,ZM,Zk,Zl,Yf,ZD,Zd,Zf,Yg,ZV,Ye,U3,Yj,Zn,Zw,Zq,ZA,Zo,Zp,Zm,Zu,YW,YX,Y5,Y4,YI,Y3,Xg,c64,YU,WD,Yp,Yq,ZE,ZH,ZF,Nat.reduceEqDiff,reduceCtorEq,WE,UF,N6]
   refine⟨_,rfl,?_⟩
   exact k1
  have d3:decide ((W2 e.mem.path).1<1)=false:=Zj h3
  by_cases h4:3<(W2 e.mem.path).1
  ·have d4:decide (3<(W2 e.mem.path).1)=true:=Zr h4
   rw[S2 (.inr (.inr (.inr (.inl h4))))]
   simp(maxSteps:=4000000) (disch:=first|assumption|omega|(simp -implicitDefEqProofs only[Yr,Ys]<;>first|assumption|omega)|decide) only[ec,em,g1,hH1,ln,lc,X1,VQ,Vy,d2,d3,d4,ZG,Zz,ZK,ZT,ZP,ZS,Z9,Ya,ZO,Z8,Yc,Yb,Zx,Zt,Zs,ZU,Nat.reduceSub,Nat.reduceAdd,Nat.reduceLeDiff,Zi,Zh,Nat.reduceEqDiff,decide_true,decide_false,ZJ,Zf,Zd,YH,YJ,ZZ,ZC,Zv,ZY,ZX,ZM,Zk,Zl,Yf,ZD,Zd,Zf,Yg,ZV,Ye,U3,Yj,Zn,Zw,Zq,ZA,Zo,Zp,Zm,Zu,YW,YX,Y5,Y4,YI,Y3,Xg,c64,YU,WD,Yp,Yq,ZE,ZH,ZF,Nat.reduceEqDiff,reduceCtorEq,WE,UF,N6]
   refine⟨_,rfl,?_⟩
   exact k1
  have d4:decide (3<(W2 e.mem.path).1)=false:=Zj h4
  by_cases h5:e.size<((0:Nat):Int)
  ·have d5:decide (e.size<((0:Nat):Int))=true:=Zr h5
   rw[S2 (.inr (.inr (.inr (.inr (.inl (by omega))))))]
   simp(maxSteps:=4000000) (disch:=first|assumption|omega|(simp -implicitDefEqProofs only[Yr,Ys]<;>first|assumption|omega)|decide) only[ec,em,g1,hH1,ln,lc,X1,VQ,Vy,d2,d3,d4,d5,ZG,Zz,ZK,ZT,ZP,ZS,Z9,Ya,ZO,Z8,Yc,Yb,Zx,Zt,Zs,ZU,Nat.reduceSub,Nat.reduceAdd,Nat.reduceLeDiff,Zi,Zh,Nat.reduceEqDiff,decide_true,decide_false,ZJ,Zf,Zd,YH,YJ,ZZ,ZC,Zv,ZY,ZX,ZM,Zk,Zl,Yf,ZD,Zd,Zf,Yg,ZV,Ye,U3,Yj,Zn,Zw,Zq,ZA,Zo,Zp,Zm,Zu,YW,YX,Y5,Y4,YI,Y3,Xg,c64,YU,WD,Yp,Yq,ZE,ZH,ZF,Nat.reduceEqDiff,reduceCtorEq,WE,UF,N6]
   refine⟨_,rfl,?_⟩
   exact k1
  have d5:decide (e.size<((0:Nat):Int))=false:=Zj h5
  by_cases h6:((16777216:Nat):Int)<e.size
  ·have d6:decide (((16777216:Nat):Int)<e.size)=true:=Zr h6
   rw[S2 (.inr (.inr (.inr (.inr (.inr (.inl (by omega)))))))]
   simp(maxSteps:=4000000) (disch:=first|assumption|omega|(simp -implicitDefEqProofs only[Yr,Ys]<;>first|assumption|omega)|decide) only[ec,em,g1,hH1,ln,lc,X1,VQ,Vy,d2,d3,d4,d5,d6,ZG,Zz,ZK,ZT,ZP,ZS,Z9,Ya,ZO,Z8,Yc,Yb,Zx,Zt,Zs,ZU,Nat.reduceSub,Nat.reduceAdd,Nat.reduceLeDiff,Zi,Zh,Nat.reduceEqDiff,decide_true,decide_false,ZJ,Zf,Zd,YH,YJ,ZZ,ZC,Zv,ZY,ZX,ZM,Zk,Zl,Yf,ZD,Zd,Zf,Yg,ZV,Ye,U3,Yj,Zn,Zw,Zq,ZA,Zo,Zp,Zm,Zu,YW,YX,Y5,Y4,YI,Y3,Xg,c64,YU,WD,Yp,Yq,ZE,ZH,ZF,Nat.reduceEqDiff,reduceCtorEq,WE,UF,N6]
   refine⟨_,rfl,?_⟩
   exact k1
  have d6:decide (((16777216:Nat):Int)<e.size)=false:=Zj h6
  by_cases h7:((0:Nat):Int)<e.size
  ·have d7:decide (((0:Nat):Int)<e.size)=true:=Zr h7
   by_cases h8:e.mem.kind=((2:Nat):Int)
   ·have d8:decide (e.mem.kind=((2:Nat):Int))=true:=Zr h8
    simp(maxSteps:=4000000) (disch:=first|assumption|omega|(simp -implicitDefEqProofs only[Yr,Ys]<;>first|assumption|omega)|decide) only[ec,em,g1,hH1,ln,lc,X1,VQ,Vy,d2,d3,d4,d5,d6,d7,d8,ZG,Zz,ZK,ZT,ZP,ZS,Z9,Ya,ZO,Z8,Yc,Yb,Zx,Zt,Zs,ZU,Nat.reduceSub,Nat.reduceAdd,Nat.reduceLeDiff,Zi,Zh,Nat.reduceEqDiff,decide_true,decide_false,ZJ,Zf,Zd,YH,YJ,ZZ,ZC,Zv,ZY,ZX,ZM,Zk,Zl,Yf,ZD,Zd,Zf,Yg,ZV,Ye,U3,Yj,Zn,Zw,Zq,ZA,Zo,Zp,Zm,Zu,YW,YX,Y5,Y4,YI,Y3,Xg,c64,YU,WD,Yp,Yq,ZE,ZH,ZF,Nat.reduceEqDiff,reduceCtorEq,WE,UF,N6]
    generalize hL:TH (MZ _) fuel _ _ _=L
    obtain⟨o,MR,H2,rfl,_,k2,z⟩:=WW (P:=λT=>ig H1 H.nx [] cv e.chunks e.chunks.length T H1) (Q:=iK H1 H.nx e.chunks)
     (λT hi=>Vd (ig H1 H.nx [] cv e.chunks) (iK H1 H.nx e.chunks) (λm tm H2 h=>xQ hl hs.sums (by rw[k1.ro];exact YZ g.ro k1.nx) (hC.keep0 k1) _ _ m tm H2 h) fuel e.chunks.length T H1 (by have:=E.big;omega) hi) hL
     (by exact⟨rfl,rfl,rfl,⟨0,0,rfl,rfl,by omega,by omega,rfl⟩,Yw.refl _ _⟩)
    have k12:=k1.trans' k2
    rcases z with⟨rfl,t2,e8⟩|⟨rfl,t1,a,t5,e8⟩
    ·simp only[K0] at t2
     rw[S2 (.inr (.inr (.inr (.inr (.inr (.inr (.inr (.inl e8))))))))]
     simp(maxSteps:=4000000) (disch:=first|assumption|omega|(simp -implicitDefEqProofs only[Yr,Ys]<;>first|assumption|omega)|decide) only[t2,ZG,Zz,ZK,ZT,ZP,ZS,Z9,Ya,ZO,Z8,Yc,Yb,Zx,Zt,Zs,ZU,Nat.reduceSub,Nat.reduceAdd,Nat.reduceLeDiff,Zi,Zh,Nat.reduceEqDiff,decide_true,decide_false,ZJ,Zf,Zd,YH,YJ,ZZ,ZC,Zv,ZY,ZX,ZM,Zk,Zl,Yf,ZD,Zd,Zf,Yg,ZV,Ye,U3,Yj,Zn,Zw,Zq,ZA,Zo,Zp,Zm,Zu,YW,YX,Y5,Y4,YI,Y3,Xg,c64,YU,WD,Yp,Yq,ZE,ZH,ZF,Nat.reduceEqDiff,reduceCtorEq,WE,UF,N6]
     refine⟨_,rfl,?_⟩
     exact k12
    ·simp only[JA] at t1
     simp only[wQ] at t5
     have g2:H2.t.get H.nx=some (rG 31 1 [.str e.mem.path,.int .i64 e.mem.kind,nI .u32 e.mem.mode,nI .u32 e.mem.uid,nI .u32 e.mem.gid,.int .i64 e.mem.time,av,dv,.str e.mem.link,.int .i64 e.size,.int .i64 e.head,cv] 0 false true true):=by rw[k2.get _ (by rw[<-hH1];exact Xl _) (by simp)];exact g1
     by_cases h9:(a:Int)=e.size
     ·have d9:decide ((a:Int)=e.size)=true:=Zr h9
      rw[F3 h1 (by omega) (by omega) (by omega) (by omega) (by omega) (.inr h8) e8 h9]
      simp(maxSteps:=4000000) (disch:=first|assumption|omega|(simp -implicitDefEqProofs only[Yr,Ys]<;>first|assumption|omega)|decide) only[t1,t5,g2,d9,X1,ZG,Zz,ZK,ZT,ZP,ZS,Z9,Ya,ZO,Z8,Yc,Yb,Zx,Zt,Zs,ZU,Nat.reduceSub,Nat.reduceAdd,Nat.reduceLeDiff,Zi,Zh,Nat.reduceEqDiff,decide_true,decide_false,ZJ,Zf,Zd,YH,YJ,ZZ,ZC,Zv,ZY,ZX,ZM,Zk,Zl,Yf,ZD,Zd,Zf,Yg,ZV,Ye,U3,Yj,Zn,Zw,Zq,ZA,Zo,Zp,Zm,Zu,YW,YX,Y5,Y4,YI,Y3,Xg,c64,YU,WD,Yp,Yq,ZE,ZH,ZF,Nat.reduceEqDiff,reduceCtorEq,WE,UF,N6]
      refine⟨_,rfl,?_⟩
      exact k12
     ·have d9:decide ((a:Int)=e.size)=false:=Zj h9
      rw[S2 (.inr (.inr (.inr (.inr (.inr (.inr (.inr (.inr ⟨a,e8,h9⟩))))))))]
      simp(maxSteps:=4000000) (disch:=first|assumption|omega|(simp -implicitDefEqProofs only[Yr,Ys]<;>first|assumption|omega)|decide) only[t1,t5,g2,d9,X1,ZG,Zz,ZK,ZT,ZP,ZS,Z9,Ya,ZO,Z8,Yc,Yb,Zx,Zt,Zs,ZU,Nat.reduceSub,Nat.reduceAdd,Nat.reduceLeDiff,Zi,Zh,Nat.reduceEqDiff,decide_true,decide_false,ZJ,Zf,Zd,YH,YJ,ZZ,ZC,Zv,ZY,ZX,ZM,Zk,Zl,Yf,ZD,Zd,Zf,Yg,ZV,Ye,U3,Yj,Zn,Zw,Zq,ZA,Zo,Zp,Zm,Zu,YW,YX,Y5,Y4,YI,Y3,Xg,c64,YU,WD,Yp,Yq,ZE,ZH,ZF,Nat.reduceEqDiff,reduceCtorEq,WE,UF,N6]
      refine⟨_,rfl,?_⟩
      exact k12
   ·have d8:decide (e.mem.kind=((2:Nat):Int))=false:=Zj h8
    rw[S2 (.inr (.inr (.inr (.inr (.inr (.inr (.inl ⟨by omega,h8⟩)))))))]
    simp(maxSteps:=4000000) (disch:=first|assumption|omega|(simp -implicitDefEqProofs only[Yr,Ys]<;>first|assumption|omega)|decide) only[ec,em,g1,hH1,ln,lc,X1,VQ,Vy,d2,d3,d4,d5,d6,d7,d8,ZG,Zz,ZK,ZT,ZP,ZS,Z9,Ya,ZO,Z8,Yc,Yb,Zx,Zt,Zs,ZU,Nat.reduceSub,Nat.reduceAdd,Nat.reduceLeDiff,Zi,Zh,Nat.reduceEqDiff,decide_true,decide_false,ZJ,Zf,Zd,YH,YJ,ZZ,ZC,Zv,ZY,ZX,ZM,Zk,Zl,Yf,ZD,Zd,Zf,Yg,ZV,Ye,U3,Yj,Zn,Zw,Zq,ZA,Zo,Zp,Zm,Zu,YW,YX,Y5,Y4,YI,Y3,Xg,c64,YU,WD,Yp,Yq,ZE,ZH,ZF,Nat.reduceEqDiff,reduceCtorEq,WE,UF,N6]
    refine⟨_,rfl,?_⟩
    exact k1
  ·have d7:decide (((0:Nat):Int)<e.size)=false:=Zj h7
   simp(maxSteps:=4000000) (disch:=first|assumption|omega|(simp -implicitDefEqProofs only[Yr,Ys]<;>first|assumption|omega)|decide) only[ec,em,g1,hH1,ln,lc,X1,VQ,Vy,d2,d3,d4,d5,d6,d7,ZG,Zz,ZK,ZT,ZP,ZS,Z9,Ya,ZO,Z8,Yc,Yb,Zx,Zt,Zs,ZU,Nat.reduceSub,Nat.reduceAdd,Nat.reduceLeDiff,Zi,Zh,Nat.reduceEqDiff,decide_true,decide_false,ZJ,Zf,Zd,YH,YJ,ZZ,ZC,Zv,ZY,ZX,ZM,Zk,Zl,Yf,ZD,Zd,Zf,Yg,ZV,Ye,U3,Yj,Zn,Zw,Zq,ZA,Zo,Zp,Zm,Zu,YW,YX,Y5,Y4,YI,Y3,Xg,c64,YU,WD,Yp,Yq,ZE,ZH,ZF,Nat.reduceEqDiff,reduceCtorEq,WE,UF,N6]
   generalize hL:TH (MZ _) fuel _ _ _=L
   obtain⟨o,MR,H2,rfl,_,k2,z⟩:=WW (P:=λT=>ig H1 H.nx [] cv e.chunks e.chunks.length T H1) (Q:=iK H1 H.nx e.chunks)
    (λT hi=>Vd (ig H1 H.nx [] cv e.chunks) (iK H1 H.nx e.chunks) (λm tm H2 h=>xQ hl hs.sums (by rw[k1.ro];exact YZ g.ro k1.nx) (hC.keep0 k1) _ _ m tm H2 h) fuel e.chunks.length T H1 (by have:=E.big;omega) hi) hL
    (by exact⟨rfl,rfl,rfl,⟨0,0,rfl,rfl,by omega,by omega,rfl⟩,Yw.refl _ _⟩)
   have k12:=k1.trans' k2
   rcases z with⟨rfl,t2,e8⟩|⟨rfl,t1,a,t5,e8⟩
   ·simp only[K0] at t2
    rw[S2 (.inr (.inr (.inr (.inr (.inr (.inr (.inr (.inl e8))))))))]
    simp(maxSteps:=4000000) (disch:=first|assumption|omega|(simp -implicitDefEqProofs only[Yr,Ys]<;>first|assumption|omega)|decide) only[t2,ZG,Zz,ZK,ZT,ZP,ZS,Z9,Ya,ZO,Z8,Yc,Yb,Zx,Zt,Zs,ZU,Nat.reduceSub,Nat.reduceAdd,Nat.reduceLeDiff,Zi,Zh,Nat.reduceEqDiff,decide_true,decide_false,ZJ,Zf,Zd,YH,YJ,ZZ,ZC,Zv,ZY,ZX,ZM,Zk,Zl,Yf,ZD,Zd,Zf,Yg,ZV,Ye,U3,Yj,Zn,Zw,Zq,ZA,Zo,Zp,Zm,Zu,YW,YX,Y5,Y4,YI,Y3,Xg,c64,YU,WD,Yp,Yq,ZE,ZH,ZF,Nat.reduceEqDiff,reduceCtorEq,WE,UF,N6]
    refine⟨_,rfl,?_⟩
    exact k12
   ·simp only[JA] at t1
    simp only[wQ] at t5
    have g2:H2.t.get H.nx=some (rG 31 1 [.str e.mem.path,.int .i64 e.mem.kind,nI .u32 e.mem.mode,nI .u32 e.mem.uid,nI .u32 e.mem.gid,.int .i64 e.mem.time,av,dv,.str e.mem.link,.int .i64 e.size,.int .i64 e.head,cv] 0 false true true):=by rw[k2.get _ (by rw[<-hH1];exact Xl _) (by simp)];exact g1
    by_cases h9:(a:Int)=e.size
    ·have d9:decide ((a:Int)=e.size)=true:=Zr h9
     rw[F3 h1 (by omega) (by omega) (by omega) (by omega) (by omega) (.inl (by omega)) e8 h9]
     simp(maxSteps:=4000000) (disch:=first|assumption|omega|(simp -implicitDefEqProofs only[Yr,Ys]<;>first|assumption|omega)|decide) only[t1,t5,g2,d9,X1,ZG,Zz,ZK,ZT,ZP,ZS,Z9,Ya,ZO,Z8,Yc,Yb,Zx,Zt,Zs,ZU,Nat.reduceSub,Nat.reduceAdd,Nat.reduceLeDiff,Zi,Zh,Nat.reduceEqDiff,decide_true,decide_false,ZJ,Zf,Zd,YH,YJ,ZZ,ZC,Zv,ZY,ZX,ZM,Zk,Zl,Yf,ZD,Zd,Zf,Yg,ZV,Ye,U3,Yj,Zn,Zw,Zq,ZA,Zo,Zp,Zm,Zu,YW,YX,Y5,Y4,YI,Y3,Xg,c64,YU,WD,Yp,Yq,ZE,ZH,ZF,Nat.reduceEqDiff,reduceCtorEq,WE,UF,N6]
     refine⟨_,rfl,?_⟩
     exact k12
    ·have d9:decide ((a:Int)=e.size)=false:=Zj h9
     rw[S2 (.inr (.inr (.inr (.inr (.inr (.inr (.inr (.inr ⟨a,e8,h9⟩))))))))]
     simp(maxSteps:=4000000) (disch:=first|assumption|omega|(simp -implicitDefEqProofs only[Yr,Ys]<;>first|assumption|omega)|decide) only[t1,t5,g2,d9,X1,ZG,Zz,ZK,ZT,ZP,ZS,Z9,Ya,ZO,Z8,Yc,Yb,Zx,Zt,Zs,ZU,Nat.reduceSub,Nat.reduceAdd,Nat.reduceLeDiff,Zi,Zh,Nat.reduceEqDiff,decide_true,decide_false,ZJ,Zf,Zd,YH,YJ,ZZ,ZC,Zv,ZY,ZX,ZM,Zk,Zl,Yf,ZD,Zd,Zf,Yg,ZV,Ye,U3,Yj,Zn,Zw,Zq,ZA,Zo,Zp,Zm,Zu,YW,YX,Y5,Y4,YI,Y3,Xg,c64,YU,WD,Yp,Yq,ZE,ZH,ZF,Nat.reduceEqDiff,reduceCtorEq,WE,UF,N6]
     refine⟨_,rfl,?_⟩
     exact k12
theorem jU{Z7:Lib}{fs:T CF}{fuel:Nat}(E:Env Z7 fs fuel){k n:Nat}(hk:13<=k){cs:List AV}{e:Uk}{H:Heap}(hs:Q7 e)(g:Ob H)(he:Jk H cs e):
  Xd (LK Z7 fs fuel k) fs fuel (n+1) 64 [.agg cs] H=.ret (.bool (Sj e)) H:=by
 obtain⟨H',e,g⟩:=yt E (n:=898) (H:=H) hs g he
 exact Wy (r:=12) rfl rfl e g (rfl) hk
def Ao(p z:Int):Bool:=decide (p<z)&&decide (z<=1099511627776)
def IG:Int->List Mq->Option Int
 |p,[]=>some p
 |p,x::l=>if Ao p x.place=true then IG x.place l else none
def xd(prev:Option (List UInt8))(e:Uk):Bool:=match prev with|none=>true|some q=>!XW q e.mem.path
def EF:Option (List UInt8)->Int->List Uk->Bool
 |_,_,[]=>true
 |prev,p,e::l=>Sj e&&xd prev e&&Ao p e.head&&(match IG e.head e.chunks with|some p'=>EF (some e.mem.path) p' l|none=>false)
def M7(l:List Uk):Bool:=EF none (-1) l&&decide (l.length<=4096)
instance:Inhabited Mem:=⟨⟨[],0,0,0,0,0,[],[],[]⟩⟩
instance:Inhabited Uk:=⟨⟨default,0,0,[]⟩⟩
def ul(p:Int):Obj:=rG 2 1 [.int .i64 p] 0 false true true
theorem DA{Z7:Lib}{fs:T CF}{fuel:Nat}(E:Env Z7 fs fuel){k n:Nat}{z p:Int}{pb:Nat}{H:Heap}(hro:H.ro<=pb)(g:H.t.get pb=some (ul p)):
  Xd (LK Z7 fs fuel k) fs fuel (n+1) 63 [.int .i64 z,.ptr pb 0] H=.ret (.bool (Ao p z)) (H.put pb (ul z)):=by
 rw[XR (Xk E.n63 (.inr rfl) _ _) E.f63]
 unfold ul at g ⊢
 unfold Ao
 have sf:=Mn (v:=.int .i64 z) (b:=pb) (o:=0) (l:=[.int .i64 p]) (H:=H) (fz:=0) rfl (Xl 0) hro (Z2 0) 2 1 false true
 have l0: ∀G,ld1 (some (rG 2 1 [.int .i64 p] 0 false true true)) 0 G=.val (.int .i64 p) G:=λG=>by rw[X1 (Xl 0)];rfl
 by_cases h:p<z
 ·have d1:decide (p<z)=true:=Zr h
  rw[d1,Ur]
  have d2: ∀G,ND TG VN (.int .i64 z) (nI .i64 1099511627776) G=.val (.bool (decide (z<=1099511627776))) G:=λG=>Xe ..
  simp(maxSteps:=4000000) (disch:=first|assumption|omega|(simp -implicitDefEqProofs only[Yr,Ys]<;>first|assumption|omega)|decide) only[g,l0,sf,d1,d2,XB,ZG,Zz,ZK,ZT,ZP,ZS,Z9,Ya,ZO,Z8,Yc,Yb,Zx,Zt,Zs,ZU,Nat.reduceSub,Nat.reduceAdd,Nat.reduceLeDiff,Zi,Zh,Nat.reduceEqDiff,decide_true,decide_false,ZJ,Zf,Zd,YH,YJ,ZZ,ZC,Zv,ZY,ZX,ZM,Zk,Zl,Yf,ZD,Zd,Zf,Yg,ZV,Ye,U3,Yj,Zn,Zw,Zq,ZA,Zo,Zp,Zm,Zu,YW,YX,Y5,Y4,YI,Y3,dy,YU,WD,Yp,Yq,ZE,ZH,ZF,Nat.reduceEqDiff,reduceCtorEq,WE]
 ·have d1:decide (p<z)=false:=Zj h
  rw[d1,PB]
  simp(maxSteps:=4000000) (disch:=first|assumption|omega|(simp -implicitDefEqProofs only[Yr,Ys]<;>first|assumption|omega)|decide) only[g,l0,sf,d1,XB,ZG,Zz,ZK,ZT,ZP,ZS,Z9,Ya,ZO,Z8,Yc,Yb,Zx,Zt,Zs,ZU,Nat.reduceSub,Nat.reduceAdd,Nat.reduceLeDiff,Zi,Zh,Nat.reduceEqDiff,decide_true,decide_false,ZJ,Zf,Zd,YH,YJ,ZZ,ZC,Zv,ZY,ZX,ZM,Zk,Zl,Yf,ZD,Zd,Zf,Yg,ZV,Ye,U3,Yj,Zn,Zw,Zq,ZA,Zo,Zp,Zm,Zu,YW,YX,Y5,Y4,YI,Y3,dy,YU,WD,Yp,Yq,ZE,ZH,ZF,Nat.reduceEqDiff,reduceCtorEq,WE]
theorem XN(x:Mq):(TW x).getD 2 .unk=.int .i64 x.place:=rfl
theorem XL(x:Mq):(TW x).getD 0 .unk=.int .i64 x.at_:=rfl
theorem XM(x:Mq):(TW x).getD 1 .unk=.int .i64 x.size:=rfl
structure ie(H0:Heap)(b0 pb:Nat)(ev:AV)(len i:Nat)(cv:AV)(l:List Mq)(p0:Int)(m:Nat)(tm:TM)(H:Heap):Prop where
 t1:YQ tm=.ptr b0 0
 t4:Xh tm=.func 63 [] [.ptr pb 0]
 t11:Yz tm=ev
 t12:Yn tm=nI .i64 len
 t13:YD tm=nI .i64 i
 t47:Vu tm=cv
 t48:Vq tm=nI .i64 l.length
 j: ∃j p,Vv tm=nI .i64 j∧j+m=l.length∧H.t.get pb=some (ul p)∧IG p0 l=IG p (l.drop j)
 k:Yw H0 H [pb]
 pb:pb<H0.nx
def iJ(H0:Heap)(b0 pb:Nat)(ev:AV)(len i:Nat)(l:List Mq)(p0:Int)(o:Out)(tm:TM)(H:Heap):Prop:=Yw H0 H [pb]∧((o=.ret∧XC tm=.bool false∧IG p0 l=none)∨(o=.exit 2∧YQ tm=.ptr b0 0∧Xh tm=.func 63 [] [.ptr pb 0]∧Yz tm=ev∧Yn tm=nI .i64 len∧YD tm=nI .i64 i∧ ∃p,H.t.get pb=some (ul p)∧IG p0 l=some p))
theorem xL{Z7:Lib}{fs:T CF}{fuel:Nat}(E:Env Z7 fs fuel){n k:Nat}{cv ev:AV}{l:List Mq}(hl:l.length<=90000)(hs: ∀x∈l,x.sum.length=32){H0:Heap}{b0 pb len i0:Nat}{p0:Int}(hro:H0.ro<=pb)(hN: ∀H,Yw H0 H [pb]->Sz H 35 cv (Nq l))(y f dd q)(X0:X)(m:Nat)(tm:TM)(H:Heap)(hI:ie H0 b0 pb ev len i0 cv l p0 m tm H):
  ∃o tm' H',Js ⟨Xd (LK Z7 fs fuel k) fs fuel (n+1),y,f,dd,q⟩ tm H X0=.ok o tm' H' X0∧((o=.normal∧ ∃k,k<m∧ie H0 b0 pb ev len i0 cv l p0 k tm' H')∨(o≠.normal∧iJ H0 b0 pb ev len i0 l p0 o tm' H')):=by
 obtain⟨t1,t4,t11,t12,t13,t47,t48,⟨i,p,t49,him,gp,hr⟩,k0,hpb⟩:=hI
 have t1':=t1;have bZ:=t4;have MB:=t11;have MC:=t12;have qY:=t13;have ZeC:=t47;have ZeD:=t48
 simp only[Es] at t4
 simp only[dX] at t47
 simp only[dY] at t48
 simp only[dZ] at t49
 cases m with
 |zero=>
  have d1:decide (i<l.length)=false:=Zj (by omega)
  simp(maxSteps:=4000000) (disch:=first|assumption|omega|(simp -implicitDefEqProofs only[Yr,Ys]<;>first|assumption|omega)|decide) only[t48,t49,d1,ZG,Zz,ZK,ZT,ZP,ZS,Z9,Ya,ZO,Z8,Yc,Yb,Zx,Zt,Zs,ZU,Nat.reduceSub,Nat.reduceAdd,Nat.reduceLeDiff,Zi,Zh,Nat.reduceEqDiff,decide_true,decide_false,ZJ,Zf,Zd,YH,YJ,ZZ,ZC,Zv,ZY,ZX,ZM,Zk,Zl,Yf,ZD,Zd,Zf,Yg,ZV,Ye,U3,Yj,Zn,Zw,Zq,ZA,Zo,Zp,Zm,Zu,YW,YX,Y5,Y4,YI,Y3,Xg,ZQ,XB,Xe,XL,XM,XN,Js,YU,WD,Yp,Yq,ZE,ZH,ZF,Nat.reduceEqDiff,reduceCtorEq,WE,UF]
  refine⟨_,_,_,rfl,?_⟩
  exact .inr ⟨by simp,k0,.inr ⟨rfl,t1',bZ,MB,MC,qY,p,gp,by rw[hr,V5 (by omega)];rfl⟩⟩
 |succ m=>
  have d1:decide (i<l.length)=true:=Zr (by omega)
  have hi:i<l.length:=by omega
  have hN:=hN H k0
  have hpb2:=k0.nx
  obtain⟨bb,o,r,eI,hb,gb,eL,eE⟩:=hN.at_ (i:=i) (by rw[TX];omega)
  rw[KL hi] at eL
  have hsum:(l.getD i default).sum.length=32:=hs _ (by rw[ZN,ZW hi];exact Vc hi)
  have hdr:l.drop i=l.getD i default::l.drop (i+1):=by
   rw[US hi,ZN,ZW hi];rfl
  rw[hdr] at hr
  generalize hx:l.getD i default=x at*
  have xl:(TW x).length=35:=by unfold TW;simp[hsum]
  obtain⟨H1,hH1⟩: ∃G,H.new (rG 108 1 (TW x) 0 false true true)=G:=⟨_,rfl⟩
  have k1:Yw H0 H1 [pb]:=by rw[<-hH1];exact k0.then_new _
  have Kd:H1.nx=H.nx+1:=by rw[<-hH1];rfl
  have g1:H1.t.get H.nx=some (rG 108 1 (TW x) 0 false true true):=by rw[<-hH1];exact YN rfl _
  have gbz:(H.new (rG 108 1 z35 0 false true true)).t.get bb=some (.row r):=by rw[WH (by omega)];exact gb
  have sf:=TL (n:=35) (b:=H.nx) (l:=z35) (vs:=TW x) (H:=H.new (rG 108 1 z35 0 false true true)) Ln xl (by decide) (by show H.ro<=_;rw[k0.ro];omega) 108 1 false true
  rw[Ty rfl,hH1] at sf
  have gz:=λ(G:Heap)=>YN (H:=H) rfl (rG 108 1 z35 0 false true true)
  have l2: ∀G,ld1 (some (rG 108 1 (TW x) 0 false true true)) 2 G=.val (.int .i64 x.place) G:=λG=>by rw[X1 (by rw[xl];decide)];rfl
  have gp1:H1.t.get pb=some (ul p):=by rw[<-hH1,WH (by omega)];exact gp
  have er:=λ{j}=>DA (Z7:=Z7) (fs:=fs) (fuel:=fuel) E (k:=k) (n:=j) (z:=x.place) (p:=p) (pb:=pb) (H:=H1) (by rw[k1.ro];exact hro) gp1
  have k2:Yw H0 (H1.put pb (ul x.place)) [pb]:=k1.then_put (λh=>by simp)
  cases hp:Ao p x.place with
  |true=>
   rw[hp] at er
   simp(maxSteps:=4000000) (disch:=first|assumption|omega|(simp -implicitDefEqProofs only[Yr,Ys]<;>first|assumption|omega)|decide) only[t4,t47,t48,t49,d1,eI,gb,gbz,eL,gz,sf,hH1,g1,l2,er,V7,ZG,Zz,ZK,ZT,ZP,ZS,Z9,Ya,ZO,Z8,Yc,Yb,Zx,Zt,Zs,ZU,Nat.reduceSub,Nat.reduceAdd,Nat.reduceLeDiff,Zi,Zh,Nat.reduceEqDiff,decide_true,decide_false,ZJ,Zf,Zd,YH,YJ,ZZ,ZC,Zv,ZY,ZX,ZM,Zk,Zl,Yf,ZD,Zd,Zf,Yg,ZV,Ye,U3,Yj,Zn,Zw,Zq,ZA,Zo,Zp,Zm,Zu,YW,YX,Y5,Y4,YI,Y3,Xg,ZQ,XB,Xe,XL,XM,XN,Js,YU,WD,Yp,Yq,ZE,ZH,ZF,Nat.reduceEqDiff,reduceCtorEq,WE,UF]
   refine⟨_,_,_,rfl,?_⟩
   exact .inl ⟨rfl,m,by omega,t1',bZ,MB,MC,qY,ZeC,ZeD,⟨i+1,x.place,rfl,by omega,UQ ..,by rw[hr,IG,if_pos hp]⟩,k2,hpb⟩
  |false=>
   rw[hp] at er
   simp(maxSteps:=4000000) (disch:=first|assumption|omega|(simp -implicitDefEqProofs only[Yr,Ys]<;>first|assumption|omega)|decide) only[t4,t47,t48,t49,d1,eI,gb,gbz,eL,gz,sf,hH1,g1,l2,er,V7,ZG,Zz,ZK,ZT,ZP,ZS,Z9,Ya,ZO,Z8,Yc,Yb,Zx,Zt,Zs,ZU,Nat.reduceSub,Nat.reduceAdd,Nat.reduceLeDiff,Zi,Zh,Nat.reduceEqDiff,decide_true,decide_false,ZJ,Zf,Zd,YH,YJ,ZZ,ZC,Zv,ZY,ZX,ZM,Zk,Zl,Yf,ZD,Zd,Zf,Yg,ZV,Ye,U3,Yj,Zn,Zw,Zq,ZA,Zo,Zp,Zm,Zu,YW,YX,Y5,Y4,YI,Y3,Xg,ZQ,XB,Xe,XL,XM,XN,Js,YU,WD,Yp,Yq,ZE,ZH,ZF,Nat.reduceEqDiff,reduceCtorEq,WE,UF]
   refine⟨_,_,_,rfl,?_⟩
   exact .inr ⟨by simp,k2,.inl ⟨rfl,rfl,by rw[hr,IG,if_neg (by rw[hp];simp)]⟩⟩
def QE(H:Heap)(ev:AV)(L:List Uk):Prop:= ∃Ls,Sz H 12 ev Ls∧Ls.length=L.length∧ ∀i,i<L.length->Jk H (Ls.getD i []) (L.getD i default)
theorem QE.keep{H H':Heap}{ev:AV}{L:List Uk}(h:QE H ev L)(k:Yw H H' []):QE H' ev L:=by
 obtain⟨Ls,h1,h2,h3⟩:=h
 exact⟨Ls,h1.keep0 k,h2,λi hi=>(h3 i hi).keep k⟩
theorem DH: ∀(l:List AV),(∀v∈l,AI.same v v=true)->AI.sameL l l=true
 |[],_=>by unfold AI.sameL;rfl
 |a::l,h=>by
  unfold AI.sameL
  rw[h a (Z5 ..),DH l λv hv=>h v (Yd _ hv)];rfl
theorem Aw{l:List AV}(h: ∀v∈l,AI.same v v=true)(n:Nat)(t:T Obj):TS (.val (.agg l) ⟨n,t,n⟩) (.agg l) n=true:=
 SQ _ _ _ (by unfold AI.same;exact DH l h)
theorem M4(k:IntKind)(z:Int)(n:Nat)(t:T Obj):TS (.val (.int k z) ⟨n,t,n⟩) (.int k z) n=true:=SQ _ _ _ (T0 k z)
theorem Sz.sam{H:Heap}{sz:Nat}{v:AV}{ls:List (List AV)}(h:Sz H sz v ls):AI.same v v=true:=by
 rcases h with⟨_,rfl⟩|h
 ·unfold AI.same;rfl
 ·rcases h.here with⟨_,rfl⟩|⟨b,o,c,rfl,_⟩
  ·unfold AI.same;rfl
  ·unfold AI.same
   rw[Xt,Xt,Xt]
   cases c<;>simp
def OP(ev:AV):Obj:=rG 47 1 [ev] 0 false true true
structure iL(H0:Heap)(b0 pb:Nat)(ev:AV)(L:List Uk)(m:Nat)(tm:TM)(H:Heap):Prop where
 t1:YQ tm=.ptr b0 0
 t4:Xh tm=.func 63 [] [.ptr pb 0]
 t11:Yz tm=ev
 t12:Yn tm=nI .i64 L.length
 i: ∃i p,YD tm=nI .i64 i∧i+m=L.length∧H.t.get pb=some (ul p)∧EF none (-1) L=EF (if i=0 then none else some (L.getD (i - 1) default).mem.path) p (L.drop i)
 g0:H.t.get b0=some (OP ev)
 k:Yw H0 H []
 pb:H0.nx<=b0∧b0<H.nx∧H0.nx<=pb∧pb<H.nx∧b0≠pb
def az(H0:Heap)(b0:Nat)(ev:AV)(L:List Uk)(o:Out)(tm:TM)(H:Heap):Prop:=Yw H0 H []∧((o=.ret∧XC tm=.bool false∧EF none (-1) L=false)∨(o=.exit 0∧YQ tm=.ptr b0 0∧H.t.get b0=some (OP ev)∧EF none (-1) L=true))
theorem uN(prev:Option (List UInt8))(p:Int)(e:Uk)(l:List Uk):EF prev p (e::l)=(Sj e&&xd prev e&&Ao p e.head&&(match IG e.head e.chunks with|some p'=>EF (some e.mem.path) p' l|none=>false)):=rfl
theorem mh{Z7:Lib}{fs:T CF}{fuel:Nat}(E:Env Z7 fs fuel){n k:Nat}(hk:13<=k){ev:AV}{L:List Uk}(hl:L.length<=90000)(hs: ∀i,i<L.length->Q7 (L.getD i default)){H0:Heap}{b0 pb:Nat}(g:Ob H0)(hN:QE H0 ev L)(y f dd q)(hdd:fuel=dd)(X0:X)(m:Nat)(tm:TM)(H:Heap)(hI:iL H0 b0 pb ev L m tm H):
  ∃o tm' H',OA ⟨Xd (LK Z7 fs fuel k) fs fuel (n+1),y,f,dd,q⟩ tm H X0=.ok o tm' H' X0∧((o=.normal∧ ∃k,k<m∧iL H0 b0 pb ev L k tm' H')∨(o≠.normal∧az H0 b0 ev L o tm' H')):=by
 subst hdd
 obtain⟨t1,t4,t11,t12,⟨i,p,t13,him,gp,hG⟩,g0,k0,hb0,hb1,hp0,hp1,hbp⟩:=hI
 have t1':=t1;have bZ:=t4;have MB:=t11;have MC:=t12;have qY:=t13
 simp only[JA] at t1
 simp only[Es] at t4
 simp only[Dg] at t11
 simp only[Ik] at t12
 simp only[y9] at t13
 cases m with
 |zero=>
  have d1:decide (i<L.length)=false:=Zj (by omega)
  simp(maxSteps:=4000000) (disch:=first|assumption|omega|(simp -implicitDefEqProofs only[Yr,Ys]<;>first|assumption|omega)|decide) only[t12,t13,d1,ZG,Zz,ZK,ZT,ZP,ZS,Z9,Ya,ZO,Z8,Yc,Yb,Zx,Zt,Zs,ZU,Nat.reduceSub,Nat.reduceAdd,Nat.reduceLeDiff,Zi,Zh,Nat.reduceEqDiff,decide_true,decide_false,ZJ,Zf,Zd,YH,YJ,ZZ,ZC,Zv,ZY,ZX,ZM,Zk,Zl,Yf,ZD,Zd,Zf,Yg,ZV,Ye,U3,Yj,Zn,Zw,Zq,ZA,Zo,Zp,Zm,Zu,YW,YX,Y5,Y4,YI,Y3,Xg,ZQ,XB,Xe,XL,XM,XN,OA,YU,WD,Yp,Yq,ZE,ZH,ZF,Nat.reducePow,Nat.reduceDiv,Nat.reduceMod,Nat.reduceEqDiff,reduceCtorEq,WE,UF]
  refine⟨_,_,_,rfl,?_⟩
  exact .inr ⟨by simp,k0,.inr ⟨rfl,t1',g0,by rw[hG,V5 (by omega)];unfold EF;rfl⟩⟩
 |succ m=>
  have d1:decide (i<L.length)=true:=Zr (by omega)
  have hi:i<L.length:=by omega
  obtain⟨Ls,hS0,iv,hE⟩:=hN
  have hS:=hS0.keep0 k0
  have iy:=hS.low (n:=H.nx) (Z2 _)
  have wY:=hS.low (n:=H.nx+1) (Un _)
  have iz:=hS.same
  have hsh:=hs i hi
  obtain⟨bb,o,r,eI,hb,gb,eL,eE⟩:=hS.at_ (i:=i) (by omega)
  have Dh:=hE i hi
  have BG:=Dh
  have hdr:L.drop i=L.getD i default::L.drop (i+1):=by
   rw[US hi,ZN,ZW hi];rfl
  have hnx: ∀x,x=L.getD i default->(L.getD (i+1 - 1) default).mem.path=x.mem.path:=λx hx=>by rw[hx,SA]
  rw[hdr,uN] at hG
  generalize hx:L.getD i default=e at*
  have hnx:=hnx e rfl
  obtain⟨av,dv,cv,ecs,hA,hD,hC0⟩:=Dh
  rw[ecs] at eL BG
  have cv1:=hA.cells
  have aD:=hD.cells
  have cv3:=hC0.cells
  have ro0:H.ro<=H.nx:=by rw[k0.ro];exact YZ g.ro k0.nx
  obtain⟨H1,hH1⟩: ∃G,H.new (rG 31 1 [.str e.mem.path,.int .i64 e.mem.kind,nI .u32 e.mem.mode,nI .u32 e.mem.uid,nI .u32 e.mem.gid,.int .i64 e.mem.time,av,dv,.str e.mem.link,.int .i64 e.size,.int .i64 e.head,cv] 0 false true true)=G:=⟨_,rfl⟩
  have k1:Yw H H1 []:=by rw[<-hH1];exact Yw.new _ _ _
  have El:Yw H0 H1 []:=k0.trans' k1
  have Kd:H1.nx=H.nx+1:=by rw[<-hH1];rfl
  have jQ:H1.ro<=H1.nx:=by rw[k1.ro];exact YZ ro0 k1.nx
  have g1:H1.t.get H.nx=some (rG 31 1 [.str e.mem.path,.int .i64 e.mem.kind,nI .u32 e.mem.mode,nI .u32 e.mem.uid,nI .u32 e.mem.gid,.int .i64 e.mem.time,av,dv,.str e.mem.link,.int .i64 e.size,.int .i64 e.head,cv] 0 false true true):=by rw[<-hH1];exact YN rfl _
  have gbz:(H.new (rG 31 1 [.str [],nI .i64 0,nI .u32 0,nI .u32 0,nI .u32 0,nI .i64 0,.nils,.nils,.str [],nI .i64 0,nI .i64 0,.nils] 0 false true true)).t.get bb=some (.row r):=by rw[WH (by omega)];exact gb
  have sf:=TL (n:=12) (b:=H.nx) (l:=[.str [],nI .i64 0,nI .u32 0,nI .u32 0,nI .u32 0,nI .i64 0,.nils,.nils,.str [],nI .i64 0,nI .i64 0,.nils]) (vs:=[.str e.mem.path,.int .i64 e.mem.kind,nI .u32 e.mem.mode,nI .u32 e.mem.uid,nI .u32 e.mem.gid,.int .i64 e.mem.time,av,dv,.str e.mem.link,.int .i64 e.size,.int .i64 e.head,cv]) (H:=H.new (rG 31 1 [.str [],nI .i64 0,nI .u32 0,nI .u32 0,nI .u32 0,nI .i64 0,.nils,.nils,.str [],nI .i64 0,nI .i64 0,.nils] 0 false true true)) rfl rfl (by decide) (by show H.ro<=_;exact ro0) 31 1 false true
  rw[Ty rfl,hH1] at sf
  have gz:=λ(G:Heap)=>YN (H:=H) rfl (rG 31 1 [.str [],nI .i64 0,nI .u32 0,nI .u32 0,nI .u32 0,nI .i64 0,.nils,.nils,.str [],nI .i64 0,nI .i64 0,.nils] 0 false true true)
  have es:=λ{j}=>jU (Z7:=Z7) (fs:=fs) (fuel:=fuel) E (k:=k) (n:=j) hk (cs:=[.str e.mem.path,.int .i64 e.mem.kind,nI .u32 e.mem.mode,nI .u32 e.mem.uid,nI .u32 e.mem.gid,.int .i64 e.mem.time,av,dv,.str e.mem.link,.int .i64 e.size,.int .i64 e.head,cv]) (e:=e) (H:=H1) hsh (g.keep0 El) (BG.keep El)
  have gp1:H1.t.get pb=some (ul p):=by rw[k1.get _ hp1 (by simp)];exact gp
  have g01:H1.t.get b0=some (OP ev):=by rw[k1.get _ hb1 (by simp)];exact g0
  have CI: ∀G,ld1 (some (OP ev)) 0 G=.val ev G:=λG=>by unfold OP;rw[X1 (Xl 0)];rfl
  have er:=λ{j}=>DA (Z7:=Z7) (fs:=fs) (fuel:=fuel) E (k:=k) (n:=j) (z:=e.head) (p:=p) (pb:=pb) (H:=H1) (by rw[El.ro];have:=g.ro;omega) gp1
  obtain⟨H2,hH2⟩: ∃G,H1.put pb (ul e.head)=G:=⟨_,rfl⟩
  rw[hH2] at er
  have k2:Yw H0 H2 []:=by rw[<-hH2];exact El.then_put (λh=>by omega)
  have nx2:H2.nx=H.nx+1:=by rw[<-hH2,PV,Kd]
  have g2:H2.t.get H.nx=some (rG 31 1 [.str e.mem.path,.int .i64 e.mem.kind,nI .u32 e.mem.mode,nI .u32 e.mem.uid,nI .u32 e.mem.gid,.int .i64 e.mem.time,av,dv,.str e.mem.link,.int .i64 e.size,.int .i64 e.head,cv] 0 false true true):=by rw[<-hH2,Rl (by omega)];exact g1
  have g02:H2.t.get b0=some (OP ev):=by rw[<-hH2,Rl (by omega)];exact g01
  have gp2:H2.t.get pb=some (ul e.head):=by rw[<-hH2];exact UQ ..
  have hq: ∀n t,TS (.val (.agg [.str e.mem.path,.int .i64 e.mem.kind,nI .u32 e.mem.mode,nI .u32 e.mem.uid,nI .u32 e.mem.gid,.int .i64 e.mem.time,av,dv,.str e.mem.link,.int .i64 e.size,.int .i64 e.head,cv]) ⟨n,t,n⟩) (.agg [.str e.mem.path,.int .i64 e.mem.kind,nI .u32 e.mem.mode,nI .u32 e.mem.uid,nI .u32 e.mem.gid,.int .i64 e.mem.time,av,dv,.str e.mem.link,.int .i64 e.size,.int .i64 e.head,cv]) n=true:=Aw (by
   intro v hv
   simp only[Yv,Sr,or_false] at hv
   rcases hv with rfl|rfl|rfl|rfl|rfl|rfl|rfl|rfl|rfl|rfl|rfl|rfl
   ·exact Ko _
   ·exact T0 _ _
   ·exact T0 _ _
   ·exact T0 _ _
   ·exact T0 _ _
   ·exact T0 _ _
   ·exact hA.sam
   ·exact hD.sam
   ·exact Ko _
   ·exact T0 _ _
   ·exact T0 _ _
   ·exact hC0.sam)
  have hlf: ∀n,pb<n->VB n (.func 63 [] [.ptr pb 0])=true:=λn hn=>by
   show cond true (cond (VB n (.ptr pb 0)) true false) false=true
   rw[Yj hn];rfl
  have lc:=hC0.len
  rw[TX] at lc
  have hcl:=hsh.chunks
  cases hsE:Sj e with
  |false=>
   rw[hsE] at es hG
   simp(maxSteps:=4000000) (disch:=first|assumption|omega|(simp -implicitDefEqProofs only[Yr,Ys]<;>first|assumption|omega)|decide) only[t1,t4,t11,t12,t13,d1,eI,gb,gbz,eL,gz,sf,hH1,g1,es,g01,CI,Kd,X1,VQ,iy,wY,iz,hq,ZG,Zz,ZK,ZT,ZP,ZS,Z9,Ya,ZO,Z8,Yc,Yb,Zx,Zt,Zs,ZU,Nat.reduceSub,Nat.reduceAdd,Nat.reduceLeDiff,Zi,Zh,Nat.reduceEqDiff,decide_true,decide_false,ZJ,Zf,Zd,YH,YJ,ZZ,ZC,Zv,ZY,ZX,ZM,Zk,Zl,Yf,ZD,Zd,Zf,Yg,ZV,Ye,U3,Yj,Zn,Zw,Zq,ZA,Zo,Zp,Zm,Zu,YW,YX,Y5,Y4,YI,Y3,Xg,ZQ,XB,Xe,XL,XM,XN,OA,YU,WD,Yp,Yq,ZE,ZH,ZF,Nat.reducePow,Nat.reduceDiv,Nat.reduceMod,Nat.reduceEqDiff,reduceCtorEq,WE,UF]
   refine⟨_,_,_,rfl,?_⟩
   exact .inr ⟨by simp,El,.inl ⟨rfl,rfl,by rw[hG];rfl⟩⟩
  |true=>
   rw[hsE] at es hG
   rw[Ur] at hG
   have after: ∀(hh:xd (if i=0 then none else some (L.getD (i - 1) default).mem.path) e=true) (d0:decide (0<i)=false∨(decide (0<i)=true∧ ∃b2 o2 r2,b2<H.nx∧(∀(k:IntKind) (G:Heap),Fv 12 ev (nI k (i - 1)) G=.val (.ptr b2 o2) G)∧H1.t.get b2=some (.row r2)∧(∀G,ld1 (some (.row r2)) o2 G=.val (.str (L.getD (i - 1) default).mem.path) G)∧XW (L.getD (i - 1) default).mem.path e.mem.path=false)),
     ∃o tm' H',OA ⟨Xd (LK Z7 fs fuel k) fs fuel (n+1),y,f,fuel,q⟩ tm H X0=.ok o tm' H' X0∧((o=.normal∧ ∃k,k<m+1∧iL H0 b0 pb ev L k tm' H')∨(o≠.normal∧az H0 b0 ev L o tm' H')):=by
    intro hh d0
    rcases d0 with d0|⟨d0,b2,o2,r2,hb2,mJ,pj,eF,hg⟩
    ·rw[hh,Ur] at hG
     cases hr:Ao p e.head with
     |false=>
      rw[hr] at er hG
      simp(maxSteps:=4000000) (disch:=first|assumption|omega|(simp -implicitDefEqProofs only[Yr,Ys]<;>first|assumption|omega)|decide) only[t1,t4,t11,t12,t13,d1,eI,gb,gbz,eL,gz,sf,hH1,g1,es,g01,CI,Kd,X1,VQ,iy,wY,iz,hq,d0,M4,hlf,er,hH2,g2,g02,lc,ZG,Zz,ZK,ZT,ZP,ZS,Z9,Ya,ZO,Z8,Yc,Yb,Zx,Zt,Zs,ZU,Nat.reduceSub,Nat.reduceAdd,Nat.reduceLeDiff,Zi,Zh,Nat.reduceEqDiff,decide_true,decide_false,ZJ,Zf,Zd,YH,YJ,ZZ,ZC,Zv,ZY,ZX,ZM,Zk,Zl,Yf,ZD,Zd,Zf,Yg,ZV,Ye,U3,Yj,Zn,Zw,Zq,ZA,Zo,Zp,Zm,Zu,YW,YX,Y5,Y4,YI,Y3,Xg,ZQ,XB,Xe,XL,XM,XN,OA,YU,WD,Yp,Yq,ZE,ZH,ZF,Nat.reducePow,Nat.reduceDiv,Nat.reduceMod,Nat.reduceEqDiff,reduceCtorEq,WE,UF]
      refine⟨_,_,_,rfl,?_⟩
      exact .inr ⟨by simp,k2,.inl ⟨rfl,rfl,by rw[hG];rfl⟩⟩
     |true=>
      rw[hr] at er hG
      rw[Ur] at hG
      simp(maxSteps:=4000000) (disch:=first|assumption|omega|(simp -implicitDefEqProofs only[Yr,Ys]<;>first|assumption|omega)|decide) only[t1,t4,t11,t12,t13,d1,eI,gb,gbz,eL,gz,sf,hH1,g1,es,g01,CI,Kd,X1,VQ,iy,wY,iz,hq,d0,M4,hlf,er,hH2,g2,g02,lc,ZG,Zz,ZK,ZT,ZP,ZS,Z9,Ya,ZO,Z8,Yc,Yb,Zx,Zt,Zs,ZU,Nat.reduceSub,Nat.reduceAdd,Nat.reduceLeDiff,Zi,Zh,Nat.reduceEqDiff,decide_true,decide_false,ZJ,Zf,Zd,YH,YJ,ZZ,ZC,Zv,ZY,ZX,ZM,Zk,Zl,Yf,ZD,Zd,Zf,Yg,ZV,Ye,U3,Yj,Zn,Zw,Zq,ZA,Zo,Zp,Zm,Zu,YW,YX,Y5,Y4,YI,Y3,Xg,ZQ,XB,Xe,XL,XM,XN,OA,YU,WD,Yp,Yq,ZE,ZH,ZF,Nat.reducePow,Nat.reduceDiv,Nat.reduceMod,Nat.reduceEqDiff,reduceCtorEq,WE,UF]
      generalize hL:TH (Js _) fuel _ _ _=Lp
      obtain⟨oc,MR,H3,rfl,_,k3,z⟩:=WW (P:=λT=>ie H2 b0 pb ev L.length i cv e.chunks e.head e.chunks.length T H2) (Q:=iJ H2 b0 pb ev L.length i e.chunks e.head)
       (λT hi=>Vd (ie H2 b0 pb ev L.length i cv e.chunks e.head) (iJ H2 b0 pb ev L.length i e.chunks e.head) (λm tm H3 h=>xL E hcl hsh.sums (by rw[k2.ro];have:=g.ro;omega) (λG hG=>hC0.keep0 (k2.trans hG (by intro x hx hlt;rw[YM.1 hx] at hlt;omega))) _ _ _ _ _ m tm H3 h) fuel e.chunks.length T H2 (by have:=E.big;omega) hi) hL
       (by exact⟨t1',bZ,MB,MC,qY,rfl,rfl,⟨0,e.head,rfl,by omega,gp2,rfl⟩,Yw.refl _ _,by omega⟩)
      have Cw:Yw H0 H3 []:=k2.trans k3 (by intro x hx hlt;rw[YM.1 hx] at hlt;omega)
      rcases z with⟨rfl,t2,e8⟩|⟨rfl,t1,t4,t11,t12,t13,p',gp3,e8⟩
      ·simp only[K0] at t2
       rw[e8] at hG
       refine⟨_,_,_,rfl,?_⟩
       exact .inr ⟨by simp,Cw,.inl ⟨rfl,by simp only[K0];exact t2,hG⟩⟩
      ·have t1'':=t1;have t4'':=t4;have t11'':=t11;have t12'':=t12
       simp only[JA] at t1
       simp only[Es] at t4
       simp only[Dg] at t11
       simp only[Ik] at t12
       simp only[y9] at t13
       rw[e8] at hG
       have n3:=k3.nx
       simp(maxSteps:=4000000) (disch:=first|assumption|omega|(simp -implicitDefEqProofs only[Yr,Ys]<;>first|assumption|omega)|decide) only[t1,t4,t11,t12,t13,ZG,Zz,ZK,ZT,ZP,ZS,Z9,Ya,ZO,Z8,Yc,Yb,Zx,Zt,Zs,ZU,Nat.reduceSub,Nat.reduceAdd,Nat.reduceLeDiff,Zi,Zh,Nat.reduceEqDiff,decide_true,decide_false,ZJ,Zf,Zd,YH,YJ,ZZ,ZC,Zv,ZY,ZX,ZM,Zk,Zl,Yf,ZD,Zd,Zf,Yg,ZV,Ye,U3,Yj,Zn,Zw,Zq,ZA,Zo,Zp,Zm,Zu,YW,YX,Y5,Y4,YI,Y3,Xg,ZQ,XB,Xe,XL,XM,XN,OA,YU,WD,Yp,Yq,ZE,ZH,ZF,Nat.reducePow,Nat.reduceDiv,Nat.reduceMod,Nat.reduceEqDiff,reduceCtorEq,WE,UF]
       refine⟨_,_,_,rfl,?_⟩
       exact .inl ⟨rfl,m,by omega,t1'',t4'',t11'',t12'',⟨i+1,p',rfl,by omega,gp3,by rw[if_neg (by omega),hnx];exact hG⟩,by rw[k3.get _ (by omega) (by simp;omega)];exact g02,Cw,hb0,by omega,hp0,by omega,hbp⟩
    ·have hi1:1<=i:=ZB d0
     rw[hh,Ur] at hG
     cases hr:Ao p e.head with
     |false=>
      rw[hr] at er hG
      simp(maxSteps:=4000000) (disch:=first|assumption|omega|(simp -implicitDefEqProofs only[Yr,Ys]<;>first|assumption|omega)|decide) only[t1,t4,t11,t12,t13,d1,eI,gb,gbz,eL,gz,sf,hH1,g1,es,g01,CI,Kd,X1,VQ,iy,wY,iz,hq,d0,mJ,pj,eF,hg,M4,hlf,er,hH2,g2,g02,lc,ZG,Zz,ZK,ZT,ZP,ZS,Z9,Ya,ZO,Z8,Yc,Yb,Zx,Zt,Zs,ZU,Nat.reduceSub,Nat.reduceAdd,Nat.reduceLeDiff,Zi,Zh,Nat.reduceEqDiff,decide_true,decide_false,ZJ,Zf,Zd,YH,YJ,ZZ,ZC,Zv,ZY,ZX,ZM,Zk,Zl,Yf,ZD,Zd,Zf,Yg,ZV,Ye,U3,Yj,Zn,Zw,Zq,ZA,Zo,Zp,Zm,Zu,YW,YX,Y5,Y4,YI,Y3,Xg,ZQ,XB,Xe,XL,XM,XN,OA,YU,WD,Yp,Yq,ZE,ZH,ZF,Nat.reducePow,Nat.reduceDiv,Nat.reduceMod,Nat.reduceEqDiff,reduceCtorEq,WE,UF]
      refine⟨_,_,_,rfl,?_⟩
      exact .inr ⟨by simp,k2,.inl ⟨rfl,rfl,by rw[hG];rfl⟩⟩
     |true=>
      rw[hr] at er hG
      rw[Ur] at hG
      simp(maxSteps:=4000000) (disch:=first|assumption|omega|(simp -implicitDefEqProofs only[Yr,Ys]<;>first|assumption|omega)|decide) only[t1,t4,t11,t12,t13,d1,eI,gb,gbz,eL,gz,sf,hH1,g1,es,g01,CI,Kd,X1,VQ,iy,wY,iz,hq,d0,mJ,pj,eF,hg,M4,hlf,er,hH2,g2,g02,lc,ZG,Zz,ZK,ZT,ZP,ZS,Z9,Ya,ZO,Z8,Yc,Yb,Zx,Zt,Zs,ZU,Nat.reduceSub,Nat.reduceAdd,Nat.reduceLeDiff,Zi,Zh,Nat.reduceEqDiff,decide_true,decide_false,ZJ,Zf,Zd,YH,YJ,ZZ,ZC,Zv,ZY,ZX,ZM,Zk,Zl,Yf,ZD,Zd,Zf,Yg,ZV,Ye,U3,Yj,Zn,Zw,Zq,ZA,Zo,Zp,Zm,Zu,YW,YX,Y5,Y4,YI,Y3,Xg,ZQ,XB,Xe,XL,XM,XN,OA,YU,WD,Yp,Yq,ZE,ZH,ZF,Nat.reducePow,Nat.reduceDiv,Nat.reduceMod,Nat.reduceEqDiff,reduceCtorEq,WE,UF]
      generalize hL:TH (Js _) fuel _ _ _=Lp
      obtain⟨oc,MR,H3,rfl,_,k3,z⟩:=WW (P:=λT=>ie H2 b0 pb ev L.length i cv e.chunks e.head e.chunks.length T H2) (Q:=iJ H2 b0 pb ev L.length i e.chunks e.head)
       (λT hi=>Vd (ie H2 b0 pb ev L.length i cv e.chunks e.head) (iJ H2 b0 pb ev L.length i e.chunks e.head) (λm tm H3 h=>xL E hcl hsh.sums (by rw[k2.ro];have:=g.ro;omega) (λG hG=>hC0.keep0 (k2.trans hG (by intro x hx hlt;rw[YM.1 hx] at hlt;omega))) _ _ _ _ _ m tm H3 h) fuel e.chunks.length T H2 (by have:=E.big;omega) hi) hL
       (by exact⟨t1',bZ,MB,MC,qY,rfl,rfl,⟨0,e.head,rfl,by omega,gp2,rfl⟩,Yw.refl _ _,by omega⟩)
      have Cw:Yw H0 H3 []:=k2.trans k3 (by intro x hx hlt;rw[YM.1 hx] at hlt;omega)
      rcases z with⟨rfl,t2,e8⟩|⟨rfl,t1,t4,t11,t12,t13,p',gp3,e8⟩
      ·simp only[K0] at t2
       rw[e8] at hG
       refine⟨_,_,_,rfl,?_⟩
       exact .inr ⟨by simp,Cw,.inl ⟨rfl,by simp only[K0];exact t2,hG⟩⟩
      ·have t1'':=t1;have t4'':=t4;have t11'':=t11;have t12'':=t12
       simp only[JA] at t1
       simp only[Es] at t4
       simp only[Dg] at t11
       simp only[Ik] at t12
       simp only[y9] at t13
       rw[e8] at hG
       have n3:=k3.nx
       simp(maxSteps:=4000000) (disch:=first|assumption|omega|(simp -implicitDefEqProofs only[Yr,Ys]<;>first|assumption|omega)|decide) only[t1,t4,t11,t12,t13,ZG,Zz,ZK,ZT,ZP,ZS,Z9,Ya,ZO,Z8,Yc,Yb,Zx,Zt,Zs,ZU,Nat.reduceSub,Nat.reduceAdd,Nat.reduceLeDiff,Zi,Zh,Nat.reduceEqDiff,decide_true,decide_false,ZJ,Zf,Zd,YH,YJ,ZZ,ZC,Zv,ZY,ZX,ZM,Zk,Zl,Yf,ZD,Zd,Zf,Yg,ZV,Ye,U3,Yj,Zn,Zw,Zq,ZA,Zo,Zp,Zm,Zu,YW,YX,Y5,Y4,YI,Y3,Xg,ZQ,XB,Xe,XL,XM,XN,OA,YU,WD,Yp,Yq,ZE,ZH,ZF,Nat.reducePow,Nat.reduceDiv,Nat.reduceMod,Nat.reduceEqDiff,reduceCtorEq,WE,UF]
       refine⟨_,_,_,rfl,?_⟩
       exact .inl ⟨rfl,m,by omega,t1'',t4'',t11'',t12'',⟨i+1,p',rfl,by omega,gp3,by rw[if_neg (by omega),hnx];exact hG⟩,by rw[k3.get _ (by omega) (by simp;omega)];exact g02,Cw,hb0,by omega,hp0,by omega,hbp⟩
   by_cases h0:i=0
   ·exact after (by rw[if_pos h0];rfl) (.inl (Zj (by omega)))
   ·obtain⟨b2,o2,r2,mJ,hb2,dK,_,eE2⟩:=hS.at_ (i:=i - 1) (by omega)
    have pj:H1.t.get b2=some (.row r2):=by rw[k1.get _ hb2 (by simp)];exact dK
    have eF: ∀G,ld1 (some (.row r2)) o2 G=.val (.str (L.getD (i - 1) default).mem.path) G:=λG=>by
     have:=eE2 0 G (by decide)
     obtain⟨_,_,_,ec2,_⟩:=hE (i - 1) (by omega)
     rw[ec2,Zf] at this
     exact this
    have hi0:decide (0<i)=true:=Zr (by omega)
    cases hg:XW (L.getD (i - 1) default).mem.path e.mem.path with
    |true=>
     simp(maxSteps:=4000000) (disch:=first|assumption|omega|(simp -implicitDefEqProofs only[Yr,Ys]<;>first|assumption|omega)|decide) only[t1,t4,t11,t12,t13,d1,eI,gb,gbz,eL,gz,sf,hH1,g1,es,g01,CI,Kd,X1,VQ,iy,wY,iz,hq,hi0,mJ,pj,eF,hg,ZG,Zz,ZK,ZT,ZP,ZS,Z9,Ya,ZO,Z8,Yc,Yb,Zx,Zt,Zs,ZU,Nat.reduceSub,Nat.reduceAdd,Nat.reduceLeDiff,Zi,Zh,Nat.reduceEqDiff,decide_true,decide_false,ZJ,Zf,Zd,YH,YJ,ZZ,ZC,Zv,ZY,ZX,ZM,Zk,Zl,Yf,ZD,Zd,Zf,Yg,ZV,Ye,U3,Yj,Zn,Zw,Zq,ZA,Zo,Zp,Zm,Zu,YW,YX,Y5,Y4,YI,Y3,Xg,ZQ,XB,Xe,XL,XM,XN,OA,YU,WD,Yp,Yq,ZE,ZH,ZF,Nat.reducePow,Nat.reduceDiv,Nat.reduceMod,Nat.reduceEqDiff,reduceCtorEq,WE,UF]
     refine⟨_,_,_,rfl,?_⟩
     exact .inr ⟨by simp,El,.inl ⟨rfl,rfl,by rw[hG,if_neg h0,show xd (some (L.getD (i - 1) default).mem.path) e=false by show(!XW _ _)=false;rw[hg];rfl];rfl⟩⟩
    |false=>exact after (by rw[if_neg h0];show(!XW _ _)=true;rw[hg];rfl) (.inr ⟨hi0,b2,o2,r2,hb2,mJ,pj,eF,hg⟩)
theorem QE.len{H:Heap}{ev:AV}{L:List Uk}(h:QE H ev L)(G:Heap):In ev G=.val (nI .i64 L.length) G:=by
 obtain⟨Ls,h1,h2,_⟩:=h
 rw[h1.len G,h2]
theorem QE.cells{H:Heap}{ev:AV}{L:List Uk}(h:QE H ev L):ev.cells=[ev]:=by
 obtain⟨Ls,h1,h2,_⟩:=h
 exact h1.cells
theorem yH{Z7:Lib}{fs:T CF}{fuel:Nat}(E:Env Z7 fs fuel){n:Nat}{ev:AV}{L:List Uk}{H:Heap}(hl:L.length<=90000)(hs: ∀i,i<L.length->Q7 (L.getD i default))(g:Ob H)(hN:QE H ev L):
  ∃H',Xd (LK Z7 fs fuel 13) fs fuel (n+2) 19 [.agg [ev]] H=.ret (.bool (M7 L)) H'∧Yw H H' []:=by
 rw[XR (Xk E.n19 (.inl (by decide)) _ _) E.f19]
 have ln:=hN.len
 have hcv:=hN.cells
 obtain⟨H1,hH1⟩: ∃G,H.new (OP ev)=G:=⟨_,rfl⟩
 obtain⟨H2,hH2⟩: ∃G,H1.new (ul (-1))=G:=⟨_,rfl⟩
 have k1:Yw H H1 []:=by rw[<-hH1];exact Yw.new _ _ _
 have k2:Yw H H2 []:=by rw[<-hH2];exact k1.then_new _
 have Kd:H1.nx=H.nx+1:=by rw[<-hH1];rfl
 have nx2:H2.nx=H.nx+1+1:=by rw[<-hH2,My,Kd]
 have g1:H2.t.get H.nx=some (OP ev):=by rw[<-hH2,WH (by omega),<-hH1];exact YN rfl _
 have gp:H2.t.get H1.nx=some (ul (-1)):=by rw[<-hH2];exact YN rfl _
 have hb1:H.new (rG 47 1 [ev] 0 false true true)=H1:=hH1
 have sf:=Mn (v:=(.int .i64 (.negSucc 0))) (b:=H1.nx) (o:=0) (l:=[nI .i64 0]) (H:=H1.new (rG 2 1 [nI .i64 0] 0 false true true)) (fz:=0) rfl (Xl 0) (by show H1.ro<=_;rw[k1.ro];exact YZ g.ro k1.nx) (Z2 0) 2 1 false true
 have hset:([nI .i64 0]:List AV).set 0 (.int .i64 (.negSucc 0))=[(.int .i64 (.negSucc 0))]:=rfl
 have hp2:H1.new (rG 2 1 [(.int .i64 (.negSucc 0))] 0 false true true)=H2:=hH2
 rw[hset,Ty rfl,hp2] at sf
 have gz:=λ(G:Heap)=>YN (H:=H1) rfl (rG 2 1 [nI .i64 0] 0 false true true)
 have CI: ∀G,ld1 (some (OP ev)) 0 G=.val ev G:=λG=>by unfold OP;rw[X1 (Xl 0)];rfl
 simp(maxSteps:=4000000) (disch:=first|assumption|omega|(simp -implicitDefEqProofs only[Yr,Ys]<;>first|assumption|omega)|decide) only[Vy,hb1,sf,gz,g1,CI,ln,ZG,Zz,ZK,ZT,ZP,ZS,Z9,Ya,ZO,Z8,Yc,Yb,Zx,Zt,Zs,ZU,Nat.reduceSub,Nat.reduceAdd,Nat.reduceLeDiff,Zi,Zh,Nat.reduceEqDiff,decide_true,decide_false,ZJ,Zf,Zd,YH,YJ,ZZ,ZC,Zv,ZY,ZX,ZM,Zk,Zl,Yf,ZD,Zd,Zf,Yg,ZV,Ye,U3,Yj,Zn,Zw,Zq,ZA,Zo,Zp,Zm,Zu,YW,YX,Y5,Y4,YI,Y3,Xg,ZQ,XB,Xe,XL,XM,XN,c19,YU,WD,Yp,Yq,ZE,ZH,ZF,Nat.reduceEqDiff,reduceCtorEq,WE,UF]
 generalize hL:TH (OA _) fuel _ _ _=Lp
 obtain⟨oc,MR,H3,rfl,_,k3,z⟩:=WW (P:=λT=>iL H H.nx H1.nx ev L L.length T H2) (Q:=az H H.nx ev L)
  (λT hi=>Vd (iL H H.nx H1.nx ev L) (az H H.nx ev L) (λm tm H3 h=>mh E (Z2 13) hl hs g hN _ _ _ _ rfl _ m tm H3 h) fuel L.length T H2 (by have:=E.big;omega) hi) hL
  (by exact⟨rfl,rfl,rfl,rfl,⟨0, -1,rfl,by omega,gp,by rw[if_pos rfl];rfl⟩,g1,k2,Z2 _,by omega,by omega,by omega,by omega⟩)
 rcases z with⟨rfl,t2,e⟩|⟨rfl,t1,g3,e⟩
 ·simp only[K0] at t2
  rw[show M7 L=false by unfold M7;rw[e];rfl]
  simp(maxSteps:=4000000) (disch:=first|assumption|omega|(simp -implicitDefEqProofs only[Yr,Ys]<;>first|assumption|omega)|decide) only[t2,ZG,Zz,ZK,ZT,ZP,ZS,Z9,Ya,ZO,Z8,Yc,Yb,Zx,Zt,Zs,ZU,Nat.reduceSub,Nat.reduceAdd,Nat.reduceLeDiff,Zi,Zh,Nat.reduceEqDiff,decide_true,decide_false,ZJ,Zf,Zd,YH,YJ,ZZ,ZC,Zv,ZY,ZX,ZM,Zk,Zl,Yf,ZD,Zd,Zf,Yg,ZV,Ye,U3,Yj,Zn,Zw,Zq,ZA,Zo,Zp,Zm,Zu,YW,YX,Y5,Y4,YI,Y3,Xg,ZQ,XB,Xe,XL,XM,XN,c19,YU,WD,Yp,Yq,ZE,ZH,ZF,Nat.reduceEqDiff,reduceCtorEq,WE,UF]
  refine⟨_,rfl,?_⟩
  exact k3
 ·simp only[JA] at t1
  rw[show M7 L=decide (L.length<=4096) by unfold M7;rw[e];rfl]
  simp(maxSteps:=4000000) (disch:=first|assumption|omega|(simp -implicitDefEqProofs only[Yr,Ys]<;>first|assumption|omega)|decide) only[t1,g3,CI,ln,ZG,Zz,ZK,ZT,ZP,ZS,Z9,Ya,ZO,Z8,Yc,Yb,Zx,Zt,Zs,ZU,Nat.reduceSub,Nat.reduceAdd,Nat.reduceLeDiff,Zi,Zh,Nat.reduceEqDiff,decide_true,decide_false,ZJ,Zf,Zd,YH,YJ,ZZ,ZC,Zv,ZY,ZX,ZM,Zk,Zl,Yf,ZD,Zd,Zf,Yg,ZV,Ye,U3,Yj,Zn,Zw,Zq,ZA,Zo,Zp,Zm,Zu,YW,YX,Y5,Y4,YI,Y3,Xg,ZQ,XB,Xe,XL,XM,XN,c19,YU,WD,Yp,Yq,ZE,ZH,ZF,Nat.reduceEqDiff,reduceCtorEq,WE,UF]
  refine⟨_,rfl,?_⟩
  exact k3
theorem j6{Z7:Lib}{fs:T CF}{fuel:Nat}(E:Env Z7 fs fuel){k n:Nat}(hk:14<=k){ev:AV}{L:List Uk}{H:Heap}(hl:L.length<=90000)(hs: ∀i,i<L.length->Q7 (L.getD i default))(g:Ob H)(hN:QE H ev L):
  Xd (LK Z7 fs fuel k) fs fuel (n+1) 19 [.agg [ev]] H=.ret (.bool (M7 L)) H:=by
 obtain⟨H',e,g⟩:=yH E (n:=898) (H:=H) hl hs g hN
 exact Wy (r:=13) rfl rfl e g (rfl) hk
def Bt:List Sh:=.int .i64::.int .i64::.int .i64::List.replicate 32 (.int .u8)
def lu:List Sh:=[.str,.int .i64,.int .u32,.int .u32,.int .u32,.int .i64,.sl [.str,.str],.sl [.int .u8],.str]
def Bw:List Sh:=lu++[.int .i64,.int .i64,.sl Bt]
theorem wn:Bt.length=35:=by unfold Bt;simp
theorem uQ{G:Heap}{v:AV}(h:Told G (.sl [.str,.str]) v): ∃l:List NP,Cut G 2 v (MA l)∧l.length<=maxLen:=by
 obtain⟨ls,h1,hm,h2⟩:=GL h
 obtain⟨l,h3,_⟩:=LN (α:=NP) (f:=λp=>[.str p.1,.str p.2]) (p:=λ_=>True) λi hi=>by
  obtain⟨e1,e2⟩:=h2 i hi
  obtain⟨a,ha⟩:=IV (e2 0 _ rfl)
  obtain⟨b,hb⟩:=IV (e2 1 _ rfl)
  exact⟨(a,b),by rw[bn e1,ha,hb],trivial⟩
 exact⟨l,by rw[h3] at h1;exact h1,by rw[h3] at hm;simpa [MA] using hm⟩
theorem yI{G:Heap}{v:AV}(h:Told G (.sl [.int .u8]) v): ∃l:List UInt8,Cut G 1 v (Eo l):=by
 obtain⟨ls,h1,_,h2⟩:=GL h
 obtain⟨l,h3,_⟩:=LN (α:=UInt8) (f:=λx=>[Gq x]) (p:=λ_=>True) λi hi=>by
  obtain⟨e1,e2⟩:=h2 i hi
  obtain⟨a,ha⟩:=xV (e2 0 _ rfl)
  refine⟨a,?_,trivial⟩
  match hq:ls.getD i [],e1 with
  |[x],_=>rw[hq] at ha;have ha:x=Gq a:=ha;rw[ha]
 exact⟨l,by rw[h3] at h1;exact h1⟩
theorem xW{G:Heap}: ∀{l:List AV},(∀x∈l,Told G (.int .u8) x)-> ∃s:List UInt8,l=s.map Gq
 |[],_=>⟨[],rfl⟩
 |a::l,h=>by
  obtain⟨x,hx⟩:=xV (h a (Z5 ..))
  obtain⟨s,hs⟩:=xW λy hy=>h y (Yd _ hy)
  exact⟨x::s,by rw[VC,<-hs,hx]⟩
def L7(z:Int):Prop:= -9223372036854775808<=z∧z<=9223372036854775807
structure tk(x:Mq):Prop where
 sum:x.sum.length=32
 at_:L7 x.at_
 size:L7 x.size
 place:L7 x.place
theorem uO{G:Heap}{v:AV}(h:Told G (.sl Bt) v): ∃l:List Mq,Cut G 35 v (Nq l)∧ ∀x∈l,tk x:=by
 obtain⟨ls,h1,_,h2⟩:=GL h
 rw[wn] at h1 h2
 obtain⟨l,h3,h4⟩:=LN (α:=Mq) (f:=TW) (p:=tk) λi hi=>by
  obtain⟨e1,e2⟩:=h2 i hi
  obtain⟨a,ha,ha2⟩:=N4 (e2 0 _ rfl)
  obtain⟨b,hb,hb2⟩:=N4 (e2 1 _ rfl)
  obtain⟨d,hd,hd2⟩:=N4 (e2 2 _ rfl)
  generalize ls.getD i []=l at*
  match l,e1 with
  |x::y::z::t,e1=>
   have ht:t.length=32:=by simpa using e1
   obtain⟨s,hs⟩:=xW (G:=G) (l:=t) λx hx=>by
    obtain⟨j,hj,rfl⟩:=Q9 hx
    have hs:Bt[j+3]? =some (.int .u8):=by
     show(List.replicate 32 (Sh.int .u8))[j]? =_
     rw[Uu,if_pos (by omega)]
    have:=e2 (j+3) _ hs
    rw[ZN] at this
    have e:(x::y::z::t)[j+3]? =some t[j]:=by
     show t[j]? =_
     rw[ZW hj]
    simp only[Tf,ZW hj,Option.getD_some] at this
    exact this
   have ha:x=.int .i64 a:=ha
   have hb:y=.int .i64 b:=hb
   have hd:z=.int .i64 d:=hd
   refine⟨⟨a,b,d,s⟩,by rw[ha,hb,hd,hs];rfl,⟨by rw[hs] at ht;simpa using ht,ha2,hb2,hd2⟩⟩
 exact⟨l,by rw[h3] at h1;exact h1,h4⟩
def iH(G:Heap)(cs:List AV)(m:Mem):Prop:= ∃av dv,cs=[.str m.path,.int .i64 m.kind,nI .u32 m.mode,nI .u32 m.uid,nI .u32 m.gid,.int .i64 m.time,av,dv,.str m.link]∧Cut G 2 av (MA m.attrs)∧Cut G 1 dv (Eo m.data)
structure my(m:Mem):Prop where
 kind:L7 m.kind
 time:L7 m.time
 mode:m.mode<4294967296
 uid:m.uid<4294967296
 gid:m.gid<4294967296
 attrs:m.attrs.length<=maxLen
theorem q9{G:Heap}{cs:List AV}(hl:cs.length=9)(h: ∀(j:Nat) e,lu[j]? =some e->Told G e (cs.getD j .unk)): ∃m,iH G cs m∧my m:=by
 obtain⟨p,hp⟩:=IV (h 0 _ rfl)
 obtain⟨kd,hk,hk2⟩:=N4 (h 1 _ rfl)
 obtain⟨mo,hm,hm2⟩:=Ee (h 2 _ rfl)
 obtain⟨u,hu,hu2⟩:=Ee (h 3 _ rfl)
 obtain⟨g,hg,hg2⟩:=Ee (h 4 _ rfl)
 obtain⟨ti,ht,ht2⟩:=N4 (h 5 _ rfl)
 obtain⟨at_,hA,hA2⟩:=uQ (h 6 _ rfl)
 obtain⟨d,hD⟩:=yI (h 7 _ rfl)
 obtain⟨lk,hK⟩:=IV (h 8 _ rfl)
 match cs,hl with
 |[c0,c1,c2,c3,c4,c5,c6,c7,c8],_=>
  have hp:c0=_:=hp
  have hk:c1=_:=hk
  have hm:c2=_:=hm
  have hu:c3=_:=hu
  have hg:c4=_:=hg
  have ht:c5=_:=ht
  have hK:c8=_:=hK
  exact⟨⟨p,kd,mo,u,g,ti,at_,d,lk⟩,⟨c6,c7,by rw[hp,hk,hm,hu,hg,ht,hK],hA,hD⟩,hk2,ht2,hm2,hu2,hg2,hA2⟩
def pr(G:Heap)(cs:List AV)(e:Uk):Prop:= ∃ms cv,cs=ms++[.int .i64 e.size,.int .i64 e.head,cv]∧iH G ms e.mem∧Cut G 35 cv (Nq e.chunks)
structure KF(e:Uk):Prop where
 mem:my e.mem
 size:L7 e.size
 head:L7 e.head
 chunks: ∀x∈e.chunks,tk x
theorem q8{G:Heap}{cs:List AV}(hl:cs.length=12)(h: ∀(j:Nat) e,Bw[j]? =some e->Told G e (cs.getD j .unk)): ∃e,pr G cs e∧KF e:=by
 match cs,hl with
 |[c0,c1,c2,c3,c4,c5,c6,c7,c8,c9,c10,c11],_=>
  obtain⟨m,hm,hm2⟩:=q9 (G:=G) (cs:=[c0,c1,c2,c3,c4,c5,c6,c7,c8]) rfl λj e he=>by
   have hj:j<9:=(Ut.1 he).1
   have:=h j e (by unfold Bw;rw[Xb hj];exact he)
   rcases j with _|_|_|_|_|_|_|_|_|j
   all_goals first|exact this|omega
  obtain⟨sz,hs,hs2⟩:=N4 (h 9 _ rfl)
  obtain⟨hd,hh,iA⟩:=N4 (h 10 _ rfl)
  obtain⟨ck,hc,hc2⟩:=uO (h 11 _ rfl)
  have hs:c9=_:=hs
  have hh:c10=_:=hh
  exact⟨⟨m,sz,hd,ck⟩,⟨_,c11,by rw[hs,hh];rfl,hm,hc⟩,hm2,hs2,iA,hc2⟩
def yP(G:Heap)(v:AV)(L:List Uk):Prop:= ∃Ls,Sz G 12 v Ls∧Ls.length=L.length∧ ∀i,i<L.length->pr G (Ls.getD i []) (L.getD i default)
theorem uP{G:Heap}{v:AV}(h:Told G (.sl Bw) v): ∃L:List Uk,yP G v L∧(∀e∈L,KF e)∧L.length<=maxLen:=by
 obtain⟨ls,h1,hm,h2⟩:=GL h
 have key: ∀i,i<ls.length-> ∃e,pr G (ls.getD i []) e∧KF e:=λi hi=>by
  obtain⟨e1,e2⟩:=h2 i hi
  exact q8 e1 e2
 have: ∃L:List Uk,L.length=ls.length∧ ∀i,i<ls.length->pr G (ls.getD i []) (L.getD i default)∧KF (L.getD i default):=by
  clear h1 h2 hm
  induction ls with
  |nil=>exact⟨[],rfl,λi hi=>by simp at hi⟩
  |cons a ls ih=>
   obtain⟨e,he⟩:=key 0 (by simp)
   obtain⟨L,h3,h4⟩:=ih λi hi=>by simpa using key (i+1) (by simp;omega)
   refine⟨e::L,by simp[h3],λi hi=>?_⟩
   cases i with
   |zero=>exact he
   |succ i=>simpa using h4 i (by simpa using hi)
 obtain⟨L,h3,h4⟩:=this
 refine⟨L,⟨ls,h1.1,h3.symm,λi hi=>(h4 i (by omega)).1⟩,λe he=>?_,by omega⟩
 obtain⟨i,hi,rfl⟩:=Q9 he
 have:=(h4 i (by omega)).2
 rwa [ZN,ZW hi] at this
end
end Go.AI
