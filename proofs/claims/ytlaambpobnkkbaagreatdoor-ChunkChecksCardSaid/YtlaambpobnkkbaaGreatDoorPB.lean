/- What may be an entry, and a table: walked; entries that are told of an argument: proved without conditions but those that each names. -/
import Derived.Test.YtlaambpobnkkbaaGreatDoorPA
set_option maxRecDepth 1000000
set_option maxHeartbeats 0
set_option linter.unusedVariables false
set_option linter.unusedSimpArgs false
namespace Go.AI
open Go
noncomputable section
theorem Zfw(k:IntKind)(a b:Int)(H:Heap):OM X1 YK (.int k a) (.int k b) H=.val (.bool (decide (a<b))) H:=by
 show ZP (Nl k k) (So (vx a b) H)=_
 rw[X3,TE,NY];rfl
theorem sG(k:IntKind)(a b:Int)(H:Heap):OM Tf W0 (.int k a) (.int k b) H=.val (.bool (decide (b<a))) H:=by
 show ZP (Nl k k) (So (vx b a) H)=_
 rw[X3,TE,NY];rfl
theorem xk(k:IntKind)(a b:Int)(H:Heap):OM Rm Uo (.int k a) (.int k b) H=.val (.bool (decide (a<=b))) H:=by
 show ZP (Nl k k) (So (!vx b a) H)=_
 rw[X3,TE,NY]
 show OR.val (.bool (!decide (b<a))) H=_
 congr 2
 by_cases h:b<a
 ·rw[Zd h,Zb (by omega)];rfl
 ·rw[Zb h,Zd (by omega)];rfl
theorem Up(k:IntKind)(a:Int)(b:Nat)(H:Heap):OM X1 YK (.int k a) (nI k b) H=.val (.bool (decide (a<(b:Int)))) H:=Zfw k a b H
theorem Ry(k:IntKind)(a:Int)(b:Nat)(H:Heap):OM Tf W0 (.int k a) (nI k b) H=.val (.bool (decide ((b:Int)<a))) H:=sG k a b H
theorem sY(k:IntKind)(a:Int)(b:Nat)(H:Heap):OM Rm Uo (.int k a) (nI k b) H=.val (.bool (decide (a<=(b:Int)))) H:=xk k a b H
theorem X4(e:Nat)(tm:TM)(H:Heap):WF e z35 tm H=.val (.ptr H.nx 0) (H.new (rG e 1 z35 0 false true true)):=OY ..
theorem Kh:z35.length=35:=by unfold z35;simp
structure I3 where
 at_:Int
 size:Int
 place:Int
 sum:List UInt8
def Ta(x:I3):List AV:=.int .i64 x.at_::.int .i64 x.size::.int .i64 x.place::x.sum.map XP
def MF(l:List I3):List (List AV):=l.map Ta
theorem TG(l:List I3):(MF l).length=l.length:=Zp ..
instance:Inhabited I3:=⟨⟨0,0,0,[]⟩⟩
theorem Jy{l:List I3}{i:Nat}(h:i<l.length):(MF l).getD i []=Ta (l.getD i default):=by
 unfold MF
 rw[Ze,ZZ,Ze,Zk h];rfl
structure V0 where
 mem:Mem
 size:Int
 head:Int
 chunks:List I3
def JR(H:Heap)(cs:List AV)(e:V0):Prop:= ∃av dv cv,cs=[.str e.mem.path,.int .i64 e.mem.kind,nI .u32 e.mem.mode,nI .u32 e.mem.uid,nI .u32 e.mem.gid,.int .i64 e.mem.time,av,dv,.str e.mem.link,.int .i64 e.size,.int .i64 e.head,cv]∧Sz H 2 av (N0 e.mem.attrs)∧Sz H 1 dv (P8 e.mem.data)∧Sz H 35 cv (MF e.chunks)
theorem JR.keep{H H':Heap}{cs:List AV}{e:V0}(h:JR H cs e)(k:Zw H H' []):JR H' cs e:=by
 obtain⟨av,dv,cv,e,h1,h2,h3⟩:=h
 exact⟨av,dv,cv,e,h1.keep0 k,h2.keep0 k,h3.keep0 k⟩
theorem JR.len{H:Heap}{cs:List AV}{e:V0}(h:JR H cs e):cs.length=12:=by
 obtain⟨av,dv,cv,rfl,_⟩:=h;rfl
structure Oi(e:V0):Prop where
 mem:wj e.mem
 chunks:e.chunks.length<=90000
 sums: ∀x∈e.chunks,x.sum.length=32
def O9:Nat->List I3->Option Nat
 |a,[]=>some a
 |a,x::l=>if x.at_=(a:Int)∧1<=x.size∧x.size<=65536 then O9 (a+x.size.toNat) l else none
def Vs(e:V0):Bool:=Wu e.mem&&decide (e.mem.data.length=0)&&decide (1<=(Y8 e.mem.path).1)&&decide ((Y8 e.mem.path).1<=3)&&decide (0<=e.size)&&decide (e.size<=16777216)&&(decide (e.size<=0)||decide (e.mem.kind=2))&&(match O9 0 e.chunks with|some a=>decide ((a:Int)=e.size)|none=>false)
structure SHI(H0:Heap)(b:Nat)(bc:List AV)(cv:AV)(l:List I3)(m:Nat)(tm:TM)(H:Heap):Prop where
 t1:XR tm=.ptr b 0
 t58:S0 tm=cv
 t59:RV tm=nI .i64 l.length
 i: ∃i a,Rx tm=nI .i64 i∧YT tm=nI .i64 a∧i+m=l.length∧a<=65536*i∧O9 0 l=O9 a (l.drop i)
 k:Zw H0 H []
def SHQ(H0:Heap)(b:Nat)(l:List I3)(o:Out)(tm:TM)(H:Heap):Prop:=Zw H0 H []∧((o=.ret∧Vt tm=.bool false∧O9 0 l=none)∨(o=.exit 0∧XR tm=.ptr b 0∧ ∃a:Nat,YT tm=nI .i64 a∧O9 0 l=some a))
theorem ow{cv:AV}{l:List I3}(hl:l.length<=90000)(hs: ∀x∈l,x.sum.length=32){H0:Heap}{b:Nat}{bc:List AV}(hro:H0.ro<=H0.nx)(hN:Sz H0 35 cv (MF l))(cx:Ctx)(X0:X)(m:Nat)(tm:TM)(H:Heap)(hI:SHI H0 b bc cv l m tm H):
  ∃o tm' H',LD cx tm H X0=.ok o tm' H' X0∧((o=.normal∧ ∃k,k<m∧SHI H0 b bc cv l k tm' H')∨(o≠.normal∧SHQ H0 b l o tm' H')):=by
 obtain⟨t1,t58,t59,⟨i,a,t60,t5,him,ha,hr⟩,k0⟩:=hI
 have t1':=t1;have Znx:=t58;have Zny:=t59;have Dj:=t5
 simp only[Ov] at t1
 simp only[Ss] at t5
 simp only[pA] at t58
 simp only[pB] at t59
 simp only[pC] at t60
 cases m with
 |zero=>
  have d1:decide (i<l.length)=false:=Zb (by omega)
  simp only[t59,t60,d1,Zv,LD,ZI,Yw,Vf]
  refine⟨_,_,_,rfl,?_⟩
  exact .inr ⟨by simp,k0,.inr ⟨rfl,t1',a,Dj,by rw[hr,X8 (by omega)];rfl⟩⟩
 |succ m=>
  have d1:decide (i<l.length)=true:=Zd (by omega)
  have hi:i<l.length:=by omega
  have hN:=hN.keep0 k0
  obtain⟨bb,o,r,eI,hb,gb,eL,eE⟩:=hN.at_ (i:=i) (by rw[TG];omega)
  rw[Jy hi] at eL
  have hsum:(l.getD i default).sum.length=32:=hs _ (by rw[Ze,Zk hi];exact Xp hi)
  have hdr:l.drop i=l.getD i default::l.drop (i+1):=by
   rw[Ws hi,Ze,Zk hi];rfl
  rw[hdr] at hr
  generalize hx:l.getD i default=x at*
  have xl:(Ta x).length=35:=by unfold Ta;simp[hsum]
  obtain⟨H1,hH1⟩: ∃G,H.new (rG 57 1 (Ta x) 0 false true true)=G:=⟨_,rfl⟩
  have k1:Zw H0 H1 []:=by rw[<-hH1];exact k0.then_new _
  have g1:H1.t.get H.nx=some (rG 57 1 (Ta x) 0 false true true):=by rw[<-hH1];exact Yi rfl _
  have sf:=U4 (n:=35) (b:=H.nx) (l:=z35) (vs:=Ta x) (H:=H.new (rG 57 1 z35 0 false true true)) Kh xl (by decide) (by show H.ro<=_;rw[k0.ro];have:=k0.nx;omega) 57 1 false true
  rw[Us rfl,hH1] at sf
  have l0: ∀G,ld1 (some (rG 57 1 (Ta x) 0 false true true)) 0 G=.val (.int .i64 x.at_) G:=λG=>by rw[Yf (by rw[xl];decide)];rfl
  have l1: ∀G,ld1 (some (rG 57 1 (Ta x) 0 false true true)) 1 G=.val (.int .i64 x.size) G:=λG=>by rw[Yf (by rw[xl];decide)];rfl
  by_cases h1:x.at_=(a:Int)
  ·have d2:decide (x.at_=(a:Int))=true:=Zd h1
   by_cases h2:x.size<((1:Nat):Int)
   ·have d3:decide (x.size<((1:Nat):Int))=true:=Zd h2
    simp only[t5,t58,t59,t60,d1,eI,gb,eL,sf,g1,l0,l1,X4,d2,d3,Zv,Zj,Zf,Zf,Zj,SP,Up,LD,ZI,Yw,ZG,Yl,Yt,Vf,PE]
    refine⟨_,_,_,rfl,?_⟩
    exact .inr ⟨by simp,k1,.inl ⟨rfl,rfl,by rw[hr,O9,if_neg (by omega)]⟩⟩
   have d3:decide (x.size<((1:Nat):Int))=false:=Zb h2
   by_cases h3:((65536:Nat):Int)<x.size
   ·have d4:decide (((65536:Nat):Int)<x.size)=true:=Zd h3
    simp only[t5,t58,t59,t60,d1,eI,gb,eL,sf,g1,l0,l1,X4,d2,d3,d4,Zv,Zj,Zf,Zf,Zj,SP,Up,Ry,LD,ZI,Yw,ZG,Yl,Yt,Vf,PE]
    refine⟨_,_,_,rfl,?_⟩
    exact .inr ⟨by simp,k1,.inl ⟨rfl,rfl,by rw[hr,O9,if_neg (by omega)]⟩⟩
   have d4:decide (((65536:Nat):Int)<x.size)=false:=Zb h3
   obtain⟨w,hw⟩: ∃w:Nat,x.size=(w:Int):=⟨x.size.toNat,by omega⟩
   have l1: ∀G,ld1 (some (rG 57 1 (Ta x) 0 false true true)) 1 G=.val (nI .i64 w) G:=λG=>by rw[l1,hw];rfl
   rw[hw] at d3 d4
   have d3:decide (w<1)=false:=Zb (by omega)
   have d4:decide (65536<w)=false:=Zb (by omega)
   simp(disch:=omega) only[t5,t58,t59,t60,d1,eI,gb,eL,sf,g1,l0,l1,X4,d2,d3,d4,Zv,Yy,YU,Zj,Zf,Zf,Zj,SP,LD,ZI,Yw,ZG,Yl,Yt,Vf,PE]
   refine⟨_,_,_,rfl,?_⟩
   exact .inl ⟨rfl,m,by omega,t1',Znx,Zny,⟨i+1,a+w,rfl,rfl,by omega,by omega,by rw[hr,O9,if_pos (by omega),hw];rfl⟩,k1⟩
  ·have d2:decide (x.at_=(a:Int))=false:=Zb h1
   simp only[t5,t58,t59,t60,d1,eI,gb,eL,sf,g1,l0,X4,d2,Zv,Zj,Zj,SP,LD,ZI,Yw,ZG,Yl,Yt,Vf,PE]
   refine⟨_,_,_,rfl,?_⟩
   exact .inr ⟨by simp,k1,.inl ⟨rfl,rfl,by rw[hr,O9,if_neg (λe=>h1 e.1)]⟩⟩
theorem SS{e:V0}(h:Wu e.mem=false∨e.mem.data.length≠0∨(Y8 e.mem.path).1<1∨3<(Y8 e.mem.path).1∨e.size<0∨16777216<e.size∨(0<e.size∧e.mem.kind≠2)∨O9 0 e.chunks=none∨ ∃a:Nat,O9 0 e.chunks=some a∧(a:Int)≠e.size):Vs e=false:=by
 unfold Vs
 rcases h with h|h|h|h|h|h|h|h|⟨a,h,h2⟩
 ·rw[h];simp
 ·rw[Zb h];simp
 ·rw[Zb (show ¬1<=(Y8 e.mem.path).1 by omega)];simp
 ·rw[Zb (show ¬(Y8 e.mem.path).1<=3 by omega)];simp
 ·rw[Zb (show ¬0<=e.size by omega)];simp
 ·rw[Zb (show ¬e.size<=16777216 by omega)];simp
 ·rw[Zb (show ¬e.size<=0 by omega),Zb h.2];simp
 ·rw[h];simp
 ·rw[h];simp[h2]
theorem BE{e:V0}(h1:Wu e.mem=true)(h2:e.mem.data.length=0)(h3:1<=(Y8 e.mem.path).1)(h4:(Y8 e.mem.path).1<=3)(h5:0<=e.size)(h6:e.size<=16777216)(h7:e.size<=0∨e.mem.kind=2){a:Nat}(h8:O9 0 e.chunks=some a)(h9:(a:Int)=e.size):Vs e=true:=by
 unfold Vs
 rw[h1,Zd h2,Zd h3,Zd h4,Zd h5,Zd h6,h8]
 rcases h7 with h7|h7
 ·rw[Zd h7];simp[h9]
 ·rw[Zd h7];simp[h9]
theorem yZ(k:IntKind)(a:Nat)(b:Int)(H:Heap):Iz Uk false (nI k a) (.int k b) H=.val (.bool (decide ((a:Int)=b))) H:=by
 show UU (cond (Nl k k) (some (Fc (Int.ofNat a) b)) none) _=_
 rw[X3,Pj]
 show So ((a:Int)==b) H=_
 rw[Dq]
 cases decide ((a:Int)=b)<;>rfl
theorem qc{Zr:Lib}{fs:T CF}{fuel:Nat}(E:Env Zr fs fuel){n:Nat}{cs:List AV}{e:V0}{H:Heap}(hs:Oi e)(g:PM H)(he:JR H cs e):
  ∃H',ZU (LK Zr fs fuel 12) fs fuel (n+2) 22 [.agg cs] H=.ret (.bool (Vs e)) H'∧Zw H H' []:=by
 rw[Z4 (Z3 E.n22 (.inl (by decide)) _ _) E.f22]
 obtain⟨av,dv,cv,rfl,hA,hD,hC⟩:=he
 obtain⟨H1,hH1⟩: ∃G,H.new (rG 31 1 [.str e.mem.path,.int .i64 e.mem.kind,nI .u32 e.mem.mode,nI .u32 e.mem.uid,nI .u32 e.mem.gid,.int .i64 e.mem.time,av,dv,.str e.mem.link,.int .i64 e.size,.int .i64 e.head,cv] 0 false true true)=G:=⟨_,rfl⟩
 have k1:Zw H H1 []:=by rw[<-hH1];exact Zw.new _ _ _
 have g1:H1.t.get H.nx=some (rG 31 1 [.str e.mem.path,.int .i64 e.mem.kind,nI .u32 e.mem.mode,nI .u32 e.mem.uid,nI .u32 e.mem.gid,.int .i64 e.mem.time,av,dv,.str e.mem.link,.int .i64 e.size,.int .i64 e.head,cv] 0 false true true):=by rw[<-hH1];exact Yi rfl _
 have gP:=g.keep0 k1
 have ec:=λ{j}=>jE E (k:=12) (n:=j) (by decide) (s:=e.mem.path) (H:=H1) hs.mem.path gP
 have em:=λ{j}=>Zgp E (k:=12) (n:=j) (by decide) (cs:=[.str e.mem.path,.int .i64 e.mem.kind,nI .u32 e.mem.mode,nI .u32 e.mem.uid,nI .u32 e.mem.gid,.int .i64 e.mem.time,av,dv,.str e.mem.link]) (m:=e.mem) (H:=H1) hs.mem gP ⟨av,dv,rfl,hA.keep0 k1,hD.keep0 k1⟩
 have ln:=hD.len
 rw[TI] at ln
 have lc:=hC.len
 rw[TG] at lc
 have hl:=hs.chunks
 cases h1:Wu e.mem with
 |false=>
  rw[h1] at em
  rw[SS (.inl h1)]
  simp(disch:=first|assumption|omega|(simp -implicitDefEqProofs only[Y3,Y4]<;>first|assumption|omega)|decide) only[ec,em,g1,hH1,Yf,Xo,XU,Wi,Zj,Zj,Zz,ZA,ZJ,Zn,kO,ZI,Yw,ZG,Yl,Yt,Vf]
  refine⟨_,rfl,?_⟩
  exact k1
 |true=>
  rw[h1] at em
  by_cases h2:0<e.mem.data.length
  ·have d2:decide (0<e.mem.data.length)=true:=Zd h2
   rw[SS (.inr (.inl (by omega)))]
   simp(disch:=first|assumption|omega|(simp -implicitDefEqProofs only[Y3,Y4]<;>first|assumption|omega)|decide) only[ec,em,g1,hH1,ln,Yf,Xo,XU,d2,Wi,Yy,Nat.reduceAdd,Zj,Zf,Zf,Zj,Zz,ZA,ZJ,Zn,Zq,kO,ZI,Yw,ZG,Yl,Yt,Vf]
   refine⟨_,rfl,?_⟩
   exact k1
  have d2:decide (0<e.mem.data.length)=false:=Zb h2
  by_cases h3:(Y8 e.mem.path).1<1
  ·have d3:decide ((Y8 e.mem.path).1<1)=true:=Zd h3
   rw[SS (.inr (.inr (.inl h3)))]
   simp(disch:=first|assumption|omega|(simp -implicitDefEqProofs only[Y3,Y4]<;>first|assumption|omega)|decide) only[ec,em,g1,hH1,ln,Yf,Xo,XU,d2,d3,Wi,Zv,Yy,Nat.reduceAdd,Zj,Zf,Zf,Zj,Zz,ZA,ZJ,Zn,Zq,kO,ZI,Yw,ZG,Yl,Yt,Vf]
   refine⟨_,rfl,?_⟩
   exact k1
  have d3:decide ((Y8 e.mem.path).1<1)=false:=Zb h3
  by_cases h4:3<(Y8 e.mem.path).1
  ·have d4:decide (3<(Y8 e.mem.path).1)=true:=Zd h4
   rw[SS (.inr (.inr (.inr (.inl h4))))]
   simp(disch:=first|assumption|omega|(simp -implicitDefEqProofs only[Y3,Y4]<;>first|assumption|omega)|decide) only[ec,em,g1,hH1,ln,Yf,Xo,XU,d2,d3,d4,Wi,Zv,Yy,Nat.reduceAdd,Zj,Zf,Zf,Zj,Zz,ZA,ZJ,Zn,Zq,kO,ZI,Yw,ZG,Yl,Yt,Vf]
   refine⟨_,rfl,?_⟩
   exact k1
  have d4:decide (3<(Y8 e.mem.path).1)=false:=Zb h4
  by_cases h5:e.size<((0:Nat):Int)
  ·have d5:decide (e.size<((0:Nat):Int))=true:=Zd h5
   rw[SS (.inr (.inr (.inr (.inr (.inl (by omega))))))]
   simp(disch:=first|assumption|omega|(simp -implicitDefEqProofs only[Y3,Y4]<;>first|assumption|omega)|decide) only[ec,em,g1,hH1,ln,Yf,Xo,XU,d2,d3,d4,d5,Wi,Zv,Yy,Nat.reduceAdd,Zj,Zf,Zf,Zj,Zz,ZA,ZJ,Zn,Zq,Up,kO,ZI,Yw,ZG,Yl,Yt,Vf]
   refine⟨_,rfl,?_⟩
   exact k1
  have d5:decide (e.size<((0:Nat):Int))=false:=Zb h5
  by_cases h6:((16777216:Nat):Int)<e.size
  ·have d6:decide (((16777216:Nat):Int)<e.size)=true:=Zd h6
   rw[SS (.inr (.inr (.inr (.inr (.inr (.inl (by omega)))))))]
   simp(disch:=first|assumption|omega|(simp -implicitDefEqProofs only[Y3,Y4]<;>first|assumption|omega)|decide) only[ec,em,g1,hH1,ln,Yf,Xo,XU,d2,d3,d4,d5,d6,Wi,Zv,Yy,Nat.reduceAdd,Zj,Zf,Zf,Zj,Zz,ZA,ZJ,Zn,Zq,Up,Ry,kO,ZI,Yw,ZG,Yl,Yt,Vf]
   refine⟨_,rfl,?_⟩
   exact k1
  have d6:decide (((16777216:Nat):Int)<e.size)=false:=Zb h6
  by_cases h7:((0:Nat):Int)<e.size
  ·have d7:decide (((0:Nat):Int)<e.size)=true:=Zd h7
   by_cases h8:e.mem.kind=((2:Nat):Int)
   ·have d8:decide (e.mem.kind=((2:Nat):Int))=true:=Zd h8
    simp(disch:=first|assumption|omega|(simp -implicitDefEqProofs only[Y3,Y4]<;>first|assumption|omega)|decide) only[ec,em,g1,hH1,ln,lc,Yf,Xo,XU,d2,d3,d4,d5,d6,d7,d8,Zv,Yy,Nat.reduceAdd,Zj,Zf,Zf,Zj,Zz,ZA,ZJ,Zn,Zq,SP,Up,Ry,kO,ZI,Yw,Yl,Yt,Vf]
    generalize hL:XD (LD _) fuel _ _ _=L
    obtain⟨o,Nb,H2,rfl,_,k2,z⟩:=YG (P:=λT=>SHI H1 H.nx [] cv e.chunks e.chunks.length T H1) (Q:=SHQ H1 H.nx e.chunks)
     (λT hi=>YX (SHI H1 H.nx [] cv e.chunks) (SHQ H1 H.nx e.chunks) (λm tm H2 h=>ow hl hs.sums (by rw[k1.ro];exact ZX g.ro k1.nx) (hC.keep0 k1) _ _ m tm H2 h) fuel e.chunks.length T H1 (by have:=E.big;omega) hi) hL
     (by exact⟨rfl,rfl,rfl,⟨0,0,rfl,rfl,by omega,by omega,rfl⟩,Zw.refl _ _⟩)
    have k12:=k1.trans' k2
    rcases z with⟨rfl,t2,e8⟩|⟨rfl,t1,a,t5,e8⟩
    ·simp only[Sk] at t2
     rw[SS (.inr (.inr (.inr (.inr (.inr (.inr (.inr (.inl e8))))))))]
     simp only[t2,ZI,ZG,Yt,]
     refine⟨_,rfl,?_⟩
     exact k12
    ·simp only[Ov] at t1
     simp only[Ss] at t5
     have g2:H2.t.get H.nx=some (rG 31 1 [.str e.mem.path,.int .i64 e.mem.kind,nI .u32 e.mem.mode,nI .u32 e.mem.uid,nI .u32 e.mem.gid,.int .i64 e.mem.time,av,dv,.str e.mem.link,.int .i64 e.size,.int .i64 e.head,cv] 0 false true true):=by rw[k2.get _ (by rw[<-hH1];exact Yo _) (by simp)];exact g1
     by_cases h9:(a:Int)=e.size
     ·have d9:decide ((a:Int)=e.size)=true:=Zd h9
      rw[BE h1 (by omega) (by omega) (by omega) (by omega) (by omega) (.inr h8) e8 h9]
      simp(disch:=first|assumption|omega|(simp -implicitDefEqProofs only[Y3,Y4]<;>first|assumption|omega)|decide) only[t1,t5,g2,d9,Yf,Zf,Zf,Zn,Zq,yZ,ZI,Yw,ZG,Yt,PE]
      refine⟨_,rfl,?_⟩
      exact k12
     ·have d9:decide ((a:Int)=e.size)=false:=Zb h9
      rw[SS (.inr (.inr (.inr (.inr (.inr (.inr (.inr (.inr ⟨a,e8,h9⟩))))))))]
      simp(disch:=first|assumption|omega|(simp -implicitDefEqProofs only[Y3,Y4]<;>first|assumption|omega)|decide) only[t1,t5,g2,d9,Yf,Zf,Zf,Zn,Zq,yZ,ZI,Yw,ZG,Yt,PE]
      refine⟨_,rfl,?_⟩
      exact k12
   ·have d8:decide (e.mem.kind=((2:Nat):Int))=false:=Zb h8
    rw[SS (.inr (.inr (.inr (.inr (.inr (.inr (.inl ⟨by omega,h8⟩)))))))]
    simp(disch:=first|assumption|omega|(simp -implicitDefEqProofs only[Y3,Y4]<;>first|assumption|omega)|decide) only[ec,em,g1,hH1,ln,Yf,Xo,XU,d2,d3,d4,d5,d6,d7,d8,Zv,Yy,Nat.reduceAdd,Zj,Zf,Zf,Zj,Zz,ZA,ZJ,Zn,Zq,SP,Up,Ry,kO,ZI,Yw,ZG,Yl,Yt,Vf]
    refine⟨_,rfl,?_⟩
    exact k1
  ·have d7:decide (((0:Nat):Int)<e.size)=false:=Zb h7
   simp(disch:=first|assumption|omega|(simp -implicitDefEqProofs only[Y3,Y4]<;>first|assumption|omega)|decide) only[ec,em,g1,hH1,ln,lc,Yf,Xo,XU,d2,d3,d4,d5,d6,d7,Zv,Yy,Nat.reduceAdd,Zj,Zf,Zf,Zj,Zz,ZA,ZJ,Zn,Zq,Up,Ry,kO,ZI,Yw,Yl,Yt,Vf]
   generalize hL:XD (LD _) fuel _ _ _=L
   obtain⟨o,Nb,H2,rfl,_,k2,z⟩:=YG (P:=λT=>SHI H1 H.nx [] cv e.chunks e.chunks.length T H1) (Q:=SHQ H1 H.nx e.chunks)
    (λT hi=>YX (SHI H1 H.nx [] cv e.chunks) (SHQ H1 H.nx e.chunks) (λm tm H2 h=>ow hl hs.sums (by rw[k1.ro];exact ZX g.ro k1.nx) (hC.keep0 k1) _ _ m tm H2 h) fuel e.chunks.length T H1 (by have:=E.big;omega) hi) hL
    (by exact⟨rfl,rfl,rfl,⟨0,0,rfl,rfl,by omega,by omega,rfl⟩,Zw.refl _ _⟩)
   have k12:=k1.trans' k2
   rcases z with⟨rfl,t2,e8⟩|⟨rfl,t1,a,t5,e8⟩
   ·simp only[Sk] at t2
    rw[SS (.inr (.inr (.inr (.inr (.inr (.inr (.inr (.inl e8))))))))]
    simp(disch:=omega) only[t2,ZI,ZG,Yt,]
    refine⟨_,rfl,?_⟩
    exact k12
   ·simp only[Ov] at t1
    simp only[Ss] at t5
    have g2:H2.t.get H.nx=some (rG 31 1 [.str e.mem.path,.int .i64 e.mem.kind,nI .u32 e.mem.mode,nI .u32 e.mem.uid,nI .u32 e.mem.gid,.int .i64 e.mem.time,av,dv,.str e.mem.link,.int .i64 e.size,.int .i64 e.head,cv] 0 false true true):=by rw[k2.get _ (by rw[<-hH1];exact Yo _) (by simp)];exact g1
    by_cases h9:(a:Int)=e.size
    ·have d9:decide ((a:Int)=e.size)=true:=Zd h9
     rw[BE h1 (by omega) (by omega) (by omega) (by omega) (by omega) (.inl (by omega)) e8 h9]
     simp(disch:=first|assumption|omega|(simp -implicitDefEqProofs only[Y3,Y4]<;>first|assumption|omega)|decide) only[t1,t5,g2,d9,Yf,Zf,Zf,Zn,Zq,yZ,ZI,Yw,ZG,Yt,PE]
     refine⟨_,rfl,?_⟩
     exact k12
    ·have d9:decide ((a:Int)=e.size)=false:=Zb h9
     rw[SS (.inr (.inr (.inr (.inr (.inr (.inr (.inr (.inr ⟨a,e8,h9⟩))))))))]
     simp(disch:=first|assumption|omega|(simp -implicitDefEqProofs only[Y3,Y4]<;>first|assumption|omega)|decide) only[t1,t5,g2,d9,Yf,Zf,Zf,Zn,Zq,yZ,ZI,Yw,ZG,Yt,PE]
     refine⟨_,rfl,?_⟩
     exact k12
theorem Zf9{Zr:Lib}{fs:T CF}{fuel:Nat}(E:Env Zr fs fuel){k n:Nat}(hk:13<=k){cs:List AV}{e:V0}{H:Heap}(hs:Oi e)(g:PM H)(he:JR H cs e):
  ZU (LK Zr fs fuel k) fs fuel (n+1) 22 [.agg cs] H=.ret (.bool (Vs e)) H:=by
 obtain⟨H',e,g⟩:=qc E (n:=898) (H:=H) hs g he
 exact YI (r:=12) rfl rfl e g (rfl) hk
def IV(p z:Int):Bool:=decide (p<z)&&decide (z<=1099511627776)
def Kp:Int->List I3->Option Int
 |p,[]=>some p
 |p,x::l=>if IV p x.place=true then Kp x.place l else none
def vq(prev:Option (List UInt8))(e:V0):Bool:=match prev with|none=>true|some q=>!Wx q e.mem.path
def x7:Option (List UInt8)->Int->List V0->Bool
 |_,_,[]=>true
 |prev,p,e::l=>Vs e&&vq prev e&&IV p e.head&&(match Kp e.head e.chunks with|some p'=>x7 (some e.mem.path) p' l|none=>false)
def P0(l:List V0):Bool:=x7 none (-1) l&&decide (l.length<=4096)
instance:Inhabited Mem:=⟨⟨[],0,0,0,0,0,[],[],[]⟩⟩
instance:Inhabited V0:=⟨⟨default,0,0,[]⟩⟩
def lJ(p:Int):Obj:=rG 2 1 [.int .i64 p] 0 false true true
theorem zO{Zr:Lib}{fs:T CF}{fuel:Nat}(E:Env Zr fs fuel){k n:Nat}{z p:Int}{pb:Nat}{H:Heap}(hro:H.ro<=pb)(g:H.t.get pb=some (lJ p)):
  ZU (LK Zr fs fuel k) fs fuel (n+1) 21 [.int .i64 z,.ptr pb 0] H=.ret (.bool (IV p z)) (H.put pb (lJ z)):=by
 rw[Z4 (Z3 E.n21 (.inr rfl) _ _) E.f21]
 unfold lJ at g ⊢
 unfold IV
 have sf:=NF (v:=.int .i64 z) (b:=pb) (o:=0) (l:=[.int .i64 p]) (H:=H) (fz:=0) rfl (Yo 0) hro (Zo 0) 2 1 false true
 have l0: ∀G,ld1 (some (rG 2 1 [.int .i64 p] 0 false true true)) 0 G=.val (.int .i64 p) G:=λG=>by rw[Yf (Yo 0)];rfl
 by_cases h:p<z
 ·have d1:decide (p<z)=true:=Zd h
  rw[d1,Xf]
  have d2: ∀G,OM Rm Uo (.int .i64 z) (nI .i64 1099511627776) G=.val (.bool (decide (z<=1099511627776))) G:=λG=>sY ..
  simp only[g,l0,sf,d1,d2,sG,c21,ZI,Yw,ZG,Yl,Yt]
 ·have d1:decide (p<z)=false:=Zb h
  rw[d1,Y0]
  simp only[g,l0,sf,d1,sG,c21,ZI,Yw,ZG,Yl,Yt]
structure RCI(H0:Heap)(b0 pb:Nat)(ev:AV)(len i:Nat)(cv:AV)(l:List I3)(p0:Int)(m:Nat)(tm:TM)(H:Heap):Prop where
 t1:XR tm=.ptr b0 0
 t4:Xu tm=.func 21 [] [.ptr pb 0]
 t11:YN tm=ev
 t12:Xj tm=nI .i64 len
 t13:Y6 tm=nI .i64 i
 t47:TY tm=cv
 t48:QD tm=nI .i64 l.length
 j: ∃j p,SY tm=nI .i64 j∧j+m=l.length∧H.t.get pb=some (lJ p)∧Kp p0 l=Kp p (l.drop j)
 k:Zw H0 H [pb]
 pb:pb<H0.nx
def RCQ(H0:Heap)(b0 pb:Nat)(ev:AV)(len i:Nat)(l:List I3)(p0:Int)(o:Out)(tm:TM)(H:Heap):Prop:=Zw H0 H [pb]∧((o=.ret∧Vt tm=.bool false∧Kp p0 l=none)∨(o=.exit 2∧XR tm=.ptr b0 0∧Xu tm=.func 21 [] [.ptr pb 0]∧YN tm=ev∧Xj tm=nI .i64 len∧Y6 tm=nI .i64 i∧ ∃p,H.t.get pb=some (lJ p)∧Kp p0 l=some p))
theorem ol{Zr:Lib}{fs:T CF}{fuel:Nat}(E:Env Zr fs fuel){n k:Nat}{cv ev:AV}{l:List I3}(hl:l.length<=90000)(hs: ∀x∈l,x.sum.length=32){H0:Heap}{b0 pb len i0:Nat}{p0:Int}(hro:H0.ro<=pb)(hN: ∀H,Zw H0 H [pb]->Sz H 35 cv (MF l))(y f dd q)(X0:X)(m:Nat)(tm:TM)(H:Heap)(hI:RCI H0 b0 pb ev len i0 cv l p0 m tm H):
  ∃o tm' H',Ip ⟨ZU (LK Zr fs fuel k) fs fuel (n+1),y,f,dd,q⟩ tm H X0=.ok o tm' H' X0∧((o=.normal∧ ∃k,k<m∧RCI H0 b0 pb ev len i0 cv l p0 k tm' H')∨(o≠.normal∧RCQ H0 b0 pb ev len i0 l p0 o tm' H')):=by
 obtain⟨t1,t4,t11,t12,t13,t47,t48,⟨i,p,t49,him,gp,hr⟩,k0,hpb⟩:=hI
 have t1':=t1;have tz:=t4;have NG:=t11;have G4:=t12;have qp:=t13;have Znv:=t47;have Znw:=t48
 simp only[Tb] at t4
 simp only[pq] at t47
 simp only[pr] at t48
 simp only[pu] at t49
 cases m with
 |zero=>
  have d1:decide (i<l.length)=false:=Zb (by omega)
  simp only[t48,t49,d1,Zv,Ip,ZI,Yw,Vf]
  refine⟨_,_,_,rfl,?_⟩
  exact .inr ⟨by simp,k0,.inr ⟨rfl,t1',tz,NG,G4,qp,p,gp,by rw[hr,X8 (by omega)];rfl⟩⟩
 |succ m=>
  have d1:decide (i<l.length)=true:=Zd (by omega)
  have hi:i<l.length:=by omega
  have hN:=hN H k0
  have hpb2:=k0.nx
  obtain⟨bb,o,r,eI,hb,gb,eL,eE⟩:=hN.at_ (i:=i) (by rw[TG];omega)
  rw[Jy hi] at eL
  have hsum:(l.getD i default).sum.length=32:=hs _ (by rw[Ze,Zk hi];exact Xp hi)
  have hdr:l.drop i=l.getD i default::l.drop (i+1):=by
   rw[Ws hi,Ze,Zk hi];rfl
  rw[hdr] at hr
  generalize hx:l.getD i default=x at*
  have xl:(Ta x).length=35:=by unfold Ta;simp[hsum]
  obtain⟨H1,hH1⟩: ∃G,H.new (rG 57 1 (Ta x) 0 false true true)=G:=⟨_,rfl⟩
  have k1:Zw H0 H1 [pb]:=by rw[<-hH1];exact k0.then_new _
  have g1:H1.t.get H.nx=some (rG 57 1 (Ta x) 0 false true true):=by rw[<-hH1];exact Yi rfl _
  have sf:=U4 (n:=35) (b:=H.nx) (l:=z35) (vs:=Ta x) (H:=H.new (rG 57 1 z35 0 false true true)) Kh xl (by decide) (by show H.ro<=_;rw[k0.ro];omega) 57 1 false true
  rw[Us rfl,hH1] at sf
  have l2: ∀G,ld1 (some (rG 57 1 (Ta x) 0 false true true)) 2 G=.val (.int .i64 x.place) G:=λG=>by rw[Yf (by rw[xl];decide)];rfl
  have gp1:H1.t.get pb=some (lJ p):=by rw[<-hH1,NU (by omega)];exact gp
  have er:=λ{j}=>zO E (k:=k) (n:=j) (z:=x.place) (p:=p) (pb:=pb) (H:=H1) (by rw[k1.ro];exact hro) gp1
  have k2:Zw H0 (H1.put pb (lJ x.place)) [pb]:=k1.then_put (λh=>by simp)
  cases hp:IV p x.place with
  |true=>
   rw[hp] at er
   simp(disch:=omega) only[t4,t47,t48,t49,d1,eI,gb,eL,sf,g1,l2,er,X4,Zv,YU,Zf,XM,ZQ,Zf,Wq,Ip,ZI,Yw,ZG,Yl,Yt,Vf]
   refine⟨_,_,_,rfl,?_⟩
   exact .inl ⟨rfl,m,by omega,t1',tz,NG,G4,qp,Znv,Znw,⟨i+1,x.place,rfl,by omega,X9 ..,by rw[hr,Kp,if_pos hp]⟩,k2,hpb⟩
  |false=>
   rw[hp] at er
   simp only[t4,t47,t48,t49,d1,eI,gb,eL,sf,g1,l2,er,X4,Zv,Zf,XM,ZQ,Zf,Wq,Ip,ZI,Yw,ZG,Yl,Yt,Vf]
   refine⟨_,_,_,rfl,?_⟩
   exact .inr ⟨by simp,k2,.inl ⟨rfl,rfl,by rw[hr,Kp,if_neg (by rw[hp];simp)]⟩⟩
def MV(H:Heap)(ev:AV)(L:List V0):Prop:= ∃Ls,Sz H 12 ev Ls∧Ls.length=L.length∧ ∀i,i<L.length->JR H (Ls.getD i []) (L.getD i default)
theorem MV.keep{H H':Heap}{ev:AV}{L:List V0}(h:MV H ev L)(k:Zw H H' []):MV H' ev L:=by
 obtain⟨Ls,h1,h2,h3⟩:=h
 exact⟨Ls,h1.keep0 k,h2,λi hi=>(h3 i hi).keep k⟩
theorem F0: ∀(l:List AV),(∀v∈l,AI.same v v=true)->AI.sameL l l=true
 |[],_=>by unfold AI.sameL;rfl
 |a::l,h=>by
  unfold AI.sameL
  rw[h a (Zs ..),F0 l λv hv=>h v (ZC _ hv)];rfl
theorem dB{l:List AV}(h: ∀v∈l,AI.same v v=true)(n:Nat)(t:T Obj):VS (.val (.agg l) ⟨n,t,n⟩) (.agg l) n=true:=
 TK _ _ _ (by unfold AI.same;exact F0 l h)
theorem Rc(k:IntKind)(z:Int)(n:Nat)(t:T Obj):VS (.val (.int k z) ⟨n,t,n⟩) (.int k z) n=true:=TK _ _ _ (Rn k z)
theorem Sz.sam{H:Heap}{sz:Nat}{v:AV}{ls:List (List AV)}(h:Sz H sz v ls):AI.same v v=true:=by
 rcases h with⟨_,rfl⟩|h
 ·unfold AI.same;rfl
 ·rcases h.here with⟨_,rfl⟩|⟨b,o,c,rfl,_⟩
  ·unfold AI.same;rfl
  ·unfold AI.same
   rw[Ys,Ys,Ys]
   cases c<;>simp
def oM(ev:AV):Obj:=rG 47 1 [ev] 0 false true true
structure TMI(H0:Heap)(b0 pb:Nat)(ev:AV)(L:List V0)(m:Nat)(tm:TM)(H:Heap):Prop where
 t1:XR tm=.ptr b0 0
 t4:Xu tm=.func 21 [] [.ptr pb 0]
 t11:YN tm=ev
 t12:Xj tm=nI .i64 L.length
 i: ∃i p,Y6 tm=nI .i64 i∧i+m=L.length∧H.t.get pb=some (lJ p)∧x7 none (-1) L=x7 (if i=0 then none else some (L.getD (i - 1) default).mem.path) p (L.drop i)
 g0:H.t.get b0=some (oM ev)
 k:Zw H0 H []
 pb:H0.nx<=b0∧b0<H.nx∧H0.nx<=pb∧pb<H.nx∧b0≠pb
def TMQ(H0:Heap)(b0:Nat)(ev:AV)(L:List V0)(o:Out)(tm:TM)(H:Heap):Prop:=Zw H0 H []∧((o=.ret∧Vt tm=.bool false∧x7 none (-1) L=false)∨(o=.exit 0∧XR tm=.ptr b0 0∧H.t.get b0=some (oM ev)∧x7 none (-1) L=true))
theorem yw(prev:Option (List UInt8))(p:Int)(e:V0)(l:List V0):x7 prev p (e::l)=(Vs e&&vq prev e&&IV p e.head&&(match Kp e.head e.chunks with|some p'=>x7 (some e.mem.path) p' l|none=>false)):=rfl
theorem Zb7{Zr:Lib}{fs:T CF}{fuel:Nat}(E:Env Zr fs fuel){n k:Nat}(hk:13<=k){ev:AV}{L:List V0}(hl:L.length<=90000)(hs: ∀i,i<L.length->Oi (L.getD i default)){H0:Heap}{b0 pb:Nat}(g:PM H0)(hN:MV H0 ev L)(y f dd q)(hdd:fuel=dd)(X0:X)(m:Nat)(tm:TM)(H:Heap)(hI:TMI H0 b0 pb ev L m tm H):
  ∃o tm' H',NT ⟨ZU (LK Zr fs fuel k) fs fuel (n+1),y,f,dd,q⟩ tm H X0=.ok o tm' H' X0∧((o=.normal∧ ∃k,k<m∧TMI H0 b0 pb ev L k tm' H')∨(o≠.normal∧TMQ H0 b0 ev L o tm' H')):=by
 subst hdd
 obtain⟨t1,t4,t11,t12,⟨i,p,t13,him,gp,hG⟩,g0,k0,hb0,hb1,hp0,hp1,hbp⟩:=hI
 have t1':=t1;have tz:=t4;have NG:=t11;have G4:=t12;have qp:=t13
 simp only[Ov] at t1
 simp only[Tb] at t4
 simp only[Sy] at t11
 simp only[OW] at t12
 simp only[Km] at t13
 cases m with
 |zero=>
  have d1:decide (i<L.length)=false:=Zb (by omega)
  simp only[t12,t13,d1,Zv,NT,ZI,Yw,Yt]
  refine⟨_,_,_,rfl,?_⟩
  exact .inr ⟨by simp,k0,.inr ⟨rfl,t1',g0,by rw[hG,X8 (by omega)];unfold x7;rfl⟩⟩
 |succ m=>
  have d1:decide (i<L.length)=true:=Zd (by omega)
  have hi:i<L.length:=by omega
  obtain⟨Ls,hS0,hLl,hE⟩:=hN
  have hS:=hS0.keep0 k0
  have ZeX:=hS.low (n:=H.nx+1) (Vj _)
  have hSs:=hS.same
  have hsh:=hs i hi
  obtain⟨bb,o,r,eI,hb,gb,eL,eE⟩:=hS.at_ (i:=i) (by omega)
  have hEi:=hE i hi
  have Zil:=hEi
  have hdr:L.drop i=L.getD i default::L.drop (i+1):=by
   rw[Ws hi,Ze,Zk hi];rfl
  have hnx: ∀x,x=L.getD i default->(L.getD (i+1 - 1) default).mem.path=x.mem.path:=λx hx=>by rw[hx,W3]
  rw[hdr,yw] at hG
  generalize hx:L.getD i default=e at*
  have hnx:=hnx e rfl
  obtain⟨av,dv,cv,ecs,hA,hD,hC0⟩:=hEi
  rw[ecs] at eL Zil
  have ro0:H.ro<=H.nx:=by rw[k0.ro];exact ZX g.ro k0.nx
  obtain⟨H1,hH1⟩: ∃G,H.new (rG 31 1 [.str e.mem.path,.int .i64 e.mem.kind,nI .u32 e.mem.mode,nI .u32 e.mem.uid,nI .u32 e.mem.gid,.int .i64 e.mem.time,av,dv,.str e.mem.link,.int .i64 e.size,.int .i64 e.head,cv] 0 false true true)=G:=⟨_,rfl⟩
  have k1:Zw H H1 []:=by rw[<-hH1];exact Zw.new _ _ _
  have sU:Zw H0 H1 []:=k0.trans' k1
  have Lb:H1.nx=H.nx+1:=by rw[<-hH1];rfl
  have g1:H1.t.get H.nx=some (rG 31 1 [.str e.mem.path,.int .i64 e.mem.kind,nI .u32 e.mem.mode,nI .u32 e.mem.uid,nI .u32 e.mem.gid,.int .i64 e.mem.time,av,dv,.str e.mem.link,.int .i64 e.size,.int .i64 e.head,cv] 0 false true true):=by rw[<-hH1];exact Yi rfl _
  have sf:=U4 (n:=12) (b:=H.nx) (l:=[.str [],nI .i64 0,nI .u32 0,nI .u32 0,nI .u32 0,nI .i64 0,.nils,.nils,.str [],nI .i64 0,nI .i64 0,.nils]) (vs:=[.str e.mem.path,.int .i64 e.mem.kind,nI .u32 e.mem.mode,nI .u32 e.mem.uid,nI .u32 e.mem.gid,.int .i64 e.mem.time,av,dv,.str e.mem.link,.int .i64 e.size,.int .i64 e.head,cv]) (H:=H.new (rG 31 1 [.str [],nI .i64 0,nI .u32 0,nI .u32 0,nI .u32 0,nI .i64 0,.nils,.nils,.str [],nI .i64 0,nI .i64 0,.nils] 0 false true true)) rfl rfl (by decide) (by show H.ro<=_;exact ro0) 31 1 false true
  rw[Us rfl,hH1] at sf
  have es:=λ{j}=>Zf9 E (k:=k) (n:=j) hk (cs:=[.str e.mem.path,.int .i64 e.mem.kind,nI .u32 e.mem.mode,nI .u32 e.mem.uid,nI .u32 e.mem.gid,.int .i64 e.mem.time,av,dv,.str e.mem.link,.int .i64 e.size,.int .i64 e.head,cv]) (e:=e) (H:=H1) hsh (g.keep0 sU) (Zil.keep sU)
  have gp1:H1.t.get pb=some (lJ p):=by rw[k1.get _ hp1 (by simp)];exact gp
  have g01:H1.t.get b0=some (oM ev):=by rw[k1.get _ hb1 (by simp)];exact g0
  have lt0: ∀G,ld1 (some (oM ev)) 0 G=.val ev G:=λG=>by unfold oM;rw[Yf (Yo 0)];rfl
  have er:=λ{j}=>zO E (k:=k) (n:=j) (z:=e.head) (p:=p) (pb:=pb) (H:=H1) (by rw[sU.ro];have:=g.ro;omega) gp1
  obtain⟨H2,hH2⟩: ∃G,H1.put pb (lJ e.head)=G:=⟨_,rfl⟩
  rw[hH2] at er
  have k2:Zw H0 H2 []:=by rw[<-hH2];exact sU.then_put (λh=>by omega)
  have nx2:H2.nx=H.nx+1:=by rw[<-hH2,Nn,Lb]
  have g2:H2.t.get H.nx=some (rG 31 1 [.str e.mem.path,.int .i64 e.mem.kind,nI .u32 e.mem.mode,nI .u32 e.mem.uid,nI .u32 e.mem.gid,.int .i64 e.mem.time,av,dv,.str e.mem.link,.int .i64 e.size,.int .i64 e.head,cv] 0 false true true):=by rw[<-hH2,RU (by omega)];exact g1
  have g02:H2.t.get b0=some (oM ev):=by rw[<-hH2,RU (by omega)];exact g01
  have gp2:H2.t.get pb=some (lJ e.head):=by rw[<-hH2];exact X9 ..
  have hq: ∀n t,VS (.val (.agg [.str e.mem.path,.int .i64 e.mem.kind,nI .u32 e.mem.mode,nI .u32 e.mem.uid,nI .u32 e.mem.gid,.int .i64 e.mem.time,av,dv,.str e.mem.link,.int .i64 e.size,.int .i64 e.head,cv]) ⟨n,t,n⟩) (.agg [.str e.mem.path,.int .i64 e.mem.kind,nI .u32 e.mem.mode,nI .u32 e.mem.uid,nI .u32 e.mem.gid,.int .i64 e.mem.time,av,dv,.str e.mem.link,.int .i64 e.size,.int .i64 e.head,cv]) n=true:=dB (by
   intro v hv
   simp only[ZR,U7,or_false] at hv
   rcases hv with rfl|rfl|rfl|rfl|rfl|rfl|rfl|rfl|rfl|rfl|rfl|rfl
   ·exact Bz _
   ·exact Rn _ _
   ·exact Rn _ _
   ·exact Rn _ _
   ·exact Rn _ _
   ·exact Rn _ _
   ·exact hA.sam
   ·exact hD.sam
   ·exact Bz _
   ·exact Rn _ _
   ·exact Rn _ _
   ·exact hC0.sam)
  have hlf: ∀n,pb<n->Wl n (.func 21 [] [.ptr pb 0])=true:=λn hn=>by
   show cond true (cond (Wl n (.ptr pb 0)) true false) false=true
   rw[Wj hn];rfl
  have lc:=hC0.len
  rw[TG] at lc
  have hcl:=hsh.chunks
  cases hsE:Vs e with
  |false=>
   rw[hsE] at es hG
   simp(disch:=first|assumption|omega|(simp -implicitDefEqProofs only[Y3,Y4]<;>first|assumption|omega)|decide) only[t11,t12,t13,d1,eI,gb,eL,sf,g1,es,Lb,Xo,hq,Wi,Zv,decide_true,Zz,ZA,ZJ,NT,ZI,Yw,ZG,Yl,Xm,XX,Nat.reducePow,Nat.reduceDiv,Nat.reduceMod,Yt,Vf]
   refine⟨_,_,_,rfl,?_⟩
   exact .inr ⟨by simp,sU,.inl ⟨rfl,rfl,by rw[hG];rfl⟩⟩
  |true=>
   rw[hsE] at es hG
   rw[Xf] at hG
   have after: ∀(hh:vq (if i=0 then none else some (L.getD (i - 1) default).mem.path) e=true) (d0:decide (0<i)=false∨(decide (0<i)=true∧ ∃b2 o2 r2,b2<H.nx∧(∀(k:IntKind) (G:Heap),HY 12 ev (nI k (i - 1)) G=.val (.ptr b2 o2) G)∧H1.t.get b2=some (.row r2)∧(∀G,ld1 (some (.row r2)) o2 G=.val (.str (L.getD (i - 1) default).mem.path) G)∧Wx (L.getD (i - 1) default).mem.path e.mem.path=false)),
     ∃o tm' H',NT ⟨ZU (LK Zr fs fuel k) fs fuel (n+1),y,f,fuel,q⟩ tm H X0=.ok o tm' H' X0∧((o=.normal∧ ∃k,k<m+1∧TMI H0 b0 pb ev L k tm' H')∨(o≠.normal∧TMQ H0 b0 ev L o tm' H')):=by
    intro hh d0
    rcases d0 with d0|⟨d0,b2,o2,r2,hb2,qY,bW,eF,hg⟩
    ·rw[hh,Xf] at hG
     cases hr:IV p e.head with
     |false=>
      rw[hr] at er hG
      simp(disch:=first|assumption|omega|(simp -implicitDefEqProofs only[Y3,Y4]<;>first|assumption|omega)|decide) only[t4,t11,t12,t13,d1,eI,gb,eL,sf,g1,es,Lb,Yf,Xo,hq,d0,Rc,hlf,er,Zv,Yy,decide_true,Zf,XM,ZQ,Zf,Wj,Zz,ZA,ZJ,Zn,Zq,Wq,NT,ZI,Yw,ZG,Yl,Xm,XX,Nat.reducePow,Nat.reduceDiv,Nat.reduceMod,Yt,Vf]
      refine⟨_,_,_,rfl,?_⟩
      exact .inr ⟨by simp,k2,.inl ⟨rfl,rfl,by rw[hG];rfl⟩⟩
     |true=>
      rw[hr] at er hG
      rw[Xf] at hG
      simp(disch:=first|assumption|omega|(simp -implicitDefEqProofs only[Y3,Y4]<;>first|assumption|omega)|decide) only[t4,t11,t12,t13,d1,eI,gb,eL,sf,g1,es,Lb,Yf,Xo,hq,d0,Rc,hlf,er,g2,lc,Zv,Yy,decide_true,Zf,XM,ZQ,Zf,Wj,Zz,ZA,ZJ,Zn,Zq,Wq,NT,ZI,Yw,ZG,Yl,Xm,XX,Nat.reducePow,Nat.reduceDiv,Nat.reduceMod,Yt,Vf]
      generalize hL:XD (Ip _) fuel _ _ _=Lp
      obtain⟨oc,Nb,H3,rfl,_,k3,z⟩:=YG (P:=λT=>RCI H2 b0 pb ev L.length i cv e.chunks e.head e.chunks.length T H2) (Q:=RCQ H2 b0 pb ev L.length i e.chunks e.head)
       (λT hi=>YX (RCI H2 b0 pb ev L.length i cv e.chunks e.head) (RCQ H2 b0 pb ev L.length i e.chunks e.head) (λm tm H3 h=>ol E hcl hsh.sums (by rw[k2.ro];have:=g.ro;omega) (λG hG=>hC0.keep0 (k2.trans hG (by intro x hx hlt;rw[ZD.1 hx] at hlt;omega))) _ _ _ _ _ m tm H3 h) fuel e.chunks.length T H2 (by have:=E.big;omega) hi) hL
       (by exact⟨t1',tz,NG,G4,qp,rfl,rfl,⟨0,e.head,rfl,by omega,gp2,rfl⟩,Zw.refl _ _,by omega⟩)
      have k03:Zw H0 H3 []:=k2.trans k3 (by intro x hx hlt;rw[ZD.1 hx] at hlt;omega)
      rcases z with⟨rfl,t2,e8⟩|⟨rfl,t1,t4,t11,t12,t13,p',gp3,e8⟩
      ·simp only[Sk] at t2
       rw[e8] at hG
       refine⟨_,_,_,rfl,?_⟩
       exact .inr ⟨by simp,k03,.inl ⟨rfl,by simp only[Sk];exact t2,hG⟩⟩
      ·have t1'':=t1;have t4'':=t4;have t11'':=t11;have t12'':=t12
       simp only[Ov] at t1
       simp only[Tb] at t4
       simp only[Sy] at t11
       simp only[OW] at t12
       simp only[Km] at t13
       rw[e8] at hG
       have n3:=k3.nx
       simp(disch:=omega) only[t13,YU,ZI,Yw,Yt,Vf]
       refine⟨_,_,_,rfl,?_⟩
       exact .inl ⟨rfl,m,by omega,t1'',t4'',t11'',t12'',⟨i+1,p',rfl,by omega,gp3,by rw[if_neg (by omega),hnx];exact hG⟩,by rw[k3.get _ (by omega) (by simp;omega)];exact g02,k03,hb0,by omega,hp0,by omega,hbp⟩
    ·have hi1:1<=i:=Zm d0
     rw[hh,Xf] at hG
     cases hr:IV p e.head with
     |false=>
      rw[hr] at er hG
      simp(disch:=first|assumption|omega|(simp -implicitDefEqProofs only[Y3,Y4]<;>first|assumption|omega)|decide) only[t1,t4,t11,t12,t13,d1,eI,gb,eL,sf,g1,es,g01,lt0,Lb,Yf,Xo,ZeX,hSs,hq,d0,qY,bW,eF,hg,Rc,hlf,er,Zv,Yy,Vp,decide_true,Zj,Zf,XM,ZQ,Zf,Zj,geS,Wj,Zz,ZA,ZJ,Zn,Zq,Wq,NT,ZI,Yw,ZG,Yl,Xm,XX,Nat.reducePow,Nat.reduceDiv,Nat.reduceMod,Yt,Vf]
      refine⟨_,_,_,rfl,?_⟩
      exact .inr ⟨by simp,k2,.inl ⟨rfl,rfl,by rw[hG];rfl⟩⟩
     |true=>
      rw[hr] at er hG
      rw[Xf] at hG
      simp(disch:=first|assumption|omega|(simp -implicitDefEqProofs only[Y3,Y4]<;>first|assumption|omega)|decide) only[t1,t4,t11,t12,t13,d1,eI,gb,eL,sf,g1,es,g01,lt0,Lb,Yf,Xo,ZeX,hSs,hq,d0,qY,bW,eF,hg,Rc,hlf,er,g2,lc,Zv,Yy,Vp,decide_true,Zj,Zf,XM,ZQ,Zf,Zj,geS,Wj,Zz,ZA,ZJ,Zn,Zq,Wq,NT,ZI,Yw,ZG,Yl,Xm,XX,Nat.reducePow,Nat.reduceDiv,Nat.reduceMod,Yt,Vf]
      generalize hL:XD (Ip _) fuel _ _ _=Lp
      obtain⟨oc,Nb,H3,rfl,_,k3,z⟩:=YG (P:=λT=>RCI H2 b0 pb ev L.length i cv e.chunks e.head e.chunks.length T H2) (Q:=RCQ H2 b0 pb ev L.length i e.chunks e.head)
       (λT hi=>YX (RCI H2 b0 pb ev L.length i cv e.chunks e.head) (RCQ H2 b0 pb ev L.length i e.chunks e.head) (λm tm H3 h=>ol E hcl hsh.sums (by rw[k2.ro];have:=g.ro;omega) (λG hG=>hC0.keep0 (k2.trans hG (by intro x hx hlt;rw[ZD.1 hx] at hlt;omega))) _ _ _ _ _ m tm H3 h) fuel e.chunks.length T H2 (by have:=E.big;omega) hi) hL
       (by exact⟨t1',tz,NG,G4,qp,rfl,rfl,⟨0,e.head,rfl,by omega,gp2,rfl⟩,Zw.refl _ _,by omega⟩)
      have k03:Zw H0 H3 []:=k2.trans k3 (by intro x hx hlt;rw[ZD.1 hx] at hlt;omega)
      rcases z with⟨rfl,t2,e8⟩|⟨rfl,t1,t4,t11,t12,t13,p',gp3,e8⟩
      ·simp only[Sk] at t2
       rw[e8] at hG
       refine⟨_,_,_,rfl,?_⟩
       exact .inr ⟨by simp,k03,.inl ⟨rfl,by simp only[Sk];exact t2,hG⟩⟩
      ·have t1'':=t1;have t4'':=t4;have t11'':=t11;have t12'':=t12
       simp only[Ov] at t1
       simp only[Tb] at t4
       simp only[Sy] at t11
       simp only[OW] at t12
       simp only[Km] at t13
       rw[e8] at hG
       have n3:=k3.nx
       simp(disch:=omega) only[t13,YU,ZI,Yw,Yt,Vf]
       refine⟨_,_,_,rfl,?_⟩
       exact .inl ⟨rfl,m,by omega,t1'',t4'',t11'',t12'',⟨i+1,p',rfl,by omega,gp3,by rw[if_neg (by omega),hnx];exact hG⟩,by rw[k3.get _ (by omega) (by simp;omega)];exact g02,k03,hb0,by omega,hp0,by omega,hbp⟩
   by_cases h0:i=0
   ·exact after (by rw[if_pos h0];rfl) (.inl (Zb (by omega)))
   ·obtain⟨b2,o2,r2,qY,hb2,nM,_,eE2⟩:=hS.at_ (i:=i - 1) (by omega)
    have bW:H1.t.get b2=some (.row r2):=by rw[k1.get _ hb2 (by simp)];exact nM
    have eF: ∀G,ld1 (some (.row r2)) o2 G=.val (.str (L.getD (i - 1) default).mem.path) G:=λG=>by
     have:=eE2 0 G (by decide)
     obtain⟨_,_,_,ec2,_⟩:=hE (i - 1) (by omega)
     rw[ec2,Zj] at this
     exact this
    have hi0:decide (0<i)=true:=Zd (by omega)
    cases hg:Wx (L.getD (i - 1) default).mem.path e.mem.path with
    |true=>
     simp(disch:=first|assumption|omega|(simp -implicitDefEqProofs only[Y3,Y4]<;>first|assumption|omega)|decide) only[t1,t11,t12,t13,d1,eI,gb,eL,sf,g1,es,g01,lt0,Lb,Yf,Xo,ZeX,hSs,hq,hi0,qY,bW,eF,hg,Zv,Yy,Vp,decide_true,Zj,Zj,geS,Wj,Zz,ZA,ZJ,Zn,NT,ZI,Yw,ZG,Yl,Xm,XX,Nat.reducePow,Nat.reduceDiv,Nat.reduceMod,Yt,Vf]
     refine⟨_,_,_,rfl,?_⟩
     exact .inr ⟨by simp,sU,.inl ⟨rfl,rfl,by rw[hG,if_neg h0,show vq (some (L.getD (i - 1) default).mem.path) e=false by show(!Wx _ _)=false;rw[hg];rfl];rfl⟩⟩
    |false=>exact after (by rw[if_neg h0];show(!Wx _ _)=true;rw[hg];rfl) (.inr ⟨hi0,b2,o2,r2,hb2,qY,bW,eF,hg⟩)
theorem MV.len{H:Heap}{ev:AV}{L:List V0}(h:MV H ev L)(G:Heap):Oy ev G=.val (nI .i64 L.length) G:=by
 obtain⟨Ls,h1,h2,_⟩:=h
 rw[h1.len G,h2]
theorem MV.cells{H:Heap}{ev:AV}{L:List V0}(h:MV H ev L):ev.cells=[ev]:=by
 obtain⟨Ls,h1,h2,_⟩:=h
 exact h1.cells
theorem qu{Zr:Lib}{fs:T CF}{fuel:Nat}(E:Env Zr fs fuel){n:Nat}{ev:AV}{L:List V0}{H:Heap}(hl:L.length<=90000)(hs: ∀i,i<L.length->Oi (L.getD i default))(g:PM H)(hN:MV H ev L):
  ∃H',ZU (LK Zr fs fuel 13) fs fuel (n+2) 11 [.agg [ev]] H=.ret (.bool (P0 L)) H'∧Zw H H' []:=by
 rw[Z4 (Z3 E.n11 (.inl (by decide)) _ _) E.f11]
 have ln:=hN.len
 obtain⟨H1,hH1⟩: ∃G,H.new (oM ev)=G:=⟨_,rfl⟩
 obtain⟨H2,hH2⟩: ∃G,H1.new (lJ (-1))=G:=⟨_,rfl⟩
 have k1:Zw H H1 []:=by rw[<-hH1];exact Zw.new _ _ _
 have k2:Zw H H2 []:=by rw[<-hH2];exact k1.then_new _
 have Lb:H1.nx=H.nx+1:=by rw[<-hH1];rfl
 have nx2:H2.nx=H.nx+1+1:=by rw[<-hH2,MM,Lb]
 have g1:H2.t.get H.nx=some (oM ev):=by rw[<-hH2,NU (by omega),<-hH1];exact Yi rfl _
 have gp:H2.t.get H1.nx=some (lJ (-1)):=by rw[<-hH2];exact Yi rfl _
 have hb1:H.new (rG 47 1 [ev] 0 false true true)=H1:=hH1
 have sf:=NF (v:=(.int .i64 (.negSucc 0))) (b:=H1.nx) (o:=0) (l:=[nI .i64 0]) (H:=H1.new (rG 2 1 [nI .i64 0] 0 false true true)) (fz:=0) rfl (Yo 0) (by show H1.ro<=_;rw[k1.ro];exact ZX g.ro k1.nx) (Zo 0) 2 1 false true
 have hset:([nI .i64 0]:List AV).set 0 (.int .i64 (.negSucc 0))=[(.int .i64 (.negSucc 0))]:=rfl
 have hp2:H1.new (rG 2 1 [(.int .i64 (.negSucc 0))] 0 false true true)=H2:=hH2
 rw[hset,Us rfl,hp2] at sf
 have lt0: ∀G,ld1 (some (oM ev)) 0 G=.val ev G:=λG=>by unfold oM;rw[Yf (Yo 0)];rfl
 simp(disch:=first|assumption|omega|(simp -implicitDefEqProofs only[Y3,Y4]<;>first|assumption|omega)|decide) only[XU,hb1,sf,g1,lt0,ln,Zj,Zj,c11,ZI,Yw,ZG,Yt]
 generalize hL:XD (NT _) fuel _ _ _=Lp
 obtain⟨oc,Nb,H3,rfl,_,k3,z⟩:=YG (P:=λT=>TMI H H.nx H1.nx ev L L.length T H2) (Q:=TMQ H H.nx ev L)
  (λT hi=>YX (TMI H H.nx H1.nx ev L) (TMQ H H.nx ev L) (λm tm H3 h=>Zb7 E (Zo 13) hl hs g hN _ _ _ _ rfl _ m tm H3 h) fuel L.length T H2 (by have:=E.big;omega) hi) hL
  (by exact⟨rfl,rfl,rfl,rfl,⟨0, -1,rfl,by omega,gp,by rw[if_pos rfl];rfl⟩,g1,k2,Zo _,by omega,by omega,by omega,by omega⟩)
 rcases z with⟨rfl,t2,e⟩|⟨rfl,t1,g3,e⟩
 ·simp only[Sk] at t2
  rw[show P0 L=false by unfold P0;rw[e];rfl]
  simp only[t2,ZI,ZG,Yt]
  refine⟨_,rfl,?_⟩
  exact k3
 ·simp only[Ov] at t1
  rw[show P0 L=decide (L.length<=4096) by unfold P0;rw[e];rfl]
  simp only[t1,g3,lt0,ln,Xh,Zj,Zj,ZI,Yw,ZG,Yt,Vf]
  refine⟨_,rfl,?_⟩
  exact k3
theorem Zgq{Zr:Lib}{fs:T CF}{fuel:Nat}(E:Env Zr fs fuel){k n:Nat}(hk:14<=k){ev:AV}{L:List V0}{H:Heap}(hl:L.length<=90000)(hs: ∀i,i<L.length->Oi (L.getD i default))(g:PM H)(hN:MV H ev L):
  ZU (LK Zr fs fuel k) fs fuel (n+1) 11 [.agg [ev]] H=.ret (.bool (P0 L)) H:=by
 obtain⟨H',e,g⟩:=qu E (n:=898) (H:=H) hl hs g hN
 exact YI (r:=13) rfl rfl e g (rfl) hk
def wI:List Sh:=.int .i64::.int .i64::.int .i64::List.replicate 32 (.int .u8)
def Zdl:List Sh:=[.str,.int .i64,.int .u32,.int .u32,.int .u32,.int .i64,.sl [.str,.str],.sl [.int .u8],.str]
def Cn:List Sh:=Zdl++[.int .i64,.int .i64,.sl wI]
theorem nk:wI.length=35:=by unfold wI;simp
theorem kC{G:Heap}{v:AV}(h:Told G (.sl [.str,.str]) v): ∃l:List NP,Cut G 2 v (N0 l)∧l.length<=maxLen:=by
 obtain⟨ls,h1,hm,h2⟩:=x9 h
 obtain⟨l,h3,_⟩:=KO (α:=NP) (f:=λp=>[.str p.1,.str p.2]) (p:=λ_=>True) λi hi=>by
  obtain⟨e1,e2⟩:=h2 i hi
  obtain⟨a,ha⟩:=G6 (e2 0 _ rfl)
  obtain⟨b,hb⟩:=G6 (e2 1 _ rfl)
  exact⟨(a,b),by rw[Zi6 e1,ha,hb],trivial⟩
 exact⟨l,by rw[h3] at h1;exact h1,by rw[h3] at hm;simpa [N0] using hm⟩
theorem qx{G:Heap}{v:AV}(h:Told G (.sl [.int .u8]) v): ∃l:List UInt8,Cut G 1 v (P8 l):=by
 obtain⟨ls,h1,_,h2⟩:=x9 h
 obtain⟨l,h3,_⟩:=KO (α:=UInt8) (f:=λx=>[XP x]) (p:=λ_=>True) λi hi=>by
  obtain⟨e1,e2⟩:=h2 i hi
  obtain⟨a,ha⟩:=oN (e2 0 _ rfl)
  refine⟨a,?_,trivial⟩
  match hq:ls.getD i [],e1 with
  |[x],_=>rw[hq] at ha;have ha:x=XP a:=ha;rw[ha]
 exact⟨l,by rw[h3] at h1;exact h1⟩
theorem wa{G:Heap}: ∀{l:List AV},(∀x∈l,Told G (.int .u8) x)-> ∃s:List UInt8,l=s.map XP
 |[],_=>⟨[],rfl⟩
 |a::l,h=>by
  obtain⟨x,hx⟩:=oN (h a (Zs ..))
  obtain⟨s,hs⟩:=wa λy hy=>h y (ZC _ hy)
  exact⟨x::s,by rw[Zy,<-hs,hx]⟩
def sM(z:Int):Prop:= -9223372036854775808<=z∧z<=9223372036854775807
structure kX(x:I3):Prop where
 sum:x.sum.length=32
 at_:sM x.at_
 size:sM x.size
 place:sM x.place
theorem kz{G:Heap}{v:AV}(h:Told G (.sl wI) v): ∃l:List I3,Cut G 35 v (MF l)∧ ∀x∈l,kX x:=by
 obtain⟨ls,h1,_,h2⟩:=x9 h
 rw[nk] at h1 h2
 obtain⟨l,h3,h4⟩:=KO (α:=I3) (f:=Ta) (p:=kX) λi hi=>by
  obtain⟨e1,e2⟩:=h2 i hi
  obtain⟨a,ha,ha2⟩:=N6 (e2 0 _ rfl)
  obtain⟨b,hb,hb2⟩:=N6 (e2 1 _ rfl)
  obtain⟨d,hd,hd2⟩:=N6 (e2 2 _ rfl)
  generalize ls.getD i []=l at*
  match l,e1 with
  |x::y::z::t,e1=>
   have ht:t.length=32:=by simpa using e1
   obtain⟨s,hs⟩:=wa (G:=G) (l:=t) λx hx=>by
    obtain⟨j,hj,rfl⟩:=S5 hx
    have hs:wI[j+3]? =some (.int .u8):=by
     show(List.replicate 32 (Sh.int .u8))[j]? =_
     rw[Vr,if_pos (by omega)]
    have:=e2 (j+3) _ hs
    rw[Ze] at this
    have e:(x::y::z::t)[j+3]? =some t[j]:=by
     show t[j]? =_
     rw[Zk hj]
    simp only[Ut,Zk hj,Qm] at this
    exact this
   have ha:x=.int .i64 a:=ha
   have hb:y=.int .i64 b:=hb
   have hd:z=.int .i64 d:=hd
   refine⟨⟨a,b,d,s⟩,by rw[ha,hb,hd,hs];rfl,⟨by rw[hs] at ht;simpa using ht,ha2,hb2,hd2⟩⟩
 exact⟨l,by rw[h3] at h1;exact h1,h4⟩
def ae(G:Heap)(cs:List AV)(m:Mem):Prop:= ∃av dv,cs=[.str m.path,.int .i64 m.kind,nI .u32 m.mode,nI .u32 m.uid,nI .u32 m.gid,.int .i64 m.time,av,dv,.str m.link]∧Cut G 2 av (N0 m.attrs)∧Cut G 1 dv (P8 m.data)
structure Zch(m:Mem):Prop where
 kind:sM m.kind
 time:sM m.time
 mode:m.mode<4294967296
 uid:m.uid<4294967296
 gid:m.gid<4294967296
 attrs:m.attrs.length<=maxLen
theorem bL{G:Heap}{cs:List AV}(hl:cs.length=9)(h: ∀(j:Nat) e,Zdl[j]? =some e->Told G e (cs.getD j .unk)): ∃m,ae G cs m∧Zch m:=by
 obtain⟨p,hp⟩:=G6 (h 0 _ rfl)
 obtain⟨kd,hk,hk2⟩:=N6 (h 1 _ rfl)
 obtain⟨mo,hm,hm2⟩:=B5 (h 2 _ rfl)
 obtain⟨u,hu,hu2⟩:=B5 (h 3 _ rfl)
 obtain⟨g,hg,hg2⟩:=B5 (h 4 _ rfl)
 obtain⟨ti,ht,ht2⟩:=N6 (h 5 _ rfl)
 obtain⟨at_,hA,hA2⟩:=kC (h 6 _ rfl)
 obtain⟨d,hD⟩:=qx (h 7 _ rfl)
 obtain⟨lk,hK⟩:=G6 (h 8 _ rfl)
 match cs,hl with
 |[c0,c1,c2,c3,c4,c5,c6,c7,c8],_=>
  have hp:c0=_:=hp
  have hk:c1=_:=hk
  have hm:c2=_:=hm
  have hu:c3=_:=hu
  have hg:c4=_:=hg
  have ht:c5=_:=ht
  have hK:c8=_:=hK
  exact⟨⟨p,kd,mo,u,g,ti,at_,d,lk⟩,⟨c6,c7,by rw[hp,hk,hm,hu,hg,ht,hK],hA,hD⟩,hk2,ht2,hm2,hu2,hg2,hA2⟩
def ZgZ(G:Heap)(cs:List AV)(e:V0):Prop:= ∃ms cv,cs=ms++[.int .i64 e.size,.int .i64 e.head,cv]∧ae G ms e.mem∧Cut G 35 cv (MF e.chunks)
structure yC(e:V0):Prop where
 mem:Zch e.mem
 size:sM e.size
 head:sM e.head
 chunks: ∀x∈e.chunks,kX x
theorem bK{G:Heap}{cs:List AV}(hl:cs.length=12)(h: ∀(j:Nat) e,Cn[j]? =some e->Told G e (cs.getD j .unk)): ∃e,ZgZ G cs e∧yC e:=by
 match cs,hl with
 |[c0,c1,c2,c3,c4,c5,c6,c7,c8,c9,c10,c11],_=>
  obtain⟨m,hm,hm2⟩:=bL (G:=G) (cs:=[c0,c1,c2,c3,c4,c5,c6,c7,c8]) rfl λj e he=>by
   have hj:j<9:=(WN.1 he).1
   have:=h j e (by unfold Cn;rw[Z1 hj];exact he)
   rcases j with _|_|_|_|_|_|_|_|_|j
   all_goals first|exact this|omega
  obtain⟨sz,hs,hs2⟩:=N6 (h 9 _ rfl)
  obtain⟨hd,hh,hh2⟩:=N6 (h 10 _ rfl)
  obtain⟨ck,hc,hc2⟩:=kz (h 11 _ rfl)
  have hs:c9=_:=hs
  have hh:c10=_:=hh
  exact⟨⟨m,sz,hd,ck⟩,⟨_,c11,by rw[hs,hh];rfl,hm,hc⟩,hm2,hs2,hh2,hc2⟩
end
end Go.AI
