/- Members as the law has them; the law: walked: proved without conditions but those that each names. -/
import Derived.Test.YtbdmnfoadmfjpaaGreatDoorPH
import Derived.Test.YtbdmnfoadmfjpaaGreatDoorP6
import Derived.Test.YtbdmnfoadmfjpaaGreatDoorPA
set_option maxRecDepth 1000000
set_option maxHeartbeats 0
set_option linter.unusedVariables false
set_option linter.unusedSimpArgs false
namespace Go.AI
open Go
noncomputable section
def tL:List Sh:=[.str,.int .i64,.int .u32,.int .u32,.int .u32,.int .i64,.sl [.str,.str],.sl [.int .u8],.str]
def Zkq(z:Int):Prop:= -9223372036854775808<=z∧z<=9223372036854775807
theorem fc{G:Heap}{v:AV}(h:Told G (.sl [.str,.str]) v): ∃l:List NP,Cut G 2 v (QG l)∧l.length<=maxLen:=by
 obtain⟨ls,h1,hm,h2⟩:=vZ h
 obtain⟨l,h3,_⟩:=E8 (α:=NP) (f:=λp=>[.str p.1,.str p.2]) (p:=λ_=>True) λi hi=>by
  obtain⟨e1,e2⟩:=h2 i hi
  obtain⟨a,ha⟩:=FR (e2 0 _ rfl)
  obtain⟨b,hb⟩:=FR (e2 1 _ rfl)
  exact⟨(a,b),by rw[ZkC e1,ha,hb],trivial⟩
 exact⟨l,by rw[h3] at h1;exact h1,by rw[h3] at hm;simpa [QG] using hm⟩
theorem oL{G:Heap}{v:AV}(h:Told G (.sl [.int .u8]) v): ∃l:List UInt8,Cut G 1 v (ND l):=by
 obtain⟨ls,h1,_,h2⟩:=vZ h
 obtain⟨l,h3,_⟩:=E8 (α:=UInt8) (f:=λx=>[X8 x]) (p:=λ_=>True) λi hi=>by
  obtain⟨e1,e2⟩:=h2 i hi
  obtain⟨a,ha⟩:=ZeN (e2 0 _ rfl)
  refine⟨a,?_,trivial⟩
  match hq:ls.getD i [],e1 with
  |[x],_=>rw[hq] at ha;have ha:x=X8 a:=ha;rw[ha]
 exact⟨l,by rw[h3] at h1;exact h1⟩
def kJ(G:Heap)(cs:List AV)(m:Mem):Prop:= ∃av dv,cs=[.str m.path,.int .i64 m.kind,nI .u32 m.mode,nI .u32 m.uid,nI .u32 m.gid,.int .i64 m.time,av,dv,.str m.link]∧Cut G 2 av (QG m.attrs)∧Cut G 1 dv (ND m.data)
structure zM(m:Mem):Prop where
 kind:Zkq m.kind
 time:Zkq m.time
 mode:m.mode<4294967296
 uid:m.uid<4294967296
 gid:m.gid<4294967296
 attrs:m.attrs.length<=maxLen
theorem ZbS{G:Heap}{cs:List AV}(hl:cs.length=9)(h: ∀(j:Nat) e,tL[j]? =some e->Told G e (cs.getD j .unk)): ∃m,kJ G cs m∧zM m:=by
 obtain⟨p,hp⟩:=FR (h 0 _ rfl)
 obtain⟨kd,hk,hk2⟩:=qc (h 1 _ rfl)
 obtain⟨mo,hm,hm2⟩:=A8 (h 2 _ rfl)
 obtain⟨u,hu,hu2⟩:=A8 (h 3 _ rfl)
 obtain⟨g,hg,hg2⟩:=A8 (h 4 _ rfl)
 obtain⟨ti,ht,ht2⟩:=qc (h 5 _ rfl)
 obtain⟨at_,hA,hA2⟩:=fc (h 6 _ rfl)
 obtain⟨d,hD⟩:=oL (h 7 _ rfl)
 obtain⟨lk,hK⟩:=FR (h 8 _ rfl)
 match cs,hl with
 |[c0,c1,c2,c3,c4,c5,c6,c7,c8],_=>
  have hp:c0=_:=hp
  have hk:c1=_:=hk
  have hm:c2=_:=hm
  have hu:c3=_:=hu
  have hg:c4=_:=hg
  have ht:c5=_:=ht
  have hK:c8=_:=hK
  exact⟨⟨p,kd,mo,u,g,ti,at_,d,lk⟩,⟨c6,c7,by rw[hp,hk,hm,hu,hg,ht,hK],hA,hD⟩,hk2,ht2,hm2,hu2,hg2,hA2⟩
def oS(G:Heap)(v:AV)(L:List Mem):Prop:= ∃Ls,Sz G 9 v Ls∧Ls.length=L.length∧ ∀i,i<L.length->kJ G (Ls.getD i []) (L.getD i default)
theorem qG{ls:List (List AV)}{P:List AV->Mem->Prop}(h: ∀i,i<ls.length-> ∃m,P (ls.getD i []) m): ∃L:List Mem,ls.length=L.length∧ ∀i,i<L.length->P (ls.getD i []) (L.getD i default):=by
 induction ls with
 |nil=>exact⟨[],rfl,λi hi=>by cases hi⟩
 |cons a ls ih=>
  obtain⟨m,hm⟩:=h 0 (S6 _)
  obtain⟨L,h1,h2⟩:=ih λi hi=>h (i+1) (Nat.succ_lt_succ hi)
  refine⟨m::L,by rw[Zl,Zl,h1],λi hi=>?_⟩
  cases i with
  |zero=>exact hm
  |succ i=>exact h2 i (Nat.lt_of_succ_lt_succ hi)
theorem fa{G:Heap}{v:AV}(h:Told G (.sl tL) v): ∃L:List Mem,oS G v L∧(∀i,i<L.length->zM (L.getD i default))∧L.length<=maxLen:=by
 obtain⟨ls,hc,hl,he⟩:=vZ h
 obtain⟨L,h1,h2⟩:=qG (P:=λcs m=>kJ G cs m∧zM m) λi hi=>ZbS (he i hi).1 (he i hi).2
 exact⟨L,⟨ls,hc.1,h1,λi hi=>(h2 i hi).1⟩,λi hi=>(h2 i hi).2,by rw[<-h1];exact hl⟩
def Zgk(q:NP):NP:=(q.1.take 40,q.2.take 40)
def Om(l:List NP):List NP:=(l.take 18).map Zgk
def ii(p:List UInt8)(kd:Int)(mo ui gi:Nat)(ti:Int)(dv:AV)(lk:List UInt8)(w:AV):Obj:=rG 36 1 [.str p,.int .i64 kd,nI .u32 mo,nI .u32 ui,nI .u32 gi,.int .i64 ti,w,dv,.str lk] 0 false true true
structure GAI(Hs:Heap)(q:Nat)(w0:AV)(p:List UInt8)(kd:Int)(mo ui gi:Nat)(ti:Int)(dv:AV)(lk:List UInt8)(ev av:AV)(len i:Nat)(l:List NP)(m:Nat)(tm:TM)(H:Heap):Prop where
 t5:Wa tm=.ptr q 0
 t3:VL tm=w0
 t9:Vc tm=ev
 t10:XF tm=nI .i64 len
 t11:XO tm=nI .i64 i
 t54:Nn tm=av
 t55:Me tm=nI .i64 l.length
 k: ∃k w,O1 tm=nI .i64 k∧k+m=l.length∧H.t.get q=some (ii p kd mo ui gi ti dv lk w)∧Py H w 46 2 (QG (Om (l.take k))) Hs.nx
 keep:ZE Hs H [q]
def GAQ(Hs:Heap)(q:Nat)(w0:AV)(p:List UInt8)(kd:Int)(mo ui gi:Nat)(ti:Int)(dv:AV)(lk:List UInt8)(ev:AV)(len i:Nat)(l:List NP)(o:Out)(tm:TM)(H:Heap):Prop:=o=.exit 2∧Wa tm=.ptr q 0∧VL tm=w0∧Vc tm=ev∧XF tm=nI .i64 len∧XO tm=nI .i64 i∧ZE Hs H [q]∧ ∃w,H.t.get q=some (ii p kd mo ui gi ti dv lk w)∧Py H w 46 2 (QG (Om l)) Hs.nx
theorem ug{l:List NP}{k:Nat}(hk:k<l.length)(h18:k<18):Om (l.take (k+1))=Om (l.take k)++[Zgk (l.getD k ([],[]))]:=by
 unfold Om
 rw[SG,SG,U9 (by omega),U9 (by omega),UA,Zn hk,Xe,Zf,Zn hk];rfl
theorem uh{l:List NP}{k:Nat}(h18:18<=k):Om (l.take (k+1))=Om (l.take k):=by
 unfold Om
 rw[SG,SG,Wh (by omega),Wh (by omega)]
theorem Ba(l:List NP):(Om l).length<=18:=by unfold Om;rw[Zt,Z4];omega
theorem ZcV{Hs:Heap}{q:Nat}{w0:AV}{p:List UInt8}{kd:Int}{mo ui gi:Nat}{ti:Int}{dv:AV}{lk:List UInt8}{ev av:AV}{len i:Nat}{l:List NP}(hl:l.length<9223372036854775808)(hro:Hs.ro<=q)(hq:q<Hs.nx)(hN: ∀H,ZE Hs H [q]->Sz H 2 av (QG l))(cx:Ctx)(X0:X)(m:Nat)(tm:TM)(H:Heap)(hI:GAI Hs q w0 p kd mo ui gi ti dv lk ev av len i l m tm H):
  ∃o tm' H',zU cx tm H X0=.ok o tm' H' X0∧((o=.normal∧ ∃k,k<m∧GAI Hs q w0 p kd mo ui gi ti dv lk ev av len i l k tm' H')∨(o≠.normal∧GAQ Hs q w0 p kd mo ui gi ti dv lk ev len i l o tm' H')):=by
 obtain⟨t5,t3,t9,t10,t11,t54,t55,⟨k,w,t56,hkm,gq,hw⟩,k0⟩:=hI
 have A1:=t5;have vW:=t3;have ql:=t9;have EV:=t10;have vV:=t11;have ZlB:=t54;have ZlC:=t55
 simp only[QD] at t5
 simp only[md] at t54
 simp only[mf] at t55
 simp only[mg] at t56
 have n0:=k0.nx
 have roH:H.ro<=q:=by rw[k0.ro];exact hro
 cases m with
 |zero=>
  have d1:decide (k<l.length)=false:=Ze (by omega)
  simp(maxSteps:=4000000) (disch:=first|assumption|omega|(simp -implicitDefEqProofs only[Xl,Xm]<;>first|assumption|omega)|decide) only[t55,t56,d1,Yx,Ye,ZM,ZK,Zy,ZJ,YN,Y7,YE,Xa,YR,Yy,ZP,Ya,Yb,YV,Nat.reduceSub,Nat.reduceAdd,Nat.reduceLeDiff,ZB,ZL,Nat.reduceEqDiff,decide_true,decide_false,Yq,Zd,Zb,X7,Wc,Y0,Yw,Yk,YQ,YP,Z6,Zx,Zr,Y8,ZY,Zb,Zd,Xg,ZD,ZR,Qp,ZN,Zu,ZC,Zw,ZI,Zs,Zv,Zl,ZO,XC,XJ,Xx,Xw,ZU,ZS,ZX,ZW,Zz,ZH,YC,YF,Zy,ZJ,ZK,ZM,Zb,Zd,Xx,Xw,Kw,Kr,XP,Mh,Ku,TJ,YE,zU,Yf,Xr,ZV,Yv,Z0,Z1,Yc,Nat.reducePow,Nat.reduceDiv,Nat.reduceMod,Nat.reduceEqDiff,reduceCtorEq,Xq,TB,K1]
  obtain rfl:k=l.length:=by omega
  rw[WO] at hw
  refine⟨_,_,_,rfl,?_⟩
  exact .inr ⟨by simp,rfl,A1,vW,ql,EV,vV,k0,w,gq,hw⟩
 |succ m=>
  have d1:decide (k<l.length)=true:=Zj (by omega)
  have hk:k<l.length:=by omega
  have hS:=hN H k0
  obtain⟨b,o,r,eI,hb,gb,eL,eE⟩:=hS.at_ (i:=k) (by rw[Sg];omega)
  rw[Ix hk] at eL
  have hal:=λh18=>ug hk h18
  generalize hp:l.getD k ([],[])=a at*
  obtain⟨H1,hH1⟩: ∃G,H.new (rG 46 1 [.str a.1,.str a.2] 0 false true true)=G:=⟨_,rfl⟩
  have k1:ZE H H1 []:=by rw[<-hH1];exact ZE.new _ _ _
  have qi:ZE Hs H1 [q]:=k0.trans k1 (by intro x hx;cases hx)
  have Jh:H1.nx=H.nx+1:=by rw[<-hH1];rfl
  have g1:H1.t.get H.nx=some (rG 46 1 [.str a.1,.str a.2] 0 false true true):=by rw[<-hH1];exact YB rfl _
  have gq1:H1.t.get q=some (ii p kd mo ui gi ti dv lk w):=by rw[k1.get _ (by omega) (by simp)];exact gq
  have gbz:(H.new (rG 46 1 [.str [],.str []] 0 false true true)).t.get b=some (.row r):=by rw[Ma (by omega)];exact gb
  have sf:=SB (n:=2) (b:=H.nx) (l:=[.str [],.str []]) (vs:=[.str a.1,.str a.2]) (H:=H.new (rG 46 1 [.str [],.str []] 0 false true true)) rfl rfl (by decide) (by show H.ro<=_;omega) 46 1 false true
  rw[Sy rfl,hH1] at sf
  have gz:=λ(G:Heap)=>YB (H:=H) rfl (rG 46 1 [.str [],.str []] 0 false true true)
  by_cases h18:k<18
  ·have d2:decide (k<18)=true:=Zj h18
   have hal:=hal h18
   have w1:Py H1 w 46 2 (QG (Om (l.take k))) Hs.nx:=by
    rcases hw with hw|⟨h1,b0,r0,h2,h3,h4⟩
    ·exact .inl hw
    ·exact .inr ⟨h1,b0,r0,h2,h3.moved (k1.get _ h3.low (by simp)) k1.ro k1.nx,h4⟩
   obtain⟨lw,sw,cw,bw⟩:=TN w1
   have lw0:=lw H1.nx (Zq _)
   have lw1:=lw (H1.nx+1) (Ws _)
   have lw2:=lw (H.nx+1) (by omega)
   obtain⟨w',H2,ea,w2,k2,hb2,n2⟩:=lG (bytes:=32) w1 (by decide) (by decide) (by rw[Sg];have:=Ba (l.take k);omega) (by rw[qi.ro];omega) (by omega) (x:=[.str (a.1.take 40),.str (a.2.take 40)]) rfl
   rw[Jh] at ea
   have lw3:=lw (H.nx+1+1) (by omega)
   have bs: ∀G,UL 46 2 1 [.str [],.str []] [(0,2,.agg [.str (a.1.take 40),.str (a.2.take 40)])] G=.val (.slice G.nx 0 1 none) (G.new (rG 46 2 [.str (a.1.take 40),.str (a.2.take 40)] 0 false true true)):=λ_=>rfl
   have b2: ∀G,Rz [.str [],.str []] [(0,1,.str (a.1.take 40)),(1,1,.str (a.2.take 40))] G=.val (.agg [.str (a.1.take 40),.str (a.2.take 40)]) G:=λ_=>rfl
   have gq2:H2.t.get q=some (ii p kd mo ui gi ti dv lk w):=by rw[k2.get _ (by omega) (λh=>by have:=(bw _ h).1;omega)];exact gq1
   have lq: ∀G,ld1 (some (ii p kd mo ui gi ti dv lk w)) 6 G=.val w G:=λG=>by unfold ii;rw[Vo (show 6<9 by decide)];rfl
   obtain⟨_,_,cw',bw'⟩:=TN w2
   have sq:oA 1 (some (ii p kd mo ui gi ti dv lk w)) q 6 w' H2=.val XE (H2.put q (ii p kd mo ui gi ti dv lk w')):=by
    unfold ii
    rw[KK cw' (show 6<9 by decide) (by rw[k2.ro,qi.ro];exact hro) (ZB _)];rfl
   have t3a:=CQ a.1 40
   have t3b:=CQ a.2 40
   simp(maxSteps:=4000000) (disch:=first|assumption|omega|(simp -implicitDefEqProofs only[Xl,Xm]<;>first|assumption|omega)|decide) only[t5,t54,t55,t56,d1,eI,gb,gbz,eL,gz,sf,hH1,g1,Vo,To,d2,gq1,gq2,lq,sq,lw0,lw1,lw2,lw3,sw,bs,b2,ea,t3a,t3b,Jh,Yx,Ye,ZM,ZK,Zy,ZJ,YN,Y7,YE,Xa,YR,Yy,ZP,Ya,Yb,YV,Nat.reduceSub,Nat.reduceAdd,Nat.reduceLeDiff,ZB,ZL,Nat.reduceEqDiff,decide_true,decide_false,Yq,Zd,Zb,X7,Wc,Y0,Yw,Yk,YQ,YP,Z6,Zx,Zr,Y8,ZY,Zb,Zd,Xg,ZD,ZR,Qp,ZN,Zu,ZC,Zw,ZI,Zs,Zv,Zl,ZO,XC,XJ,Xx,Xw,ZU,ZS,ZX,ZW,Zz,ZH,YC,YF,Zy,ZJ,ZK,ZM,Zb,Zd,Xx,Xw,Kw,Kr,XP,Mh,Ku,TJ,YE,zU,Yf,Xr,ZV,Yv,Z0,Z1,Yc,Nat.reducePow,Nat.reduceDiv,Nat.reduceMod,Nat.reduceEqDiff,reduceCtorEq,Xq,TB,K1]
   have kQ:ZE Hs (H2.put q (ii p kd mo ui gi ti dv lk w')) [q]:=(qi.trans k2 (λx hx hlt=>by have:=(bw _ hx).1;omega)).then_put (λ_=>by simp)
   refine⟨_,_,_,rfl,.inl ⟨rfl,m,by omega,A1,vW,ql,EV,vV,ZlB,ZlC,⟨k+1,w',rfl,by omega,XY ..,?_⟩,kQ⟩⟩
   rw[hal,xk]
   rcases w2 with hw2|⟨h1,b0,r0,h2,h3,h4⟩
   ·exact .inl hw2
   ·exact .inr ⟨h1,b0,r0,h2,h3.moved (Q7 (by omega) ..) rfl (Zq _),h4⟩
  ·have d2:decide (k<18)=false:=Ze h18
   simp(maxSteps:=4000000) (disch:=first|assumption|omega|(simp -implicitDefEqProofs only[Xl,Xm]<;>first|assumption|omega)|decide) only[t5,t54,t55,t56,d1,eI,gb,gbz,eL,gz,sf,hH1,g1,Vo,To,d2,Yx,Ye,ZM,ZK,Zy,ZJ,YN,Y7,YE,Xa,YR,Yy,ZP,Ya,Yb,YV,Nat.reduceSub,Nat.reduceAdd,Nat.reduceLeDiff,ZB,ZL,Nat.reduceEqDiff,decide_true,decide_false,Yq,Zd,Zb,X7,Wc,Y0,Yw,Yk,YQ,YP,Z6,Zx,Zr,Y8,ZY,Zb,Zd,Xg,ZD,ZR,Qp,ZN,Zu,ZC,Zw,ZI,Zs,Zv,Zl,ZO,XC,XJ,Xx,Xw,ZU,ZS,ZX,ZW,Zz,ZH,YC,YF,Zy,ZJ,ZK,ZM,Zb,Zd,Xx,Xw,Kw,Kr,XP,Mh,Ku,TJ,YE,zU,Yf,Xr,ZV,Yv,Z0,Z1,Yc,Nat.reducePow,Nat.reduceDiv,Nat.reduceMod,Nat.reduceEqDiff,reduceCtorEq,Xq,TB,K1]
   refine⟨_,_,_,rfl,.inl ⟨rfl,m,by omega,A1,vW,ql,EV,vV,ZlB,ZlC,⟨k+1,w,rfl,by omega,gq1,?_⟩,qi⟩⟩
   rw[uh (by omega)]
   rcases hw with hw|⟨h1,b0,r0,h2,h3,h4⟩
   ·exact .inl hw
   ·exact .inr ⟨h1,b0,r0,h2,h3.moved (k1.get _ h3.low (by simp)) k1.ro k1.nx,h4⟩
def jq(e:Mem):Mem:=⟨e.path.take 300,e.kind,e.mode,e.uid,e.gid,e.time,Om e.attrs,e.data.take 300,e.link.take 300⟩
def N7(L:List Mem):List Mem:=(L.take 8).map jq
theorem kJ.keep{H H':Heap}{cs:List AV}{m:Mem}(h:kJ H cs m)(k:ZE H H' []):kJ H' cs m:=by
 obtain⟨av,dv,e,h1,h2⟩:=h
 exact⟨av,dv,e,h1.keep k,h2.keep k⟩
def kL(H:Heap)(S:List Nat)(cs:List AV)(m:Mem):Prop:= ∃av dv,cs=[.str m.path,.int .i64 m.kind,nI .u32 m.mode,nI .u32 m.uid,nI .u32 m.gid,.int .i64 m.time,av,dv,.str m.link]∧Sz H 2 av (QG m.attrs)∧BV H dv m.data∧(∀b∈WK av,b∉S∧b<H.nx)∧ ∀b∈WK dv,b∉S∧b<H.nx
theorem kL.keep{H H':Heap}{S S' T:List Nat}{cs:List AV}{m:Mem}(h:kL H S cs m)(k:ZE H H' T)(hT: ∀b∈T,b∈S∨H.nx<=b)(hS: ∀b∈S',b∈S∨H.nx<=b):kL H' S' cs m:=by
 obtain⟨av,dv,e,h1,h2,h3,h4⟩:=h
 have ok: ∀{v:AV},(∀b∈WK v,b∉S∧b<H.nx)->(∀b∈WK v,b∉T)∧ ∀b∈WK v,b∉S'∧b<H'.nx:=λhv=>⟨λb hb hm=>by
  rcases hT b hm with h|h
  ·exact(hv b hb).1 h
  ·have:=(hv b hb).2;omega,λb hb=>⟨λhm=>by
  rcases hS b hm with h|h
  ·exact(hv b hb).1 h
  ·have:=(hv b hb).2;omega,ZZ (hv b hb).2 k.nx⟩⟩
 exact⟨av,dv,e,h1.move k (ok h3).1,h2.keep k (λb o n c hh hb=>(ok h4).1 b (by rw[hh];simp[WK]) hb),(ok h3).2,(ok h4).2⟩
structure FWI(Hs:Heap)(ev:AV)(L:List Mem)(m:Nat)(tm:TM)(H:Heap):Prop where
 k:ZE Hs H []
 t9:Vc tm=ev
 t10:XF tm=nI .i64 L.length
 i: ∃i w ls,XO tm=nI .i64 i∧i+m=L.length∧i<=8∧VL tm=w∧Py H w 36 9 ls Hs.nx∧ls.length=i∧ ∀j,j<i->kL H (WK w) (ls.getD j []) (jq (L.getD j default))
def FWQ(Hs:Heap)(L:List Mem)(o:Out)(tm:TM)(H:Heap):Prop:=o=.exit 0∧ZE Hs H []∧ ∃w ls,VL tm=w∧Py H w 36 9 ls Hs.nx∧ls.length=(N7 L).length∧ ∀j,j<(N7 L).length->kL H (WK w) (ls.getD j []) ((N7 L).getD j default)
theorem NU(L:List Mem):(N7 L).length=min 8 L.length:=by unfold N7;rw[Zt,Z4]
theorem BE{L:List Mem}{j:Nat}(h:j<min 8 L.length):(N7 L).getD j default=jq (L.getD j default):=by
 unfold N7
 rw[Zf,YO,XT (by omega),Zf,Zn (by omega)];rfl
theorem Znf{x:List AV}(hx:x.length=9)(G:Heap):UL 36 9 1 [.str [],nI .i64 0,nI .u32 0,nI .u32 0,nI .u32 0,nI .i64 0,.nils,.nils,.str []] [(0,9,.agg x)] G=.val (.slice G.nx 0 1 none) (G.new (rG 36 9 x 0 false true true)):=by
 rw[Hu (by decide) rfl,Ei hx (by decide) (by decide),NV]
 rw[Et _ _ _ (by rw[hx];decide),ZI,Zx,Vt (by rw[hx];decide),Zr]
 rfl
theorem ZcS{Zo:Lib}{fs:T CF}{fuel:Nat}(E:Env Zo fs fuel){k0 n:Nat}{ev:AV}{L:List Mem}{Hs:Heap}(hat: ∀i,i<L.length->(L.getD i default).attrs.length<9223372036854775808∧(L.getD i default).attrs.length<fuel)(hLl:L.length<=9223372036854775807)(hro:Hs.ro<=Hs.nx)(hE:oS Hs ev L)(y f q)(X0:X)(m:Nat)(tm:TM)(H:Heap)(hI:FWI Hs ev L m tm H):
  ∃o tm' H',Bo ⟨Z8 (LK Zo fs fuel k0) fs fuel (n+1),y,f,fuel,q⟩ tm H X0=.ok o tm' H' X0∧((o=.normal∧ ∃k,k<m∧FWI Hs ev L k tm' H')∨(o≠.normal∧FWQ Hs L o tm' H')):=by
 obtain⟨kk0,t9,t10,i,w,ls,t11,him,hi8,t3,hw,hll,hmem⟩:=hI
 have ql:=t9;have EV:=t10;have vV:=t11;have vW:=t3
 simp only[IK] at t9
 simp only[LD] at t10
 simp only[QO] at t11
 simp only[RK] at t3
 cases m with
 |zero=>
  have d1:decide (i<L.length)=false:=Ze (by omega)
  have hfl:(N7 L).length=i:=by rw[NU];omega
  simp(maxSteps:=4000000) (disch:=first|assumption|omega|(simp -implicitDefEqProofs only[Xl,Xm]<;>first|assumption|omega)|decide) only[t10,t11,d1,Yx,Ye,ZM,ZK,Zy,ZJ,YN,Y7,YE,Xa,YR,Yy,ZP,Ya,Yb,YV,Nat.reduceSub,Nat.reduceAdd,Nat.reduceLeDiff,ZB,ZL,Nat.reduceEqDiff,decide_true,decide_false,Yq,Zd,Zb,X7,Wc,Y0,Yw,Yk,YQ,YP,Z6,Zx,Zr,Y8,ZY,Zb,Zd,Xg,ZD,ZR,Qp,ZN,Zu,ZC,Zw,ZI,Zs,Zv,Zl,ZO,XC,XJ,Xx,Xw,ZU,ZS,ZX,ZW,Zz,ZH,YC,YF,Zy,ZJ,ZK,ZM,Zb,Zd,Xx,Xw,Kw,Kr,XP,Mh,Ku,TJ,YE,Bo,Yf,Xr,ZV,Yv,Z0,Z1,Yc,Nat.reducePow,Nat.reduceDiv,Nat.reduceMod,Nat.reduceEqDiff,reduceCtorEq,Xq,TB,K1]
  refine⟨_,_,_,rfl,?_⟩
  exact .inr ⟨by simp,rfl,kk0,w,ls,vW,hw,by rw[hfl];exact hll,λj hj=>by rw[BE (by rw[<-NU];exact hj)];exact hmem j (by omega)⟩
 |succ m=>
  have d1:decide (i<L.length)=true:=Zj (by omega)
  have hi:i<L.length:=by omega
  have ZgZ:H.ro<=H.nx:=by rw[kk0.ro];exact Yl hro kk0.nx
  have hx0:=kk0.nx
  obtain⟨Ls,hV,hVl,hVm⟩:=hE
  obtain⟨bb,o,r,eI,hb,gb,eL,eE⟩:=(hV.keep0 kk0).at_ (i:=i) (by omega)
  obtain⟨Zn8,Zn9⟩:=hat i hi
  have hEi:=(hVm i hi).keep kk0
  generalize he:L.getD i default=e at*
  obtain⟨av,dv,ecs,hA,hD⟩:=hEi
  rw[ecs] at eL
  obtain⟨H1,hH1⟩: ∃G,H.new (rG 36 1 [.str e.path,.int .i64 e.kind,nI .u32 e.mode,nI .u32 e.uid,nI .u32 e.gid,.int .i64 e.time,av,dv,.str e.link] 0 false true true)=G:=⟨_,rfl⟩
  have k1:ZE H H1 []:=by rw[<-hH1];exact ZE.new _ _ _
  have Jh:H1.nx=H.nx+1:=by rw[<-hH1];rfl
  have FX:H1.ro<=H1.nx:=by rw[k1.ro];omega
  have g5:H1.t.get H.nx=some (rG 36 1 [.str e.path,.int .i64 e.kind,nI .u32 e.mode,nI .u32 e.uid,nI .u32 e.gid,.int .i64 e.time,av,dv,.str e.link] 0 false true true):=by rw[<-hH1];exact YB rfl _
  have gbz:(H.new (rG 36 1 [.str [],nI .i64 0,nI .u32 0,nI .u32 0,nI .u32 0,nI .i64 0,.nils,.nils,.str []] 0 false true true)).t.get bb=some (.row r):=by rw[Ma (by omega)];exact gb
  have cvA:=hA.1.cells
  have cvD:=hD.1.cells
  have sf:=SB (n:=9) (b:=H.nx) (l:=[.str [],nI .i64 0,nI .u32 0,nI .u32 0,nI .u32 0,nI .i64 0,.nils,.nils,.str []]) (vs:=[.str e.path,.int .i64 e.kind,nI .u32 e.mode,nI .u32 e.uid,nI .u32 e.gid,.int .i64 e.time,av,dv,.str e.link]) (H:=H.new (rG 36 1 [.str [],nI .i64 0,nI .u32 0,nI .u32 0,nI .u32 0,nI .i64 0,.nils,.nils,.str []] 0 false true true)) rfl rfl (by decide) (by show H.ro<=_;exact ZgZ) 36 1 false true
  rw[Sy rfl,hH1] at sf
  have gz:=λ(G:Heap)=>YB (H:=H) rfl (rG 36 1 [.str [],nI .i64 0,nI .u32 0,nI .u32 0,nI .u32 0,nI .i64 0,.nils,.nils,.str []] 0 false true true)
  by_cases h8:i=8
  ·have d2:decide (i=8)=true:=Zj h8
   have hfl:(N7 L).length=i:=by rw[NU];omega
   have w1:Py H1 w 36 9 ls Hs.nx:=hw.below (λc _ hc=>k1.get c hc (by simp)) k1.ro k1.nx
   simp(maxSteps:=4000000) (disch:=first|assumption|omega|(simp -implicitDefEqProofs only[Xl,Xm]<;>first|assumption|omega)|decide) only[t3,t9,t10,t11,d1,d2,eI,gb,gbz,eL,gz,sf,hH1,g5,Yx,Ye,ZM,ZK,Zy,ZJ,YN,Y7,YE,Xa,YR,Yy,ZP,Ya,Yb,YV,Nat.reduceSub,Nat.reduceAdd,Nat.reduceLeDiff,ZB,ZL,Nat.reduceEqDiff,decide_true,decide_false,Yq,Zd,Zb,X7,Wc,Y0,Yw,Yk,YQ,YP,Z6,Zx,Zr,Y8,ZY,Zb,Zd,Xg,ZD,ZR,Qp,ZN,Zu,ZC,Zw,ZI,Zs,Zv,Zl,ZO,XC,XJ,Xx,Xw,ZU,ZS,ZX,ZW,Zz,ZH,YC,YF,Zy,ZJ,ZK,ZM,Zb,Zd,Xx,Xw,Kw,Kr,XP,Mh,Ku,TJ,YE,Bo,Yf,Xr,ZV,Yv,Z0,Z1,Yc,Nat.reducePow,Nat.reduceDiv,Nat.reduceMod,Nat.reduceEqDiff,reduceCtorEq,Xq,TB,K1]
   refine⟨_,_,_,rfl,?_⟩
   exact .inr ⟨by simp,rfl,kk0.trans' k1,w,ls,vW,w1,by rw[hfl];exact hll,λj hj=>by rw[BE (by rw[<-NU];exact hj)];exact(hmem j (by omega)).keep k1 (λb hb=>by cases hb) (λb hb=>.inl hb)⟩
  have d2:decide (i=8)=false:=Ze h8
  obtain⟨dv2,sd,hd2⟩:=hD.2 (min e.data.length 300) (by rw[SK];exact Nat.min_le_left _ _)
  rw[ji,ZbP] at hd2
  have sd1: ∀n m,Ss 1 dv none (some (nI .i64 (min e.data.length 300))) ⟨n,H1.t,m⟩=.val dv2 ⟨n,H1.t,m⟩:=λn m=>sd _ λc hc=>k1.get c hc (by simp)
  have ldd:=λG=>hD.1.len G
  rw[SK] at ldd
  have laa:=λG=>hA.1.len G
  rw[Sg] at laa
  have tk1:=CQ e.path 300
  have tk2:=CQ e.link 300
  have ZjY:Sz H1 1 dv2 (ND (e.data.take 300)):=hd2.keep0 k1
  obtain⟨wI,H2,e5,bv3,k2,jp⟩:=fM E (k:=k0) (n:=n) ZjY (by rw[Z4];omega)
  have n2:=k2.nx
  have g52:H2.t.get H.nx=some (rG 36 1 [.str e.path,.int .i64 e.kind,nI .u32 e.mode,nI .u32 e.uid,nI .u32 e.gid,.int .i64 e.time,av,dv,.str e.link] 0 false true true):=by rw[k2.get _ (by omega) (by simp)];exact g5
  have gj:H2.ro<=H.nx:=by rw[k2.ro,k1.ro];exact ZgZ
  have st0: ∀(l:List AV) (j:Nat) (v:AV),v.cells=[v]->j<l.length->oA 1 (some (rG 36 1 l 0 false true true)) H.nx j v H2=.val XE (H2.put H.nx (rG 36 1 (l.set j v) 0 false true true)):=λl j v hv hj=>by
   rw[KK hv hj (by omega) (ZB _)]
  have st1: ∀(l:List AV) (j:Nat) (v:AV),v.cells=[v]->j<l.length->oA 1 (some (rG 36 1 l 0 false true true)) H.nx j v (H2.put H.nx (rG 36 1 l 0 false true true))=.val XE (H2.put H.nx (rG 36 1 (l.set j v) 0 false true true)):=λl j v hv hj=>by
   rw[KK hv hj (by rw[p5];omega) (ZB _),lH]
  have gp: ∀ob,(H2.put H.nx ob).t.get H.nx=some ob:=λob=>XY ..
  have cv3:wI.cells=[wI]:=(Gt bv3 λb o n c h=>(jp b o n c h).2).cells
  have hS3:Sz H2 1 wI (ND (e.data.take 300)):=Gt bv3 λb o n c h=>(jp b o n c h).2
  have Znp:=hd2.cells
  have hdl:=(hD.1.keep0 k1).low (n:=H1.nx) (Zq _)
  have hd2l:=ZjY.low (n:=H1.nx) (Zq _)
  have hd3l:=hS3.low (n:=H2.nx) (Zq _)
  have hds:=hD.1.same
  have hd2s:=hd2.same
  have hd3s:=hS3.same
  have lp1:=λo=>ZN (n:=H1.nx) (b:=H.nx) (by omega) o
  have lp2:=λo=>ZN (n:=H2.nx) (b:=H.nx) (by omega) o
  obtain⟨H3,hH3⟩: ∃G,H2.put H.nx (rG 36 1 [.str (e.path.take 300),.int .i64 e.kind,nI .u32 e.mode,nI .u32 e.uid,nI .u32 e.gid,.int .i64 e.time,.nils,wI,.str (e.link.take 300)] 0 false true true)=G:=⟨_,rfl⟩
  have k23:ZE H2 H3 [H.nx]:=by rw[<-hH3];exact ZE.put λ_=>by simp
  have kH3:ZE H H3 []:=by rw[<-hH3];exact(k1.trans' k2).then_put λh=>by omega
  have n3:H3.nx=H2.nx:=by rw[<-hH3,Ll]
  have g53:H3.t.get H.nx=some (ii (e.path.take 300) e.kind e.mode e.uid e.gid e.time wI (e.link.take 300) .nils):=by rw[<-hH3];exact XY ..
  simp(maxSteps:=4000000) (disch:=first|assumption|omega|(simp -implicitDefEqProofs only[Xl,Xm]<;>first|assumption|omega)|decide) only[t3,t9,t10,t11,d1,d2,eI,gb,gbz,eL,gz,sf,hH1,g5,g52,Vo,To,sd1,ldd,laa,tk1,tk2,e5,st0,st1,gp,hH3,cvA,cvD,cv3,Znp,hdl,hd2l,hd3l,hds,hd2s,hd3s,lp1,lp2,Eg,Yx,Ye,ZM,ZK,Zy,ZJ,YN,Y7,YE,Xa,YR,Yy,ZP,Ya,Yb,YV,Nat.reduceSub,Nat.reduceAdd,Nat.reduceLeDiff,ZB,ZL,Nat.reduceEqDiff,decide_true,decide_false,Yq,Zd,Zb,X7,Wc,Y0,Yw,Yk,YQ,YP,Z6,Zx,Zr,Y8,ZY,Zb,Zd,Xg,ZD,ZR,Qp,ZN,Zu,ZC,Zw,ZI,Zs,Zv,Zl,ZO,XC,XJ,Xx,Xw,ZU,ZS,ZX,ZW,Zz,ZH,YC,YF,Zy,ZJ,ZK,ZM,Zb,Zd,Xx,Xw,Kw,Kr,XP,Mh,Ku,TJ,YE,Bo,Yf,Xr,ZV,Yv,Z0,Z1,Yc,Nat.reducePow,Nat.reduceDiv,Nat.reduceMod,Nat.reduceEqDiff,reduceCtorEq,Xq,TB,K1]
  generalize hL:WP (zU _) fuel _ _ _=Lp
  obtain⟨oc,KO,H4,rfl,_,rfl,s5,s3,s9,s10,s11,k4,w9,gq4,hw9⟩:=Wd (P:=λT=>GAI H3 H.nx w (e.path.take 300) e.kind e.mode e.uid e.gid e.time wI (e.link.take 300) ev av L.length i e.attrs e.attrs.length T H3) (Q:=GAQ H3 H.nx w (e.path.take 300) e.kind e.mode e.uid e.gid e.time wI (e.link.take 300) ev L.length i e.attrs)
   (λT hi=>Wo (GAI H3 H.nx w (e.path.take 300) e.kind e.mode e.uid e.gid e.time wI (e.link.take 300) ev av L.length i e.attrs) (GAQ H3 H.nx w (e.path.take 300) e.kind e.mode e.uid e.gid e.time wI (e.link.take 300) ev L.length i e.attrs) (λm tm H4 h=>ZcV Zn8 (by rw[kH3.ro];exact ZgZ) (by omega) (λG hG=>(hA.1.keep0 kH3).move hG (λb hb hm=>by have:=hA.1.lt b hb;rw[ZG.1 hm] at this;omega)) _ _ m tm H4 h) fuel e.attrs.length T H3 Zn9 hi) hL
   (by exact⟨rfl,vW,ql,EV,vV,rfl,rfl,⟨0,.nils,rfl,by omega,g53,.inl ⟨by unfold Om QG;simp,rfl⟩⟩,ZE.refl _ _⟩)
  have s9':=s9;have Zpg:=s10
  simp only[QD] at s5
  simp only[RK] at s3
  simp only[QO] at s11
  have n4:=k4.nx
  have lq9: ∀G,wZ 9 (some (ii (e.path.take 300) e.kind e.mode e.uid e.gid e.time wI (e.link.take 300) w9)) 0 G=.val (.agg [.str (e.path.take 300),.int .i64 e.kind,nI .u32 e.mode,nI .u32 e.uid,nI .u32 e.gid,.int .i64 e.time,w9,wI,.str (e.link.take 300)]) G:=λG=>by unfold ii;rw[To (show 0+9<=9 by decide)];rfl
  have kH4:ZE H H4 []:=kH3.trans k4 (by intro x hx hlt;rw[ZG.1 hx] at hlt;omega)
  have bs:=λ(G:Heap)=>Znf (x:=[.str (e.path.take 300),.int .i64 e.kind,nI .u32 e.mode,nI .u32 e.uid,nI .u32 e.gid,.int .i64 e.time,w9,wI,.str (e.link.take 300)]) rfl G
  have w4:Py H4 w 36 9 ls Hs.nx:=hw.below (λc _ hc=>kH4.get c hc (by simp)) kH4.ro kH4.nx
  have hbw:=(TN hw).2.2.2
  have Zoa:=(TN w4).2.2.2
  obtain⟨v',H5,ea,w5,k5,hb5,n5⟩:=lG (bytes:=112) w4 (by decide) (by decide) (by rw[hll];have:(i+1)*112<=9*112:=XX _ (by omega);omega) (by rw[kH4.ro];omega) (by omega) (x:=[.str (e.path.take 300),.int .i64 e.kind,nI .u32 e.mode,nI .u32 e.uid,nI .u32 e.gid,.int .i64 e.time,w9,wI,.str (e.link.take 300)]) rfl
  simp(maxSteps:=4000000) (disch:=first|assumption|omega|(simp -implicitDefEqProofs only[Xl,Xm]<;>first|assumption|omega)|decide) only[s5,s3,s11,gq4,lq9,bs,ea,ZX,ZW,Zz,ZH,Yx,Ye,ZM,ZK,Zy,ZJ,YN,Y7,YE,Xa,YR,Yy,ZP,Ya,Yb,YV,Nat.reduceSub,Nat.reduceAdd,Nat.reduceLeDiff,ZB,ZL,Nat.reduceEqDiff,decide_true,decide_false,Yq,Zd,Zb,X7,Wc,Y0,Yw,Yk,YQ,YP,Z6,Zx,Zr,Y8,ZY,Zb,Zd,Xg,ZD,ZR,Qp,ZN,Zu,ZC,Zw,ZI,Zs,Zv,Zl,ZO,XC,XJ,Xx,Xw,ZU,ZS,ZX,ZW,Zz,ZH,YC,YF,Zy,ZJ,ZK,ZM,Zb,Zd,Xx,Xw,Kw,Kr,XP,Mh,Ku,TJ,YE,Bo,Yf,Xr,ZV,Yv,Z0,Z1,Yc,Nat.reducePow,Nat.reduceDiv,Nat.reduceMod,Nat.reduceEqDiff,reduceCtorEq,Xq,TB,K1]
  have bd4:BV H4 wI (e.data.take 300):=(bv3.keep k23 (λb o n c h hm=>by
   have:=(jp b o n c h).1;rw[ZG.1 hm] at this;omega)).keep k4 (λb o n c h hm=>by
   have:=(jp b o n c h).1;rw[ZG.1 hm] at this;omega)
  have hdb: ∀b∈WK wI,H.nx<b∧b<H2.nx:=λb hb=>by
   cases wI with
   |slice b' o n c=>have:=jp b' o n c rfl;have hb:b=b':=ZG.1 hb;omega
   |_=>cases hb
  have hab:=(TN hw9).2.2.2
  have hS': ∀b∈WK v',b∈WK w∨H4.nx<=b:=λb hb=>.inr (hb5 b hb)
  have hme:kL H4 (WK w) [.str (e.path.take 300),.int .i64 e.kind,nI .u32 e.mode,nI .u32 e.uid,nI .u32 e.gid,.int .i64 e.time,w9,wI,.str (e.link.take 300)] (jq e):=⟨w9,wI,rfl,.inr (Sl.of_buf hw9),bd4,λb hb=>⟨λhm=>by have:=(hab b hb).1;have:=(hbw b hm).2;omega,(hab b hb).2⟩,λb hb=>⟨λhm=>by have:=(hdb b hb).1;have:=(hbw b hm).2;omega,by have:=(hdb b hb).2;omega⟩⟩
  refine⟨_,_,_,rfl,.inl ⟨rfl,m,by omega,(kk0.trans' kH4).trans k5 (λc hc hlt=>by have:=(Zoa c hc).1;omega),s9',Zpg,i+1,v',ls++[[.str (e.path.take 300),.int .i64 e.kind,nI .u32 e.mode,nI .u32 e.uid,nI .u32 e.gid,.int .i64 e.time,w9,wI,.str (e.link.take 300)]],rfl,by omega,by omega,rfl,w5,by rw[Zm,hll];rfl,λj hj=>?_⟩⟩
  by_cases hji:j<i
  ·rw[Zf,Yt (by omega),<-Zf]
   exact((hmem j hji).keep kH4 (λb hb=>by cases hb) (λb hb=>.inl hb)).keep k5 (λb hb=>.inl hb) hS'
  ·obtain rfl:j=i:=by omega
   rw[he,Zf,Yz (by omega),show j - ls.length=0 by omega]
   exact hme.keep k5 (λb hb=>.inl hb) hS'
theorem ZcO{Zo:Lib}{fs:T CF}{fuel:Nat}(E:Env Zo fs fuel){k0 n:Nat}{ev:AV}{L:List Mem}{H:Heap}(hat: ∀i,i<L.length->(L.getD i default).attrs.length<9223372036854775808∧(L.getD i default).attrs.length<fuel)(hLl:L.length<=9223372036854775807)(hLf:L.length<fuel)(hro:H.ro<=H.nx)(hE:oS H ev L):
  ∃w H',Z8 (LK Zo fs fuel k0) fs fuel (n+2) 4 [ev] H=.ret w H'∧ZE H H' []∧CV H' w (N7 L):=by
 rw[Z7 (Z2 E.n4 (.inr rfl) _ _) E.f4]
 have hf:=E.big
 have hE':=hE
 obtain⟨Ls,hV,hVl,hVm⟩:=hE'
 have ln: ∀G,lenV ev G=.val (nI .i64 L.length) G:=λG=>by rw[hV.len,hVl]
 simp(maxSteps:=4000000) (disch:=first|assumption|omega|(simp -implicitDefEqProofs only[Xl,Xm]<;>first|assumption|omega)|decide) only[ln,Yx,Ye,ZM,ZK,Zy,ZJ,YN,Y7,YE,Xa,YR,Yy,ZP,Ya,Yb,YV,Nat.reduceSub,Nat.reduceAdd,Nat.reduceLeDiff,ZB,ZL,Nat.reduceEqDiff,decide_true,decide_false,Yq,Zd,Zb,X7,Wc,Y0,Yw,Yk,YQ,YP,Z6,Zx,Zr,Y8,ZY,Zb,Zd,Xg,ZD,ZR,Qp,ZN,Zu,ZC,Zw,ZI,Zs,Zv,Zl,ZO,XC,XJ,Xx,Xw,ZU,ZS,ZX,ZW,Zz,ZH,YC,YF,Zy,ZJ,ZK,ZM,Zb,Zd,Xx,Xw,Kw,Kr,XP,Mh,Ku,TJ,YE,c4,Yf,Xr,ZV,Yv,Z0,Z1,Yc,Nat.reduceEqDiff,reduceCtorEq,Xq,K1]
 generalize hL:WP (Bo _) fuel _ _ _=Lp
 obtain⟨oc,KO,H1,rfl,_,rfl,k1,w,ls,t3,hw,hll,hm⟩:=Wd (P:=λT=>FWI H ev L L.length T H) (Q:=FWQ H L)
  (λT hi=>Wo (FWI H ev L) (FWQ H L) (λm tm H3 h=>ZcS E hat hLl hro hE _ _ _ _ m tm H3 h) fuel L.length T H hLf hi) hL
  (by exact⟨ZE.refl _ _,rfl,rfl,0,.nils,[],rfl,by omega,by omega,rfl,.inl ⟨rfl,rfl⟩,rfl,λj hj=>by cases hj⟩)
 simp only[RK] at t3
 simp(maxSteps:=4000000) (disch:=first|assumption|omega|(simp -implicitDefEqProofs only[Xl,Xm]<;>first|assumption|omega)|decide) only[t3,Yx,Ye,ZM,ZK,Zy,ZJ,YN,Y7,YE,Xa,YR,Yy,ZP,Ya,Yb,YV,Nat.reduceSub,Nat.reduceAdd,Nat.reduceLeDiff,ZB,ZL,Nat.reduceEqDiff,decide_true,decide_false,Yq,Zd,Zb,X7,Wc,Y0,Yw,Yk,YQ,YP,Z6,Zx,Zr,Y8,ZY,Zb,Zd,Xg,ZD,ZR,Qp,ZN,Zu,ZC,Zw,ZI,Zs,Zv,Zl,ZO,XC,XJ,Xx,Xw,ZU,ZS,ZX,ZW,Zz,ZH,YC,YF,Zy,ZJ,ZK,ZM,Zb,Zd,Xx,Xw,Kw,Kr,XP,Mh,Ku,TJ,YE,c4,Yf,Xr,ZV,Yv,Z0,Z1,Yc,Nat.reduceEqDiff,reduceCtorEq,Xq,K1]
 refine⟨_,_,rfl,k1,⟨ls,Sl.of_buf hw,hll,λi hi=>?_⟩,λG hG=>?_⟩
 ·obtain⟨av,dv,e,q1,q2,_,q3⟩:=hm i hi
  exact⟨av,dv,e,q1,q2,λb hb=>(q3 b hb).2⟩
 ·rcases hw with⟨h0,rfl⟩|⟨h0,b,r,rfl,hr,hlo⟩
  ·have:(N7 L).length=0:=by rw[<-hll,h0];rfl
   rw[this];rfl
  ·have g:=hG b hr.low
   rw[<-hll]
   have hp:0<ls.length:=by rcases ls with _|_;exact absurd rfl h0;exact S6 _
   have hcap:W4 r 0 none=ls.length:=by
    have hs:=hr.size
    show cond (Nat.beq r.sz 1) (r.size - 0) (Nat.div (r.size - 0) r.sz)=_
    rw[hr.szr,hs,PE]
    show ls.length*9/9=_
    exact RG _ (by decide)
   show Xv G b _=_
   unfold Xv
   rw[g,hr.at_]
   show Z3 (Nat.beq r.sz 9) (Z3 (Nat.ble ls.length (W4 r 0 none)) (Z3 (Nat.ble 0 ls.length) (Z3 (Nat.ble 0 (W4 r 0 none)) (cond (Nat.beq 0 (W4 r 0 none)) _ (OR.val (.slice b (0+0*9) (ls.length - 0) none) G)))))=_
   rw[hr.szr,hcap,Zg (Zq _),Zg (ZB _),show Nat.beq 0 ls.length=false by rw[Y1];exact Ze (by omega)];rfl
theorem az(a b:Nat)(H:Heap):zu true [nI .i64 a,nI .i64 b] H=.val (nI .i64 (max a b)) H:=by
 show Z3 (Oz .i64 .i64) (min2 true .i64 (cond (cond true (yT (.ofNat a) (.ofNat b)) (yT (.ofNat b) (.ofNat a))) (.ofNat b) (.ofNat a)) H [])=_
 rw[X4,M1,M1]
 show OR.val (.int .i64 (cond (decide (a<b)) (.ofNat b) (.ofNat a))) H=_
 by_cases h:a<b
 ·rw[Zj h,Nat.max_eq_right (by omega)];rfl
 ·rw[Ze h,Nat.max_eq_left (by omega)];rfl
theorem E3{Zo:Lib}{fs:T CF}{fuel:Nat}(E:Env Zo fs fuel){k n:Nat}{H:Heap}{a:Nat}(ha:a<256):Z8 (LK Zo fs fuel k) fs fuel (n+1) 5 [nI .u8 a] H=.ret (nI .i64 (16+a % 60)) H:=by
 rw[Z7 (Z2 E.n5 (.inr rfl) _ _) E.f5]
 have r: ∀G,vN (nI .u8 a) (nI .u8 60) G=.val (nI .u8 (a % 60)) G:=λG=>Zeu (by decide) G
 have i: ∀G,PS .i64 (nI .u8 (a % 60)) G=.val (nI .i64 (a % 60)) G:=λG=>Sb (by omega) G
 have ad: ∀G,RI (nI .i64 16) (nI .i64 (a % 60)) G=.val (nI .i64 (16+a % 60)) G:=λG=>Yy (by omega) G
 simp(maxSteps:=4000000) (disch:=first|assumption|omega|(simp -implicitDefEqProofs only[Xl,Xm]<;>first|assumption|omega)|decide) only[r,i,ad,Yx,Ye,ZM,ZK,Zy,ZJ,YN,Y7,YE,Xa,YR,Yy,ZP,Ya,Yb,YV,Nat.reduceSub,Nat.reduceAdd,Nat.reduceLeDiff,ZB,ZL,Nat.reduceEqDiff,decide_true,decide_false,Yq,Zd,Zb,X7,Wc,Y0,Yw,Yk,YQ,YP,Z6,Zx,Zr,Y8,ZY,Zb,Zd,Xg,ZD,ZR,Qp,ZN,Zu,ZC,Zw,ZI,Zs,Zv,Zl,ZO,XC,XJ,Xx,Xw,ZU,ZS,ZX,ZW,Zz,ZH,YC,YF,Zy,ZJ,ZK,ZM,Zb,Zd,ZD,ZR,ZN,YL,YA,YH,YZ,Yp,Yj,c5,Yf,Xr,ZV,Yv,Z0,Z1,Yc,Nat.reducePow,Nat.reduceDiv,Nat.reduceMod,Nat.reduceEqDiff,reduceCtorEq,Xq]
def S8(L:List Mem):Nat:=(L.filter λm=>decide (0<m.data.length)).length
theorem uB{L:List Mem}{i:Nat}(h:i<L.length):S8 (L.take (i+1))=S8 (L.take i)+(if 0<(L.getD i default).data.length then 1 else 0):=by
 unfold S8
 rw[UA,Zf,Zn h,List.filter_append,Zm]
 congr 1
 show(List.filter _ [L[i]]).length=_
 by_cases hd:0<L[i].data.length
 ·rw[List.filter_cons_of_pos (by simpa using hd)];simp[hd]
 ·rw[List.filter_cons_of_neg (by simpa using hd)];simp[hd]
structure LTm(v xw yw zw:AV)(mm:Nat)(tm:TM):Prop where
 t0:Y3 tm=v
 t7:WH tm=nI .i64 mm
 t9:Vc tm=xw
 t11:XO tm=yw
 t13:XR tm=zw
structure L0I(Hs:Heap)(v xw yw zw:AV)(mm:Nat)(L:List Mem)(m:Nat)(tm:TM)(H:Heap):Prop where
 k:ZE Hs H []
 ht:LTm v xw yw zw mm tm
 t61:No tm=v
 t62:Mg tm=nI .i64 L.length
 i: ∃i,O2 tm=nI .i64 i∧i+m=L.length∧Wk tm=nI .i64 (S8 (L.take i))
def L0Q(Hs:Heap)(v xw yw zw:AV)(mm:Nat)(L:List Mem)(o:Out)(tm:TM)(H:Heap):Prop:=o=.exit 0∧ZE Hs H []∧LTm v xw yw zw mm tm∧Wk tm=nI .i64 (S8 L)
theorem ZdM{Hs:Heap}{v xw yw zw:AV}{mm:Nat}{L:List Mem}(hro:Hs.ro<=Hs.nx)(hV:CV Hs v L)(hl:L.length<=100)(cx:Ctx)(X0:X)(m:Nat)(tm:TM)(H:Heap)(hI:L0I Hs v xw yw zw mm L m tm H):
  ∃o tm' H',zT cx tm H X0=.ok o tm' H' X0∧((o=.normal∧ ∃k,k<m∧L0I Hs v xw yw zw mm L k tm' H')∨(o≠.normal∧L0Q Hs v xw yw zw mm L o tm' H')):=by
 obtain⟨k0,⟨t0,t7,t9,t11,t13⟩,t61,t62,i,t63,him,t15⟩:=hI
 have ZlD:=t61;have ZlE:=t62;have EW:=t15
 simp only[mh] at t61
 simp only[mj] at t62
 simp only[mp] at t63
 simp only[GW] at t15
 cases m with
 |zero=>
  have d1:decide (i<L.length)=false:=Ze (by omega)
  simp(maxSteps:=4000000) (disch:=first|assumption|omega|(simp -implicitDefEqProofs only[Xl,Xm]<;>first|assumption|omega)|decide) only[t62,t63,d1,Yx,Ye,ZM,ZK,Zy,ZJ,YN,Y7,YE,Xa,YR,Yy,ZP,Ya,Yb,YV,Nat.reduceSub,Nat.reduceAdd,Nat.reduceLeDiff,ZB,ZL,Nat.reduceEqDiff,decide_true,decide_false,Yq,Zd,Zb,X7,Wc,Y0,Yw,Yk,YQ,YP,Z6,Zx,Zr,Y8,ZY,Zb,Zd,Xg,ZD,ZR,Qp,ZN,Zu,ZC,Zw,ZI,Zs,Zv,Zl,ZO,XC,XJ,Xx,Xw,ZU,ZS,ZX,ZW,Zz,ZH,YC,YF,Zy,ZJ,ZK,ZM,Zb,Zd,ZD,ZR,ZN,YL,YA,YH,YZ,Yp,Yj,zT,Yf,Xr,ZV,Yv,Z0,Z1,Yc,Nat.reduceEqDiff,reduceCtorEq,Xq,TB,K1]
  rw[YS (by omega)] at EW
  refine⟨_,_,_,rfl,?_⟩
  exact .inr ⟨by simp,rfl,k0,⟨t0,t7,t9,t11,t13⟩,EW⟩
 |succ m=>
  have d1:decide (i<L.length)=true:=Zj (by omega)
  have hi:i<L.length:=by omega
  obtain⟨⟨ls,hS,hll,hM⟩,_⟩:=hV.keep k0
  obtain⟨bb,o,r,eI,hb,gb,eL,eE⟩:=(show Sz H 9 v ls from .inr hS).at_ (i:=i) (by omega)
  have hB:=hM i hi
  have hpush:=uB hi
  have hfl:S8 (L.take i)<=100:=by
   unfold S8
   have:=List.length_filter_le (λm:Mem=>decide (0<m.data.length)) (L.take i)
   rw[Z4] at this
   omega
  generalize hm:L.getD i default=m' at*
  obtain⟨av,dv,ecs,hA,hD,hdb⟩:=hB
  rw[ecs] at eL
  have hroH:H.ro<=H.nx:=by rw[k0.ro];exact Yl hro k0.nx
  obtain⟨H1,hH1⟩: ∃G,H.new (rG 36 1 [.str m'.path,.int .i64 m'.kind,nI .u32 m'.mode,nI .u32 m'.uid,nI .u32 m'.gid,.int .i64 m'.time,av,dv,.str m'.link] 0 false true true)=G:=⟨_,rfl⟩
  have k1:ZE H H1 []:=by rw[<-hH1];exact ZE.new _ _ _
  have g1:H1.t.get H.nx=some (rG 36 1 [.str m'.path,.int .i64 m'.kind,nI .u32 m'.mode,nI .u32 m'.uid,nI .u32 m'.gid,.int .i64 m'.time,av,dv,.str m'.link] 0 false true true):=by rw[<-hH1];exact YB rfl _
  have cvA:=hA.cells
  have cvD:dv.cells=[dv]:=(Gt hD (NS hdb)).cells
  have sf9:=SB (n:=9) (b:=H.nx) (l:=[.str [],nI .i64 0,nI .u32 0,nI .u32 0,nI .u32 0,nI .i64 0,.nils,.nils,.str []]) (vs:=[.str m'.path,.int .i64 m'.kind,nI .u32 m'.mode,nI .u32 m'.uid,nI .u32 m'.gid,.int .i64 m'.time,av,dv,.str m'.link]) (H:=H.new (rG 36 1 [.str [],nI .i64 0,nI .u32 0,nI .u32 0,nI .u32 0,nI .i64 0,.nils,.nils,.str []] 0 false true true)) rfl rfl (by decide) hroH 36 1 false true
  rw[Sy rfl,hH1] at sf9
  have gz:=λ(G:Heap)=>YB (H:=H) rfl (rG 36 1 [.str [],nI .i64 0,nI .u32 0,nI .u32 0,nI .u32 0,nI .i64 0,.nils,.nils,.str []] 0 false true true)
  have l7: ∀G,ld1 (some (rG 36 1 [.str m'.path,.int .i64 m'.kind,nI .u32 m'.mode,nI .u32 m'.uid,nI .u32 m'.gid,.int .i64 m'.time,av,dv,.str m'.link] 0 false true true)) 7 G=.val dv G:=λG=>rfl
  have ld:=hD.len
  by_cases hd:0<m'.data.length
  ·have d2:decide (0<m'.data.length)=true:=Zj hd
   rw[if_pos hd] at hpush
   have ad: ∀G,RI (nI .i64 (S8 (L.take i))) (nI .i64 1) G=.val (nI .i64 (S8 (L.take i)+1)) G:=λG=>Yy (by omega) G
   simp(maxSteps:=4000000) (disch:=first|assumption|omega|(simp -implicitDefEqProofs only[Xl,Xm]<;>first|assumption|omega)|decide) only[t15,t61,t62,t63,d1,eI,gb,eL,gz,sf9,g1,l7,ld,d2,ad,Yx,Ye,ZM,ZK,Zy,ZJ,YN,Y7,YE,Xa,YR,Yy,ZP,Ya,Yb,YV,Nat.reduceSub,Nat.reduceAdd,Nat.reduceLeDiff,ZB,ZL,Nat.reduceEqDiff,decide_true,decide_false,Yq,Zd,Zb,X7,Wc,Y0,Yw,Yk,YQ,YP,Z6,Zx,Zr,Y8,ZY,Zb,Zd,Xg,ZD,ZR,Qp,ZN,Zu,ZC,Zw,ZI,Zs,Zv,Zl,ZO,XC,XJ,Xx,Xw,ZU,ZS,ZX,ZW,Zz,ZH,YC,YF,Zy,ZJ,ZK,ZM,Zb,Zd,ZD,ZR,ZN,YL,YA,YH,YZ,Yp,Yj,zT,Yf,Xr,ZV,Yv,Z0,Z1,Yc,Nat.reduceEqDiff,reduceCtorEq,Xq,TB,K1]
   refine⟨_,_,_,rfl,?_⟩
   exact .inl ⟨rfl,m,by omega,k0.trans' k1,⟨t0,t7,t9,t11,t13⟩,ZlD,ZlE,i+1,rfl,by omega,by rw[hpush];rfl⟩
  ·have d2:decide (0<m'.data.length)=false:=Ze hd
   rw[if_neg hd,Zd] at hpush
   simp(maxSteps:=4000000) (disch:=first|assumption|omega|(simp -implicitDefEqProofs only[Xl,Xm]<;>first|assumption|omega)|decide) only[t15,t61,t62,t63,d1,eI,gb,eL,gz,sf9,g1,l7,ld,d2,Yx,Ye,ZM,ZK,Zy,ZJ,YN,Y7,YE,Xa,YR,Yy,ZP,Ya,Yb,YV,Nat.reduceSub,Nat.reduceAdd,Nat.reduceLeDiff,ZB,ZL,Nat.reduceEqDiff,decide_true,decide_false,Yq,Zd,Zb,X7,Wc,Y0,Yw,Yk,YQ,YP,Z6,Zx,Zr,Y8,ZY,Zb,Zd,Xg,ZD,ZR,Qp,ZN,Zu,ZC,Zw,ZI,Zs,Zv,Zl,ZO,XC,XJ,Xx,Xw,ZU,ZS,ZX,ZW,Zz,ZH,YC,YF,Zy,ZJ,ZK,ZM,Zb,Zd,ZD,ZR,ZN,YL,YA,YH,YZ,Yp,Yj,zT,Yf,Xr,ZV,Yv,Z0,Z1,Yc,Nat.reduceEqDiff,reduceCtorEq,Xq,TB,K1]
   refine⟨_,_,_,rfl,?_⟩
   exact .inl ⟨rfl,m,by omega,k0.trans' k1,⟨t0,t7,t9,t11,t13⟩,ZlD,ZlE,i+1,rfl,by omega,by rw[hpush];exact EW⟩
def B7(ps:List VB)(i:Nat):Bool:=decide (i+1=ps.length)||(ps.getD (i+1) default).head
def v8(mm:Nat)(ps:List VB)(i:Nat):Prop:=if (ps.getD i default).head=true then(ps.getD i default).at_=0∧(ps.getD i default).size=0∧(ps.getD i default).raw.length % 512=0∧(ps.getD i default).sum=List.replicate 32 0
 else 1<=(ps.getD i default).size∧(ps.getD i default).size<=mm∧(B7 ps i=true∨(ps.getD i default).size=mm∧(ps.getD i default).raw.length=mm)
structure L1I(Hs:Heap)(v xw yw zw:AV)(mm fl:Nat)(ps:List VB)(m:Nat)(tm:TM)(H:Heap):Prop where
 k:ZE Hs H []
 ht:LTm v xw yw zw mm tm
 t15:Wk tm=nI .i64 fl
 t75:ME tm=xw
 t76:LC tm=nI .i64 ps.length
 i: ∃i,Lf tm=nI .i64 i∧i+m=ps.length
def L1Q(Hs:Heap)(v xw yw zw:AV)(mm fl:Nat)(o:Out)(tm:TM)(H:Heap):Prop:=o=.exit 2∧ZE Hs H []∧LTm v xw yw zw mm tm∧Wk tm=nI .i64 fl
theorem ZnQ(G:Heap):MU (dq Go.Proofs.Tryz.prog 10 38) true (.agg (List.replicate 32 (nI .u8 0))) (.agg [nI .u8 0,nI .u8 0,nI .u8 0,nI .u8 0,nI .u8 0,nI .u8 0,nI .u8 0,nI .u8 0,nI .u8 0,nI .u8 0,nI .u8 0,nI .u8 0,nI .u8 0,nI .u8 0,nI .u8 0,nI .u8 0,nI .u8 0,nI .u8 0,nI .u8 0,nI .u8 0,nI .u8 0,nI .u8 0,nI .u8 0,nI .u8 0,nI .u8 0,nI .u8 0,nI .u8 0,nI .u8 0,nI .u8 0,nI .u8 0,nI .u8 0,nI .u8 0]) G=.val (.bool false) G:=by kernel_rfl
structure ZfZ(v xw yw zw:AV)(mm fl n i p:Nat)(la hd:Bool)(tm:TM):Prop where
 ht:LTm v xw yw zw mm tm
 t15:Wk tm=nI .i64 fl
 t75:ME tm=xw
 t76:LC tm=nI .i64 n
 t77:Lf tm=nI .i64 i
 t19:WC tm=.ptr p 0
 t20:VU tm=.bool la
 t97:Lg tm=.bool hd
def Zf0(v xw yw zw:AV)(mm fl n i:Nat)(tm:TM):Prop:=LTm v xw yw zw mm tm∧Wk tm=nI .i64 fl∧ME tm=xw∧LC tm=nI .i64 n∧Lf tm=nI .i64 i∧BX tm=.bool false
theorem CZ{a:TM->Heap->X->WL}{H:Heap}{x:X}{S:WL}{P Q:TM->Prop}(lp: ∀T,P T-> ∃tm',a T H x=.ok .normal tm' H x∧Q tm'){T:TM}(hS:a T H x=S)(hi:P T):
  ∃tm',S=.ok .normal tm' H x∧Q tm':=by
 obtain⟨tm',e,q⟩:=lp T hi
 exact⟨tm',hS.symm.trans e,q⟩
theorem Zaq{a:Nat}(G:Heap):vN (nI .i64 a) (nI .i64 512) G=.val (nI .i64 (a % 512)) G:=by
 show Z3 (Oz .i64 .i64) (cond (FW (.ofNat 512) (.ofNat 0)) .fail (QB (.ofNat (Nat.mod a 512)) λn=>.val (.int .i64 n) G))=_
 rw[X4,ON,Ze (by decide),SM];rfl
theorem NK{rv:AV}{x:VB}(h32:x.sum.length=32)(G:Heap):(ld1 (some (rG 40 1 (Sv rv x) 0 false true true)) 1 G=.val (.bool x.head) G∧ld1 (some (rG 40 1 (Sv rv x) 0 false true true)) 2 G=.val (nI .i64 x.at_) G∧ld1 (some (rG 40 1 (Sv rv x) 0 false true true)) 3 G=.val (nI .i64 x.size) G∧ld1 (some (rG 40 1 (Sv rv x) 0 false true true)) 4 G=.val rv G)∧wZ 32 (some (rG 40 1 (Sv rv x) 0 false true true)) 5 G=.val (.agg (x.sum.map X8)) G:=by
 have pl:=N0 (rv:=rv) h32
 refine⟨⟨by rw[Vo (by rw[pl];decide)];rfl,by rw[Vo (by rw[pl];decide)];rfl,by rw[Vo (by rw[pl];decide)];rfl,by rw[Vo (by rw[pl];decide)];rfl⟩,?_⟩
 rw[To (by rw[pl];decide)]
 show OR.val (.agg ((x.sum.map X8).take 32)) G=_
 rw[YS (by rw[Zt,h32];decide)]
theorem ZaE{v xw yw zw rv:AV}{mm fl n i p:Nat}{la:Bool}{x:VB}{H:Heap}(h32:x.sum.length=32)(hp:H.t.get p=some (rG 40 1 (Sv rv x) 0 false true true))(lr: ∀G,lenV rv G=.val (nI .i64 x.raw.length) G)(hh:x.head=true)(q1:x.at_=0)(q2:x.size=0)(q3:x.raw.length % 512=0)(q4:x.sum=List.replicate 32 0)(cx:Ctx)(X0:X)(T:TM)(hi:ZfZ v xw yw zw mm fl n i p la x.head T):
  ∃tm',Gv cx T H X0=.ok .normal tm' H X0∧Zf0 v xw yw zw mm fl n i tm':=by
 obtain⟨ht,t15,t75,t76,t77,t19,t20,t97⟩:=hi
 have hT:=ht;have t7:=ht.t7
 have EW:=t15;have oG:=t75;have oH:=t76;have oI:=t77
 simp only[LG] at t7
 simp only[B0] at t19
 simp only[yM] at t20
 simp only[bj] at t97
 have l1:=λG=>(NK (rv:=rv) h32 G).1.1
 have l2:=λG=>(NK (rv:=rv) h32 G).1.2.1
 have l3:=λG=>(NK (rv:=rv) h32 G).1.2.2.1
 have l4:=λG=>(NK (rv:=rv) h32 G).1.2.2.2
 have l5:=λG=>(NK (rv:=rv) h32 G).2
 rw[hh] at t97 l1
 rw[q1] at l2
 rw[q2] at l3
 rw[q4] at l5
 have rm: ∀G,vN (nI .i64 x.raw.length) (nI .i64 512) G=.val (nI .i64 0) G:=λG=>by rw[Zaq,q3]
 have l5: ∀G,wZ 32 (some (rG 40 1 (Sv rv x) 0 false true true)) 5 G=.val (.agg (List.replicate 32 (nI .u8 0))) G:=λG=>by rw[l5 G,VM];rfl
 have z0: ∀G,MU UB true (nI .i64 0) (nI .i64 0) G=.val (.bool false) G:=λ_=>rfl
 simp only[t19,t97,hp,l2,l3,l4,lr,Vk,TK,ZH,l5,rm,z0,ZnQ,Zb,Zb,ZH,Zb,Gv,Yf,Xr,ZV,Xq,IH]
 simp only[t19,hp,l1,Vk,Yx,Zb,Zb,Zb,nk,Yf,Xr,Yv,Xq,IH,F0]
 simp only[Yx,np,Yf,Xr,IH,F0]
 simp only[Yx,nq,Yf,Xr,IH,F0]
 refine⟨_,rfl,?_⟩
 exact And.intro ⟨hT.t0,hT.t7,hT.t9,hT.t11,hT.t13⟩ ⟨EW,oG,oH,oI,rfl⟩
theorem gC{v xw yw zw rv:AV}{mm fl n i p:Nat}{la:Bool}{x:VB}{H:Heap}(h32:x.sum.length=32)(hp:H.t.get p=some (rG 40 1 (Sv rv x) 0 false true true))(lr: ∀G,lenV rv G=.val (nI .i64 x.raw.length) G)(hh:x.head=false)(q1:1<=x.size)(q2:x.size<=mm)(hq:la=true∨x.size=mm∧x.raw.length=mm)(cx:Ctx)(X0:X)(T:TM)(hi:ZfZ v xw yw zw mm fl n i p la x.head T):
  ∃tm',Gv cx T H X0=.ok .normal tm' H X0∧Zf0 v xw yw zw mm fl n i tm':=by
 obtain⟨ht,t15,t75,t76,t77,t19,t20,t97⟩:=hi
 have hT:=ht;have t7:=ht.t7
 have EW:=t15;have oG:=t75;have oH:=t76;have oI:=t77
 simp only[LG] at t7
 simp only[B0] at t19
 simp only[yM] at t20
 simp only[bj] at t97
 have l1:=λG=>(NK (rv:=rv) h32 G).1.1
 have l3:=λG=>(NK (rv:=rv) h32 G).1.2.2.1
 have l4:=λG=>(NK (rv:=rv) h32 G).1.2.2.2
 rw[hh] at t97 l1
 have e1:decide (mm<x.size)=false:=Ze (by omega)
 have e2:decide (x.size<1)=false:=Ze (by omega)
 cases la with
 |true=>
  simp only[t97,Yx,Gv,Yf,Xr,IH]
  simp only[t19,t7,hp,l1,l3,Vk,e1,e2,Zy,ZJ,Zb,Zb,Zy,ZJ,Zb,nk,Yf,Xr,Yv,Xq,IH,F0]
  simp only[t20,np,Yf,Xr,Yv,Xq,IH,F0]
  simp only[t20,nq,Yf,Xr,Yv,Xq,IH,F0]
  refine⟨_,rfl,?_⟩
  exact And.intro ⟨hT.t0,hT.t7,hT.t9,hT.t11,hT.t13⟩ ⟨EW,oG,oH,oI,rfl⟩
 |false=>
  obtain⟨q4,q5⟩:=hq.resolve_left (by simp)
  have e3:decide (x.size≠mm)=false:=Ze (λh=>h q4)
  have e4:decide (x.raw.length≠mm)=false:=Ze (λh=>h q5)
  simp only[t97,Yx,Gv,Yf,Xr,IH]
  simp only[t19,t7,hp,l1,l3,Vk,e1,e2,Zy,ZJ,Zb,Zb,Zy,ZJ,Zb,nk,Yf,Xr,Yv,Xq,IH,F0]
  simp only[t19,t20,t7,hp,l3,Vk,e3,Y7,Zb,Zb,Zb,np,Yf,Xr,Yv,Xq,IH,F0]
  simp only[t19,t20,t7,hp,l4,lr,Vk,e4,Y7,Zb,Zb,Zb,nq,Yf,Xr,Yv,Xq,IH,F0]
  refine⟨_,rfl,?_⟩
  exact And.intro ⟨hT.t0,hT.t7,hT.t9,hT.t11,hT.t13⟩ ⟨EW,oG,oH,oI,rfl⟩
theorem ZdK{Hs:Heap}{v xw yw zw:AV}{mm fl:Nat}{ps:List VB}{lo:Nat}(hro:Hs.ro<=Hs.nx)(hP:N4 Hs xw [] lo ps)(hl:ps.length<=60000)(hgood: ∀i,i<ps.length->v8 mm ps i)(cx:Ctx)(X0:X)(m:Nat)(tm:TM)(H:Heap)(hI:L1I Hs v xw yw zw mm fl ps m tm H):
  ∃o tm' H',E4 cx tm H X0=.ok o tm' H' X0∧((o=.normal∧ ∃k,k<m∧L1I Hs v xw yw zw mm fl ps k tm' H')∨(o≠.normal∧L1Q Hs v xw yw zw mm fl o tm' H')):=by
 obtain⟨k0,⟨t0,t7,t9,t11,t13⟩,t15,t75,t76,i,t77,him⟩:=hI
 have Cs:=t7;have ql:=t9;have oG:=t75;have oH:=t76;have oI:=t77
 simp only[LG] at t7
 simp only[IK] at t9
 simp only[bf] at t75
 simp only[bi] at t76
 simp only[yP] at t77
 cases m with
 |zero=>
  have d1:decide (i<ps.length)=false:=Ze (by omega)
  simp(maxSteps:=4000000) (disch:=first|assumption|omega|(simp -implicitDefEqProofs only[Xl,Xm]<;>first|assumption|omega)|decide) only[t76,t77,d1,Yx,Ye,ZM,ZK,Zy,ZJ,YN,Y7,YE,Xa,YR,Yy,ZP,Ya,Yb,YV,Nat.reduceSub,Nat.reduceAdd,Nat.reduceLeDiff,ZB,ZL,Nat.reduceEqDiff,decide_true,decide_false,Yq,Zd,Zb,X7,Wc,Y0,Yw,Yk,YQ,YP,Z6,Zx,Zr,Y8,ZY,Zb,Zd,Xg,ZD,ZR,Qp,ZN,Zu,ZC,Zw,ZI,Zs,Zv,Zl,ZO,XC,XJ,Xx,Xw,ZU,ZS,ZX,ZW,Zz,ZH,YC,YF,Zy,ZJ,ZK,ZM,Zb,Zd,ZD,ZR,ZN,YL,YA,YH,YZ,Yp,Yj,E4,Yf,Xr,ZV,Yv,Z0,Z1,Yc,Nat.reduceEqDiff,reduceCtorEq,Xq,K1,IH,F0]
  refine⟨_,_,_,rfl,?_⟩
  exact .inr ⟨by simp,rfl,k0,⟨t0,Cs,ql,t11,t13⟩,t15⟩
 |succ m=>
  have d1:decide (i<ps.length)=true:=Zj (by omega)
  have hi:i<ps.length:=by omega
  obtain⟨ls,r1,r2,r3⟩:=hP.keep k0
  have hS:=Sl.of_buf r1
  obtain⟨bb,o,r,eI,hb,gb,eL,_⟩:=(show Sz H 37 xw ls from .inr hS).at_ (i:=i) (by omega)
  obtain⟨rv,ecs,h32,bv,hbv⟩:=r3 i hi
  rw[ecs] at eL
  have hnext:i+1≠ps.length-> ∃b2 o2 q2,(∀(k:IntKind) (G:Heap),IZ 37 xw (nI k (i+1)) G=.val (.ptr b2 o2) G)∧b2<H.nx∧H.t.get b2=some (.row q2)∧ ∀G,ld1 (some (.row q2)) (o2+1) G=.val (.bool (ps.getD (i+1) default).head) G:=λhne=>by
   obtain⟨b2,o2,q2,eY,hb2,Gj,_,eE2⟩:=(show Sz H 37 xw ls from .inr hS).at_ (i:=i+1) (by omega)
   obtain⟨rv2,Zgq,_⟩:=r3 (i+1) (by omega)
   refine⟨b2,o2,q2,eY,hb2,Gj,λG=>?_⟩
   have:=eE2 1 G (by decide)
   rw[Zgq] at this
   exact this
  have hlast:B7 ps i=(decide (i+1=ps.length)||(ps.getD (i+1) default).head):=rfl
  have hg:=hgood i hi
  unfold v8 at hg
  have hroH:H.ro<=H.nx:=by rw[k0.ro];exact Yl hro k0.nx
  generalize hx:ps.getD i default=x at*
  obtain⟨H1,hH1⟩: ∃G,H.new (rG 40 1 (Sv rv x) 0 false true true)=G:=⟨_,rfl⟩
  have k1:ZE H H1 []:=by rw[<-hH1];exact ZE.new _ _ _
  have g1:H1.t.get H.nx=some (rG 40 1 (Sv rv x) 0 false true true):=by rw[<-hH1];exact YB rfl _
  have pl:=N0 (rv:=rv) h32
  have sf:=SB (n:=37) (b:=H.nx) (l:=z37) (vs:=Sv rv x) (H:=H.new (rG 40 1 z37 0 false true true)) IG pl (by decide) hroH 40 1 false true
  rw[Sy rfl,hH1] at sf
  have gz:=λ(G:Heap)=>YB (H:=H) rfl (rG 40 1 z37 0 false true true)
  have l1:=λG=>(NK (rv:=rv) h32 G).1.1
  have lr:=bv.len
  have lx: ∀G,lenV xw G=.val (nI .i64 ps.length) G:=λG=>by rw[r1.len,r2]
  have qi:=k0.trans' k1
  have ad: ∀G,RI (nI .i64 i) (nI .i64 1) G=.val (nI .i64 (i+1)) G:=λG=>Yy (by omega) G
  have sg: ∀T,ZfZ v xw yw zw mm fl ps.length i H.nx (B7 ps i) x.head T-> ∃tm',Gv cx T H1 X0=.ok .normal tm' H1 X0∧Zf0 v xw yw zw mm fl ps.length i tm':=λT hT=>by
   cases hh:x.head with
   |true=>
    rw[if_pos hh] at hg
    exact ZaE h32 g1 lr hh hg.1 hg.2.1 hg.2.2.1 hg.2.2.2 cx X0 T hT
   |false=>
    rw[if_neg (by rw[hh];simp)] at hg
    exact gC h32 g1 lr hh hg.1 hg.2.1 hg.2.2 cx X0 T hT
  by_cases he:i+1=ps.length
  ·have d2:decide (i+1=ps.length)=true:=Zj he
   rw[d2,Bool.true_or] at hlast
   simp(maxSteps:=4000000) (disch:=first|assumption|omega|(simp -implicitDefEqProofs only[Xl,Xm]<;>first|assumption|omega)|decide) only[t7,t9,t75,t76,t77,d1,eI,gb,eL,gz,sf,g1,l1,lx,ad,HT,d2,Yx,Ye,ZM,ZK,Zy,ZJ,YN,Y7,YE,Xa,YR,Yy,ZP,Ya,Yb,YV,Nat.reduceSub,Nat.reduceAdd,Nat.reduceLeDiff,ZB,ZL,Nat.reduceEqDiff,decide_true,decide_false,Yq,Zd,Zb,X7,Wc,Y0,Yw,Yk,YQ,YP,Z6,Zx,Zr,Y8,ZY,Zb,Zd,Xg,ZD,ZR,Qp,ZN,Zu,ZC,Zw,ZI,Zs,Zv,Zl,ZO,XC,XJ,Xx,Xw,ZU,ZS,ZX,ZW,Zz,ZH,YC,YF,Zy,ZJ,ZK,ZM,Zb,Zd,ZD,ZR,ZN,YL,YA,YH,YZ,Yp,Yj,E4,Yf,Xr,ZV,Yv,Z0,Z1,Yc,Nat.reduceEqDiff,reduceCtorEq,Xq,K1,IH,F0]
   generalize hS:Gv _ _ _ _=S
   obtain⟨T2,rfl,⟨u0,u7,u9,u11,u13⟩,u15,u75,u76,u77,ZbX⟩:=CZ sg hS (by exact⟨⟨t0,Cs,ql,t11,t13⟩,t15,oG,oH,oI,rfl,by rw[hlast];rfl,rfl⟩)
   have Zpv:=u77
   simp only[yP] at u77
   simp only[ct] at ZbX
   simp(maxSteps:=4000000) (disch:=first|assumption|omega|(simp -implicitDefEqProofs only[Xl,Xm]<;>first|assumption|omega)|decide) only[u77,ZbX,ad,Yx,Ye,ZM,ZK,Zy,ZJ,YN,Y7,YE,Xa,YR,Yy,ZP,Ya,Yb,YV,Nat.reduceSub,Nat.reduceAdd,Nat.reduceLeDiff,ZB,ZL,Nat.reduceEqDiff,decide_true,decide_false,Yq,Zd,Zb,X7,Wc,Y0,Yw,Yk,YQ,YP,Z6,Zx,Zr,Y8,ZY,Zb,Zd,Xg,ZD,ZR,Qp,ZN,Zu,ZC,Zw,ZI,Zs,Zv,Zl,ZO,XC,XJ,Xx,Xw,ZU,ZS,ZX,ZW,Zz,ZH,YC,YF,Zy,ZJ,ZK,ZM,Zb,Zd,ZD,ZR,ZN,YL,YA,YH,YZ,Yp,Yj,E4,Yf,Xr,ZV,Yv,Z0,Z1,Yc,Nat.reduceEqDiff,reduceCtorEq,Xq,K1,IH,F0]
   refine⟨_,_,_,rfl,?_⟩
   exact .inl ⟨rfl,m,by omega,qi,⟨u0,u7,u9,u11,u13⟩,u15,u75,u76,i+1,rfl,by omega⟩
  ·have d2:decide (i+1=ps.length)=false:=Ze he
   obtain⟨b2,o2,q2,eY,hb2,Gj,eE2⟩:=hnext he
   have ZcW:H1.t.get b2=some (.row q2):=by rw[k1.get _ hb2 (by simp)];exact Gj
   rw[d2,Bool.false_or] at hlast
   simp(maxSteps:=4000000) (disch:=first|assumption|omega|(simp -implicitDefEqProofs only[Xl,Xm]<;>first|assumption|omega)|decide) only[t7,t9,t75,t76,t77,d1,eI,gb,eL,gz,sf,g1,l1,lx,ad,HT,d2,eY,ZcW,eE2,Yx,Ye,ZM,ZK,Zy,ZJ,YN,Y7,YE,Xa,YR,Yy,ZP,Ya,Yb,YV,Nat.reduceSub,Nat.reduceAdd,Nat.reduceLeDiff,ZB,ZL,Nat.reduceEqDiff,decide_true,decide_false,Yq,Zd,Zb,X7,Wc,Y0,Yw,Yk,YQ,YP,Z6,Zx,Zr,Y8,ZY,Zb,Zd,Xg,ZD,ZR,Qp,ZN,Zu,ZC,Zw,ZI,Zs,Zv,Zl,ZO,XC,XJ,Xx,Xw,ZU,ZS,ZX,ZW,Zz,ZH,YC,YF,Zy,ZJ,ZK,ZM,Zb,Zd,ZD,ZR,ZN,YL,YA,YH,YZ,Yp,Yj,E4,Yf,Xr,ZV,Yv,Z0,Z1,Yc,Nat.reduceEqDiff,reduceCtorEq,Xq,K1,IH,F0]
   generalize hS:Gv _ _ _ _=S
   obtain⟨T2,rfl,⟨u0,u7,u9,u11,u13⟩,u15,u75,u76,u77,ZbX⟩:=CZ sg hS (by exact⟨⟨t0,Cs,ql,t11,t13⟩,t15,oG,oH,oI,rfl,by rw[hlast];rfl,rfl⟩)
   have Zpv:=u77
   simp only[yP] at u77
   simp only[ct] at ZbX
   simp(maxSteps:=4000000) (disch:=first|assumption|omega|(simp -implicitDefEqProofs only[Xl,Xm]<;>first|assumption|omega)|decide) only[u77,ZbX,ad,Yx,Ye,ZM,ZK,Zy,ZJ,YN,Y7,YE,Xa,YR,Yy,ZP,Ya,Yb,YV,Nat.reduceSub,Nat.reduceAdd,Nat.reduceLeDiff,ZB,ZL,Nat.reduceEqDiff,decide_true,decide_false,Yq,Zd,Zb,X7,Wc,Y0,Yw,Yk,YQ,YP,Z6,Zx,Zr,Y8,ZY,Zb,Zd,Xg,ZD,ZR,Qp,ZN,Zu,ZC,Zw,ZI,Zs,Zv,Zl,ZO,XC,XJ,Xx,Xw,ZU,ZS,ZX,ZW,Zz,ZH,YC,YF,Zy,ZJ,ZK,ZM,Zb,Zd,ZD,ZR,ZN,YL,YA,YH,YZ,Yp,Yj,E4,Yf,Xr,ZV,Yv,Z0,Z1,Yc,Nat.reduceEqDiff,reduceCtorEq,Xq,K1,IH,F0]
   refine⟨_,_,_,rfl,?_⟩
   exact .inl ⟨rfl,m,by omega,qi,⟨u0,u7,u9,u11,u13⟩,u15,u75,u76,i+1,rfl,by omega⟩
theorem UT{l w:List UInt8}{a n:Nat}(hl:l.length=512)(h:a+n<=512):(Sj l a n w).length=512:=by rw[s6 (by omega),hl]
theorem Bc(t:Nat):(F3 t).length=512:=by
 unfold F3
 exact UT (UT (UT Kb (by decide)) (by decide)) (by decide)
theorem xx{l:List UInt8}(h:l.length=512):(DQ l).length=512:=by unfold DQ;exact UT h (by decide)
theorem sD(r:Nat):(Zai r).length=512:=by
 unfold Zai
 exact xx (UT (UT (UT (UT (UT (UT (Bc _) (by decide)) (by decide)) (by decide)) (by decide)) (by decide)) (by decide))
theorem Ak{x:qm}{L:List UInt8}(hl:L.length=512)(h:x.at_+x.wid<=512):(zy x L).length=512:=by
 unfold zy
 split
 ·exact UT hl h
 ·exact UT hl h
theorem Im(m:Mem):(Ae m).length=512:=by
 unfold Ae mu ZdQ ZbN tR
 rw[U8,U8,U8,List.foldl_nil]
 exact xx (UT (UT (Ak (Ak (Ak (UT (UT (UT (Bc _) (by decide)) (by decide)) (by decide)) (show 108+8<=512 by decide)) (show 116+8<=512 by decide)) (show 136+12<=512 by decide)) (by decide)) (by decide))
theorem Zaf(n:Nat):(n+Ro n) % 512=0:=by unfold Ro;omega
theorem lD(n:Nat):Ro n<512:=Vu _ (by decide)
theorem jH(m:Mem):(MZ m).length % 512=0:=by
 unfold MZ
 split
 ·rw[Im]
 ·have h:=Zaf (MG (Rm m)).length
  rw[Zm,Zm,Zm,Yu,sD,Im]
  omega
theorem bz{m:Mem}(h:Hj m)(hm:O5 m.attrs=true):(MZ m).length<=2000000:=by
 obtain⟨r1,r2⟩:=lJ h hm
 unfold MZ
 split
 ·rw[Im];decide
 ·have h1:=AB (l:=Rm m) λx hx=>(r1 x hx).2
  have h2:=lD (MG (Rm m)).length
  have h3:(Rm m).length*10023<=105*10023:=XX _ r2
  rw[Zm,Zm,Zm,Yu,sD,Im]
  omega
def fQ(d:List UInt8):List UInt8:=if d.length=0 then [] else d++List.replicate (Ro d.length) 0
theorem xi(x:VB)(l:List VB):Ja (x::l)=x.raw++Ja l:=rfl
theorem Zan(l m:List VB):Ja (l++m)=Ja l++Ja m:=by unfold Ja;rw[Xe,Uf]
theorem zl{d:List UInt8}{a s:Nat}:(d.take (a+s)).drop a++d.drop (a+s)=d.drop a:=by
 rw[List.drop_take,WG,<-SE,List.take_append_drop]
theorem AD{sf:List UInt8->List UInt8}{en s:Nat}{d:List UInt8}(hs:1<=s): ∀(f at_:Nat),at_<d.length->d.length<=f+at_->Ja (WQ sf en s d f at_)=d.drop at_++List.replicate (Ro d.length) 0
 |0,at_,h,hf=>by omega
 |f+1,at_,h,hf=>by
  unfold WQ
  rw[if_pos h,xi]
  by_cases hc:d.length<=at_+s
  ·rw[OG hc]
   show((d.take (at_+s)).drop at_++List.replicate (if d.length<=at_+s then Ro d.length else 0) 0)++[]=_
   rw[if_pos hc,Zr,YS hc]
  ·rw[AD hs f (at_+s) (by omega) (by omega)]
   show((d.take (at_+s)).drop at_++List.replicate (if d.length<=at_+s then Ro d.length else 0) 0)++(d.drop (at_+s)++List.replicate (Ro d.length) 0)=_
   rw[if_neg hc,Td,Zr,<-XB,zl]
theorem sF{sf:List UInt8->List UInt8}{en s:Nat}{d:List UInt8}(hs:1<=s):Ja (WQ sf en s d d.length 0)=fQ d:=by
 unfold fQ
 by_cases h:d.length=0
 ·rw[if_pos h,OG (by omega)];rfl
 ·rw[if_neg h,AD hs d.length 0 (by omega) (by omega),ZC]
def ZiP:List Mem->List UInt8
 |[]=>[]
 |m::L=>MZ m++(fQ m.data++ZiP L)
theorem LR{sf:List UInt8->List UInt8}{s:Nat}(hs:1<=s): ∀(k:Nat) (L:List Mem),Ja (VY sf s k L)=ZiP L
 |_,[]=>rfl
 |k,m::L=>by
  show Ja (LH k m::(WQ sf k s m.data m.data.length 0++VY sf s (k+1) L))=_
  rw[xi,Zan,sF hs,LR hs (k+1) L];rfl
theorem DO{sf:List UInt8->List UInt8}{en s t:Nat}{d:List UInt8}(hst:s<=t): ∀(f a b:Nat),a<=b->(WQ sf en t d f b).length<=(WQ sf en s d f a).length
 |0,_,_,_=>Zq _
 |f+1,a,b,h=>by
  unfold WQ
  by_cases hb:b<d.length
  ·rw[if_pos hb,if_pos (by omega),Zl,Zl]
   exact Nat.succ_le_succ (DO hst f (a+s) (b+t) (by omega))
  ·rw[if_neg hb];exact ZB _
theorem AA{sf:List UInt8->List UInt8}{s t:Nat}(hst:s<=t): ∀(k:Nat) (L:List Mem),(VY sf t k L).length<=(VY sf s k L).length
 |_,[]=>Zq _
 |k,m::L=>by
  show(LH k m::(WQ sf k t m.data m.data.length 0++VY sf t (k+1) L)).length<=(LH k m::(WQ sf k s m.data m.data.length 0++VY sf s (k+1) L)).length
  rw[Zl,Zl,Zm,Zm]
  have h1:=DO (sf:=sf) (en:=k) (d:=m.data) hst m.data.length 0 0 (Zq _)
  have h2:=AA (sf:=sf) hst (k+1) L
  omega
theorem pW{sf:List UInt8->List UInt8}{en s:Nat}{d:List UInt8}(h:d.length<=s):(WQ sf en s d d.length 0).length=if 0<d.length then 1 else 0:=by
 by_cases h0:0<d.length
 ·obtain⟨f,hf⟩: ∃f,d.length=f+1:=⟨d.length - 1,by omega⟩
  rw[if_pos h0]
  have:WQ sf en s d (f+1) 0=Ky sf en s d 0::WQ sf en s d f (0+s):=by
   show(if 0<d.length then _ else _)=_
   rw[if_pos h0]
  rw[hf,this,OG (by omega)];rfl
 ·rw[if_neg h0,OG (by omega)];rfl
theorem xe{sf:List UInt8->List UInt8}{s:Nat}: ∀(k:Nat) (L:List Mem),(∀x∈L,x.data.length<=s)->(VY sf s k L).length=L.length+S8 L
 |_,[],_=>rfl
 |k,m::L,h=>by
  show(LH k m::(WQ sf k s m.data m.data.length 0++VY sf s (k+1) L)).length=_
  rw[Zl,Zm,pW (h m (.head _)),xe (k+1) L λx hx=>h x (.tail _ hx),Zl]
  unfold S8
  rw[Ux]
  by_cases h0:0<m.data.length
  ·rw[if_pos h0,if_pos (Zj h0),Zl];omega
  ·rw[if_neg h0,if_neg (by rw[Ze h0];simp)];omega
theorem xf{sf:List UInt8->List UInt8}{s n:Nat}: ∀(k:Nat) (L:List Mem),(∀x∈L,x.data.length<=n)->(VY sf s k L).length<=L.length*(n+1)
 |_,[],_=>ZB _
 |k,m::L,h=>by
  show(LH k m::(WQ sf k s m.data m.data.length 0++VY sf s (k+1) L)).length<=(L.length+1)*(n+1)
  have h1:=JT sf k s m.data m.data.length 0
  have h2:=xf (sf:=sf) (s:=s) (k+1) L λx hx=>h x (.tail _ hx)
  have h3:=h m (.head _)
  rw[Zl,Zm,Nat.succ_mul];omega
def nxt:List VB->Bool
 |[]=>true
 |y::_=>y.head
def dM(s:Nat)(x:VB)(la:Bool):Prop:=if x.head=true then x.at_=0∧x.size=0∧x.raw.length % 512=0∧x.sum=List.replicate 32 0
 else 1<=x.size∧x.size<=s∧(la=true∨x.size=s∧x.raw.length=s)
def CU(s:Nat):List VB->Prop
 |[]=>True
 |x::l=>dM s x (nxt l)∧CU s l
theorem CU.at_{s:Nat}: ∀{ps:List VB},CU s ps-> ∀i,i<ps.length->v8 s ps i
 |[],_,i,hi=>by cases hi
 |x::l,h,0,_=>by
  have hl:B7 (x::l) 0=nxt l:=by
   cases l with
   |nil=>rfl
   |cons y l=>rfl
  unfold v8
  rw[hl]
  exact h.1
 |x::l,h,i+1,hi=>by
  have:=CU.at_ h.2 i (by simpa using hi)
  have hl:B7 (x::l) (i+1)=B7 l i:=by
   unfold B7
   rw[Zl,Zv]
   congr 1
   exact decide_eq_decide.2 (by omega)
  unfold v8 at this ⊢
  rw[hl,Zv]
  exact this
theorem DN{sf:List UInt8->List UInt8}{en s:Nat}{d:List UInt8}{T:List VB}(hs:1<=s)(hn:nxt T=true)(hT:CU s T): ∀(f at_:Nat),d.length<=f+at_->CU s (WQ sf en s d f at_++T)
 |0,_,_=>hT
 |f+1,at_,hf=>by
  unfold WQ
  by_cases h:at_<d.length
  ·rw[if_pos h]
   have ih:=DN hs hn hT f (at_+s) (sf:=sf) (en:=en) (d:=d) (by omega)
   have hsz:(Ky sf en s d at_).size=min (at_+s) d.length - at_:=by
    show((d.take (at_+s)).drop at_).length=_
    rw[YW,Z4]
   refine⟨?_,ih⟩
   unfold dM
   rw[if_neg (by show ¬false=true;decide),hsz]
   refine⟨by omega,by omega,?_⟩
   by_cases hc:d.length<=at_+s
   ·rw[OG hc];exact .inl hn
   ·refine .inr ⟨by omega,?_⟩
    show((d.take (at_+s)).drop at_++List.replicate (if d.length<=at_+s then Ro d.length else 0) 0).length=_
    rw[if_neg hc,Td,Zr,YW,Z4];omega
  ·rw[if_neg h];exact hT
theorem iW(sf:List UInt8->List UInt8)(s k:Nat)(L:List Mem):nxt (VY sf s k L)=true:=by
 cases L with
 |nil=>rfl
 |cons m L=>rfl
theorem Az{sf:List UInt8->List UInt8}{s:Nat}(hs:1<=s): ∀(k:Nat) (L:List Mem),CU s (VY sf s k L)
 |_,[]=>trivial
 |k,m::L=>⟨by
   unfold dM
   rw[if_pos (show(LH k m).head=true from rfl)]
   exact⟨rfl,rfl,jH m,rfl⟩,DN hs (iW ..) (Az hs (k+1) L) _ _ (by omega)⟩
theorem xh{sf:List UInt8->List UInt8}{en s:Nat}{d:List UInt8}{n:Nat}(hd:d.length<=n): ∀(f at_:Nat),∀x∈WQ sf en s d f at_,x.raw.length<=n+512
 |0,_,_,hx=>by cases hx
 |f+1,at_,x,hx=>by
  unfold WQ at hx
  split at hx
  ·rcases Yi.1 hx with rfl|hx
   ·show((d.take (at_+s)).drop at_++List.replicate (if d.length<=at_+s then Ro d.length else 0) 0).length<=_
    have:=lD d.length
    rw[Zm,YW,Z4,Yu]
    split<;>omega
   ·exact xh hd f (at_+s) x hx
  ·cases hx
theorem sA{sf:List UInt8->List UInt8}{s:Nat}: ∀(k:Nat) (L:List Mem),(∀x∈L,Hj x∧O5 x.attrs=true∧x.data.length<=1200)-> ∀x∈VY sf s k L,x.raw.length<=2000000
 |_,[],_,_,hx=>by cases hx
 |k,m::L,h,x,hx=>by
  have hx:x∈LH k m::(WQ sf k s m.data m.data.length 0++VY sf s (k+1) L):=hx
  obtain⟨h1,h2,h3⟩:=h m (.head _)
  rcases Yi.1 hx with rfl|hx
  ·exact bz h1 h2
  ·rcases ZA.1 hx with hx|hx
   ·have:=xh h3 _ _ x hx
    omega
   ·exact sA (k+1) L (λy hy=>h y (.tail _ hy)) x hx
theorem nF{H:Heap}{v:AV}{l:List UInt8}{lo:Nat}(h:GB H v l lo):Sz H 1 v (ND l):=Gt h.bv λb o n c e=>by
 rcases h with⟨rfl,_⟩|⟨b',sm,rfl,_,h2,_⟩
 ·cases e
 ·cases e;exact h2
theorem ZcN{m:Mem}(h:zM m):Hj (jq m)∧(jq m).data.length<=300:=by
 refine⟨⟨?_,?_,?_,h.mode,h.uid,h.gid,h.time.1,h.time.2,?_⟩,?_⟩
 ·show(m.path.take 300).length<=_;rw[Z4];omega
 ·show(m.link.take 300).length<=_;rw[Z4];omega
 ·intro x hx
  have hx:x∈(m.attrs.take 18).map Zgk:=hx
  obtain⟨q,_,rfl⟩:=Xu.1 hx
  show(q.1.take 40).length+(q.2.take 40).length<=_
  rw[Z4,Z4];omega
 ·exact Yl (Ba _) (by decide)
 ·show(m.data.take 300).length<=_;rw[Z4];omega
theorem dA{L:List Mem}(h: ∀i,i<L.length->zM (L.getD i default)): ∀x∈N7 L,Hj x∧x.data.length<=300:=λx hx=>by
 obtain⟨i,hi,rfl⟩:=Sx.1 hx
 have hl:=NU L
 have e:(N7 L).getD i default=(N7 L)[i]:=by rw[Zf,Zn hi];rfl
 rw[<-e,BE (by omega)]
 exact ZcN (h i (by omega))
theorem ZdP{L:List Mem}(h:Ez L=true): ∀x∈L,O5 x.attrs=true:=λx hx=>by
 unfold Ez at h
 rw[Y6] at h
 obtain⟨i,hi,rfl⟩:=Sx.1 hx
 have:=h i (VD.2 hi)
 unfold yn Ey UF at this
 rw[Zf,Zn hi] at this
 simp only[SJ,Xn] at this
 exact this.1.2.1.1.1.2
theorem N4.lenV{H:Heap}{v:AV}{S:List Nat}{lo:Nat}{ps:List VB}(h:N4 H v S lo ps)(G:Heap):lenV v G=.val (nI .i64 ps.length) G:=by
 obtain⟨ls,r1,r2,_⟩:=h
 rw[r1.len,r2]
theorem ZdA{Zo:Lib}{fs:T CF}{fuel:Nat}(E:Env Zo fs fuel){n:Nat}{sf:List UInt8->List UInt8}(qY: ∀l,(sf l).length=32){H:Heap}{ev:AV}{L:List Mem}{a b:Nat}(gH:Su H)(hE:oS H ev L)(hok: ∀i,i<L.length->zM (L.getD i default))(hat: ∀i,i<L.length->(L.getD i default).attrs.length<9223372036854775808∧(L.getD i default).attrs.length<fuel)(hLl:L.length<=9223372036854775807)(hLf:L.length<fuel)(ha:a<256)(hb:b<256)(hsum:zh Zo sf H)
  (hwk: ∀G,Kept H G->Zo 7 [] G=some (.ret (.bool true) G)):
  ∃H',Z8 (LK Zo fs fuel 15) fs fuel (n+12) 3 [ev,nI .u8 a,nI .u8 b] H=.ret (.bool true) H':=by
 rw[Z7 (Z2 E.n3 (.inr rfl) _ _) E.f3]
 have hf:=E.big
 have GY:=gH.p.nx;have hro:=gH.p.ro
 obtain⟨w,H1,e1,k1,hM⟩:=ZcO E (k0:=15) (n:=n+9) hat hLl hLf hro hE
 obtain⟨V,hV⟩: ∃V,N7 L=V:=⟨_,rfl⟩
 have bm:=dA hok
 have hV8:=NU L
 rw[hV] at hM bm hV8
 have hV8:V.length<=8:=by omega
 have hVk: ∀x∈V,Hj x∧x.data.length<=1200:=λx hx=>⟨(bm x hx).1,by have:=(bm x hx).2;omega⟩
 have ba:=λ{j} (G:Heap)=>E3 E (k:=15) (n:=j) (H:=G) ha
 have bb:=λ{j} (G:Heap)=>E3 E (k:=15) (n:=j) (H:=G) hb
 obtain⟨s,hs⟩: ∃s,min (16+a % 60) (16+b % 60)=s:=⟨_,rfl⟩
 obtain⟨t,ht⟩: ∃t,max (16+a % 60) (16+b % 60)=t:=⟨_,rfl⟩
 have mi: ∀G,zu false [nI .i64 (16+a % 60),nI .i64 (16+b % 60)] G=.val (nI .i64 s) G:=λG=>by rw[TJ,hs]
 have ma: ∀G,zu true [nI .i64 (16+a % 60),nI .i64 (16+b % 60)] G=.val (nI .i64 t) G:=λG=>by rw[az,ht]
 have hst:s<=t:=by omega
 have hs1:16<=s:=by omega
 have ht2:t<=100:=by omega
 have kp: ∀{G:Heap},ZE H G []->Kept H G:=λk=>k.kept GY λx hx=>by cases hx
 obtain⟨xw,H2,e2,hX,k12⟩:=FY E (k:=15) (n:=n+2) (by decide) qY (s:=s) (gH.keep0 k1) hM (by omega) hVk hs1 (by omega) (hsum.keep (kp k1))
 have k2:=k1.trans' k12
 obtain⟨yw,H3,e3,hY,k23⟩:=FY E (k:=15) (n:=n+2) (by decide) qY (s:=t) (gH.keep0 k2) (hM.keep k12) (by omega) hVk (by omega) (by omega) (hsum.keep (kp k2))
 have k3:=k2.trans' k23
 have k13:=k12.trans' k23
 obtain⟨zw,H4,e4,hZ,v7⟩:=FY E (k:=15) (n:=n+2) (by decide) qY (s:=1024) (gH.keep0 k3) (hM.keep k13) (by omega) hVk (by decide) (by decide) (hsum.keep (kp k3))
 have k4:=k3.trans' v7
 have k14:=k13.trans' v7
 have k24:=k23.trans' v7
 have ro4:H4.ro<=H4.nx:=by rw[k4.ro];exact Yl hro k4.nx
 by_cases hm:Ez V=true
 ·rw[if_pos hm] at e2 e3 e4
  have z0: ∀G,MU UB true (nI .i64 0) (nI .i64 0) G=.val (.bool false) G:=λ_=>rfl
  have hat':=ZdP hm
  have hVp: ∀x∈V,Hj x∧O5 x.attrs=true∧x.data.length<=1200:=λx hx=>⟨(hVk x hx).1,hat' x hx,(hVk x hx).2⟩
  obtain⟨lx,hX⟩:=hX hm
  obtain⟨ly,hY⟩:=hY hm
  obtain⟨lz,hZ⟩:=hZ hm
  have hX4:=hX.keep k24
  have hY4:=hY.keep v7
  have pl: ∀s,(VY sf s 0 V).length<=60000:=λs=>by
   have h1:=xf (sf:=sf) (s:=s) (n:=300) 0 V λx hx=>(bm x hx).2
   have h2:V.length*301<=8*301:=XX _ hV8
   omega
  have pr: ∀s,∀x∈VY sf s 0 V,x.raw.length<=2000000:=λs=>sA 0 V hVp
  have hM4:CV H4 w V:=hM.keep k14
  have lv: ∀G,lenV w G=.val (nI .i64 V.length) G:=λG=>by
   obtain⟨ls,q1,q2,_⟩:=hM.ls
   rw[q1.len,q2]
  have lnx:=hX4.lenV
  have lny:=hY4.lenV
  have lnz:=hZ.lenV
  simp(maxSteps:=4000000) (disch:=first|assumption|omega|(simp -implicitDefEqProofs only[Xl,Xm]<;>first|assumption|omega)|decide) only[e1,ba,bb,mi,ma,e2,e3,e4,z0,lv,Yx,Ye,ZM,ZK,Zy,ZJ,YN,Y7,YE,Xa,YR,Yy,ZP,Ya,Yb,YV,Nat.reduceSub,Nat.reduceAdd,Nat.reduceLeDiff,ZB,ZL,Nat.reduceEqDiff,decide_true,decide_false,Yq,Zd,Zb,X7,Wc,Y0,Yw,Yk,YQ,YP,Z6,Zx,Zr,Y8,ZY,Zb,Zd,Xg,ZD,ZR,Qp,ZN,Zu,ZC,Zw,ZI,Zs,Zv,Zl,ZO,XC,XJ,Xx,Xw,ZU,ZS,ZX,ZW,Zz,ZH,YC,YF,Zy,ZJ,ZK,ZM,Zb,Zd,ZD,ZR,ZN,YL,YA,YH,YZ,Yp,Yj,c3,Yf,Xr,ZV,Yv,Z0,Z1,Yc,Nat.reduceEqDiff,reduceCtorEq,Xq,TB,K1,F0,zN]
  generalize hL0:WP (zT _) fuel _ _ _=LL
  obtain⟨o1,KO,H5,rfl,_,rfl,tu,⟨t0,t7,t9,t11,t13⟩,t15⟩:=Wd (P:=λT=>L0I H4 w xw yw zw s V V.length T H4) (Q:=L0Q H4 w xw yw zw s V)
   (λT hi=>Wo (L0I H4 w xw yw zw s V) (L0Q H4 w xw yw zw s V) (λm tm H' h=>ZdM ro4 hM4 (by omega) _ _ m tm H' h) fuel V.length T H4 (by omega) hi) hL0
   (by exact⟨ZE.refl _ _,⟨rfl,rfl,rfl,rfl,rfl⟩,rfl,rfl,0,rfl,by omega,rfl⟩)
  have t0':=t0;have Cs:=t7;have ql:=t9;have vV:=t11;have Zid:=t13;have EW:=t15
  simp only[IK] at t9
  simp(maxSteps:=4000000) (disch:=first|assumption|omega|(simp -implicitDefEqProofs only[Xl,Xm]<;>first|assumption|omega)|decide) only[t9,lnx,Yx,Ye,ZM,ZK,Zy,ZJ,YN,Y7,YE,Xa,YR,Yy,ZP,Ya,Yb,YV,Nat.reduceSub,Nat.reduceAdd,Nat.reduceLeDiff,ZB,ZL,Nat.reduceEqDiff,decide_true,decide_false,Yq,Zd,Zb,X7,Wc,Y0,Yw,Yk,YQ,YP,Z6,Zx,Zr,Y8,ZY,Zb,Zd,Xg,ZD,ZR,Qp,ZN,Zu,ZC,Zw,ZI,Zs,Zv,Zl,ZO,XC,XJ,Xx,Xw,ZU,ZS,ZX,ZW,Zz,ZH,YC,YF,Zy,ZJ,ZK,ZM,Zb,Zd,ZD,ZR,ZN,YL,YA,YH,YZ,Yp,Yj,c3,Yf,Xr,ZV,Yv,Z0,Z1,Yc,Nat.reduceEqDiff,reduceCtorEq,Xq,TB,K1,F0,zN]
  have ro5:H5.ro<=H5.nx:=by rw[tu.ro];exact Yl ro4 tu.nx
  have hX5:=hX4.keep tu
  have hps:=pl s
  generalize hL1:WP (E4 _) fuel _ _ _=LL
  obtain⟨o2,g9,H6,rfl,_,rfl,qj,⟨u0,u7,u9,u11,u13⟩,u15⟩:=Wd (P:=λT=>L1I H5 w xw yw zw s (S8 V) (VY sf s 0 V) (VY sf s 0 V).length T H5) (Q:=L1Q H5 w xw yw zw s (S8 V))
   (λT hi=>Wo (L1I H5 w xw yw zw s (S8 V) (VY sf s 0 V)) (L1Q H5 w xw yw zw s (S8 V)) (λm tm H' h=>ZdK ro5 hX5 hps (λi hi=>(Az (by omega) 0 V).at_ i hi) _ _ m tm H' h) fuel (VY sf s 0 V).length T H5 (by omega) hi) hL1
   (by exact⟨ZE.refl _ _,⟨t0',Cs,ql,vV,Zid⟩,EW,rfl,rfl,0,rfl,by omega⟩)
  simp only[Um] at u0
  simp only[IK] at u9
  simp only[QO] at u11
  simp only[JB] at u13
  simp only[GW] at u15
  have k46:=tu.trans' qj
  have k6:=k4.trans' k46
  have ro6:H6.ro<=H6.nx:=by rw[k6.ro];exact Yl hro k6.nx
  obtain⟨r1,H7,q1,g1,mL⟩:=CN E (k:=15) (n:=n+10) ro6 (hX4.keep k46) hps (pr s)
  have k7:=k6.trans' mL
  obtain⟨r2,H8,q2,g2,bQ⟩:=CN E (k:=15) (n:=n+10) (by rw[k7.ro];exact Yl hro k7.nx) (hY4.keep (k46.trans' mL)) (pl t) (pr t)
  have k8:=k7.trans' bQ
  obtain⟨r3,H9,q3,g3,k89⟩:=CN E (k:=15) (n:=n+10) (by rw[k8.ro];exact Yl hro k8.nx) (hX4.keep ((k46.trans' mL).trans' bQ)) hps (pr s)
  have k9:=k8.trans' k89
  obtain⟨r4,H10,q4,g4,k90⟩:=CN E (k:=15) (n:=n+10) (by rw[k9.ro];exact Yl hro k9.nx) (hZ.keep (((k46.trans' mL).trans' bQ).trans' k89)) (pl 1024) (pr 1024)
  have k10:=k9.trans' k90
  have b1:=fN (Zo:=Zo) (fs:=fs) (fuel:=fuel) E (k:=15) (n:=n+10) (by decide) (H:=H8) ((nF g1).keep0 bQ) (nF g2)
  have b2:=fN (Zo:=Zo) (fs:=fs) (fuel:=fuel) E (k:=15) (n:=n+10) (by decide) (H:=H10) ((nF g3).keep0 k90) (nF g4)
  rw[LR (by omega),LR (by omega),Zj rfl] at b1
  rw[LR (by omega),LR (by omega),Zj rfl] at b2
  have wk: ∀{j},Z8 (LK Zo fs fuel 15) fs fuel (j+1) 7 [] H10=.ret (.bool true) H10:=λ{j}=>OW rfl (hwk H10 (kp k10))
  have d1:decide ((VY sf t 0 V).length<=(VY sf s 0 V).length)=true:=Zj (AA hst 0 V)
  have d2:decide ((VY sf 1024 0 V).length=V.length+S8 V)=true:=Zj (xe 0 V λx hx=>by have:=(bm x hx).2;omega)
  have hfl:S8 V<=V.length:=List.length_filter_le _ _
  have ad: ∀G,RI (nI .i64 V.length) (nI .i64 (S8 V)) G=.val (nI .i64 (V.length+S8 V)) G:=λG=>Yy (by omega) G
  simp(maxSteps:=4000000) (disch:=first|assumption|omega|(simp -implicitDefEqProofs only[Xl,Xm]<;>first|assumption|omega)|decide) only[u0,u9,u11,u13,u15,lnx,lny,lnz,lv,d1,d2,ad,q1,q2,q3,q4,b1,b2,wk,Yx,Ye,ZM,ZK,Zy,ZJ,YN,Y7,YE,Xa,YR,Yy,ZP,Ya,Yb,YV,Nat.reduceSub,Nat.reduceAdd,Nat.reduceLeDiff,ZB,ZL,Nat.reduceEqDiff,decide_true,decide_false,Yq,Zd,Zb,X7,Wc,Y0,Yw,Yk,YQ,YP,Z6,Zx,Zr,Y8,ZY,Zb,Zd,Xg,ZD,ZR,Qp,ZN,Zu,ZC,Zw,ZI,Zs,Zv,Zl,ZO,XC,XJ,Xx,Xw,ZU,ZS,ZX,ZW,Zz,ZH,YC,YF,Zy,ZJ,ZK,ZM,Zb,Zd,ZD,ZR,ZN,YL,YA,YH,YZ,Yp,Yj,c3,Yf,Xr,ZV,Yv,Z0,Z1,Yc,Nat.reduceEqDiff,reduceCtorEq,Xq,TB,K1,F0,zN]
  exact⟨_,rfl⟩
 ·rw[if_neg hm] at e2 e3 e4
  have z1: ∀G,MU UB true (nI .i64 1) (nI .i64 1) G=.val (.bool false) G:=λ_=>rfl
  have z2: ∀G,MU UB true (nI .i64 1) (nI .i64 0) G=.val (.bool true) G:=λ_=>rfl
  have wk: ∀{j},Z8 (LK Zo fs fuel 15) fs fuel (j+1) 7 [] H4=.ret (.bool true) H4:=λ{j}=>OW rfl (hwk H4 (kp k4))
  simp(maxSteps:=4000000) (disch:=first|assumption|omega|(simp -implicitDefEqProofs only[Xl,Xm]<;>first|assumption|omega)|decide) only[e1,ba,bb,mi,ma,e2,e3,e4,z1,z2,wk,Yx,Ye,ZM,ZK,Zy,ZJ,YN,Y7,YE,Xa,YR,Yy,ZP,Ya,Yb,YV,Nat.reduceSub,Nat.reduceAdd,Nat.reduceLeDiff,ZB,ZL,Nat.reduceEqDiff,decide_true,decide_false,Yq,Zd,Zb,X7,Wc,Y0,Yw,Yk,YQ,YP,Z6,Zx,Zr,Y8,ZY,Zb,Zd,Xg,ZD,ZR,Qp,ZN,Zu,ZC,Zw,ZI,Zs,Zv,Zl,ZO,XC,XJ,Xx,Xw,ZU,ZS,ZX,ZW,Zz,ZH,YC,YF,Zy,ZJ,ZK,ZM,Zb,Zd,ZD,ZR,ZN,YL,YA,YH,YZ,Yp,Yj,c3,Yf,Xr,ZV,Yv,Z0,Z1,Yc,Nat.reduceEqDiff,reduceCtorEq,Xq,TB,K1,F0,zN]
  exact⟨_,rfl⟩
end
end Go.AI
