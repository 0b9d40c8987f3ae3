/- A table cut short, and as the document has it: walked: proved without conditions but those that each names. -/
import Derived.Test.YthhmkldnnnajhaaGreatDoorPB
import Derived.Test.YthhmkldnnnajhaaGreatDoorPA
import Derived.Test.YthhmkldnnnajhaaGreatDoorP9
set_option maxRecDepth 1000000
set_option maxHeartbeats 0
set_option linter.unusedVariables false
set_option linter.unusedSimpArgs false
namespace Go.AI
open Go
noncomputable section
def dF(q:NP):NP:=(q.1.take 300,q.2.take 300)
def TJ(l:List NP):List NP:=(l.take 18).map dF
def xz(p:List UInt8)(kd:Int)(mo ui gi:Nat)(ti:Int)(dv:AV)(lk:List UInt8)(w:AV):Obj:=rG 28 1 [.str p,.int .i64 kd,nI .u32 mo,nI .u32 ui,nI .u32 gi,.int .i64 ti,w,dv,.str lk] 0 false true true
theorem GK(s:List UInt8)(k:Nat)(G:Heap):F4 (.str s) none (some (nI .i64 (min s.length k))) G=.val (.str (s.take k)) G:=by
 rw[Zs (Nat.min_le_left _ _)];congr 2;rw[Nat.min_comm,<-SW,V1]
theorem TT{H:Heap}{w:AV}{e sz lo:Nat}{ls:List (List AV)}(h:Pu H w e sz ls lo):(∀n,H.nx<=n->VB n w=true)∧(∀n T,TS (.val w ⟨n,T,n⟩) w n=true)∧w.cells=[w]∧(∀b∈QG w,lo<=b∧b<H.nx):=by
 rcases h with⟨_,rfl⟩|⟨_,b0,r0,rfl,rc,hl⟩
 ·exact⟨λ_ _=>rfl,λn T=>Mf n T,rfl,λb hb=>by cases hb⟩
 ·exact⟨λn hn=>JE (by have:=rc.low;omega) _ _ _,λn T=>NG ..,rfl,λb hb=>by rw[YM.1 hb];exact⟨hl,rc.low⟩⟩
structure ac(Hs:Heap)(q q5 q3 q2:Nat)(p:List UInt8)(kd:Int)(mo ui gi:Nat)(ti:Int)(dv:AV)(lk:List UInt8)(ev av:AV)(len i:Nat)(l:List NP)(m:Nat)(tm:TM)(H:Heap):Prop where
 t6:X5 tm=.ptr q 0
 t5:Xy tm=.ptr q5 0
 t3:Xm tm=.ptr q3 0
 t2:XC tm=.ptr q2 0
 t10:YG tm=ev
 t11:Yz tm=nI .i64 len
 t12:Yn tm=nI .i64 i
 t56:Uj tm=av
 t57:Ub tm=nI .i64 l.length
 k: ∃k w,VD tm=nI .i64 k∧k+m=l.length∧H.t.get q=some (xz p kd mo ui gi ti dv lk w)∧Pu H w 107 2 (MA (TJ (l.take k))) Hs.nx
 keep:Yw Hs H [q]
def aR(Hs:Heap)(q q5 q3 q2:Nat)(p:List UInt8)(kd:Int)(mo ui gi:Nat)(ti:Int)(dv:AV)(lk:List UInt8)(ev:AV)(len i:Nat)(l:List NP)(o:Out)(tm:TM)(H:Heap):Prop:=o=.exit 2∧X5 tm=.ptr q 0∧Xy tm=.ptr q5 0∧Xm tm=.ptr q3 0∧XC tm=.ptr q2 0∧YG tm=ev∧Yz tm=nI .i64 len∧Yn tm=nI .i64 i∧Yw Hs H [q]∧ ∃w,H.t.get q=some (xz p kd mo ui gi ti dv lk w)∧Pu H w 107 2 (MA (TJ l)) Hs.nx
theorem D5{l:List NP}{k:Nat}(hk:k<l.length)(h18:k<18):TJ (l.take (k+1))=TJ (l.take k)++[dF (l.getD k ([],[]))]:=by
 unfold TJ
 rw[SW,SW,TQ (by omega),TQ (by omega),List.take_add_one,ZW hk,TP,ZN,ZW hk];rfl
theorem D6{l:List NP}{k:Nat}(h18:18<=k):TJ (l.take (k+1))=TJ (l.take k):=by
 unfold TJ
 rw[SW,SW,VV (by omega),VV (by omega)]
theorem HD(l:List NP):(TJ l).length<=18:=by unfold TJ;rw[VU,Xo];omega
theorem uw(l:List NP)(p:NP):MA (l++[p])=MA l++[[.str p.1,.str p.2]]:=by unfold MA;rw[TP];rfl
theorem oq{Hs:Heap}{q q5 q3 q2:Nat}{p:List UInt8}{kd:Int}{mo ui gi:Nat}{ti:Int}{dv:AV}{lk:List UInt8}{ev av:AV}{len i:Nat}{l:List NP}(hl:l.length<9223372036854775808)(hro:Hs.ro<=q)(hq:q<Hs.nx)(hN: ∀H,Yw Hs H [q]->Sz H 2 av (MA l))(cx:Ctx)(X0:X)(m:Nat)(tm:TM)(H:Heap)(hI:ac Hs q q5 q3 q2 p kd mo ui gi ti dv lk ev av len i l m tm H):
  ∃o tm' H',I6 cx tm H X0=.ok o tm' H' X0∧((o=.normal∧ ∃k,k<m∧ac Hs q q5 q3 q2 p kd mo ui gi ti dv lk ev av len i l k tm' H')∨(o≠.normal∧aR Hs q q5 q3 q2 p kd mo ui gi ti dv lk ev len i l o tm' H')):=by
 obtain⟨t6,t5,t3,t2,t10,t11,t12,t56,t57,⟨k,w,t58,hkm,gq,hw⟩,k0⟩:=hI
 have AQ:=t6;have lQ:=t5;have KW:=t3;have t2':=t2;have Lz:=t10;have MB:=t11;have MC:=t12;have b6:=t56;have qZ:=t57
 simp only[Fq] at t6
 simp only[ca] at t56
 simp only[mW] at t57
 simp only[sI] at t58
 have n0:=k0.nx
 have roH:H.ro<=q:=by rw[k0.ro];exact hro
 cases m with
 |zero=>
  have d1:decide (k<l.length)=false:=Zj (by omega)
  simp(maxSteps:=4000000) (disch:=first|assumption|omega|(simp -implicitDefEqProofs only[Yr,Ys]<;>first|assumption|omega)|decide) only[t57,t58,d1,ZG,Zz,ZK,ZT,ZP,ZS,Z9,Ya,ZO,Z8,Yc,Yb,Zx,Zt,Zs,ZU,Nat.reduceSub,Nat.reduceAdd,Nat.reduceLeDiff,Zi,Zh,Nat.reduceEqDiff,decide_true,decide_false,ZJ,Zf,Zd,YH,YJ,ZZ,ZC,Zv,ZY,ZX,ZM,Zk,Zl,Yf,ZD,Zd,Zf,Yg,ZV,Ye,U3,Yj,Zn,Zw,Zq,ZA,Zo,Zp,Zm,Zu,YW,YX,Y5,Y4,YI,Y3,Xg,ZQ,XB,Xe,XL,XM,XN,Xc,ZO,I6,YU,WD,Yp,Yq,ZE,ZH,ZF,Nat.reducePow,Nat.reduceDiv,Nat.reduceMod,Nat.reduceEqDiff,reduceCtorEq,WE,UF,N6]
  obtain rfl:k=l.length:=by omega
  rw[V1] at hw
  refine⟨_,_,_,rfl,?_⟩
  exact .inr ⟨by simp,rfl,AQ,lQ,KW,t2',Lz,MB,MC,k0,w,gq,hw⟩
 |succ m=>
  have d1:decide (k<l.length)=true:=Zr (by omega)
  have hk:k<l.length:=by omega
  have hS:=hN H k0
  obtain⟨b,o,r,eI,hb,gb,eL,eE⟩:=hS.at_ (i:=k) (by rw[MJ];omega)
  rw[C4 hk] at eL
  have hal:=λh18=>D5 hk h18
  generalize hp:l.getD k ([],[])=a at*
  obtain⟨H1,hH1⟩: ∃G,H.new (rG 107 1 [.str a.1,.str a.2] 0 false true true)=G:=⟨_,rfl⟩
  have k1:Yw H H1 []:=by rw[<-hH1];exact Yw.new _ _ _
  have El:Yw Hs H1 [q]:=k0.trans k1 (by intro x hx;cases hx)
  have Kd:H1.nx=H.nx+1:=by rw[<-hH1];rfl
  have g1:H1.t.get H.nx=some (rG 107 1 [.str a.1,.str a.2] 0 false true true):=by rw[<-hH1];exact YN rfl _
  have it:H1.t.get q=some (xz p kd mo ui gi ti dv lk w):=by rw[k1.get _ (by omega) (by simp)];exact gq
  have gbz:(H.new (rG 107 1 [.str [],.str []] 0 false true true)).t.get b=some (.row r):=by rw[WH (by omega)];exact gb
  have sf:=TL (n:=2) (b:=H.nx) (l:=[.str [],.str []]) (vs:=[.str a.1,.str a.2]) (H:=H.new (rG 107 1 [.str [],.str []] 0 false true true)) rfl rfl (by decide) (by show H.ro<=_;omega) 107 1 false true
  rw[Ty rfl,hH1] at sf
  have gz:=λ(G:Heap)=>YN (H:=H) rfl (rG 107 1 [.str [],.str []] 0 false true true)
  by_cases h18:k<18
  ·have d2:decide (k<18)=true:=Zr h18
   have hal:=hal h18
   have w1:Pu H1 w 107 2 (MA (TJ (l.take k))) Hs.nx:=by
    rcases hw with hw|⟨h1,b0,r0,h2,h3,h4⟩
    ·exact .inl hw
    ·exact .inr ⟨h1,b0,r0,h2,h3.moved (k1.get _ h3.low (by simp)) k1.ro k1.nx,h4⟩
   obtain⟨lw,sw,cw,bw⟩:=TT w1
   have lw0:=lw H1.nx (Z2 _)
   have lw1:=lw (H1.nx+1) (Un _)
   have lw2:=lw (H.nx+1) (by omega)
   obtain⟨w',H2,ea,w2,k2,hb2,n2⟩:=xI (bytes:=32) w1 (by decide) (by decide) (by rw[MJ];have:=HD (l.take k);omega) (by rw[El.ro];omega) (by omega) (x:=[.str (a.1.take 300),.str (a.2.take 300)]) rfl
   rw[Kd] at ea
   have lw3:=lw (H.nx+1+1) (by omega)
   have bs: ∀G,ON 107 2 1 [.str [],.str []] [(0,2,.agg [.str (a.1.take 300),.str (a.2.take 300)])] G=.val (.slice G.nx 0 1 none) (G.new (rG 107 2 [.str (a.1.take 300),.str (a.2.take 300)] 0 false true true)):=λ_=>rfl
   have b2: ∀G,LI [.str [],.str []] [(0,1,.str (a.1.take 300)),(1,1,.str (a.2.take 300))] G=.val (.agg [.str (a.1.take 300),.str (a.2.take 300)]) G:=λ_=>rfl
   have tf:H2.t.get q=some (xz p kd mo ui gi ti dv lk w):=by rw[k2.get _ (by omega) (λh=>by have:=(bw _ h).1;omega)];exact it
   have lq: ∀G,ld1 (some (xz p kd mo ui gi ti dv lk w)) 6 G=.val w G:=λG=>by unfold xz;rw[X1 (show 6<9 by decide)];rfl
   obtain⟨_,_,cw',bw'⟩:=TT w2
   have sq:xS 1 (some (xz p kd mo ui gi ti dv lk w)) q 6 w' H2=.val WK (H2.put q (xz p kd mo ui gi ti dv lk w')):=by
    unfold xz
    rw[Mn cw' (show 6<9 by decide) (by rw[k2.ro,El.ro];exact hro) (Zi _)];rfl
   have t3a:=GK a.1 300
   have t3b:=GK a.2 300
   simp(maxSteps:=4000000) (disch:=first|assumption|omega|(simp -implicitDefEqProofs only[Yr,Ys]<;>first|assumption|omega)|decide) only[t6,t56,t57,t58,d1,eI,gb,gbz,eL,gz,sf,hH1,g1,X1,VQ,d2,it,tf,lq,sq,lw0,lw1,lw2,lw3,sw,bs,b2,ea,t3a,t3b,Kd,ZG,Zz,ZK,ZT,ZP,ZS,Z9,Ya,ZO,Z8,Yc,Yb,Zx,Zt,Zs,ZU,Nat.reduceSub,Nat.reduceAdd,Nat.reduceLeDiff,Zi,Zh,Nat.reduceEqDiff,decide_true,decide_false,ZJ,Zf,Zd,YH,YJ,ZZ,ZC,Zv,ZY,ZX,ZM,Zk,Zl,Yf,ZD,Zd,Zf,Yg,ZV,Ye,U3,Yj,Zn,Zw,Zq,ZA,Zo,Zp,Zm,Zu,YW,YX,Y5,Y4,YI,Y3,Xg,ZQ,XB,Xe,XL,XM,XN,Xc,ZO,I6,YU,WD,Yp,Yq,ZE,ZH,ZF,Nat.reducePow,Nat.reduceDiv,Nat.reduceMod,Nat.reduceEqDiff,reduceCtorEq,WE,UF,N6]
   have kQ:Yw Hs (H2.put q (xz p kd mo ui gi ti dv lk w')) [q]:=(El.trans k2 (λx hx hlt=>by have:=(bw _ hx).1;omega)).then_put (λ_=>by simp)
   refine⟨_,_,_,rfl,.inl ⟨rfl,m,by omega,AQ,lQ,KW,t2',Lz,MB,MC,b6,qZ,⟨k+1,w',rfl,by omega,UQ ..,?_⟩,kQ⟩⟩
   rw[hal,uw]
   rcases w2 with hw2|⟨h1,b0,r0,h2,h3,h4⟩
   ·exact .inl hw2
   ·exact .inr ⟨h1,b0,r0,h2,h3.moved (Rl (by omega) ..) rfl (Z2 _),h4⟩
  ·have d2:decide (k<18)=false:=Zj h18
   simp(maxSteps:=4000000) (disch:=first|assumption|omega|(simp -implicitDefEqProofs only[Yr,Ys]<;>first|assumption|omega)|decide) only[t6,t56,t57,t58,d1,eI,gb,gbz,eL,gz,sf,hH1,g1,X1,VQ,d2,ZG,Zz,ZK,ZT,ZP,ZS,Z9,Ya,ZO,Z8,Yc,Yb,Zx,Zt,Zs,ZU,Nat.reduceSub,Nat.reduceAdd,Nat.reduceLeDiff,Zi,Zh,Nat.reduceEqDiff,decide_true,decide_false,ZJ,Zf,Zd,YH,YJ,ZZ,ZC,Zv,ZY,ZX,ZM,Zk,Zl,Yf,ZD,Zd,Zf,Yg,ZV,Ye,U3,Yj,Zn,Zw,Zq,ZA,Zo,Zp,Zm,Zu,YW,YX,Y5,Y4,YI,Y3,Xg,ZQ,XB,Xe,XL,XM,XN,Xc,ZO,I6,YU,WD,Yp,Yq,ZE,ZH,ZF,Nat.reducePow,Nat.reduceDiv,Nat.reduceMod,Nat.reduceEqDiff,reduceCtorEq,WE,UF,N6]
   refine⟨_,_,_,rfl,.inl ⟨rfl,m,by omega,AQ,lQ,KW,t2',Lz,MB,MC,b6,qZ,⟨k+1,w,rfl,by omega,it,?_⟩,El⟩⟩
   rw[D6 (by omega)]
   rcases hw with hw|⟨h1,b0,r0,h2,h3,h4⟩
   ·exact .inl hw
   ·exact .inr ⟨h1,b0,r0,h2,h3.moved (k1.get _ h3.low (by simp)) k1.ro k1.nx,h4⟩
theorem Sz.src{H:Heap}{sz:Nat}{v:AV}{ls:List (List AV)}(h:Sz H sz v ls)(hsz:1<=sz)(k:Nat->List AV->OR):(CB v λn=>Ti H sz v n λnew=>k n new)=k ls.length ls.flatten:=by
 rcases h with⟨rfl,rfl⟩|⟨he,⟨rfl,rfl⟩|⟨b,o,c,rfl,hb,h2⟩⟩
 ·rfl
 ·rfl
 ·show(Ti H sz (.slice b o ls.length c) ls.length λnew=>k ls.length new)=_
  unfold Ti
  rw[Xx]
  by_cases h0:ls.length=0
  ·have:ls=[]:=Vs.1 h0
   subst this;rfl
  ·rw[Zj h0]
   have hne:ls≠[]:=λe=>h0 (by rw[e];rfl)
   obtain⟨r,h3,h4,h5⟩:=h2 hne
   have hf:=AI.flat_len he
   show Uc H b (λr=>YP (Nat.ble (o+ls.length*sz) r.size) (k ls.length (U5 r o (ls.length*sz))))=_
   unfold Uc
   rw[h3]
   show YP (Nat.ble (o+ls.length*sz) r.size) (k ls.length (U5 r o (ls.length*sz)))=_
   rw[Z1 h4]
   have:U5 r o (ls.length*sz)=ls.flatten:=by
    refine UT λj=>?_
    by_cases hj:j<ls.length*sz
    ·rw[Pk r _ o j hj,h5 j hj,ZN,ZW (by omega)];rfl
    ·rw[WC (by rw[PR];omega),WC (by omega)]
   rw[this];rfl
theorem A4{H:Heap}{e sz bytes:Nat}{a v:AV}{ls:List (List AV)}(h:Sz H sz v ls)(hsz:1<=sz)(hb:1<=bytes):NC e sz bytes a v H=Jm a e sz bytes H ls.length ls.flatten:=by
 show YP (Nat.ble 1 sz) (YP (Nat.ble 1 bytes) _)=_
 rw[Z1 hsz,Z1 hb]
 exact h.src hsz λn new=>Jm a e sz bytes H n new
theorem wo{H:Heap}{e sz bytes:Nat}{v:AV}{ls:List (List AV)}(h:Sz H sz v ls)(hsz:1<=sz)(hb:1<=bytes)(hl:ls.length*bytes<=140737488355328):
  ∃v' H',NC e sz bytes (.slice H.nx 0 0 none) v (H.new (rG e sz [] 0 false true true))=.val v' H'∧Sl H' sz v' ls∧Yw H H' []∧ ∀b o n c,v'=.slice b o n c->H.nx<=b:=by
 have hk:Yw H (H.new (rG e sz [] 0 false true true)) []:=Yw.new _ _ _
 rw[A4 (h.keep0 hk) hsz hb]
 have gn:(H.new (rG e sz [] 0 false true true)).t.get H.nx=some (rG e sz [] 0 false true true):=YN rfl _
 have each: ∀l∈ls,l.length=sz:=by
  rcases h with⟨rfl,_⟩|h
  ·intro l hl;cases hl
  ·exact h.each
 by_cases h0:ls.length=0
 ·have:ls=[]:=Vs.1 h0
  subst this
  refine⟨.slice H.nx 0 0 none,H.new (rG e sz [] 0 false true true),?_,⟨each,.inr ⟨H.nx,0,none,rfl,Xl _,λh=>absurd rfl h⟩⟩,hk,λb o n c h=>by cases h;exact Z2 _⟩
  show Uc _ H.nx _=_
  unfold Uc
  rw[gn]
  show YP (Nat.beq sz sz) (cond (Nat.ble (0+0) (RK ⟨e,sz,XX ([]:List AV),T.ofList [],.unk,0,false,true,true⟩ 0 none)) (EH _ _ _ _ _ _ _ _ _ _) _)=_
  rw[Xt,Zd,Z1 (Zi _)]
  rfl
 ·refine⟨.slice (H.nx+1) 0 ls.length none,(H.new (rG e sz [] 0 false true true)).new (rG e sz ls.flatten 0 false true false),?_,Sl.of_rG (YN rfl _) (Xl _) each,hk.then_new _,λb o n c h=>by cases h;exact Un _⟩
  show Uc _ H.nx _=_
  unfold Uc
  rw[gn]
  have hcap:RK ⟨e,sz,XX ([]:List AV),T.ofList [],.unk,0,false,true,true⟩ 0 none=0:=by
   show cond (Nat.beq sz 1) (0 - 0) ((0 - 0)/sz)=0
   cases Nat.beq sz 1
   ·exact Nat.zero_div _
   ·rfl
  show YP (Nat.beq sz sz) (cond (Nat.ble (0+ls.length) (RK ⟨e,sz,XX ([]:List AV),T.ofList [],.unk,0,false,true,true⟩ 0 none)) _ (LH _ e H.nx 0 0 ls.length sz bytes none ⟨e,sz,XX ([]:List AV),T.ofList [],.unk,0,false,true,true⟩ ls.flatten))=_
  rw[Xt,hcap,show Nat.ble (0+ls.length) 0=false by
   cases hq:Nat.ble (0+ls.length) 0 with
   |false=>rfl
   |true=>have:=YE hq;omega]
  show YP (Nat.ble ((0+ls.length)*bytes) 140737488355328) (YP (Nat.ble (0+0*sz) 0) (YP (Nat.beq (0 % sz) 0) (OR.val (.slice (H.nx+1) 0 (0+ls.length) none) (Heap.newRow (H.new (rG e sz [] 0 false true true)) e sz (U5 _ 0 (0*sz)++ls.flatten) false))))=_
  rw[Zd,Z1 hl,UH,Nat.zero_mod]
  rfl
theorem Sz.lt{H:Heap}{sz:Nat}{v:AV}{ls:List (List AV)}(h:Sz H sz v ls): ∀b∈QG v,b<H.nx:=by
 rcases h with⟨_,rfl⟩|⟨_,⟨_,rfl⟩|⟨b,o,c,rfl,hb,_⟩⟩
 ·intro b hb;cases hb
 ·intro b hb;cases hb
 ·intro b' hb';rw[YM.1 hb'];exact hb
theorem Sz.move{H H':Heap}{sz:Nat}{v:AV}{ls:List (List AV)}{S:List Nat}(h:Sz H sz v ls)(k:Yw H H' S)(hS: ∀b∈QG v,b∉S):Sz H' sz v ls:=
 h.keep k λb o n c e=>hS b (by rw[e];exact YM.2 rfl)
theorem jY{H:Heap}{sz:Nat}{v:AV}{ls:List (List AV)}(h:Sz H sz v ls):(∀G,GB og false v .nils G=.val (.bool false) G)∨(v=.nils∧ls=[]):=by
 rcases h with⟨_,rfl⟩|⟨_,⟨e,rfl⟩|⟨b,o,c,rfl,hb,_⟩⟩
 ·exact .inl λ_=>rfl
 ·exact .inr ⟨rfl,e⟩
 ·exact .inl λ_=>rfl
theorem ky(G:Heap):GB og false .nils .nils G=.val (.bool true) G:=rfl
theorem oa{Z7:Lib}{fs:T CF}{fuel:Nat}(E:Env Z7 fs fuel){k n:Nat}{H:Heap}{v:AV}{ls:List (List AV)}(h:Sz H 35 v ls)(hl:ls.length<=90000):
  ∃v' H',Xd (LK Z7 fs fuel k) fs fuel (n+1) 57 [v] H=.ret v' H'∧Sz H' 35 v' ls∧Yw H H' []∧ ∀b∈QG v',H.nx<=b:=by
 rw[XR (Xk E.n57 (.inr rfl) _ _) E.f57]
 rcases jY h with en|⟨rfl,rfl⟩
 ·obtain⟨v',H',ea,s1,k1,b1⟩:=wo (e:=108) (bytes:=56) h (by decide) (by decide) (by omega)
  have bs:ON 108 35 0 (List.replicate 0 z35).flatten [] H=.val (.slice H.nx 0 0 none) (H.new (rG 108 35 [] 0 false true true)):=rfl
  simp(maxSteps:=4000000) (disch:=first|assumption|omega|(simp -implicitDefEqProofs only[Yr,Ys]<;>first|assumption|omega)|decide) only[en,bs,ea,Mi,Gf,Qn,ZG,Zz,ZK,ZT,ZP,ZS,Z9,Ya,ZO,Z8,Yc,Yb,Zx,Zt,Zs,ZU,Nat.reduceSub,Nat.reduceAdd,Nat.reduceLeDiff,Zi,Zh,Nat.reduceEqDiff,decide_true,decide_false,ZJ,Zf,Zd,YH,YJ,ZZ,ZC,Zv,ZY,ZX,ZM,Zk,Zl,Yf,ZD,Zd,Zf,Yg,ZV,Ye,U3,Yj,Zn,Zw,Zq,ZA,Zo,Zp,Zm,Zu,YW,YX,Y5,Y4,YI,Y3,Xg,ZQ,XB,Xe,XL,XM,XN,Xc,ZO,dw,YU,WD,Yp,Yq,ZE,ZH,ZF,Nat.reduceEqDiff,reduceCtorEq,WE]
  exact⟨_,_,rfl,.inr s1,k1,λb hb=>by
   rcases s1.here with⟨_,rfl⟩|⟨b',o,c,rfl,_⟩
   ·cases hb
   ·rw[YM.1 hb];exact b1 _ _ _ _ rfl⟩
 ·
  simp(maxSteps:=4000000) (disch:=first|assumption|omega|(simp -implicitDefEqProofs only[Yr,Ys]<;>first|assumption|omega)|decide) only[ky,ZG,Zz,ZK,ZT,ZP,ZS,Z9,Ya,ZO,Z8,Yc,Yb,Zx,Zt,Zs,ZU,Nat.reduceSub,Nat.reduceAdd,Nat.reduceLeDiff,Zi,Zh,Nat.reduceEqDiff,decide_true,decide_false,ZJ,Zf,Zd,YH,YJ,ZZ,ZC,Zv,ZY,ZX,ZM,Zk,Zl,Yf,ZD,Zd,Zf,Yg,ZV,Ye,U3,Yj,Zn,Zw,Zq,ZA,Zo,Zp,Zm,Zu,YW,YX,Y5,Y4,YI,Y3,Xg,ZQ,XB,Xe,XL,XM,XN,Xc,ZO,dw,YU,WD,Yp,Yq,ZE,ZH,ZF,Nat.reduceEqDiff,reduceCtorEq,WE]
  exact⟨_,_,rfl,.inr (Sl.nil ..),Yw.refl _ _,λb hb=>by cases hb⟩
def KZ(H:Heap)(S:List Nat)(cs:List AV)(e:Uk):Prop:= ∃av dv cv,cs=[.str e.mem.path,.int .i64 e.mem.kind,nI .u32 e.mem.mode,nI .u32 e.mem.uid,nI .u32 e.mem.gid,.int .i64 e.mem.time,av,dv,.str e.mem.link,.int .i64 e.size,.int .i64 e.head,cv]∧Sz H 2 av (MA e.mem.attrs)∧Sz H 1 dv (Eo e.mem.data)∧Sz H 35 cv (Nq e.chunks)∧(∀b∈QG av,b∉S)∧(∀b∈QG dv,b∉S)∧ ∀b∈QG cv,b∉S
theorem KZ.keep{H H':Heap}{S S':List Nat}{cs:List AV}{e:Uk}(h:KZ H S cs e)(k:Yw H H' S)(hS: ∀b∈S',b∈S∨H.nx<=b):KZ H' S' cs e:=by
 obtain⟨av,dv,cv,e1,h1,h2,h3,o1,o2,o3⟩:=h
 have f: ∀{sz:Nat} {v:AV} {ls:List (List AV)},Sz H sz v ls->(∀b∈QG v,b∉S)-> ∀b∈QG v,b∉S':=λh o b hb hm=>by
  have:=h.lt b hb
  rcases hS b hm with h2|h2
  ·exact o b hb h2
  ·omega
 exact⟨av,dv,cv,e1,h1.move k o1,h2.move k o2,h3.move k o3,f h1 o1,f h2 o2,f h3 o3⟩
theorem Yw.more{H H':Heap}{S:List Nat}(k:Yw H H' []):Yw H H' S:=⟨k.nx,k.ro,λc hc _=>k.get c hc (by simp)⟩
theorem KZ.toC{H:Heap}{S:List Nat}{cs:List AV}{e:Uk}(h:KZ H S cs e):Jk H cs e:=by
 obtain⟨av,dv,cv,e1,h1,h2,h3,_⟩:=h
 exact⟨av,dv,cv,e1,h1,h2,h3⟩
theorem KZ.len{H:Heap}{S:List Nat}{cs:List AV}{e:Uk}(h:KZ H S cs e):cs.length=12:=h.toC.len
def wA(e:Uk):Uk:=⟨⟨e.mem.path.take 300,e.mem.kind,e.mem.mode,e.mem.uid,e.mem.gid,e.mem.time,TJ e.mem.attrs,e.mem.data.take 20,e.mem.link.take 300⟩,e.size,e.head,e.chunks.take 20⟩
def P8(L:List Uk):List Uk:=(L.take 12).map wA
structure ae(xb:Nat)(H0:Heap)(q2 q3 lo:Nat)(ev:AV)(L:List Uk)(m:Nat)(tm:TM)(H:Heap):Prop where
 t2:XC tm=.ptr q2 0
 t3:Xm tm=.ptr q3 0
 t10:YG tm=ev
 t11:Yz tm=nI .i64 L.length
 i: ∃i w Ls,Yn tm=nI .i64 i∧i+m=L.length∧i<=12∧H.t.get q3=some (OP w)∧Pu H w 31 12 Ls lo∧Ls.length=i∧ ∀j,j<i->KZ H (xb::q2::q3::QG w) (Ls.getD j []) (wA (L.getD j default))
 k:Yw H0 H []
 q:H0.nx<=q2∧q2<lo∧H0.nx<=q3∧q3<lo∧q2≠q3∧lo<=H.nx
 g2: ∃c2,H.t.get q2=some (rG 47 1 [c2] 0 false true true)
def af(xb:Nat)(H0:Heap)(q2 q3:Nat)(L:List Uk)(o:Out)(tm:TM)(H:Heap):Prop:=o=.exit 0∧XC tm=.ptr q2 0∧Xm tm=.ptr q3 0∧Yw H0 H []∧(∃c2,H.t.get q2=some (rG 47 1 [c2] 0 false true true))∧ ∃w Ls,H.t.get q3=some (OP w)∧Sz H 12 w Ls∧q2∉QG w∧xb∉QG w∧Ls.length=(P8 L).length∧ ∀j,j<(P8 L).length->KZ H (xb::q2::q3::QG w) (Ls.getD j []) ((P8 L).getD j default)
theorem wv(l:List UInt8)(k:Nat):(Eo l).take k=Eo (l.take k):=by unfold Eo;rw[List.map_take]
theorem wm(l:List Mq)(k:Nat):(Nq l).take k=Nq (l.take k):=by unfold Nq;rw[List.map_take]
theorem AT{α:Type}(l:List α)(k:Nat):l.take (min l.length k)=l.take k:=by
 rw[Nat.min_comm,<-SW,V1]
theorem Cl{L:List Uk}{i:Nat}(h:i<L.length):L.getD i default∈L:=by
 rw[ZN,ZW h];exact Vc h
theorem ot{Z7:Lib}{fs:T CF}{fuel:Nat}(E:Env Z7 fs fuel){k0 n:Nat}{ev:AV}{L:List Uk}(hl:L.length<9223372036854775808){H0:Heap}{q2 q3 lo:Nat}(hro:H0.ro<=H0.nx){Hb:Heap}{xb:Nat}(hbk:Yw Hb H0 [])(hX:Hb.nx<=xb)(hX2:xb<H0.nx)(hN:yP Hb ev L)(hat: ∀e∈L,e.mem.attrs.length<9223372036854775808)(hfu: ∀e∈L,e.mem.attrs.length<fuel)(y f q)(X0:X)(m:Nat)(tm:TM)(H:Heap)(hI:ae xb H0 q2 q3 lo ev L m tm H):
  ∃o tm' H',Jr ⟨Xd (LK Z7 fs fuel k0) fs fuel (n+1),y,f,fuel,q⟩ tm H X0=.ok o tm' H' X0∧((o=.normal∧ ∃k,k<m∧ae xb H0 q2 q3 lo ev L k tm' H')∨(o≠.normal∧af xb H0 q2 q3 L o tm' H')):=by
 obtain⟨t2,t3,t10,t11,⟨i,w,Ls,t12,him,h12,g3,hw,sN,hE⟩,kk,⟨hq2,Zd2,hq3,Zd4,Zd3,hlo⟩,⟨c2,g2⟩⟩:=hI
 have t2':=t2;have KW:=t3;have Lz:=t10;have MB:=t11;have MC:=t12
 simp only[K0] at t2
 simp only[Fp] at t3
 simp only[Df] at t10
 simp only[Dg] at t11
 simp only[Ik] at t12
 have n0:=kk.nx
 have kb:=hbk.trans' kk
 have nb:=hbk.nx
 have hroH:H.ro<=H0.nx:=by rw[kk.ro];exact hro
 have hfin:i=12∨i=L.length->af xb H0 q2 q3 L (.exit 0) tm H:=by
  intro hi
  have ht:L.take i=L.take 12:=by
   rcases hi with h|h
   ·rw[h]
   ·rw[h,V1,VI (by omega)]
  have hfl:(P8 L).length=i:=by unfold P8;rw[VU,<-ht,Xo];omega
  refine⟨rfl,t2',KW,kk,⟨c2,g2⟩,w,Ls,g3,.inr (Sl.of_buf hw),(λhm=>by have:=((TT hw).2.2.2 _ hm).1;omega),(λhm=>by have:=((TT hw).2.2.2 _ hm).1;omega),by rw[hfl];exact sN,λj hj=>?_⟩
  rw[hfl] at hj
  have:(P8 L).getD j default=wA (L.getD j default):=by
   unfold P8
   rw[ZN,Vx,UE (by omega),ZN,ZW (by omega)];rfl
  rw[this];exact hE j hj
 cases m with
 |zero=>
  have d1:decide (i<L.length)=false:=Zj (by omega)
  simp(maxSteps:=4000000) (disch:=first|assumption|omega|(simp -implicitDefEqProofs only[Yr,Ys]<;>first|assumption|omega)|decide) only[t11,t12,d1,ZG,Zz,ZK,ZT,ZP,ZS,Z9,Ya,ZO,Z8,Yc,Yb,Zx,Zt,Zs,ZU,Nat.reduceSub,Nat.reduceAdd,Nat.reduceLeDiff,Zi,Zh,Nat.reduceEqDiff,decide_true,decide_false,ZJ,Zf,Zd,YH,YJ,ZZ,ZC,Zv,ZY,ZX,ZM,Zk,Zl,Yf,ZD,Zd,Zf,Yg,ZV,Ye,U3,Yj,Zn,Zw,Zq,ZA,Zo,Zp,Zm,Zu,YW,YX,Y5,Y4,YI,Y3,Xg,ZQ,XB,Xe,XL,XM,XN,Xc,ZO,Jr,YU,WD,Yp,Yq,ZE,ZH,ZF,Nat.reducePow,Nat.reduceDiv,Nat.reduceMod,Nat.reduceEqDiff,reduceCtorEq,WE,UF,N6,DZ]
  refine⟨_,_,_,rfl,?_⟩
  exact .inr ⟨by simp,hfin (.inr (by omega))⟩
 |succ m=>
  have d1:decide (i<L.length)=true:=Zr (by omega)
  have hi:i<L.length:=by omega
  obtain⟨La,hS0,iv,sL⟩:=hN
  have hS:=hS0.keep0 kb
  obtain⟨bb,o,r,eI,hb,gb,eL,eE⟩:=hS.at_ (i:=i) (by omega)
  have Dh:=sL i hi
  have hat:=hat _ (Cl hi)
  have hfu:=hfu _ (Cl hi)
  have hfe:wA (L.getD i default)=wA (L.getD i default):=rfl
  have hgen: ∀x,x=L.getD i default-> ∀j,j<i->True:=λ_ _ _ _=>trivial
  obtain⟨e,he⟩: ∃e,L.getD i default=e:=⟨_,rfl⟩
  rw[he] at Dh hat hfu
  obtain⟨ms,cv,ecs,⟨av,dv,ems,hA,hD⟩,hC⟩:=Dh
  subst ems
  have ecs:La.getD i []=[.str e.mem.path,.int .i64 e.mem.kind,nI .u32 e.mem.mode,nI .u32 e.mem.uid,nI .u32 e.mem.gid,.int .i64 e.mem.time,av,dv,.str e.mem.link,.int .i64 e.size,.int .i64 e.head,cv]:=ecs
  rw[ecs] at eL
  obtain⟨H1,hH1⟩: ∃G,H.new (rG 31 1 [.str e.mem.path,.int .i64 e.mem.kind,nI .u32 e.mem.mode,nI .u32 e.mem.uid,nI .u32 e.mem.gid,.int .i64 e.mem.time,av,dv,.str e.mem.link,.int .i64 e.size,.int .i64 e.head,cv] 0 false true true)=G:=⟨_,rfl⟩
  have k1:Yw H H1 []:=by rw[<-hH1];exact Yw.new _ _ _
  have Kd:H1.nx=H.nx+1:=by rw[<-hH1];rfl
  have jQ:H1.ro<=H1.nx:=by rw[k1.ro];omega
  have g5:H1.t.get H.nx=some (rG 31 1 [.str e.mem.path,.int .i64 e.mem.kind,nI .u32 e.mem.mode,nI .u32 e.mem.uid,nI .u32 e.mem.gid,.int .i64 e.mem.time,av,dv,.str e.mem.link,.int .i64 e.size,.int .i64 e.head,cv] 0 false true true):=by rw[<-hH1];exact YN rfl _
  have g5': ∀ob,(H1.new ob).t.get H.nx=some (rG 31 1 [.str e.mem.path,.int .i64 e.mem.kind,nI .u32 e.mem.mode,nI .u32 e.mem.uid,nI .u32 e.mem.gid,.int .i64 e.mem.time,av,dv,.str e.mem.link,.int .i64 e.size,.int .i64 e.head,cv] 0 false true true):=λob=>by rw[WH (by omega)];exact g5
  have gm: ∀ob,(H1.new ob).t.get H1.nx=some ob:=λob=>YN rfl ob
  have gbz: ∀ob,(H.new ob).t.get bb=some (.row r):=λob=>by rw[WH (by omega)];exact gb
  have cvA:=hA.1.cells
  have aE:=hD.1.cells
  have cvC:=hC.1.cells
  have sf:=TL (n:=12) (b:=H.nx) (l:=[.str [],nI .i64 0,nI .u32 0,nI .u32 0,nI .u32 0,nI .i64 0,.nils,.nils,.str [],nI .i64 0,nI .i64 0,.nils]) (vs:=[.str e.mem.path,.int .i64 e.mem.kind,nI .u32 e.mem.mode,nI .u32 e.mem.uid,nI .u32 e.mem.gid,.int .i64 e.mem.time,av,dv,.str e.mem.link,.int .i64 e.size,.int .i64 e.head,cv]) (H:=H.new (rG 31 1 [.str [],nI .i64 0,nI .u32 0,nI .u32 0,nI .u32 0,nI .i64 0,.nils,.nils,.str [],nI .i64 0,nI .i64 0,.nils] 0 false true true)) rfl rfl (by decide) (by show H.ro<=_;omega) 31 1 false true
  rw[Ty rfl,hH1] at sf
  have gz:=λ(ob:Obj)=>YN (H:=H) rfl ob
  by_cases hi12:i=12
  ·have d2:decide (i=12)=true:=Zr hi12
   simp(maxSteps:=4000000) (disch:=first|assumption|omega|(simp -implicitDefEqProofs only[Yr,Ys]<;>first|assumption|omega)|decide) only[t2,t3,t10,t11,t12,d1,d2,eI,gb,gbz,eL,gz,sf,hH1,g5,g5',gm,X1,VQ,ZG,Zz,ZK,ZT,ZP,ZS,Z9,Ya,ZO,Z8,Yc,Yb,Zx,Zt,Zs,ZU,Nat.reduceSub,Nat.reduceAdd,Nat.reduceLeDiff,Zi,Zh,Nat.reduceEqDiff,decide_true,decide_false,ZJ,Zf,Zd,YH,YJ,ZZ,ZC,Zv,ZY,ZX,ZM,Zk,Zl,Yf,ZD,Zd,Zf,Yg,ZV,Ye,U3,Yj,Zn,Zw,Zq,ZA,Zo,Zp,Zm,Zu,YW,YX,Y5,Y4,YI,Y3,Xg,ZQ,XB,Xe,XL,XM,XN,Xc,ZO,Jr,YU,WD,Yp,Yq,ZE,ZH,ZF,Nat.reducePow,Nat.reduceDiv,Nat.reduceMod,Nat.reduceEqDiff,reduceCtorEq,WE,UF,N6,DZ]
   obtain⟨_,_,_,cK,⟨c2',g2'⟩,w',Ls',g3',hS',cO,hoffX,ZdG,hE'⟩:=hfin (.inl hi12)
   refine⟨_,_,_,rfl,?_⟩
   exact .inr ⟨by simp,rfl,t2',KW,cK.trans' k1,⟨c2',by rw[k1.get _ (by omega) (by simp)];exact g2'⟩,w',Ls',by rw[k1.get _ (by omega) (by simp)];exact g3',hS'.keep0 k1,cO,hoffX,ZdG,λj hj=>(hE' j hj).keep k1.more (λb hb=>.inl hb)⟩
  ·have d2:decide (i=12)=false:=Zj hi12
   obtain⟨HK,sd,hd2⟩:=hD.2 (min e.mem.data.length 20) (by rw[J4];exact Nat.min_le_left _ _)
   rw[wv,AT] at hd2
   obtain⟨aD,sc,hc2⟩:=hC.2 (min e.chunks.length 20) (by rw[TX];exact Nat.min_le_left _ _)
   rw[wm,AT] at hc2
   have sd1: ∀n ob m,Hw 1 dv none (some (nI .i64 (min e.mem.data.length 20))) ⟨n,(H1.new ob).t,m⟩=.val HK ⟨n,(H1.new ob).t,m⟩:=λn ob m=>sd _ λc hc=>(WH (by omega) ..).trans ((kb.trans' k1).get c hc (by simp))
   have ldd:=λG=>hD.1.len G
   have lcc:=λG=>hC.1.len G
   rw[J4] at ldd
   rw[TX] at lcc
   have laa:=λG=>hA.1.len G
   rw[MJ] at laa
   have sfm:=TL (n:=9) (b:=H1.nx) (l:=[.str [],nI .i64 0,nI .u32 0,nI .u32 0,nI .u32 0,nI .i64 0,.nils,.nils,.str []]) (vs:=[.str e.mem.path,.int .i64 e.mem.kind,nI .u32 e.mem.mode,nI .u32 e.mem.uid,nI .u32 e.mem.gid,.int .i64 e.mem.time,av,dv,.str e.mem.link]) (H:=H1.new (rG 28 1 [.str [],nI .i64 0,nI .u32 0,nI .u32 0,nI .u32 0,nI .i64 0,.nils,.nils,.str []] 0 false true true)) rfl rfl (by decide) (by show H1.ro<=_;exact jQ) 28 1 false true
   rw[Ty rfl] at sfm
   have st1: ∀(l:List AV) (j:Nat) (v:AV),v.cells=[v]->j<l.length->xS 1 (some (rG 28 1 l 0 false true true)) H1.nx j v (H1.new (rG 28 1 l 0 false true true))=.val WK (H1.new (rG 28 1 (l.set j v) 0 false true true)):=λl j v hv hj=>by
    rw[Mn hv hj (by show H1.ro<=_;exact jQ) (Zi _),Ty rfl]
   have Zaw:=hd2.cells
   have tk1:=GK e.mem.path 300
   have tk2:=GK e.mem.link 300
   have hdl:=λn h=>(hD.1.keep0 (kb.trans' k1)).low (n:=n) h
   have hal:=λn h=>(hA.1.keep0 (kb.trans' k1)).low (n:=n) h
   have hd2l:=λn h=>(hd2.keep0 (kb.trans' k1)).low (n:=n) h
   have ld1':=hdl (H1.nx+1) (Un _)
   have Zek:=hd2l (H1.nx+1) (Un _)
   have hds:=hD.1.same
   have hd2s:=hd2.same
   obtain⟨Hs,sM⟩: ∃G,H1.new (rG 28 1 [.str (e.mem.path.take 300),.int .i64 e.mem.kind,nI .u32 e.mem.mode,nI .u32 e.mem.uid,nI .u32 e.mem.gid,.int .i64 e.mem.time,.nils,HK,.str (e.mem.link.take 300)] 0 false true true)=G:=⟨_,rfl⟩
   have ks:Yw H1 Hs []:=by rw[<-sM];exact Yw.new _ _ _
   have nxs:Hs.nx=H.nx+1+1:=by rw[<-sM,My,Kd]
   have g5s:Hs.t.get H.nx=some (rG 31 1 [.str e.mem.path,.int .i64 e.mem.kind,nI .u32 e.mem.mode,nI .u32 e.mem.uid,nI .u32 e.mem.gid,.int .i64 e.mem.time,av,dv,.str e.mem.link,.int .i64 e.size,.int .i64 e.head,cv] 0 false true true):=by rw[<-sM];exact g5' _
   have gqs:Hs.t.get H1.nx=some (xz (e.mem.path.take 300) e.mem.kind e.mem.mode e.mem.uid e.mem.gid e.mem.time HK (e.mem.link.take 300) .nils):=by rw[<-sM];exact gm _
   have bh:Yw H0 Hs []:=(kk.trans' k1).trans' ks
   have kHb:Yw Hb Hs []:=(kb.trans' k1).trans' ks
   simp(maxSteps:=4000000) (disch:=first|assumption|omega|(simp -implicitDefEqProofs only[Yr,Ys]<;>first|assumption|omega)|decide) only[t2,t3,t10,t11,t12,d1,d2,eI,gb,gbz,eL,gz,sf,hH1,g5,g5',gm,X1,VQ,sd1,ldd,laa,sfm,st1,Zaw,aE,tk1,tk2,ld1',Zek,hds,hd2s,sM,g5s,ZG,Zz,ZK,ZT,ZP,ZS,Z9,Ya,ZO,Z8,Yc,Yb,Zx,Zt,Zs,ZU,Nat.reduceSub,Nat.reduceAdd,Nat.reduceLeDiff,Zi,Zh,Nat.reduceEqDiff,decide_true,decide_false,ZJ,Zf,Zd,YH,YJ,ZZ,ZC,Zv,ZY,ZX,ZM,Zk,Zl,Yf,ZD,Zd,Zf,Yg,ZV,Ye,U3,Yj,Zn,Zw,Zq,ZA,Zo,Zp,Zm,Zu,YW,YX,Y5,Y4,YI,Y3,Xg,ZQ,XB,Xe,XL,XM,XN,Xc,ZO,Jr,YU,WD,Yp,Yq,ZE,ZH,ZF,Nat.reducePow,Nat.reduceDiv,Nat.reduceMod,Nat.reduceEqDiff,reduceCtorEq,WE,UF,N6,DZ]
   generalize hL:TH (I6 _) fuel _ _ _=Lp
   obtain⟨oc,MR,H2,rfl,_,rfl,s6,s5,s3,s2,s10,s11,s12,k2,w9,tf,hw9⟩:=WW (P:=λT=>ac Hs H1.nx H.nx q3 q2 (e.mem.path.take 300) e.mem.kind e.mem.mode e.mem.uid e.mem.gid e.mem.time HK (e.mem.link.take 300) ev av L.length i e.mem.attrs e.mem.attrs.length T Hs) (Q:=aR Hs H1.nx H.nx q3 q2 (e.mem.path.take 300) e.mem.kind e.mem.mode e.mem.uid e.mem.gid e.mem.time HK (e.mem.link.take 300) ev L.length i e.mem.attrs)
    (λT hi=>Vd (ac Hs H1.nx H.nx q3 q2 (e.mem.path.take 300) e.mem.kind e.mem.mode e.mem.uid e.mem.gid e.mem.time HK (e.mem.link.take 300) ev av L.length i e.mem.attrs) (aR Hs H1.nx H.nx q3 q2 (e.mem.path.take 300) e.mem.kind e.mem.mode e.mem.uid e.mem.gid e.mem.time HK (e.mem.link.take 300) ev L.length i e.mem.attrs) (λm tm H2 h=>oq hat (by rw[bh.ro];omega) (by omega) (λG hG=>(hA.1.keep0 kHb).move hG (λb hb hm=>by have:=hA.1.lt b hb;rw[YM.1 hm] at this;omega)) _ _ m tm H2 h) fuel e.mem.attrs.length T Hs hfu hi) hL
    (by exact⟨rfl,rfl,KW,t2',Lz,MB,MC,rfl,rfl,⟨0,.nils,rfl,by omega,gqs,.inl ⟨by unfold TJ MA;simp,rfl⟩⟩,Yw.refl _ _⟩)
   have s6':=s6;have s5':=s5;have s3':=s3;have s2':=s2;have jS:=s10;have jT:=s11;have Zex:=s12
   simp only[Fq] at s6
   simp only[wQ] at s5
   simp only[Fp] at s3
   simp only[Ik] at s12
   have n2:=k2.nx
   obtain⟨l9,sm9,cv9,bw9⟩:=TT hw9
   have g52:H2.t.get H.nx=some (rG 31 1 [.str e.mem.path,.int .i64 e.mem.kind,nI .u32 e.mem.mode,nI .u32 e.mem.uid,nI .u32 e.mem.gid,.int .i64 e.mem.time,av,dv,.str e.mem.link,.int .i64 e.size,.int .i64 e.head,cv] 0 false true true):=by rw[k2.get _ (by omega) (by simp;omega)];exact g5s
   have lq9: ∀G,pk 9 (some (xz (e.mem.path.take 300) e.mem.kind e.mem.mode e.mem.uid e.mem.gid e.mem.time HK (e.mem.link.take 300) w9)) 0 G=.val (.agg [.str (e.mem.path.take 300),.int .i64 e.mem.kind,nI .u32 e.mem.mode,nI .u32 e.mem.uid,nI .u32 e.mem.gid,.int .i64 e.mem.time,w9,HK,.str (e.mem.link.take 300)]) G:=λG=>by unfold xz;rw[VQ (show 0+9<=9 by decide)];rfl
   have sc2: ∀n m,Hw 35 cv none (some (nI .i64 (min e.chunks.length 20))) ⟨n,H2.t,m⟩=.val aD ⟨n,H2.t,m⟩:=λn m=>sc _ λc hc=>by
    show H2.t.get c=_
    rw[k2.get _ (by omega) (by simp;omega),ks.get _ (by omega) (by simp)]
    exact(kb.trans' k1).get c hc (by simp)
   have hc22:Sz H2 35 aD (Nq (e.chunks.take 20)):=(hc2.keep0 kHb).move k2 (λb hb hm=>by have:=hc2.lt b hb;rw[YM.1 hm] at this;omega)
   obtain⟨v3,H3,e3,hv3,k3,b3⟩:=oa E (k:=k0) (n:=n) hc22 (by rw[TX,Xo];omega)
   have n3:=k3.nx
   have Cw:Yw H0 H3 []:=(bh.trans k2 (by intro x hx hlt;rw[YM.1 hx] at hlt;omega)).trans' k3
   have ro3:H3.ro<=H0.nx:=by rw[Cw.ro];exact hro
   have dL:H3.t.get H1.nx=some (xz (e.mem.path.take 300) e.mem.kind e.mem.mode e.mem.uid e.mem.gid e.mem.time HK (e.mem.link.take 300) w9):=by rw[k3.get _ (by omega) (by simp)];exact tf
   have g53:H3.t.get H.nx=some (rG 31 1 [.str e.mem.path,.int .i64 e.mem.kind,nI .u32 e.mem.mode,nI .u32 e.mem.uid,nI .u32 e.mem.gid,.int .i64 e.mem.time,av,dv,.str e.mem.link,.int .i64 e.size,.int .i64 e.head,cv] 0 false true true):=by rw[k3.get _ (by omega) (by simp)];exact g52
   have cv3:=hv3.cells
   obtain⟨H4,aI⟩: ∃G,H3.put H.nx (rG 31 1 [.str (e.mem.path.take 300),.int .i64 e.mem.kind,nI .u32 e.mem.mode,nI .u32 e.mem.uid,nI .u32 e.mem.gid,.int .i64 e.mem.time,w9,HK,.str (e.mem.link.take 300),.int .i64 e.size,.int .i64 e.head,v3] 0 false true true)=G:=⟨_,rfl⟩
   have WG:xS 9 (some (rG 31 1 [.str e.mem.path,.int .i64 e.mem.kind,nI .u32 e.mem.mode,nI .u32 e.mem.uid,nI .u32 e.mem.gid,.int .i64 e.mem.time,av,dv,.str e.mem.link,.int .i64 e.size,.int .i64 e.head,cv] 0 false true true)) H.nx 0 (.agg [.str (e.mem.path.take 300),.int .i64 e.mem.kind,nI .u32 e.mem.mode,nI .u32 e.mem.uid,nI .u32 e.mem.gid,.int .i64 e.mem.time,w9,HK,.str (e.mem.link.take 300)]) H3=.val WK (H3.put H.nx (rG 31 1 [.str (e.mem.path.take 300),.int .i64 e.mem.kind,nI .u32 e.mem.mode,nI .u32 e.mem.uid,nI .u32 e.mem.gid,.int .i64 e.mem.time,w9,HK,.str (e.mem.link.take 300),.int .i64 e.size,.int .i64 e.head,cv] 0 false true true)):=by
    exact(F9 (n:=9) (l:=[.str e.mem.path,.int .i64 e.mem.kind,nI .u32 e.mem.mode,nI .u32 e.mem.uid,nI .u32 e.mem.gid,.int .i64 e.mem.time,av,dv,.str e.mem.link,.int .i64 e.size,.int .i64 e.head,cv]) (b:=H.nx) (o:=0) (v:=.agg [.str (e.mem.path.take 300),.int .i64 e.mem.kind,nI .u32 e.mem.mode,nI .u32 e.mem.uid,nI .u32 e.mem.gid,.int .i64 e.mem.time,w9,HK,.str (e.mem.link.take 300)]) (H:=H3) (by decide) rfl (show 0+9<=12 by decide) (by omega) (Zi _) _ _ _ _).trans rfl
   have YS:xS 1 (some (rG 31 1 [.str (e.mem.path.take 300),.int .i64 e.mem.kind,nI .u32 e.mem.mode,nI .u32 e.mem.uid,nI .u32 e.mem.gid,.int .i64 e.mem.time,w9,HK,.str (e.mem.link.take 300),.int .i64 e.size,.int .i64 e.head,cv] 0 false true true)) H.nx 11 v3 (H3.put H.nx (rG 31 1 [.str (e.mem.path.take 300),.int .i64 e.mem.kind,nI .u32 e.mem.mode,nI .u32 e.mem.uid,nI .u32 e.mem.gid,.int .i64 e.mem.time,w9,HK,.str (e.mem.link.take 300),.int .i64 e.size,.int .i64 e.head,cv] 0 false true true))=.val WK H4:=by
    rw[Mn cv3 (show 11<12 by decide) (by rw[C3];omega) (Zi _),xJ,<-aI];rfl
   have aK:Yw H3 H4 [H.nx]:=by rw[<-aI];exact Yw.put λ_=>by simp
   have g54:H4.t.get H.nx=some (rG 31 1 [.str (e.mem.path.take 300),.int .i64 e.mem.kind,nI .u32 e.mem.mode,nI .u32 e.mem.uid,nI .u32 e.mem.gid,.int .i64 e.mem.time,w9,HK,.str (e.mem.link.take 300),.int .i64 e.size,.int .i64 e.head,v3] 0 false true true):=by rw[<-aI];exact UQ ..
   have nx4:H4.nx=H3.nx:=by rw[<-aI,PV]
   have up: ∀{c},c<H.nx->H4.t.get c=H.t.get c:=λ{c} hc=>by
    rw[aK.get _ (by omega) (by simp;omega),k3.get _ (by omega) (by simp),k2.get _ (by omega) (by simp;omega),ks.get _ (by omega) (by simp),k1.get _ hc (by simp)]
   have zF:Yw H H4 []:=⟨by omega,by rw[aK.ro,k3.ro,k2.ro,ks.ro,k1.ro],λc hc _=>up hc⟩
   have g34:H4.t.get q3=some (OP w):=by rw[up (by omega)];exact g3
   have CI: ∀(w:AV) (G:Heap),ld1 (some (OP w)) 0 G=.val w G:=λw G=>by unfold OP;rw[X1 (Xl 0)];rfl
   obtain⟨lwA,swA,cwA,uZ⟩:=TT hw
   have w4:Pu H4 w 31 12 Ls lo:=by
    rcases hw with hw|⟨h1,b0,r0,h2,h3,h4⟩
    ·exact .inl hw
    ·exact .inr ⟨h1,b0,r0,h2,h3.moved (up h3.low) (by rw[zF.ro]) zF.nx,h4⟩
   obtain⟨w',H5,ea,w5,k5,hb5,n5⟩:=xI (bytes:=152) w4 (by decide) (by decide) (by omega) (by rw[zF.ro];omega) (by omega) (x:=[.str (e.mem.path.take 300),.int .i64 e.mem.kind,nI .u32 e.mem.mode,nI .u32 e.mem.uid,nI .u32 e.mem.gid,.int .i64 e.mem.time,w9,HK,.str (e.mem.link.take 300),.int .i64 e.size,.int .i64 e.head,v3]) rfl
   have bs: ∀G,ON 31 12 1 [.str [],nI .i64 0,nI .u32 0,nI .u32 0,nI .u32 0,nI .i64 0,.nils,.nils,.str [],nI .i64 0,nI .i64 0,.nils] [(0,12,.agg [.str (e.mem.path.take 300),.int .i64 e.mem.kind,nI .u32 e.mem.mode,nI .u32 e.mem.uid,nI .u32 e.mem.gid,.int .i64 e.mem.time,w9,HK,.str (e.mem.link.take 300),.int .i64 e.size,.int .i64 e.head,v3])] G=.val (.slice G.nx 0 1 none) (G.new (rG 31 12 [.str (e.mem.path.take 300),.int .i64 e.mem.kind,nI .u32 e.mem.mode,nI .u32 e.mem.uid,nI .u32 e.mem.gid,.int .i64 e.mem.time,w9,HK,.str (e.mem.link.take 300),.int .i64 e.size,.int .i64 e.head,v3] 0 false true true)):=λ_=>rfl
   obtain⟨lwB,swB,cwB,bwB⟩:=TT w5
   have g35:H5.t.get q3=some (OP w):=by rw[k5.get _ (by omega) (λh=>by have:=(uZ _ h).1;omega)];exact g34
   have sq:xS 1 (some (OP w)) q3 0 w' H5=.val WK (H5.put q3 (OP w')):=by
    unfold OP
    rw[Mn cwB (Xl 0) (by rw[k5.ro,zF.ro];omega) (Zi _)];rfl
   have hq9: ∀n t,TS (.val (.agg [.str (e.mem.path.take 300),.int .i64 e.mem.kind,nI .u32 e.mem.mode,nI .u32 e.mem.uid,nI .u32 e.mem.gid,.int .i64 e.mem.time,w9,HK,.str (e.mem.link.take 300)]) ⟨n,t,n⟩) (.agg [.str (e.mem.path.take 300),.int .i64 e.mem.kind,nI .u32 e.mem.mode,nI .u32 e.mem.uid,nI .u32 e.mem.gid,.int .i64 e.mem.time,w9,HK,.str (e.mem.link.take 300)]) n=true:=Aw (by
    intro v hv
    simp only[Yv,Sr,or_false] at hv
    rcases hv with rfl|rfl|rfl|rfl|rfl|rfl|rfl|rfl|rfl
    ·exact Ko _
    ·exact T0 _ _
    ·exact T0 _ _
    ·exact T0 _ _
    ·exact T0 _ _
    ·exact T0 _ _
    ·rcases hw9 with⟨_,rfl⟩|⟨_,b,r,rfl,_⟩
     ·unfold AI.same;rfl
     ·unfold AI.same;rw[Xt,Xt,Xt];rfl
    ·exact hd2.sam
    ·exact Ko _)
   have lc2:=λn h=>hc22.low (n:=n) h
   have Zej:=lc2 H2.nx (Z2 _)
   have lcA:=λn h=>(hC.1.keep0 (kb.trans' k1)).low (n:=n) h
   have lcA':=lcA H2.nx (by omega)
   have scS:=hC.1.same
   have sc2S:=hc22.same
   have lv3:=λn h=>hv3.low (n:=n) h
   have l9':=l9 H2.nx (Z2 _)
   have l9'':=l9 H3.nx n3
   have l92:=hd2l H3.nx (by omega)
   have lvH:=lv3 H3.nx (Z2 _)
   simp(maxSteps:=4000000) (disch:=first|assumption|omega|(simp -implicitDefEqProofs only[Yr,Ys]<;>first|assumption|omega)|decide) only[s3,s5,s6,s12,tf,g52,lq9,sc2,lcc,e3,dL,g53,WG,YS,g54,g34,g35,CI,bs,ea,sq,hq9,Zej,lcA',scS,sc2S,l9',l9'',l92,lvH,X1,VQ,ZG,Zz,ZK,ZT,ZP,ZS,Z9,Ya,ZO,Z8,Yc,Yb,Zx,Zt,Zs,ZU,Nat.reduceSub,Nat.reduceAdd,Nat.reduceLeDiff,Zi,Zh,Nat.reduceEqDiff,decide_true,decide_false,ZJ,Zf,Zd,YH,YJ,ZZ,ZC,Zv,ZY,ZX,ZM,Zk,Zl,Yf,ZD,Zd,Zf,Yg,ZV,Ye,U3,Yj,Zn,Zw,Zq,ZA,Zo,Zp,Zm,Zu,YW,YX,Y5,Y4,YI,Y3,Xg,ZQ,XB,Xe,XL,XM,XN,Xc,ZO,Jr,YU,WD,Yp,Yq,ZE,ZH,ZF,Nat.reducePow,Nat.reduceDiv,Nat.reduceMod,Nat.reduceEqDiff,reduceCtorEq,WE,UF,N6,DZ]
   have k46r:Yw H4 (H5.put q3 (OP w')) (q3::QG w):=⟨by rw[PV];exact k5.nx,by rw[C3,k5.ro],λc hc hn=>by
    simp only[Yv,not_or] at hn
    rw[Rl (λe=>hn.1 e.symm),k5.get c hc hn.2]⟩
   have k46:Yw H4 (H5.put q3 (OP w')) (xb::q2::q3::QG w):=⟨k46r.nx,k46r.ro,λc hc hn=>k46r.get c hc (λh=>hn (by
    simp only[Yv] at h ⊢
    rcases h with rfl|h
    ·exact .inr (.inr (.inl rfl))
    ·exact .inr (.inr (.inr h))))⟩
   have hS': ∀b∈xb::q2::q3::QG w',b∈xb::q2::q3::QG w∨H4.nx<=b:=λb hb=>by
    simp only[Yv] at hb ⊢
    rcases hb with rfl|rfl|rfl|hb
    ·exact .inl (.inl rfl)
    ·exact .inl (.inr (.inl rfl))
    ·exact .inl (.inr (.inr (.inl rfl)))
    ·exact .inr (hb5 b hb)
   have hnew:KZ H4 (xb::q2::q3::QG w) [.str (e.mem.path.take 300),.int .i64 e.mem.kind,nI .u32 e.mem.mode,nI .u32 e.mem.uid,nI .u32 e.mem.gid,.int .i64 e.mem.time,w9,HK,.str (e.mem.link.take 300),.int .i64 e.size,.int .i64 e.head,v3] (wA e):=by
    have ka:Sz H4 2 w9 (MA (TJ e.mem.attrs)):=((Sz.keep0 (.inr (Sl.of_buf hw9)) k3).move aK (λb hb hm=>by have:=(bw9 b hb).1;rw[YM.1 hm] at this;omega))
    have kd:Sz H4 1 HK (Eo (e.mem.data.take 20)):=hd2.keep0 (kb.trans' zF)
    have kc:Sz H4 35 v3 (Nq (e.chunks.take 20)):=hv3.move aK (λb hb hm=>by have:=b3 b hb;rw[YM.1 hm] at this;omega)
    refine⟨w9,HK,v3,rfl,ka,kd,kc,λb hb hm=>?_,λb hb hm=>?_,λb hb hm=>?_⟩
    ·have:=(bw9 b hb).1
     simp only[Yv] at hm
     rcases hm with rfl|rfl|rfl|hm
     ·omega
     ·omega
     ·omega
     ·have:=(uZ b hm).2;omega
    ·have:=hd2.lt b hb
     simp only[Yv] at hm
     rcases hm with rfl|rfl|rfl|hm
     ·omega
     ·omega
     ·omega
     ·have:=(uZ b hm).1;omega
    ·have:=b3 b hb
     simp only[Yv] at hm
     rcases hm with rfl|rfl|rfl|hm
     ·omega
     ·omega
     ·omega
     ·have:=(uZ b hm).2;omega
   refine⟨_,_,_,rfl,.inl ⟨rfl,m,by omega,s2',s3',jS,jT,⟨i+1,w',Ls++[[.str (e.mem.path.take 300),.int .i64 e.mem.kind,nI .u32 e.mem.mode,nI .u32 e.mem.uid,nI .u32 e.mem.gid,.int .i64 e.mem.time,w9,HK,.str (e.mem.link.take 300),.int .i64 e.size,.int .i64 e.head,v3]],rfl,by omega,by omega,UQ ..,?_,by rw[X3,sN];rfl,λj hj=>?_⟩,?_,⟨hq2,Zd2,hq3,Zd4,Zd3,by rw[PV];omega⟩,c2,?_⟩⟩
   ·rcases w5 with hw2|⟨h1,b0,r0,h2,h3,h4⟩
    ·exact .inl hw2
    ·exact .inr ⟨h1,b0,r0,h2,h3.moved (Rl (by omega) ..) rfl (Z2 _),h4⟩
   ·refine KZ.keep (S:=xb::q2::q3::QG w) ?_ k46 hS'
    by_cases hj2:j<i
    ·have:=(hE j hj2).keep (S':=xb::q2::q3::QG w) zF.more (λb hb=>.inl hb)
     rw[ZN,Xb (by omega),<-ZN]
     exact this
    ·obtain rfl:j=i:=by omega
     rw[ZN,Xs (by omega),sN,NB,he]
     exact hnew
   ·exact(kk.trans' zF).trans k46r (by
     intro x hx hlt
     simp only[Yv] at hx
     rcases hx with rfl|hx
     ·omega
     ·have:=(uZ x hx).1;omega)
   ·rw[Rl (by omega),k5.get _ (by omega) (λh=>by have:=(uZ _ h).1;omega),up (by omega)];exact g2
theorem je(ev:AV)(G:Heap):pk 1 (some (OP ev)) 0 G=.val (.agg [ev]) G:=by
 unfold OP;rw[VQ (show 0+1<=1 by decide)];rfl
theorem rv1(w:AV)(k:AV->CR):rV 1 true (some (OP w)) 0 k=k (.agg [w]):=by
 unfold OP;exact yl (n:=1) (l:=[w]) rfl k
theorem wB{L:List Uk}(h: ∀e∈L,KF e): ∀i,i<(P8 L).length->Q7 ((P8 L).getD i default):=by
 intro i hi
 have hm:=Cl hi
 unfold P8 at hm
 obtain⟨e,he,h2⟩:=Wj.1 hm
 have he:=h e (Tn he)
 show Q7 ((P8 L).getD i default)
 unfold P8
 rw[<-h2]
 refine⟨⟨?_,?_,λj hj=>?_⟩,?_,λx hx=>?_⟩
 ·show(e.mem.path.take 300).length<=80000;rw[Xo];omega
 ·show(TJ e.mem.attrs).length<=90000;have:=HD e.mem.attrs;omega
 ·show((TJ e.mem.attrs).getD j ([],[])).1.length<=90000
  have hm:(TJ e.mem.attrs).getD j ([],[])∈TJ e.mem.attrs:=by
   have hj:j<(TJ e.mem.attrs).length:=hj
   rw[ZN,ZW hj];exact Vc hj
  unfold TJ at hm ⊢
  obtain⟨y,_,hy⟩:=Wj.1 hm
  rw[<-hy]
  show(y.1.take 300).length<=90000
  rw[Xo];omega
 ·show(e.chunks.take 20).length<=90000;rw[Xo];omega
 ·exact(he.chunks x (Tn hx)).sum
theorem ou{Z7:Lib}{fs:T CF}{fuel:Nat}(E:Env Z7 fs fuel){k0 n:Nat}{ev:AV}{L:List Uk}(hl:L.length<9223372036854775808){H:Heap}{Hb:Heap}{xb:Nat}(hbk:Yw Hb H [])(hX:Hb.nx<=xb)(hX2:xb<H.nx)(hro:H.ro<=H.nx)(hN:yP Hb ev L)(hat: ∀e∈L,e.mem.attrs.length<9223372036854775808)(hfl:L.length<fuel)(hfu: ∀e∈L,e.mem.attrs.length<fuel):
  ∃w H',Xd (LK Z7 fs fuel k0) fs fuel (n+2) 16 [.agg [ev]] H=.ret (.agg [w]) H'∧(∃Ls,Sz H' 12 w Ls∧xb∉QG w∧Ls.length=(P8 L).length∧ ∀i,i<(P8 L).length->KZ H' [xb] (Ls.getD i []) ((P8 L).getD i default))∧Yw H H' []:=by
 rw[XR (Xk E.n16 (.inr rfl) _ _) E.f16]
 have hcv:ev.cells=[ev]:=by
  obtain⟨_,hS,_⟩:=hN
  exact hS.cells
 have ln: ∀G,In ev G=.val (nI .i64 L.length) G:=λG=>by
  obtain⟨_,hS,h2,_⟩:=hN
  rw[hS.len G,h2]
 obtain⟨H1,hH1⟩: ∃G,H.new (OP ev)=G:=⟨_,rfl⟩
 obtain⟨H2,hH2⟩: ∃G,H1.new (OP .nils)=G:=⟨_,rfl⟩
 obtain⟨H3,hH3⟩: ∃G,H2.new (OP .nils)=G:=⟨_,rfl⟩
 have hb1:H.new (rG 47 1 [ev] 0 false true true)=H1:=hH1
 have hb2:H1.new (rG 47 1 [.nils] 0 false true true)=H2:=hH2
 have hb3:H2.new (rG 47 1 [.nils] 0 false true true)=H3:=hH3
 have Kd:H1.nx=H.nx+1:=by rw[<-hH1];rfl
 have nx2:H2.nx=H.nx+1+1:=by rw[<-hH2,My,Kd]
 have nx3:H3.nx=H.nx+1+1+1:=by rw[<-hH3,My,nx2]
 have k1:Yw H H1 []:=by rw[<-hH1];exact Yw.new _ _ _
 have k2:Yw H H2 []:=by rw[<-hH2];exact k1.then_new _
 have k3:Yw H H3 []:=by rw[<-hH3];exact k2.then_new _
 have g1:H3.t.get H.nx=some (OP ev):=by rw[<-hH3,WH (by omega),<-hH2,WH (by omega),<-hH1];exact YN rfl _
 have g2:H3.t.get H1.nx=some (OP .nils):=by rw[<-hH3,WH (by omega),<-hH2];exact YN rfl _
 have g3:H3.t.get H2.nx=some (OP .nils):=by rw[<-hH3];exact YN rfl _
 have CI: ∀G,ld1 (some (OP ev)) 0 G=.val ev G:=λG=>by unfold OP;rw[X1 (Xl 0)];rfl
 simp(maxSteps:=4000000) (disch:=first|assumption|omega|(simp -implicitDefEqProofs only[Yr,Ys]<;>first|assumption|omega)|decide) only[Vy,hcv,hb1,hb2,hb3,g1,CI,ln,ZG,Zz,ZK,ZT,ZP,ZS,Z9,Ya,ZO,Z8,Yc,Yb,Zx,Zt,Zs,ZU,Nat.reduceSub,Nat.reduceAdd,Nat.reduceLeDiff,Zi,Zh,Nat.reduceEqDiff,decide_true,decide_false,ZJ,Zf,Zd,YH,YJ,ZZ,ZC,Zv,ZY,ZX,ZM,Zk,Zl,Yf,ZD,Zd,Zf,Yg,ZV,Ye,U3,Yj,Zn,Zw,Zq,ZA,Zo,Zp,Zm,Zu,YW,YX,Y5,Y4,YI,Y3,Xg,ZQ,XB,Xe,XL,XM,XN,Xc,ZO,c16,YU,WD,Yp,Yq,ZE,ZH,ZF,Nat.reduceEqDiff,reduceCtorEq,WE,DZ]
 generalize hL:TH (Jr _) fuel _ _ _=Lp
 obtain⟨oc,MR,H4,rfl,_,rfl,t2,t3,k4,⟨c2,tf⟩,w,Ls,dL,hS,hwb,hwX,sN,hE⟩:=WW (P:=λT=>ae xb H H1.nx H2.nx (H.nx+3) ev L L.length T H3) (Q:=af xb H H1.nx H2.nx L)
  (λT hi=>Vd (ae xb H H1.nx H2.nx (H.nx+3) ev L) (af xb H H1.nx H2.nx L) (λm tm H4 h=>ot E hl hro hbk hX (by omega) hN hat hfu _ _ _ _ m tm H4 h) fuel L.length T H3 hfl hi) hL
  (by exact⟨rfl,rfl,rfl,rfl,⟨0,.nils,[],rfl,by omega,by omega,g3,.inl ⟨rfl,rfl⟩,rfl,λj hj=>by omega⟩,k3,⟨by omega,by omega,by omega,by omega,by omega,by omega⟩,.nils,g2⟩)
 simp only[K0] at t2
 simp only[Fp] at t3
 have st:xS 1 (some (rG 47 1 [c2] 0 false true true)) H1.nx 0 (.agg [w]) H4=.val WK (H4.put H1.nx (OP w)):=by
  exact(F9 (n:=1) (l:=[c2]) (b:=H1.nx) (o:=0) (v:=.agg [w]) (H:=H4) (by decide) rfl (Z2 1) (by rw[k4.ro];omega) (Z2 0) _ _ _ _).trans rfl
 simp(maxSteps:=4000000) (disch:=first|assumption|omega|(simp -implicitDefEqProofs only[Yr,Ys]<;>first|assumption|omega)|decide) only[t2,t3,tf,dL,je,st,rv1,ZG,Zz,ZK,ZT,ZP,ZS,Z9,Ya,ZO,Z8,Yc,Yb,Zx,Zt,Zs,ZU,Nat.reduceSub,Nat.reduceAdd,Nat.reduceLeDiff,Zi,Zh,Nat.reduceEqDiff,decide_true,decide_false,ZJ,Zf,Zd,YH,YJ,ZZ,ZC,Zv,ZY,ZX,ZM,Zk,Zl,Yf,ZD,Zd,Zf,Yg,ZV,Ye,U3,Yj,Zn,Zw,Zq,ZA,Zo,Zp,Zm,Zu,YW,YX,Y5,Y4,YI,Y3,Xg,ZQ,XB,Xe,XL,XM,XN,Xc,ZO,c16,YU,WD,Yp,Yq,ZE,ZH,ZF,Nat.reduceEqDiff,reduceCtorEq,WE,DZ]
 refine⟨_,_,rfl,⟨Ls,?_,hwX,sN,λi hi=>?_⟩,k4.then_put (λh=>by omega)⟩
 ·exact hS.move (S:=[H1.nx]) (Yw.put λ_=>by simp) (λb hb hm=>hwb (by rw[<-YM.1 hm];exact hb))
 ·exact(hE i hi).keep (S':=[xb]) (k:=by exact(Yw.put (S:=xb::H1.nx::H2.nx::QG w) λ_=>Yd _ (Z5 ..))) (λb hb=>.inl (by rw[YM.1 hb];exact Z5 ..))
theorem Zal{e sz:Nat}{zs x:List AV}(h1:1<=sz)(hz:zs.length=sz)(hx:x.length=sz)(G:Heap):ON e sz 1 zs [(0,sz,.agg x)] G=.val (.slice G.nx 0 1 none) (G.new (rG e sz x 0 false true true)):=by
 rw[zd h1 (by rw[hz,RW]),wC hx h1 (by omega),EX]
 rw[Cz _ _ _ (by omega),ZA,Zk,V5 (by omega),Zl]
 rfl
def y6(e:Uk)(av dv cw:AV):Obj:=rG 42 1 [.str e.mem.path,.int .i64 e.mem.kind,nI .u32 e.mem.mode,nI .u32 e.mem.uid,nI .u32 e.mem.gid,.int .i64 e.mem.time,av,dv,.str e.mem.link,.int .i64 e.size,.int .i64 e.head,cw] 0 false true true
theorem wj(l:List Mq)(x:Mq):Nq (l++[x])=Nq l++[TW x]:=by unfold Nq;rw[TP];rfl
theorem Pu.mv{H H':Heap}{w:AV}{e sz lo:Nat}{ls:List (List AV)}(h:Pu H w e sz ls lo)(hk: ∀b∈QG w,H'.t.get b=H.t.get b)(hro:H'.ro=H.ro)(hn:H.nx<=H'.nx):Pu H' w e sz ls lo:=by
 rcases h with hw|⟨h1,b0,r0,rfl,h3,h4⟩
 ·exact .inl hw
 ·exact .inr ⟨h1,b0,r0,rfl,h3.moved (hk _ (YM.2 rfl)) hro hn,h4⟩
structure aq(Hs:Heap)(q:Nat)(e:Uk)(av dv cv w0 ev:AV)(len i:Nat)(l:List Mq)(m:Nat)(tm:TM)(H:Heap):Prop where
 t6:X5 tm=.ptr q 0
 t3:Xm tm=w0
 t10:YG tm=ev
 t11:Yz tm=nI .i64 len
 t12:Yn tm=nI .i64 i
 t24:XI tm=cv
 t25:Wa tm=nI .i64 l.length
 k: ∃k cw,Wf tm=nI .i64 k∧k+m=l.length∧H.t.get q=some (y6 e av dv cw)∧Pu H cw 55 35 (Nq (l.take k)) Hs.nx
 keep:Yw Hs H [q]
def OCQ(Hs:Heap)(q:Nat)(e:Uk)(av dv w0 ev:AV)(len i:Nat)(l:List Mq)(o:Out)(tm:TM)(H:Heap):Prop:=o=.exit 2∧X5 tm=.ptr q 0∧Xm tm=w0∧YG tm=ev∧Yz tm=nI .i64 len∧Yn tm=nI .i64 i∧Yw Hs H [q]∧ ∃cw,H.t.get q=some (y6 e av dv cw)∧Pu H cw 55 35 (Nq l) Hs.nx
theorem nH{Hs:Heap}{q:Nat}{e:Uk}{av dv cv w0 ev:AV}{len i:Nat}{l:List Mq}(hl:l.length<=90000)(hs: ∀x∈l,x.sum.length=32)(hro:Hs.ro<=q)(hq:q<Hs.nx)(hN: ∀H,Yw Hs H [q]->Sz H 35 cv (Nq l))(cx:Ctx)(X0:X)(m:Nat)(tm:TM)(H:Heap)(hI:aq Hs q e av dv cv w0 ev len i l m tm H):
  ∃o tm' H',GV cx tm H X0=.ok o tm' H' X0∧((o=.normal∧ ∃k,k<m∧aq Hs q e av dv cv w0 ev len i l k tm' H')∨(o≠.normal∧OCQ Hs q e av dv w0 ev len i l o tm' H')):=by
 obtain⟨t6,t3,t10,t11,t12,t24,t25,⟨k,cw,t26,hkm,gq,hw⟩,k0⟩:=hI
 have AQ:=t6;have KW:=t3;have Lz:=t10;have MB:=t11;have MC:=t12;have uJ:=t24;have Zez:=t25
 simp only[Fq] at t6
 simp only[xc] at t24
 simp only[dR] at t25
 simp only[dS] at t26
 have n0:=k0.nx
 have roH:H.ro<=q:=by rw[k0.ro];exact hro
 cases m with
 |zero=>
  have d1:decide (k<l.length)=false:=Zj (by omega)
  simp(maxSteps:=4000000) (disch:=first|assumption|omega|(simp -implicitDefEqProofs only[Yr,Ys]<;>first|assumption|omega)|decide) only[t25,t26,d1,ZG,Zz,ZK,ZT,ZP,ZS,Z9,Ya,ZO,Z8,Yc,Yb,Zx,Zt,Zs,ZU,Nat.reduceSub,Nat.reduceAdd,Nat.reduceLeDiff,Zi,Zh,Nat.reduceEqDiff,decide_true,decide_false,ZJ,Zf,Zd,YH,YJ,ZZ,ZC,Zv,ZY,ZX,ZM,Zk,Zl,Yf,ZD,Zd,Zf,Yg,ZV,Ye,U3,Yj,Zn,Zw,Zq,ZA,Zo,Zp,Zm,Zu,YW,YX,Y5,Y4,YI,Y3,Xg,ZQ,XB,Xe,XL,XM,XN,Xc,ZO,GV,YU,WD,Yp,Yq,ZE,ZH,ZF,Nat.reduceEqDiff,reduceCtorEq,WE,UF]
  obtain rfl:k=l.length:=by omega
  rw[V1] at hw
  refine⟨_,_,_,rfl,?_⟩
  exact .inr ⟨by simp,rfl,AQ,KW,Lz,MB,MC,k0,cw,gq,hw⟩
 |succ m=>
  have d1:decide (k<l.length)=true:=Zr (by omega)
  have hk:k<l.length:=by omega
  have hS:=hN H k0
  obtain⟨b,o,r,eI,hb,gb,eL,eE⟩:=hS.at_ (i:=k) (by rw[TX];omega)
  rw[KL hk] at eL
  have hsum:(l.getD k default).sum.length=32:=hs _ (by rw[ZN,ZW hk];exact Vc hk)
  have htk:l.take (k+1)=l.take k++[l.getD k default]:=by
   rw[List.take_add_one,ZN,ZW hk];rfl
  generalize hx:l.getD k default=x at*
  have xl:(TW x).length=35:=by unfold TW;simp[hsum]
  obtain⟨H1,hH1⟩: ∃G,H.new (rG 108 1 (TW x) 0 false true true)=G:=⟨_,rfl⟩
  have k1:Yw H H1 []:=by rw[<-hH1];exact Yw.new _ _ _
  have El:Yw Hs H1 [q]:=k0.trans k1 (by intro x hx;cases hx)
  have Kd:H1.nx=H.nx+1:=by rw[<-hH1];rfl
  have g1:H1.t.get H.nx=some (rG 108 1 (TW x) 0 false true true):=by rw[<-hH1];exact YN rfl _
  have gbz:(H.new (rG 108 1 z35 0 false true true)).t.get b=some (.row r):=by rw[WH (by omega)];exact gb
  have sf:=TL (n:=35) (b:=H.nx) (l:=z35) (vs:=TW x) (H:=H.new (rG 108 1 z35 0 false true true)) Ln xl (by decide) (by show H.ro<=_;omega) 108 1 false true
  rw[Ty rfl,hH1] at sf
  have gz:=λ(G:Heap)=>YN (H:=H) rfl (rG 108 1 z35 0 false true true)
  have it:H1.t.get q=some (y6 e av dv cw):=by rw[k1.get _ (by omega) (by simp)];exact gq
  have lx: ∀G,pk 35 (some (rG 108 1 (TW x) 0 false true true)) 0 G=.val (.agg (TW x)) G:=λG=>by
   rw[VQ (by rw[xl];decide),Zw,VI (by rw[xl];decide)]
  have w1:Pu H1 cw 55 35 (Nq (l.take k)) Hs.nx:=hw.mv (λb hb=>k1.get _ ((TT hw).2.2.2 b hb).2 (by simp)) k1.ro k1.nx
  obtain⟨lw,sw,cww,bw⟩:=TT w1
  obtain⟨w',H2,ea,w2,k2,hb2,n2⟩:=xI (bytes:=56) w1 (by decide) (by decide) (by rw[TX,Xo];omega) (by rw[El.ro];omega) (by omega) (x:=TW x) xl
  have bs:=λG=>Zal (e:=55) (sz:=35) (by decide) Ln xl G
  have tf:H2.t.get q=some (y6 e av dv cw):=by rw[k2.get _ (by omega) (λh=>by have:=(bw _ h).1;omega)];exact it
  have lq: ∀G,ld1 (some (y6 e av dv cw)) 11 G=.val cw G:=λG=>by unfold y6;rw[X1 (show 11<12 by decide)];rfl
  obtain⟨_,_,cw',bw'⟩:=TT w2
  have sq:xS 1 (some (y6 e av dv cw)) q 11 w' H2=.val WK (H2.put q (y6 e av dv w')):=by
   unfold y6
   rw[Mn cw' (show 11<12 by decide) (by rw[k2.ro,El.ro];exact hro) (Zi _)];rfl
  simp(maxSteps:=4000000) (disch:=first|assumption|omega|(simp -implicitDefEqProofs only[Yr,Ys]<;>first|assumption|omega)|decide) only[t6,t24,t25,t26,d1,eI,gb,gbz,eL,gz,sf,hH1,g1,it,tf,lx,lq,sq,bs,ea,X1,V7,ZG,Zz,ZK,ZT,ZP,ZS,Z9,Ya,ZO,Z8,Yc,Yb,Zx,Zt,Zs,ZU,Nat.reduceSub,Nat.reduceAdd,Nat.reduceLeDiff,Zi,Zh,Nat.reduceEqDiff,decide_true,decide_false,ZJ,Zf,Zd,YH,YJ,ZZ,ZC,Zv,ZY,ZX,ZM,Zk,Zl,Yf,ZD,Zd,Zf,Yg,ZV,Ye,U3,Yj,Zn,Zw,Zq,ZA,Zo,Zp,Zm,Zu,YW,YX,Y5,Y4,YI,Y3,Xg,ZQ,XB,Xe,XL,XM,XN,Xc,ZO,GV,YU,WD,Yp,Yq,ZE,ZH,ZF,Nat.reduceEqDiff,reduceCtorEq,WE,UF]
  have kQ:Yw Hs (H2.put q (y6 e av dv w')) [q]:=(El.trans k2 (λx hx hlt=>by have:=(bw _ hx).1;omega)).then_put (λ_=>by simp)
  refine⟨_,_,_,rfl,.inl ⟨rfl,m,by omega,AQ,KW,Lz,MB,MC,uJ,Zez,⟨k+1,w',rfl,by omega,UQ ..,?_⟩,kQ⟩⟩
  rw[htk,wj]
  exact w2.mv (λb hb=>Rl (λe=>by have:=(bw' b hb).1;omega) ..) rfl (Z2 _)
structure au(H0:Heap)(ev:AV)(L:List Uk)(m:Nat)(tm:TM)(H:Heap):Prop where
 t10:YG tm=ev
 t11:Yz tm=nI .i64 L.length
 i: ∃i w Ls,Yn tm=nI .i64 i∧Xm tm=w∧i+m=L.length∧Pu H w 42 12 Ls H0.nx∧Ls.length=i∧ ∀j,j<i->KZ H (QG w) (Ls.getD j []) (L.getD j default)
 k:Yw H0 H []
def OEQ(H0:Heap)(L:List Uk)(o:Out)(tm:TM)(H:Heap):Prop:=o=.exit 0∧Yw H0 H []∧ ∃w Ls,Xm tm=w∧Sz H 12 w Ls∧Ls.length=L.length∧ ∀j,j<L.length->KZ H (QG w) (Ls.getD j []) (L.getD j default)
theorem nJ{Z7:Lib}{fs:T CF}{fuel:Nat}(E:Env Z7 fs fuel){ev:AV}{L:List Uk}(hl:L.length<=90000)(hsh: ∀i,i<L.length->Q7 (L.getD i default)){H0:Heap}(hro:H0.ro<=H0.nx)(hN:QE H0 ev L)(cl y f q)(X0:X)(m:Nat)(tm:TM)(H:Heap)(hI:au H0 ev L m tm H):
  ∃o tm' H',I7 ⟨cl,y,f,fuel,q⟩ tm H X0=.ok o tm' H' X0∧((o=.normal∧ ∃k,k<m∧au H0 ev L k tm' H')∨(o≠.normal∧OEQ H0 L o tm' H')):=by
 obtain⟨t10,t11,⟨i,w,Ls,t12,t3,him,hw,sN,hE⟩,kk⟩:=hI
 have Lz:=t10;have MB:=t11;have KW:=t3;have MC:=t12
 simp only[Fp] at t3
 simp only[Df] at t10
 simp only[Dg] at t11
 simp only[Ik] at t12
 have n0:=kk.nx
 have hroH:H.ro<=H0.nx:=by rw[kk.ro];exact hro
 cases m with
 |zero=>
  have d1:decide (i<L.length)=false:=Zj (by omega)
  simp(maxSteps:=4000000) (disch:=first|assumption|omega|(simp -implicitDefEqProofs only[Yr,Ys]<;>first|assumption|omega)|decide) only[t11,t12,d1,ZG,Zz,ZK,ZT,ZP,ZS,Z9,Ya,ZO,Z8,Yc,Yb,Zx,Zt,Zs,ZU,Nat.reduceSub,Nat.reduceAdd,Nat.reduceLeDiff,Zi,Zh,Nat.reduceEqDiff,decide_true,decide_false,ZJ,Zf,Zd,YH,YJ,ZZ,ZC,Zv,ZY,ZX,ZM,Zk,Zl,Yf,ZD,Zd,Zf,Yg,ZV,Ye,U3,Yj,Zn,Zw,Zq,ZA,Zo,Zp,Zm,Zu,YW,YX,Y5,Y4,YI,Y3,Xg,ZQ,XB,Xe,XL,XM,XN,Xc,ZO,I7,YU,WD,Yp,Yq,ZE,ZH,ZF,Nat.reduceEqDiff,reduceCtorEq,WE,UF]
  obtain rfl:i=L.length:=by omega
  refine⟨_,_,_,rfl,?_⟩
  exact .inr ⟨by simp,rfl,kk,w,Ls,KW,.inr (Sl.of_buf hw),sN,hE⟩
 |succ m=>
  have d1:decide (i<L.length)=true:=Zr (by omega)
  have hi:i<L.length:=by omega
  obtain⟨La,hS0,iv,sL⟩:=hN
  have hS:=hS0.keep0 kk
  obtain⟨bb,o,r,eI,hb,gb,eL,eE⟩:=hS.at_ (i:=i) (by omega)
  have Dh:=sL i hi
  have Gs:=hsh i hi
  obtain⟨e,he⟩: ∃e,L.getD i default=e:=⟨_,rfl⟩
  rw[he] at Dh Gs
  obtain⟨av,dv,cv,ecs,hA,hD,hC⟩:=Dh
  have ecs:La.getD i []=[.str e.mem.path,.int .i64 e.mem.kind,nI .u32 e.mem.mode,nI .u32 e.mem.uid,nI .u32 e.mem.gid,.int .i64 e.mem.time,av,dv,.str e.mem.link,.int .i64 e.size,.int .i64 e.head,cv]:=ecs
  rw[ecs] at eL
  obtain⟨H1,hH1⟩: ∃G,H.new (rG 31 1 [.str e.mem.path,.int .i64 e.mem.kind,nI .u32 e.mem.mode,nI .u32 e.mem.uid,nI .u32 e.mem.gid,.int .i64 e.mem.time,av,dv,.str e.mem.link,.int .i64 e.size,.int .i64 e.head,cv] 0 false true true)=G:=⟨_,rfl⟩
  have k1:Yw H H1 []:=by rw[<-hH1];exact Yw.new _ _ _
  have Kd:H1.nx=H.nx+1:=by rw[<-hH1];rfl
  have jQ:H1.ro<=H1.nx:=by rw[k1.ro];omega
  have g5:H1.t.get H.nx=some (rG 31 1 [.str e.mem.path,.int .i64 e.mem.kind,nI .u32 e.mem.mode,nI .u32 e.mem.uid,nI .u32 e.mem.gid,.int .i64 e.mem.time,av,dv,.str e.mem.link,.int .i64 e.size,.int .i64 e.head,cv] 0 false true true):=by rw[<-hH1];exact YN rfl _
  have gbz: ∀ob,(H.new ob).t.get bb=some (.row r):=λob=>by rw[WH (by omega)];exact gb
  have cvA:=hA.cells
  have aE:=hD.cells
  have cvC:=hC.cells
  have sf:=TL (n:=12) (b:=H.nx) (l:=[.str [],nI .i64 0,nI .u32 0,nI .u32 0,nI .u32 0,nI .i64 0,.nils,.nils,.str [],nI .i64 0,nI .i64 0,.nils]) (vs:=[.str e.mem.path,.int .i64 e.mem.kind,nI .u32 e.mem.mode,nI .u32 e.mem.uid,nI .u32 e.mem.gid,.int .i64 e.mem.time,av,dv,.str e.mem.link,.int .i64 e.size,.int .i64 e.head,cv]) (H:=H.new (rG 31 1 [.str [],nI .i64 0,nI .u32 0,nI .u32 0,nI .u32 0,nI .i64 0,.nils,.nils,.str [],nI .i64 0,nI .i64 0,.nils] 0 false true true)) rfl rfl (by decide) (by show H.ro<=_;omega) 31 1 false true
  rw[Ty rfl,hH1] at sf
  have gz:=λ(ob:Obj)=>YN (H:=H) rfl ob
  have b3: ∀G,LI [.str [],nI .i64 0,nI .u32 0,nI .u32 0,nI .u32 0,nI .i64 0,.nils,.nils,.str [],nI .i64 0,nI .i64 0,.nils] [(0,9,.agg [.str e.mem.path,.int .i64 e.mem.kind,nI .u32 e.mem.mode,nI .u32 e.mem.uid,nI .u32 e.mem.gid,.int .i64 e.mem.time,av,dv,.str e.mem.link]),(9,1,.int .i64 e.size),(10,1,.int .i64 e.head)] G=.val (.agg [.str e.mem.path,.int .i64 e.mem.kind,nI .u32 e.mem.mode,nI .u32 e.mem.uid,nI .u32 e.mem.gid,.int .i64 e.mem.time,av,dv,.str e.mem.link,.int .i64 e.size,.int .i64 e.head,.nils]) G:=λ_=>rfl
  obtain⟨Hs,sM⟩: ∃G,H1.new (y6 e av dv .nils)=G:=⟨_,rfl⟩
  have ZdF:H1.new (rG 42 1 [.str e.mem.path,.int .i64 e.mem.kind,nI .u32 e.mem.mode,nI .u32 e.mem.uid,nI .u32 e.mem.gid,.int .i64 e.mem.time,av,dv,.str e.mem.link,.int .i64 e.size,.int .i64 e.head,.nils] 0 false true true)=Hs:=sM
  have ks:Yw H1 Hs []:=by rw[<-sM];exact Yw.new _ _ _
  have nxs:Hs.nx=H.nx+1+1:=by rw[<-sM,My,Kd]
  have sg:=TL (n:=12) (b:=H1.nx) (l:=[.str [],nI .i64 0,nI .u32 0,nI .u32 0,nI .u32 0,nI .i64 0,.nils,.nils,.str [],nI .i64 0,nI .i64 0,.nils]) (vs:=[.str e.mem.path,.int .i64 e.mem.kind,nI .u32 e.mem.mode,nI .u32 e.mem.uid,nI .u32 e.mem.gid,.int .i64 e.mem.time,av,dv,.str e.mem.link,.int .i64 e.size,.int .i64 e.head,.nils]) (H:=H1.new (rG 42 1 [.str [],nI .i64 0,nI .u32 0,nI .u32 0,nI .u32 0,nI .i64 0,.nils,.nils,.str [],nI .i64 0,nI .i64 0,.nils] 0 false true true)) rfl rfl (by decide) (by show H1.ro<=_;exact jQ) 42 1 false true
  rw[Ty rfl,ZdF] at sg
  have gm:=λ(ob:Obj)=>YN (H:=H1) rfl ob
  have g5s:Hs.t.get H.nx=some (rG 31 1 [.str e.mem.path,.int .i64 e.mem.kind,nI .u32 e.mem.mode,nI .u32 e.mem.uid,nI .u32 e.mem.gid,.int .i64 e.mem.time,av,dv,.str e.mem.link,.int .i64 e.size,.int .i64 e.head,cv] 0 false true true):=by rw[<-sM,WH (by omega)];exact g5
  have gqs:Hs.t.get H1.nx=some (y6 e av dv .nils):=by rw[<-sM];exact YN rfl _
  have bh:Yw H0 Hs []:=(kk.trans' k1).trans' ks
  have lcc:=λG=>hC.len G
  rw[TX] at lcc
  have hcl:=Gs.chunks
  simp(maxSteps:=4000000) (disch:=first|assumption|omega|(simp -implicitDefEqProofs only[Yr,Ys]<;>first|assumption|omega)|decide) only[t3,t10,t11,t12,d1,eI,gb,gbz,eL,gz,sf,hH1,g5,g5s,b3,sg,gm,lcc,X1,VQ,M8,VC,Qn,ZG,Zz,ZK,ZT,ZP,ZS,Z9,Ya,ZO,Z8,Yc,Yb,Zx,Zt,Zs,ZU,Nat.reduceSub,Nat.reduceAdd,Nat.reduceLeDiff,Zi,Zh,Nat.reduceEqDiff,decide_true,decide_false,ZJ,Zf,Zd,YH,YJ,ZZ,ZC,Zv,ZY,ZX,ZM,Zk,Zl,Yf,ZD,Zd,Zf,Yg,ZV,Ye,U3,Yj,Zn,Zw,Zq,ZA,Zo,Zp,Zm,Zu,YW,YX,Y5,Y4,YI,Y3,Xg,ZQ,XB,Xe,XL,XM,XN,Xc,ZO,I7,YU,WD,Yp,Yq,ZE,ZH,ZF,Nat.reduceEqDiff,reduceCtorEq,WE,UF]
  generalize hL:TH (GV _) fuel _ _ _=Lp
  obtain⟨oc,MR,H2,rfl,_,rfl,s6,s3,s10,s11,s12,k2,cw,tf,hcw⟩:=WW (P:=λT=>aq Hs H1.nx e av dv cv w ev L.length i e.chunks e.chunks.length T Hs) (Q:=OCQ Hs H1.nx e av dv w ev L.length i e.chunks)
   (λT hi=>Vd (aq Hs H1.nx e av dv cv w ev L.length i e.chunks) (OCQ Hs H1.nx e av dv w ev L.length i e.chunks) (λm tm H2 h=>nH hcl Gs.sums (by rw[bh.ro];omega) (by omega) (λG hG=>(hC.keep0 bh).move hG (λb hb hm=>by have:=hC.lt b hb;rw[YM.1 hm] at this;omega)) _ _ m tm H2 h) fuel e.chunks.length T Hs (by have:=E.big;omega) hi) hL
   (by exact⟨rfl,KW,Lz,MB,MC,rfl,rfl,⟨0,.nils,rfl,by omega,gqs,.inl ⟨by unfold Nq;simp,rfl⟩⟩,Yw.refl _ _⟩)
  have s3':=s3;have jS:=s10;have jT:=s11;have Zex:=s12
  simp only[Fq] at s6
  simp only[Fp] at s3
  simp only[Ik] at s12
  have n2:=k2.nx
  obtain⟨lC,smC,cvCw,bwC⟩:=TT hcw
  have lx: ∀G,pk 12 (some (y6 e av dv cw)) 0 G=.val (.agg [.str e.mem.path,.int .i64 e.mem.kind,nI .u32 e.mem.mode,nI .u32 e.mem.uid,nI .u32 e.mem.gid,.int .i64 e.mem.time,av,dv,.str e.mem.link,.int .i64 e.size,.int .i64 e.head,cw]) G:=λG=>by unfold y6;rw[VQ (show 0+12<=12 by decide)];rfl
  have up: ∀{c},c<H.nx->H2.t.get c=H.t.get c:=λ{c} hc=>by
   rw[k2.get _ (by omega) (by simp;omega),ks.get _ (by omega) (by simp),k1.get _ hc (by simp)]
  have Fw:Yw H H2 []:=⟨by omega,by rw[k2.ro,ks.ro,k1.ro],λc hc _=>up hc⟩
  obtain⟨lwA,swA,cwA,uZ⟩:=TT hw
  have w4:Pu H2 w 42 12 Ls H0.nx:=hw.mv (λb hb=>up (uZ b hb).2) Fw.ro Fw.nx
  obtain⟨w',H5,ea,w5,k5,hb5,n5⟩:=xI (bytes:=152) w4 (by decide) (by decide) (by omega) (by rw[Fw.ro];omega) (by omega) (x:=[.str e.mem.path,.int .i64 e.mem.kind,nI .u32 e.mem.mode,nI .u32 e.mem.uid,nI .u32 e.mem.gid,.int .i64 e.mem.time,av,dv,.str e.mem.link,.int .i64 e.size,.int .i64 e.head,cw]) rfl
  have bs: ∀G,ON 42 12 1 [.str [],nI .i64 0,nI .u32 0,nI .u32 0,nI .u32 0,nI .i64 0,.nils,.nils,.str [],nI .i64 0,nI .i64 0,.nils] [(0,12,.agg [.str e.mem.path,.int .i64 e.mem.kind,nI .u32 e.mem.mode,nI .u32 e.mem.uid,nI .u32 e.mem.gid,.int .i64 e.mem.time,av,dv,.str e.mem.link,.int .i64 e.size,.int .i64 e.head,cw])] G=.val (.slice G.nx 0 1 none) (G.new (rG 42 12 [.str e.mem.path,.int .i64 e.mem.kind,nI .u32 e.mem.mode,nI .u32 e.mem.uid,nI .u32 e.mem.gid,.int .i64 e.mem.time,av,dv,.str e.mem.link,.int .i64 e.size,.int .i64 e.head,cw] 0 false true true)):=λ_=>rfl
  simp(maxSteps:=4000000) (disch:=first|assumption|omega|(simp -implicitDefEqProofs only[Yr,Ys]<;>first|assumption|omega)|decide) only[s3,s6,s12,tf,lx,bs,ea,ZG,Zz,ZK,ZT,ZP,ZS,Z9,Ya,ZO,Z8,Yc,Yb,Zx,Zt,Zs,ZU,Nat.reduceSub,Nat.reduceAdd,Nat.reduceLeDiff,Zi,Zh,Nat.reduceEqDiff,decide_true,decide_false,ZJ,Zf,Zd,YH,YJ,ZZ,ZC,Zv,ZY,ZX,ZM,Zk,Zl,Yf,ZD,Zd,Zf,Yg,ZV,Ye,U3,Yj,Zn,Zw,Zq,ZA,Zo,Zp,Zm,Zu,YW,YX,Y5,Y4,YI,Y3,Xg,ZQ,XB,Xe,XL,XM,XN,Xc,ZO,I7,YU,WD,Yp,Yq,ZE,ZH,ZF,Nat.reduceEqDiff,reduceCtorEq,WE,UF]
  have hS': ∀b∈QG w',b∈QG w∨H2.nx<=b:=λb hb=>.inr (hb5 b hb)
  have hnew:KZ H2 (QG w) [.str e.mem.path,.int .i64 e.mem.kind,nI .u32 e.mem.mode,nI .u32 e.mem.uid,nI .u32 e.mem.gid,.int .i64 e.mem.time,av,dv,.str e.mem.link,.int .i64 e.size,.int .i64 e.head,cw] e:=by
   refine⟨av,dv,cw,rfl,hA.keep0 (kk.trans' Fw),hD.keep0 (kk.trans' Fw),.inr (Sl.of_buf hcw),λb hb hm=>?_,λb hb hm=>?_,λb hb hm=>?_⟩
   ·have:=hA.lt b hb;have:=(uZ b hm).1;omega
   ·have:=hD.lt b hb;have:=(uZ b hm).1;omega
   ·have:=(bwC b hb).1;have:=(uZ b hm).2;omega
  refine⟨_,_,_,rfl,.inl ⟨rfl,m,by omega,jS,jT,⟨i+1,w',Ls++[[.str e.mem.path,.int .i64 e.mem.kind,nI .u32 e.mem.mode,nI .u32 e.mem.uid,nI .u32 e.mem.gid,.int .i64 e.mem.time,av,dv,.str e.mem.link,.int .i64 e.size,.int .i64 e.head,cw]],rfl,rfl,by omega,w5,by rw[X3,sN];rfl,λj hj=>?_⟩,?_⟩⟩
  ·refine KZ.keep (S:=QG w) ?_ k5 hS'
   by_cases hj2:j<i
   ·have:=(hE j hj2).keep (S':=QG w) Fw.more (λb hb=>.inl hb)
    rw[ZN,Xb (by omega),<-ZN]
    exact this
   ·obtain rfl:j=i:=by omega
    rw[ZN,Xs (by omega),sN,NB,he]
    exact hnew
  ·exact(kk.trans' Fw).trans k5 (by intro x hx hlt;have:=(uZ x hx).1;omega)
theorem of_run{Z7:Lib}{fs:T CF}{fuel:Nat}(E:Env Z7 fs fuel){k0 n:Nat}{ev:AV}{L:List Uk}(hl:L.length<=90000)(hsh: ∀i,i<L.length->Q7 (L.getD i default)){H:Heap}(hro:H.ro<=H.nx)(hN:QE H ev L):
  ∃w H',Xd (LK Z7 fs fuel k0) fs fuel (n+1) 17 [.agg [ev]] H=.ret w H'∧QE H' w L∧Yw H H' []:=by
 rw[XR (Xk E.n17 (.inr rfl) _ _) E.f17]
 have hcv:=hN.cells
 have ln:=hN.len
 obtain⟨H1,hH1⟩: ∃G,H.new (OP ev)=G:=⟨_,rfl⟩
 have hb1:H.new (rG 47 1 [ev] 0 false true true)=H1:=hH1
 have k1:Yw H H1 []:=by rw[<-hH1];exact Yw.new _ _ _
 have g1:H1.t.get H.nx=some (OP ev):=by rw[<-hH1];exact YN rfl _
 have CI: ∀G,ld1 (some (OP ev)) 0 G=.val ev G:=λG=>by unfold OP;rw[X1 (Xl 0)];rfl
 simp(maxSteps:=4000000) (disch:=first|assumption|omega|(simp -implicitDefEqProofs only[Yr,Ys]<;>first|assumption|omega)|decide) only[Vy,hcv,hb1,g1,CI,ln,ZG,Zz,ZK,ZT,ZP,ZS,Z9,Ya,ZO,Z8,Yc,Yb,Zx,Zt,Zs,ZU,Nat.reduceSub,Nat.reduceAdd,Nat.reduceLeDiff,Zi,Zh,Nat.reduceEqDiff,decide_true,decide_false,ZJ,Zf,Zd,YH,YJ,ZZ,ZC,Zv,ZY,ZX,ZM,Zk,Zl,Yf,ZD,Zd,Zf,Yg,ZV,Ye,U3,Yj,Zn,Zw,Zq,ZA,Zo,Zp,Zm,Zu,YW,YX,Y5,Y4,YI,Y3,Xg,ZQ,XB,Xe,XL,XM,XN,Xc,ZO,c17,YU,WD,Yp,Yq,ZE,ZH,ZF,Nat.reduceEqDiff,reduceCtorEq,WE,UF]
 generalize hL:TH (I7 _) fuel _ _ _=Lp
 obtain⟨oc,MR,H4,rfl,_,rfl,k4,w,Ls,t3,hS,sN,hE⟩:=WW (P:=λT=>au H1 ev L L.length T H1) (Q:=OEQ H1 L)
  (λT hi=>Vd (au H1 ev L) (OEQ H1 L) (λm tm H4 h=>nJ E hl hsh (by rw[k1.ro];exact YZ hro k1.nx) (hN.keep k1) _ _ _ _ _ m tm H4 h) fuel L.length T H1 (by have:=E.big;omega) hi) hL
  (by exact⟨rfl,rfl,⟨0,.nils,[],rfl,rfl,by omega,.inl ⟨rfl,rfl⟩,rfl,λj hj=>by omega⟩,Yw.refl _ _⟩)
 simp only[Fp] at t3
 simp(maxSteps:=4000000) (disch:=first|assumption|omega|(simp -implicitDefEqProofs only[Yr,Ys]<;>first|assumption|omega)|decide) only[t3,ZG,Zz,ZK,ZT,ZP,ZS,Z9,Ya,ZO,Z8,Yc,Yb,Zx,Zt,Zs,ZU,Nat.reduceSub,Nat.reduceAdd,Nat.reduceLeDiff,Zi,Zh,Nat.reduceEqDiff,decide_true,decide_false,ZJ,Zf,Zd,YH,YJ,ZZ,ZC,Zv,ZY,ZX,ZM,Zk,Zl,Yf,ZD,Zd,Zf,Yg,ZV,Ye,U3,Yj,Zn,Zw,Zq,ZA,Zo,Zp,Zm,Zu,YW,YX,Y5,Y4,YI,Y3,Xg,ZQ,XB,Xe,XL,XM,XN,Xc,ZO,c17,YU,WD,Yp,Yq,ZE,ZH,ZF,Nat.reduceEqDiff,reduceCtorEq,WE,UF]
 exact⟨_,_,rfl,⟨Ls,hS,sN,λj hj=>(hE j hj).toC⟩,k1.trans' k4⟩
end
end Go.AI
