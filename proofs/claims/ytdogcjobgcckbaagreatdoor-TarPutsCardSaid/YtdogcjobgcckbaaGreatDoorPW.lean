/- Members put as a tar, by both: walked: proved without conditions but those that each names. -/
import Derived.Test.YtdogcjobgcckbaaGreatDoorPV
set_option maxRecDepth 1000000
set_option maxHeartbeats 0
set_option linter.unusedVariables false
set_option linter.unusedSimpArgs false
namespace Go.AI
open Go
noncomputable section
section
variable {Zn:Lib} {fs:T CF} {fuel k n i h b:Nat} {H H0:Heap} {s:List UInt8} {cs:List AV}
theorem UC{l w:List UInt8}{a:Nat}(hl:l.length=512)(h:a+n<=512):(Ti l a n w).length=512:=by rw[uI (by omega),hl]
theorem DH(t:Nat):(Nh t).length=512:=by
 unfold Nh
 exact UC (UC (UC P2 (by decide)) (by decide)) (by decide)
theorem zZ{l:List UInt8}(h:l.length=512):(J6 l).length=512:=by unfold J6;exact UC h (by decide)
theorem uo(r:Nat):(qh r).length=512:=by
 unfold qh
 exact zZ (UC (UC (UC (UC (UC (UC (DH _) (by decide)) (by decide)) (by decide)) (by decide)) (by decide)) (by decide))
theorem C0{x:Ab}{L:List UInt8}(hl:L.length=512)(h:x.at_+x.wid<=512):(EX x L).length=512:=by
 unfold EX
 split
 ·exact UC hl h
 ·exact UC hl h
theorem Ja(m:Mem):(ED m).length=512:=by
 unfold ED pO lE o9 xC
 rw[Wf,Wf,Wf,List.foldl_nil]
 exact zZ (UC (UC (C0 (C0 (C0 (UC (UC (UC (DH _) (by decide)) (by decide)) (by decide)) (show 108+8<=512 by decide)) (show 116+8<=512 by decide)) (show 136+12<=512 by decide)) (by decide)) (by decide))
theorem uk(n:Nat):(n+VJ n) % 512=0:=by unfold VJ;omega
theorem Gv(n:Nat):VJ n<512:=WF _ (by decide)
theorem zp(m:Mem):(R0 m).length % 512=0:=by
 unfold R0
 split
 ·rw[Ja]
 ·have h:=uk (Sv (Tq m)).length
  rw[Zj,Zj,Zj,ZH,uo,Ja]
  omega
theorem fB{m:Mem}(h:Dv m)(hm:Pb m.attrs=true):(R0 m).length<=2000000:=by
 obtain⟨r1,r2⟩:=xR h hm
 unfold R0
 split
 ·rw[Ja];decide
 ·have h1:=MR (l:=Tq m) λx hx=>(r1 x hx).2
  have h2:=Gv (Sv (Tq m)).length
  rw[Zj,Zj,Zj,ZH,uo,Ja]
  omega
instance:Inhabited Mem:=⟨⟨[],0,0,0,0,0,[],[],[]⟩⟩
def tI(H:Heap)(cs:List AV)(m:Mem):Prop:= ∃av dv,cs=[.str m.path,.int .i64 m.kind,nI .u32 m.mode,nI .u32 m.uid,nI .u32 m.gid,.int .i64 m.time,av,dv,.str m.link]∧Sz H 2 av (V8 m.attrs)∧BV H dv m.data∧ ∀b∈XP dv,b<H.nx
theorem AA{v:AV}(h: ∀b∈XP v,b<n): ∀b o m c,v=.slice b o m c->b<n:=λb o m c e=>h b (by rw[e];simp[XP])
theorem tI.toC{m:Mem}(h:tI H cs m):QN H cs m:=by
 obtain⟨av,dv,e,h1,h2,h3⟩:=h
 exact⟨av,dv,e,h1,jS h2 (AA h3)⟩
theorem tI.keep{H H':Heap}{m:Mem}(h:tI H cs m)(k:Zs H H' []):tI H' cs m:=by
 obtain⟨av,dv,e,h1,h2,h3⟩:=h
 exact⟨av,dv,e,h1.keep0 k,h2.keep k (λ_ _ _ _ _=>by simp),λb hb=>ZT (h3 b hb) k.nx⟩
def OT(H:Heap)(v:AV)(L:List Mem):Prop:= ∃ls,Sl H 9 v ls∧ls.length=L.length∧ ∀i,i<L.length->tI H (ls.getD i []) (L.getD i default)
theorem OT.keep{H H':Heap}{v:AV}{L:List Mem}(h:OT H v L)(k:Zs H H' []):OT H' v L:=by
 obtain⟨ls,h1,h2,h3⟩:=h
 exact⟨ls,h1.keep0 k,h2,λi hi=>(h3 i hi).keep k⟩
theorem OT.len{v:AV}{L:List Mem}(h:OT H v L)(G:Heap):NV v G=.val (nI .i64 L.length) G:=by
 obtain⟨ls,h1,h2,h3⟩:=h
 rw[h1.len,h2]
theorem OT.at_{v:AV}{L:List Mem}(h:OT H v L)(hi:i<L.length): ∃bb o r cs,(∀(k:IntKind) (G:Heap),Gd 9 v (nI k i) G=.val (.ptr bb o) G)∧bb<H.nx∧H.t.get bb=some (.row r)∧(∀G,EW 9 (some (.row r)) o G=.val (.agg cs) G)∧(∀j G,j<9->ld1 (some (.row r)) (o+j) G=.val (cs.getD j .unk) G)∧tI H cs (L.getD i default):=by
 obtain⟨ls,h1,h2,h3⟩:=h
 obtain⟨bb,o,r,eI,hb,gb,eL,eE⟩:=(show Sz H 9 v ls from .inr h1).at_ (i:=i) (by omega)
 exact⟨bb,o,r,ls.getD i [],eI,hb,gb,eL,eE,h3 i hi⟩
theorem Kt{L:List Mem}(hi:i<L.length):L.getD i default∈L:=by rw[Zf,Zl hi];exact Xd hi
theorem jq(E:Env Zn fs fuel){m:Mem}(hs:JJ m)(gP:Nd H)(hC:QN H cs m):
  ∃H',ZE (LK Zn fs fuel 12) fs fuel (n+2) 17 [.agg cs] H=.ret (.bool (!YZ m)) H'∧Zs H H' []:=by
 rw[ZI (ZA E.n17 (.inl (by decide)) _ _) E.f17]
 have hC0:=hC
 obtain⟨av,dv,rfl,hA,hD⟩:=hC
 have bx: ∀G:Heap,Ni 36 (.agg [.str m.path,.int .i64 m.kind,nI .u32 m.mode,nI .u32 m.uid,nI .u32 m.gid,.int .i64 m.time,av,dv,.str m.link]) G=.val (.ptr G.nx 0) (G.new (rH 36 [.str m.path,.int .i64 m.kind,nI .u32 m.mode,nI .u32 m.uid,nI .u32 m.gid,.int .i64 m.time,av,dv,.str m.link])):=λG=>XS (l:=[.str m.path,.int .i64 m.kind,nI .u32 m.mode,nI .u32 m.uid,nI .u32 m.gid,.int .i64 m.time,av,dv,.str m.link]) (show 1<=9 by decide) 36 G
 obtain⟨H1,hH1⟩:=Sa (H.new (rH 36 [.str m.path,.int .i64 m.kind,nI .u32 m.mode,nI .u32 m.uid,nI .u32 m.gid,.int .i64 m.time,av,dv,.str m.link]))
 have k1:Zs H H1 []:=by rw[<-hH1];exact Zs.new _ _ _
 have g1:H1.t.get H.nx=some (rH 36 [.str m.path,.int .i64 m.kind,nI .u32 m.mode,nI .u32 m.uid,nI .u32 m.gid,.int .i64 m.time,av,dv,.str m.link]):=by rw[<-hH1];exact ZW rfl _
 have wm: ∀G,EW 9 (some (rH 36 [.str m.path,.int .i64 m.kind,nI .u32 m.mode,nI .u32 m.uid,nI .u32 m.gid,.int .i64 m.time,av,dv,.str m.link])) 0 G=.val (.agg [.str m.path,.int .i64 m.kind,nI .u32 m.mode,nI .u32 m.uid,nI .u32 m.gid,.int .i64 m.time,av,dv,.str m.link]) G:=λG=>Vr (show 0+9<=9 by decide) ..
 have em:=λ{j}=>x9 E (k:=12) (n:=j) (by decide) hs (gP.keep0 k1) (hC0.keep k1)
 cases hm:YZ m
 all_goals
  rw[hm] at em
  simp only[bx,hH1,g1,wm,em,Wd,Yq,Y2,c17,Zu,Ye,Zw,Z8,Z6]
  refine⟨_,rfl,?_⟩
  exact k1
theorem Zjt(E:Env Zn fs fuel)(hk:13<=k){m:Mem}(hs:JJ m)(gP:Nd H)(hC:QN H cs m):
  ZE (LK Zn fs fuel k) fs fuel (n+1) 17 [.agg cs] H=.ret (.bool (!YZ m)) H:=by
 obtain⟨H',e,g⟩:=jq E (n:=898) (H:=H) hs gP hC
 exact Yl (r:=12) rfl rfl e g (rfl) hk
structure IMI(Hs:Heap)(v:AV)(L:List Mem)(m:Nat)(tm:TM)(H:Heap):Prop where
 h:H=Hs
 t0:Yb tm=v
 t1:Wc tm=.func 17 [] []
 t7:XQ tm=nI .i64 L.length
 i: ∃i,Wi tm=nI .i64 i∧i+m=L.length∧ ∀j,j<i->YZ (L.getD j default)=true
def IMQ(Hs:Heap)(L:List Mem)(o:Out)(tm:TM)(H:Heap):Prop:=H=Hs∧((o=.ret∧ ∃p,Y4 tm=nI .i64 p∧L.all YZ=false)∨(o=.exit 0∧L.all YZ=true))
theorem ZaU(E:Env Zn fs fuel)(hk:13<=k){v:AV}{L:List Mem}{Hs:Heap}(gP:Nd Hs)(hV:OT Hs v L)(hl:L.length<=1000)(hs: ∀x∈L,JJ x)(y f dd q)(X0:X)(m:Nat)(tm:TM)(H:Heap)(hI:IMI Hs v L m tm H):
  ∃o tm' H',Fk ⟨ZE (LK Zn fs fuel k) fs fuel (n+1),y,f,dd,q⟩ tm H X0=.ok o tm' H' X0∧((o=.normal∧ ∃k,k<m∧IMI Hs v L k tm' H')∨(o≠.normal∧IMQ Hs L o tm' H')):=by
 obtain⟨rfl,t0,t1,t7,i,t8,him,hall⟩:=hI
 have t0':=t0;have t1':=t1;have KX:=t7
 simp only[Sb,Kn,LX,sW] at t0 t1 t7 t8
 cases m with
 |zero=>
  have d1:decide (i<L.length)=false:=Zb (by omega)
  simp only[t7,t8,d1,Zy,Zy,Fk,Zu,Ye,Z6]
  refine⟨_,_,_,rfl,.inr ⟨by simp,rfl,.inr ⟨rfl,?_⟩⟩⟩
  rw[Yo]
  intro x hx
  obtain⟨j,hj,rfl⟩:=TW.1 hx
  have:=hall j (by omega)
  rwa [Zf,Zl hj] at this
 |succ m=>
  have d1:decide (i<L.length)=true:=Ze (by omega)
  have hi:i<L.length:=by omega
  obtain⟨bb,o,r,cs,eI,hb,gb,eL,_,hB⟩:=hV.at_ hi
  have e1:=λ{j}=>Zjt E (k:=k) (n:=j) hk (H:=H) (hs _ (Kt hi)) gP hB.toC
  cases hm:YZ (L.getD i default) with
  |true=>
   rw[hm] at e1
   simp(disch:=omega) only[t0,t1,t7,t8,d1,eI,gb,eL,e1,Ky,XB,ZY,Yd,Yq,Zy,YI,XB,ZY,Yd,Yq,Zy,Fk,Zu,Ye,Z6]
   refine⟨_,_,_,rfl,.inl ⟨rfl,m,by omega,rfl,t0',t1',KX,i+1,rfl,by omega,λj hj=>?_⟩⟩
   by_cases h:j=i
   ·rw[h];exact hm
   ·exact hall j (by omega)
  |false=>
   rw[hm] at e1
   simp only[t0,t1,t7,t8,d1,eI,gb,eL,e1,Ky,XB,ZY,Yd,Y2,Zy,XB,ZY,Yd,Y2,Zy,Fk,Zu,Ye,Z6]
   refine⟨_,_,_,rfl,.inr ⟨by simp,rfl,.inl ⟨rfl,i,rfl,?_⟩⟩⟩
   rw[List.all_eq_false]
   exact⟨_,Kt hi,by rw[hm];simp⟩
theorem Zl2(E:Env Zn fs fuel)(hk:13<=k){v:AV}{L:List Mem}(gP:Nd H)(hV:OT H v L)(hl:L.length<=1000)(hs: ∀x∈L,JJ x):
  ZE (LK Zn fs fuel k) fs fuel (n+3) 16 [v,.func 17 [] []] H=.ret (.bool (!L.all YZ)) H:=by
 rw[ZI (ZA E.n16 (.inr rfl) _ _) E.f16]
 have hf:=E.big
 have e1: ∃w,ZE (LK Zn fs fuel k) fs fuel (n+2) 40 [v,.func 17 [] []] H=.ret w H∧((L.all YZ=false∧ ∃p,w=nI .i64 p)∨(L.all YZ=true∧w=.int .i64 (.negSucc 0))):=by
  rw[ZI (ZA E.n40 (.inr rfl) _ _) E.f40]
  have ln:=hV.len
  simp only[ln,c40,Zu,Ye,Z6]
  generalize hL:Wv (Fk _) fuel _ _ _=LL
  obtain⟨o,Pu,H2,rfl,_,h2,z⟩:=YA (P:=λT=>IMI H v L L.length T H) (Q:=IMQ H L)
   (λT hi=>YP (IMI H v L) (IMQ H L) (λm tm H2 h=>ZaU E (k:=k) (n:=n) hk gP hV hl hs _ _ _ _ _ m tm H2 h) fuel L.length T H (by omega) hi) hL
   (by exact⟨rfl,rfl,rfl,rfl,0,rfl,by omega,λj hj=>by omega⟩)
  subst h2
  rcases z with⟨rfl,p,t4,e⟩|⟨rfl,e⟩
  ·simp only[Tp] at t4
   simp only[t4,Zu,Zw,Z6]
   refine⟨_,rfl,?_⟩
   exact .inl ⟨e,p,rfl⟩
  ·
   simp only[Zu,Ye,Zw,Z6]
   refine⟨_,rfl,?_⟩
   exact .inr ⟨e,rfl⟩
 obtain⟨w,e1,h⟩:=e1
 rcases h with⟨h,p,rfl⟩|⟨h,rfl⟩
 ·rw[h]
  simp only[e1,Y2,Xu,ZZ,decide_true,Y2,Xu,c16,Zu,Ye,Zw,Z6]
 ·rw[h]
  simp only[e1,Gl,Yq,Gl,Yq,c16,Zu,Ye,Zw,Z6]
theorem pv(E:Env Zn fs fuel):
  ZE (LK Zn fs fuel k) fs fuel (n+1) 14 [] H=.ret (.slice H.nx 0 1024 none) (H.new (.row ⟨5,1,1024,.leaf,nI .u8 0,0,false,true,true⟩)):=by
 rw[ZI (ZA E.n14 (.inr rfl) _ _) E.f14]
 have m5: ∀G:Heap,eZ 5 1 1 [nI .u8 0] (nI .i64 1024) (nI .i64 1024) G=.val (.slice G.nx 0 1024 none) (G.new (.row ⟨5,1,1024,.leaf,nI .u8 0,0,false,true,true⟩)):=λG=>xq (by decide) (by decide) _ _ _
 simp only[m5,QG,c14,Zu,Ye,Zw,Z6]
theorem ZeT:BV (H.new (.row ⟨5,1,1024,.leaf,nI .u8 0,0,false,true,true⟩)) (.slice H.nx 0 1024 none) (List.replicate 1024 0):=by
 have:=tX (H:=H.new (.row ⟨5,1,1024,.leaf,nI .u8 0,0,false,true,true⟩)) (c:=none) (a:=0) (n:=1024) (l:=List.replicate 1024 0) (ZW rfl _) (EN 5 1024) rfl (YM _) (by decide) (by rw[ZH];decide) (λk hk=>by cases hk)
 rwa [Yk,Z9 (by rw[ZH];exact Zp _)] at this
def OJ(m:Mem):List UInt8:=R0 m++m.data++List.replicate (VJ m.data.length) 0
def NC(L:List Mem):List UInt8:=(L.map OJ).flatten
def az(m:Mem):Prop:=Dv m∧m.data.length<=2000
theorem FG{m:Mem}(h:az m)(hm:YZ m=true):(OJ m).length<=2003000:=by
 have h1:=fB h.1 (FI hm).2.2.2.1
 have h2:=h.2
 have h3:=Gv m.data.length
 unfold OJ
 rw[Zj,Zj,ZH];omega
theorem GA{L:List Mem}(h: ∀x∈L,az x∧YZ x=true):(NC L).length<=L.length*2003000:=by
 unfold NC
 induction L with
 |nil=>exact Zp _
 |cons a l ih=>
  rw[ZD,XY,Zj,ZS]
  have h1:=FG (h a (Zt ..)).1 (h a (Zt ..)).2
  have h2:=ih λx hx=>h x (Zz _ hx)
  omega
theorem Bs{L:List Mem}(h:i<L.length):NC (L.take (i+1))=NC (L.take i)++OJ (L.getD i default):=by
 unfold NC
 rw[WR,Zf,Zl h,Xv,UP]
 simp
theorem rF(m:Mem):(OJ m).length % 512=0:=by
 have h1:=zp m
 have h2:=uk m.data.length
 unfold OJ
 rw[Zj,Zj,ZH];omega
theorem kM(L:List Mem):(NC L).length % 512=0:=by
 unfold NC
 induction L with
 |nil=>rfl
 |cons a l ih=>
  rw[ZD,XY,Zj]
  have:=rF a
  omega
theorem ZbX{a:Nat}(h:a % 512=0):VJ (a+n)=VJ n:=by unfold VJ;omega
theorem yH{v:AV}{l:List UInt8}(h:BV H v l)(hb: ∀b∈XP v,b<n):Wx n v=true:=by
 rcases h with⟨_,rfl|⟨b,o,c,rfl⟩⟩|⟨_,b,o,c,r,rfl,_⟩
 ·rfl
 ·exact WV (hb b (by simp[XP])) _ _ _
 ·exact WV (hb b (by simp[XP])) _ _ _
theorem aS{v:AV}{l:List UInt8}(h:BV H v l)(n:Nat)(t:T Obj):Ud (.val v ⟨n,t,n⟩) v n=true:=by
 rcases h with⟨_,rfl|⟨b,o,c,rfl⟩⟩|⟨_,b,o,c,r,rfl,_⟩
 ·exact QE n t
 ·exact TD ..
 ·exact TD ..
theorem BV.move{H H':Heap}{S:List Nat}{v:AV}{l:List UInt8}(h:BV H v l)(k:Zs H H' S)(hS: ∀b∈XP v,b∉S):BV H' v l:=
 h.keep k λb o n c e=>hS b (by rw[e];simp[XP])
structure PTI(Hs:Heap)(v:AV)(L:List Mem)(m:Nat)(tm:TM)(H:Heap):Prop where
 k:Zs Hs H []
 t16:XF tm=v
 t17:Wh tm=nI .i64 L.length
 i: ∃i w,Wo tm=nI .i64 i∧i+m=L.length∧Y4 tm=w∧GB H w (NC (L.take i)) Hs.nx
def PTQ(Hs:Heap)(L:List Mem)(o:Out)(tm:TM)(H:Heap):Prop:=o=.exit 1∧Zs Hs H []∧ ∃w,Y4 tm=w∧GB H w (NC L) Hs.nx
theorem Zcc(E:Env Zn fs fuel)(hk:13<=k){v:AV}{L:List Mem}{Hs:Heap}(gH:Sd Hs)(hV:OT Hs v L)(hl:L.length<=12)(hok: ∀x∈L,az x∧YZ x=true)(y f dd q)(X0:X)(m:Nat)(tm:TM)(H:Heap)(hI:PTI Hs v L m tm H):
  ∃o tm' H',wE ⟨ZE (LK Zn fs fuel k) fs fuel (n+7),y,f,dd,q⟩ tm H X0=.ok o tm' H' X0∧((o=.normal∧ ∃k,k<m∧PTI Hs v L k tm' H')∨(o≠.normal∧PTQ Hs L o tm' H')):=by
 obtain⟨k0,t16,t17,i,w,t18,him,t4,gbw⟩:=hI
 have ji:=t16;have ZnE:=t17;have Qk:=t4
 simp only[Tp,fi,Zdo,ZhF] at t4 t16 t17 t18
 cases m with
 |zero=>
  have d1:decide (i<L.length)=false:=Zb (by omega)
  simp only[t17,t18,d1,Zy,Zy,wE,Zu,Ye,Z6]
  rw[Z9 (by omega)] at gbw
  refine⟨_,_,_,rfl,?_⟩
  exact .inr ⟨by simp,rfl,k0,w,Qk,gbw⟩
 |succ m=>
  have d1:decide (i<L.length)=true:=Ze (by omega)
  have hi:i<L.length:=by omega
  obtain⟨bb,o,r,cs,eI,hb,gb,eL,_,hB0⟩:=hV.at_ hi
  have gb:=(k0.get bb hb (by simp)).trans gb
  have hb:bb<H.nx:=ZT hb k0.nx
  obtain⟨⟨hh1,hh2⟩,hm⟩:=hok _ (Kt hi)
  have hpl:=GA (L:=L.take i) λx hx=>hok x (X5 hx)
  rw[ZC] at hpl
  have hpush:=Bs hi
  have hmb:=FG ⟨hh1,hh2⟩ hm
  generalize L.getD i default=me at*
  obtain⟨av,dv,rfl,y2,hD0,ZaF⟩:=hB0
  have hA:=y2.keep0 k0
  have hD:BV H dv me.data:=hD0.keep k0 (λ_ _ _ _ _=>by simp)
  have hdb: ∀b∈XP dv,b<H.nx:=λb hb=>ZT (ZaF b hb) k0.nx
  have hx0:=k0.nx
  have gy:=gH.keep0 k0
  have mH:=gy.p.ro
  have hDs:=jS hD (AA hdb)
  obtain⟨H1,hH1⟩:=Sa (H.new (rH 36 [.str me.path,.int .i64 me.kind,nI .u32 me.mode,nI .u32 me.uid,nI .u32 me.gid,.int .i64 me.time,av,dv,.str me.link]))
  have k1:Zs H H1 []:=by rw[<-hH1];exact Zs.new _ _ _
  have IY:H1.nx=H.nx+1:=by rw[<-hH1];rfl
  have g1:H1.t.get H.nx=some (rH 36 [.str me.path,.int .i64 me.kind,nI .u32 me.mode,nI .u32 me.uid,nI .u32 me.gid,.int .i64 me.time,av,dv,.str me.link]):=by rw[<-hH1];exact ZW rfl _
  have wm: ∀G,EW 9 (some (rH 36 [.str me.path,.int .i64 me.kind,nI .u32 me.mode,nI .u32 me.uid,nI .u32 me.gid,.int .i64 me.time,av,dv,.str me.link])) 0 G=.val (.agg [.str me.path,.int .i64 me.kind,nI .u32 me.mode,nI .u32 me.uid,nI .u32 me.gid,.int .i64 me.time,av,dv,.str me.link]) G:=λG=>Vr (show 0+9<=9 by decide) ..
  have sf:=Tn (n:=9) (b:=H.nx) (l:=[.str [],nI .i64 0,nI .u32 0,nI .u32 0,nI .u32 0,nI .i64 0,.nils,.nils,.str []]) (vs:=[.str me.path,.int .i64 me.kind,nI .u32 me.mode,nI .u32 me.uid,nI .u32 me.gid,.int .i64 me.time,av,dv,.str me.link]) (H:=H.new (rH 36 [.str [],nI .i64 0,nI .u32 0,nI .u32 0,nI .u32 0,nI .i64 0,.nils,.nils,.str []])) rfl rfl (by decide) (by show H.ro<=_;exact mH) 36 1 false true
  rw[Tm rfl,hH1] at sf
  have hC1:QN H1 [.str me.path,.int .i64 me.kind,nI .u32 me.mode,nI .u32 me.uid,nI .u32 me.gid,.int .i64 me.time,av,dv,.str me.link] me:=QN.keep ⟨av,dv,rfl,hA,hDs⟩ k1
  obtain⟨v1,H2,e2,Ae,k12,hb1,hc1,hv1,hbl1,hbl2⟩:=wn E (k:=k) (n:=n) (by omega) (gy.keep0 k1) hC1 hh1 hm
  have z0: ∀G,N6 Vp true (nI .i64 0) (nI .i64 0) G=.val (.bool false) G:=λ_=>rfl
  have k2:=k1.trans' k12
  have g2:H2.t.get H.nx=some (rH 36 [.str me.path,.int .i64 me.kind,nI .u32 me.mode,nI .u32 me.uid,nI .u32 me.gid,.int .i64 me.time,av,dv,.str me.link]):=by rw[k12.get _ (by omega) (by simp)];exact g1
  have l7: ∀G,ld1 (some (rH 36 [.str me.path,.int .i64 me.kind,nI .u32 me.mode,nI .u32 me.uid,nI .u32 me.gid,.int .i64 me.time,av,dv,.str me.link])) 7 G=.val dv G:=λG=>rfl
  have ID:=gbw.keep k2 (λ_ _=>by simp)
  have sY:H2.ro<=H2.nx:=by rw[k2.ro];omega
  have hml:(OJ me).length=(R0 me).length+me.data.length+VJ me.data.length:=by unfold OJ;rw[Zj,Zj,ZH]
  obtain⟨w3,H3,e3,K7,k23,bk3⟩:=Kd ID Ae (by omega) sY (by omega)
  have hx3:=k23.nx
  have bw: ∀c∈XP w,Hs.nx<=c∧c<H.nx:=gbw.blk
  have g3:H3.t.get H.nx=some (rH 36 [.str me.path,.int .i64 me.kind,nI .u32 me.mode,nI .u32 me.uid,nI .u32 me.gid,.int .i64 me.time,av,dv,.str me.link]):=by rw[k23.get _ (by omega) (λh=>by have:=(bw _ h).2;omega)];exact g2
  have jT: ∀c∈XP w3,Hs.nx<=c∧c≠H.nx:=λc hc=>by
   rcases bk3 c hc with h|h
   ·have:=bw c h;omega
   ·omega
  have hdv: ∀b∈XP dv,b<H.nx:=hdb
  have hdw: ∀b∈XP dv,b<Hs.nx:=ZaF
  have bd3:BV H3 dv me.data:=(hD.keep k2 (λ_ _ _ _ _=>by simp)).move k23 λb hb hm=>by have:=hdw b hb;have:=(bw b hm).1;omega
  have ZaO:H3.ro<=H3.nx:=by rw[k23.ro];omega
  obtain⟨w4,H4,e4,Et,Hj,bk4⟩:=Kd K7 bd3 (by omega) ZaO (by rw[Zj];omega)
  have hx4:=Hj.nx
  have g4:H4.t.get H.nx=some (rH 36 [.str me.path,.int .i64 me.kind,nI .u32 me.mode,nI .u32 me.uid,nI .u32 me.gid,.int .i64 me.time,av,dv,.str me.link]):=by rw[Hj.get _ (by omega) (λh=>(jT _ h).2 rfl)];exact g3
  have bw4: ∀c∈XP w4,Hs.nx<=c:=λc hc=>by
   rcases bk4 c hc with h|h
   ·exact(jT c h).1
   ·omega
  have Zfo:H4.ro<=H4.nx:=by rw[Hj.ro];omega
  have et:=λ{j}=>ZcG E (k:=k) (n:=j) (by omega) (m:=me.data.length) (H:=H4) (by omega)
  obtain⟨w5,H5,e5,sT,EA,bk5⟩:=yX Et (by omega) Zfo (VJ me.data.length) (by rw[Zj,Zj];omega)
  have ln:=hD.len
  have ln5:=sT.len
  have d2:decide (67107840<(NC (L.take i)++R0 me++me.data++List.replicate (VJ me.data.length) 0).length)=false:=Zb (by simp only[Zj,ZH];omega)
  have lw:=gbw.low (n:=H2.nx) (by omega)
  have lw1:=yH Ae (n:=H2.nx) (λb hb=>by rw[hv1] at hb;have:b=hb1:=(by simpa [XP] using hb);omega)
  have ldv:=yH hD (n:=H2.nx) (λb hb=>by have:=hdv b hb;omega)
  have sdv:=aS hD
  have kk:Zs Hs H5 []:=(((k0.trans' k2).trans k23 λc hc hlt=>by have:=bw c hc;omega).trans Hj λc hc hlt=>by have:=(jT c hc).1;omega).trans EA λc hc hlt=>by have:=bw4 c hc;omega
  simp(disch:=omega) only[t4,t16,t17,t18,d1,eI,gb,eL,sf,g1,wm,e2,z0,g2,l7,e3,g3,e4,g4,et,e5,ln,ln5,d2,lw,lw1,ldv,sdv,Ya,Zy,Z3,YI,Nat.reduceAdd,decide_true,decide_false,Zd,Zd,YD,Ya,ZD,ZM,Zy,Z3,Zd,YD,Me,wE,Zu,Ye,Zw,Z8,Yp,Yv,Nat.reducePow,Nat.reduceDiv,Nat.reduceMod,reduceCtorEq,Z6,Vk]
  refine⟨_,_,_,rfl,.inl ⟨rfl,m,by omega,kk,ji,ZnE,i+1,w5,rfl,by omega,rfl,?_⟩⟩
  rw[hpush]
  unfold OJ
  rw[<-Xj,<-Xj];exact sT
def Zgv(L:List Mem):List UInt8:=NC L++List.replicate 1024 0
theorem aa(E:Env Zn fs fuel)(hk:13<=k){v:AV}{L:List Mem}(gH:Sd H)(hV:OT H v L)(hl:L.length<=12)(hok: ∀x∈L,az x):
  ∃w H',ZE (LK Zn fs fuel k) fs fuel (n+8) 5 [v] H=.ret (.tup [w,nI .i64 (if L.all YZ then 0 else 1)]) H'∧BV H' w (if L.all YZ then Zgv L else [])∧Zs H H' []∧ ∀c∈XP w,H.nx<=c∧c<H'.nx:=by
 rw[ZI (ZA E.n5 (.inr rfl) _ _) E.f5]
 have hf:=E.big
 have ec:=λ{j}=>Zl2 E (k:=k) (n:=j) hk gH.p hV (by omega) (λx hx=>(hok x hx).1.short)
 have ln:=hV.len
 have d1:decide (8192<L.length)=false:=Zb (by omega)
 cases ha:L.all YZ with
 |false=>
  rw[ha] at ec
  simp only[ec,Y2,Y2,c5,Zu,Ye,Zw,reduceCtorEq,Z6]
  exact⟨_,_,rfl,.inl ⟨rfl,.inl rfl⟩,Zs.refl _ _,λc hc=>by cases hc⟩
 |true=>
  rw[ha] at ec
  have hall:=Yo.1 ha
  simp only[ec,ln,d1,Yq,Z3,Yq,Z3,c5,Zu,Ye,Z6]
  generalize hL:Wv (wE _) fuel _ _ _=LL
  obtain⟨o,Pu,H1,rfl,_,rfl,k1,w,t4,gb⟩:=YA (P:=λT=>PTI H v L L.length T H) (Q:=PTQ H L)
   (λT hi=>YP (PTI H v L) (PTQ H L) (λm tm H2 h=>Zcc E (n:=n) hk gH hV hl (λx hx=>⟨hok x hx,hall x hx⟩) _ _ _ _ _ m tm H2 h) fuel L.length T H (by omega) hi) hL
   (by exact⟨Zs.refl _ _,rfl,rfl,0,.nils,rfl,by omega,rfl,by rw[YN];exact .inl ⟨rfl,rfl⟩⟩)
  simp only[Tp] at t4
  have hx1:=k1.nx
  have e1:=λ{j}=>pv E (k:=k) (n:=j) (H:=H1)
  obtain⟨H2,hH2⟩:=Sa (H1.new (.row ⟨5,1,1024,.leaf,nI .u8 0,0,false,true,true⟩))
  have Ae:=ZeT (H:=H1)
  rw[hH2] at Ae e1
  have k12:Zs H1 H2 []:=by rw[<-hH2];exact Zs.new _ _ _
  have nx2:H2.nx=H1.nx+1:=by rw[<-hH2];rfl
  have hro:=gH.p.ro
  have hpl:=GA (L:=L) λx hx=>⟨hok x hx,hall x hx⟩
  obtain⟨w3,H3,e3,K7,k23,bk3⟩:=Kd (gb.keep k12 (λ_ _=>by simp)) Ae (by omega) (by rw[k12.ro,k1.ro];omega) (by rw[ZH];omega)
  simp only[t4,e1,e3,Ya,Ya,Zu,Ye,Zw,Z6,Vk]
  refine⟨_,_,rfl,K7.bv,(k1.trans' k12).trans k23 λc hc hlt=>?_,K7.blk⟩
  have:=(gb.blk c hc).1;omega
structure QTI(Hs:Heap)(v:AV)(L:List Mem)(m:Nat)(tm:TM)(H:Heap):Prop where
 h:H=Hs
 t0:Yb tm=v
 i: ∃i,Y4 tm=nI .i64 i∧i+m=L.length∧ ∀j,j<i->YZ (L.getD j default)=true
def QTQ(Hs:Heap)(v:AV)(L:List Mem)(o:Out)(tm:TM)(H:Heap):Prop:=H=Hs∧((o=.ret∧VX tm=.nils∧W8 tm=nI .i64 1∧L.all YZ=false)∨(o=.exit 0∧Yb tm=v∧L.all YZ=true))
theorem Zch(E:Env Zn fs fuel)(hk:6<=k){v:AV}{L:List Mem}{Hs:Heap}(hro:Hs.ro<=Hs.nx)(hV:OT Hs v L)(hl:L.length<=1000)(hs: ∀x∈L,JJ x∧x.link.length<=90000)(y f dd q)(X0:X)(m:Nat)(tm:TM)(H:Heap)(hI:QTI Hs v L m tm H):
  ∃o tm' H',AF ⟨ZE (LK Zn fs fuel k) fs fuel (n+1),y,f,dd,q⟩ tm H X0=.ok o tm' H' X0∧((o=.normal∧ ∃k,k<m∧QTI Hs v L k tm' H')∨(o≠.normal∧QTQ Hs v L o tm' H')):=by
 obtain⟨rfl,t0,i,t4,him,hall⟩:=hI
 have t0':=t0
 simp only[Sb,Tp] at t0 t4
 have ln:=hV.len
 cases m with
 |zero=>
  have d1:decide (i<L.length)=false:=Zb (by omega)
  simp only[t0,t4,ln,d1,Zy,Zy,AF,Zu,Ye,Z6]
  refine⟨_,_,_,rfl,.inr ⟨by simp,rfl,.inr ⟨rfl,t0',?_⟩⟩⟩
  rw[Yo]
  intro x hx
  obtain⟨j,hj,rfl⟩:=TW.1 hx
  have:=hall j (by omega)
  rwa [Zf,Zl hj] at this
 |succ m=>
  have d1:decide (i<L.length)=true:=Ze (by omega)
  have hi:i<L.length:=by omega
  obtain⟨bb,o,r,cs,eI,hb,gb,eL,_,hB⟩:=hV.at_ hi
  have e1:=λ{j}=>Da E (k:=k) (n:=j) hk (hs _ (Kt hi)).1 (hs _ (Kt hi)).2 hro hB.toC
  cases hm:YZ (L.getD i default) with
  |true=>
   rw[hm] at e1
   simp(disch:=omega) only[t0,t4,ln,d1,eI,gb,eL,e1,Zy,YI,Zy,AF,Zu,Ye,Z8,Z6]
   refine⟨_,_,_,rfl,.inl ⟨rfl,m,by omega,rfl,t0',i+1,rfl,by omega,λj hj=>?_⟩⟩
   by_cases h:j=i
   ·rw[h];exact hm
   ·exact hall j (by omega)
  |false=>
   rw[hm] at e1
   simp only[t0,t4,ln,d1,eI,gb,eL,e1,Zy,Zy,AF,Zu,Ye,Z8,Z6]
   refine⟨_,_,_,rfl,.inr ⟨by simp,rfl,.inl ⟨rfl,rfl,rfl,?_⟩⟩⟩
   rw[List.all_eq_false]
   exact⟨_,Kt hi,by rw[hm];simp⟩
structure QUI(Hs:Heap)(v:AV)(L:List Mem)(m:Nat)(tm:TM)(H:Heap):Prop where
 k:Zs Hs H []
 t0:Yb tm=v
 i: ∃i w,XI tm=nI .i64 i∧i+m=L.length∧YW tm=w∧GB H w (NC (L.take i)) Hs.nx
def QUQ(Hs:Heap)(L:List Mem)(o:Out)(tm:TM)(H:Heap):Prop:=o=.exit 2∧Zs Hs H []∧ ∃w,YW tm=w∧GB H w (NC L) Hs.nx
theorem Zci(E:Env Zn fs fuel)(hk:6<=k){v:AV}{L:List Mem}{Hs:Heap}(hro:Hs.ro<=Hs.nx)(hV:OT Hs v L)(hl:L.length<=12)(hok: ∀x∈L,az x∧YZ x=true)(y f dd q)(X0:X)(m:Nat)(tm:TM)(H:Heap)(hI:QUI Hs v L m tm H):
  ∃o tm' H',wF ⟨ZE (LK Zn fs fuel k) fs fuel (n+3),y,f,dd,q⟩ tm H X0=.ok o tm' H' X0∧((o=.normal∧ ∃k,k<m∧QUI Hs v L k tm' H')∨(o≠.normal∧QUQ Hs L o tm' H')):=by
 obtain⟨k0,t0,i,w,t6,him,t5,gbw⟩:=hI
 have t0':=t0;have PE:=t5
 simp only[Sb,QP,EU] at t0 t5 t6
 have ln:=hV.len
 cases m with
 |zero=>
  have d1:decide (i<L.length)=false:=Zb (by omega)
  simp only[t0,t6,ln,d1,Zy,Zy,wF,Zu,Ye,Z6]
  rw[Z9 (by omega)] at gbw
  refine⟨_,_,_,rfl,?_⟩
  exact .inr ⟨by simp,rfl,k0,w,PE,gbw⟩
 |succ m=>
  have d1:decide (i<L.length)=true:=Ze (by omega)
  have hi:i<L.length:=by omega
  obtain⟨bb,o,r,cs,eI,hb,gb,eL,eE,hB0⟩:=hV.at_ hi
  have gb0:=(k0.get bb hb (by simp)).trans gb
  obtain⟨⟨hh1,hh2⟩,hm⟩:=hok _ (Kt hi)
  have hpl:=GA (L:=L.take i) λx hx=>hok x (X5 hx)
  rw[ZC] at hpl
  have hpush:=Bs hi
  have hmb:=FG ⟨hh1,hh2⟩ hm
  have hmod:=kM (L.take i)
  generalize L.getD i default=me at*
  have hC:QN H cs me:=hB0.toC.keep k0
  obtain⟨av,dv,rfl,y2,hD0,ZaF⟩:=hB0
  have hD:BV H dv me.data:=hD0.keep k0 (λ_ _ _ _ _=>by simp)
  have hx0:=k0.nx
  have mH:H.ro<=H.nx:=by rw[k0.ro];omega
  have l7: ∀G,ld1 (some (.row r)) (o+7) G=.val dv G:=λG=>eE 7 G (by decide)
  obtain⟨v1,H2,e2,Ae,k2,hbl⟩:=AP E (k:=k) (n:=n) hk mH hC hh1 hm
  have z0: ∀G,N6 Vp true (nI .i64 0) (nI .i64 0) G=.val (.bool false) G:=λ_=>rfl
  have hx2:=k2.nx
  have ID:=gbw.keep k2 (λ_ _=>by simp)
  have sY:H2.ro<=H2.nx:=by rw[k2.ro];omega
  have hml:(OJ me).length=(R0 me).length+me.data.length+VJ me.data.length:=by unfold OJ;rw[Zj,Zj,ZH]
  obtain⟨w3,H3,e3,K7,k23,bk3⟩:=Kd ID Ae (by omega) sY (by omega)
  have hx3:=k23.nx
  have bw: ∀c∈XP w,Hs.nx<=c∧c<H.nx:=gbw.blk
  have g3:H3.t.get bb=some (.row r):=by rw[k23.get _ (by omega) (λh=>by have:=(bw _ h).1;omega),k2.get _ (by omega) (by simp)];exact gb0
  have jT: ∀c∈XP w3,Hs.nx<=c:=λc hc=>by
   rcases bk3 c hc with h|h
   ·have:=bw c h;omega
   ·omega
  have bd3:BV H3 dv me.data:=(hD.keep k2 (λ_ _ _ _ _=>by simp)).move k23 λb hb hm=>by have:=ZaF b hb;have:=(bw b hm).1;omega
  have ZaO:H3.ro<=H3.nx:=by rw[k23.ro];omega
  obtain⟨w4,H4,e4,Et,Hj,bk4⟩:=Kd K7 bd3 (by omega) ZaO (by rw[Zj];omega)
  have hx4:=Hj.nx
  have bw4: ∀c∈XP w4,Hs.nx<=c:=λc hc=>by
   rcases bk4 c hc with h|h
   ·exact jT c h
   ·omega
  have Zfo:H4.ro<=H4.nx:=by rw[Hj.ro];omega
  obtain⟨w5,H5,e5,sT,EA,bk5⟩:=wW E (k:=k) (n:=n+2) Et (by omega) Zfo (by rw[Zj,Zj];omega)
  have hhm:=zp me
  have Ey:VJ (NC (L.take i)++R0 me++me.data).length=VJ me.data.length:=by
   rw[Zj,Zj]
   exact ZbX (by omega)
  rw[Ey] at sT
  have kk:Zs Hs H5 []:=(((k0.trans' k2).trans k23 λc hc hlt=>by have:=bw c hc;omega).trans Hj λc hc hlt=>by have:=jT c hc;omega).trans EA λc hc hlt=>by have:=bw4 c hc;omega
  simp(disch:=omega) only[t0,t5,t6,ln,d1,eI,gb0,eL,e2,z0,e3,g3,l7,e4,e5,Ya,Zy,YI,Ya,Zy,wF,Zu,Ye,Z6,Vk]
  refine⟨_,_,_,rfl,.inl ⟨rfl,m,by omega,kk,t0',i+1,w5,rfl,by omega,rfl,?_⟩⟩
  rw[hpush]
  unfold OJ
  rw[<-Xj,<-Xj];exact sT
theorem nS(E:Env Zn fs fuel)(hk:6<=k){v:AV}{L:List Mem}(hro:H.ro<=H.nx)(hV:OT H v L)(hl:L.length<=12)(hok: ∀x∈L,az x):
  ∃w H',ZE (LK Zn fs fuel k) fs fuel (n+4) 6 [v] H=.ret (.tup [w,nI .i64 (if L.all YZ then 0 else 1)]) H'∧BV H' w (if L.all YZ then Zgv L else [])∧Zs H H' []∧ ∀c∈XP w,H.nx<=c∧c<H'.nx:=by
 rw[ZI (ZA E.n6 (.inr rfl) _ _) E.f6]
 have hf:=E.big
 have ln:=hV.len
 have d1:decide (8192<L.length)=false:=Zb (by omega)
 simp only[c6,Zu,Z6]
 generalize hL:Wv (AF _) fuel _ _ _=LL
 obtain⟨o,Pu,H1,rfl,_,h1,z⟩:=YA (P:=λT=>QTI H v L L.length T H) (Q:=QTQ H v L)
  (λT hi=>YP (QTI H v L) (QTQ H v L) (λm tm H2 h=>Zch E (k:=k) (n:=n+2) hk hro hV (by omega) (λx hx=>⟨(hok x hx).1.short,by have:=(hok x hx).1.link;omega⟩) _ _ _ _ _ m tm H2 h) fuel L.length T H (by omega) hi) hL
  (by exact⟨rfl,rfl,0,rfl,by omega,λj hj=>by omega⟩)
 subst h1
 rcases z with⟨rfl,t2,t3,ha⟩|⟨rfl,t0,ha⟩
 ·simp only[IN,Px] at t2 t3
  rw[ha]
  simp only[t2,t3,Zu,Zw,reduceCtorEq,Z6]
  exact⟨_,_,rfl,.inl ⟨rfl,.inl rfl⟩,Zs.refl _ _,λc hc=>by cases hc⟩
 ·have t0':=t0
  simp only[Sb] at t0
  rw[ha]
  have hall:=Yo.1 ha
  simp only[t0,ln,d1,Z3,Z3,Zu,Ye,Z6]
  generalize hL2:Wv (wF _) fuel _ _ _=LL
  obtain⟨o,tm2,H2,rfl,_,rfl,k2,w,t5,gb⟩:=YA (P:=λT=>QUI H1 v L L.length T H1) (Q:=QUQ H1 L)
   (λT hi=>YP (QUI H1 v L) (QUQ H1 L) (λm tm H2 h=>Zci E (n:=n) hk hro hV hl (λx hx=>⟨hok x hx,hall x hx⟩) _ _ _ _ _ m tm H2 h) fuel L.length T H1 (by omega) hi) hL2
   (by exact⟨Zs.refl _ _,t0',0,.nils,rfl,by omega,rfl,by rw[YN];exact .inl ⟨rfl,rfl⟩⟩)
  simp only[QP] at t5
  have hx2:=k2.nx
  have hpl:=GA (L:=L) λx hx=>⟨hok x hx,hall x hx⟩
  obtain⟨w3,H3,e3,K7,k23,bk3⟩:=yX gb (by omega) (by rw[k2.ro];omega) 1024 (by omega)
  have ln3:=K7.len
  have d2:decide (67108864<(NC L++List.replicate 1024 0).length)=false:=Zb (by rw[Zj,ZH];omega)
  simp only[t5,e3,ln3,d2,Z3,Z3,Me,Zu,Ye,Zw,Z6,Vk]
  refine⟨_,_,rfl,K7.bv,k2.trans k23 λc hc hlt=>?_,K7.blk⟩
  have:=(gb.blk c hc).1;omega
end
end
end Go.AI
