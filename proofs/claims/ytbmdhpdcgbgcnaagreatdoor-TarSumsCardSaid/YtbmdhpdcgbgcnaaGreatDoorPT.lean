/- Members put as a tar: walked: proved without conditions but those that each names. -/
import Derived.Test.YtbmdhpdcgbgcnaaGreatDoorPF
set_option maxRecDepth 1000000
set_option maxHeartbeats 0
set_option linter.unusedVariables false
set_option linter.unusedSimpArgs false
namespace Go.AI
open Go
noncomputable section
theorem PT(l m:List UInt8)(i:Nat):(l++m).getD i 0=if i<l.length then l.getD i 0 else m.getD (i - l.length) 0:=by
 rw[Zh,Rr]
 split
 ·rw[Zh]
 ·rw[Zh]
def Of:Nat->Nat->List UInt8
 |0,_=>[]
 |k+1,n=>Of k (n/8)++[OV (n % 8)]
theorem RE: ∀k n,(Of k n).length=k
 |0,_=>rfl
 |k+1,n=>by unfold Of;rw[Zk,RE k];rfl
theorem BZ: ∀k,Of k 0=List.replicate k 48
 |0=>rfl
 |k+1=>by
  show Of k (0/8)++[OV (0 % 8)]=_
  rw[Qs,BZ k,List.replicate_succ'];rfl
theorem rJ: ∀k n,(T1 n).length<=k->Of k n=List.replicate (k - (T1 n).length) 48++T1 n
 |0,n,h=>by have:=jw n;omega
 |k+1,n,h=>by
  show Of k (n/8)++[OV (n % 8)]=_
  by_cases hn:n<8
  ·rw[F3 hn,show n/8=0 by omega,BZ,show n % 8=n by omega]
   show _=List.replicate (k+1 - 1) 48++[OV n]
   rw[Vq]
  ·have e:=F2 (n:=n) (by omega)
   have hl:(T1 n).length=(T1 (n/8)).length+1:=by rw[e,Zk];rfl
   rw[rJ k (n/8) (by omega),e,Xd,Zk]
   show _=List.replicate (k+1 - ((T1 (n/8)).length+1)) 48++_
   rw[Nat.add_sub_add_right]
theorem cz{u n:Nat}(h:(T1 u).length<=n - 1):SJ u n=Of (n - 1) u++[0]:=by
 unfold SJ
 rw[if_neg (by omega),rJ _ _ h]
theorem rM{u n:Nat}(h1:2<=n)(h:u<8^(n - 1)):SJ u n=Of (n - 1) u++[0]:=cz (Dq _ _ (by omega) h)
theorem Iy{l w:List UInt8}{a n:Nat}(h:w.length=n):UV l a n w=Iz l a w:=by unfold UV;rw[if_pos h]
theorem BR{m:Mem}(h:Wm m=true):(W8 m.path).1≠0∧nO m.kind≠0∧m.mode<=4095∧OF m.attrs=true∧NM m.link (decide (m.kind=3))=true∧m.data.length<=16777216:=by
 unfold Wm at h
 simp only[Xf,Bool.not_eq_true',decide_eq_true_eq,decide_eq_false_iff_not] at h
 obtain⟨⟨⟨⟨⟨⟨h1,h2⟩,h3⟩,h4⟩,h5⟩,h6⟩,_⟩:=h
 exact⟨h1,h2,h3,h4,h5,h6⟩
section
variable {Zx:Lib} {fs:T CF} {fuel k n i h b:Nat} {H H0:Heap} {s:List UInt8} {cs:List AV}
theorem X4{l w:List UInt8}{a:Nat}(hl:l.length=512)(h:a+n<=512):(UV l a n w).length=512:=by rw[DM (by omega),hl]
theorem Oy(t:Nat):(KO t).length=512:=by
 unfold KO
 exact X4 (X4 (X4 NY (by decide)) (by decide)) (by decide)
theorem Ke{l:List UInt8}(h:l.length=512):(S6 l).length=512:=by unfold S6;exact X4 h (by decide)
theorem xZ(r:Nat):(In r).length=512:=by
 unfold In
 exact Ke (X4 (X4 (X4 (X4 (X4 (X4 (Oy _) (by decide)) (by decide)) (by decide)) (by decide)) (by decide)) (by decide))
theorem NO{x:vj}{L:List UInt8}(hl:L.length=512)(h:x.at_+x.wid<=512):(Cs x L).length=512:=by
 unfold Cs
 split
 ·exact X4 hl h
 ·exact X4 hl h
theorem Ok(m:Mem):(Lo m).length=512:=by
 unfold Lo sQ dT hO zN
 rw[Vc,Vc,Vc,List.foldl_nil]
 exact Ke (X4 (X4 (NO (NO (NO (X4 (X4 (X4 (Oy _) (by decide)) (by decide)) (by decide)) (show 108+8<=512 by decide)) (show 116+8<=512 by decide)) (show 136+12<=512 by decide)) (by decide)) (by decide))
theorem rP(n:Nat):UM n<512:=X7 _ (by decide)
theorem kh{m:Mem}(h:Cd m)(hm:OF m.attrs=true):(U3 m).length<=2000000:=by
 obtain⟨r1,r2⟩:=z3 h hm
 unfold U3
 split
 ·rw[Ok];decide
 ·have h1:=Io (l:=UB m) λx hx=>(r1 x hx).2
  have h2:=rP (WP (UB m)).length
  rw[Zk,Zk,Zk,Z5,xZ,Ok]
  omega
instance:Inhabited Mem:=⟨⟨[],0,0,0,0,0,[],[],[]⟩⟩
def yn(H:Heap)(cs:List AV)(m:Mem):Prop:= ∃av dv,cs=[.str m.path,.int .i64 m.kind,nI .u32 m.mode,nI .u32 m.uid,nI .u32 m.gid,.int .i64 m.time,av,dv,.str m.link]∧Sz H 2 av (S2 m.attrs)∧BV H dv m.data∧ ∀b∈Wo dv,b<H.nx
theorem CO{v:AV}(h: ∀b∈Wo v,b<n): ∀b o m c,v=.slice b o m c->b<n:=λb o m c e=>h b (by rw[e];simp[Wo])
theorem yn.toC{m:Mem}(h:yn H cs m):KH H cs m:=by
 obtain⟨av,dv,e,h1,h2,h3⟩:=h
 exact⟨av,dv,e,h1,su h2 (CO h3)⟩
theorem yn.keep{H H':Heap}{m:Mem}(h:yn H cs m)(k:ZK H H' []):yn H' cs m:=by
 obtain⟨av,dv,e,h1,h2,h3⟩:=h
 exact⟨av,dv,e,h1.keep0 k,h2.keep k (λ_ _ _ _ _=>by simp),λb hb=>Yk (h3 b hb) k.nx⟩
def Mv(H:Heap)(v:AV)(L:List Mem):Prop:= ∃ls,Sl H 9 v ls∧ls.length=L.length∧ ∀i,i<L.length->yn H (ls.getD i []) (L.getD i default)
theorem Mv.keep{H H':Heap}{v:AV}{L:List Mem}(h:Mv H v L)(k:ZK H H' []):Mv H' v L:=by
 obtain⟨ls,h1,h2,h3⟩:=h
 exact⟨ls,h1.keep0 k,h2,λi hi=>(h3 i hi).keep k⟩
theorem Mv.len{v:AV}{L:List Mem}(h:Mv H v L)(G:Heap):Ll v G=.val (nI .i64 L.length) G:=by
 obtain⟨ls,h1,h2,h3⟩:=h
 rw[h1.len,h2]
theorem Mv.at_{v:AV}{L:List Mem}(h:Mv H v L)(hi:i<L.length): ∃bb o r cs,(∀(k:IntKind) (G:Heap),KA 9 v (nI k i) G=.val (.ptr bb o) G)∧bb<H.nx∧H.t.get bb=some (.row r)∧(∀G,zq 9 (some (.row r)) o G=.val (.agg cs) G)∧(∀j G,j<9->ld1 (some (.row r)) (o+j) G=.val (cs.getD j .unk) G)∧yn H cs (L.getD i default):=by
 obtain⟨ls,h1,h2,h3⟩:=h
 obtain⟨bb,o,r,eI,hb,gb,eL,eE⟩:=(show Sz H 9 v ls from .inr h1).at_ (i:=i) (by omega)
 exact⟨bb,o,r,ls.getD i [],eI,hb,gb,eL,eE,h3 i hi⟩
theorem uy{L:List Mem}(hi:i<L.length):L.getD i default∈L:=by rw[Zh,Zp hi];exact Wz hi
theorem nA(E:Env Zx fs fuel){m:Mem}(hs:Ea m)(gP:Ot H)(hC:KH H cs m):
  ∃H',Z7 (LK Zx fs fuel 12) fs fuel (n+2) 10 [.agg cs] H=.ret (.bool (!Wm m)) H'∧ZK H H' []:=by
 rw[Z1 (ZU E.n10 (.inl (by decide)) _ _) E.f10]
 have hC0:=hC
 obtain⟨av,dv,rfl,hA,hD⟩:=hC
 have bx: ∀G:Heap,N2 28 (.agg [.str m.path,.int .i64 m.kind,nI .u32 m.mode,nI .u32 m.uid,nI .u32 m.gid,.int .i64 m.time,av,dv,.str m.link]) G=.val (.ptr G.nx 0) (G.new (rH 28 [.str m.path,.int .i64 m.kind,nI .u32 m.mode,nI .u32 m.uid,nI .u32 m.gid,.int .i64 m.time,av,dv,.str m.link])):=λG=>Vx (l:=[.str m.path,.int .i64 m.kind,nI .u32 m.mode,nI .u32 m.uid,nI .u32 m.gid,.int .i64 m.time,av,dv,.str m.link]) (show 1<=9 by decide) 28 G
 obtain⟨H1,hH1⟩:=SK (H.new (rH 28 [.str m.path,.int .i64 m.kind,nI .u32 m.mode,nI .u32 m.uid,nI .u32 m.gid,.int .i64 m.time,av,dv,.str m.link]))
 have k1:ZK H H1 []:=by rw[<-hH1];exact ZK.new _ _ _
 have g1:H1.t.get H.nx=some (rH 28 [.str m.path,.int .i64 m.kind,nI .u32 m.mode,nI .u32 m.uid,nI .u32 m.gid,.int .i64 m.time,av,dv,.str m.link]):=by rw[<-hH1];exact YD rfl _
 have uj: ∀G,zq 9 (some (rH 28 [.str m.path,.int .i64 m.kind,nI .u32 m.mode,nI .u32 m.uid,nI .u32 m.gid,.int .i64 m.time,av,dv,.str m.link])) 0 G=.val (.agg [.str m.path,.int .i64 m.kind,nI .u32 m.mode,nI .u32 m.uid,nI .u32 m.gid,.int .i64 m.time,av,dv,.str m.link]) G:=λG=>TJ (show 0+9<=9 by decide) ..
 have em:=λ{j}=>gh E (k:=12) (n:=j) (by decide) hs (gP.keep0 k1) (hC0.keep k1)
 cases hm:Wm m
 all_goals
  rw[hm] at em
  simp only[bx,hH1,g1,uj,em,Us,ZN,ZI,c10,Z9,Xg,ZY,Yu,Xe]
  refine⟨_,rfl,?_⟩
  exact k1
theorem Zfv(E:Env Zx fs fuel)(hk:13<=k){m:Mem}(hs:Ea m)(gP:Ot H)(hC:KH H cs m):
  Z7 (LK Zx fs fuel k) fs fuel (n+1) 10 [.agg cs] H=.ret (.bool (!Wm m)) H:=by
 obtain⟨H',e,g⟩:=nA E (n:=898) (H:=H) hs gP hC
 exact Xc (r:=12) rfl rfl e g (rfl) hk
structure IMI(Hs:Heap)(v:AV)(L:List Mem)(m:Nat)(tm:TM)(H:Heap):Prop where
 h:H=Hs
 t0:YX tm=v
 t1:Wj tm=.func 10 [] []
 t7:Wt tm=nI .i64 L.length
 i: ∃i,Wi tm=nI .i64 i∧i+m=L.length∧ ∀j,j<i->Wm (L.getD j default)=true
def IMQ(Hs:Heap)(L:List Mem)(o:Out)(tm:TM)(H:Heap):Prop:=H=Hs∧((o=.ret∧ ∃p,XY tm=nI .i64 p∧L.all Wm=false)∨(o=.exit 0∧L.all Wm=true))
theorem dj(E:Env Zx fs fuel)(hk:13<=k){v:AV}{L:List Mem}{Hs:Heap}(gP:Ot Hs)(hV:Mv Hs v L)(hl:L.length<=1000)(hs: ∀x∈L,Ea x)(y f dd q)(X0:X)(m:Nat)(tm:TM)(H:Heap)(hI:IMI Hs v L m tm H):
  ∃o tm' H',I6 ⟨Z7 (LK Zx fs fuel k) fs fuel (n+1),y,f,dd,q⟩ tm H X0=.ok o tm' H' X0∧((o=.normal∧ ∃k,k<m∧IMI Hs v L k tm' H')∨(o≠.normal∧IMQ Hs L o tm' H')):=by
 obtain⟨rfl,t0,t1,t7,i,t8,him,hall⟩:=hI
 have t0':=t0;have t1':=t1;have CH:=t7
 simp only[Mc,E2,A9,qY] at t0 t1 t7 t8
 cases m with
 |zero=>
  have d1:decide (i<L.length)=false:=Ze (by omega)
  simp only[t7,t8,d1,Zu,Zu,I6,Z9,Xg,Xe]
  refine⟨_,_,_,rfl,.inr ⟨by simp,rfl,.inr ⟨rfl,?_⟩⟩⟩
  rw[Y2]
  intro x hx
  obtain⟨j,hj,rfl⟩:=Rt.1 hx
  have:=hall j (by omega)
  rwa [Zh,Zp hj] at this
 |succ m=>
  have d1:decide (i<L.length)=true:=Zi (by omega)
  have hi:i<L.length:=by omega
  obtain⟨bb,o,r,cs,eI,hb,gb,eL,_,hB⟩:=hV.at_ hi
  have e1:=λ{j}=>Zfv E (k:=k) (n:=j) hk (H:=H) (hs _ (uy hi)) gP hB.toC
  cases hm:Wm (L.getD i default) with
  |true=>
   rw[hm] at e1
   simp(disch:=omega) only[t0,t1,t7,t8,d1,eI,gb,eL,e1,Lw,ZX,Zn,Zo,ZN,Zu,YB,ZX,Zn,Zo,ZN,Zu,I6,Z9,Xg,Xe]
   refine⟨_,_,_,rfl,.inl ⟨rfl,m,by omega,rfl,t0',t1',CH,i+1,rfl,by omega,λj hj=>?_⟩⟩
   by_cases h:j=i
   ·rw[h];exact hm
   ·exact hall j (by omega)
  |false=>
   rw[hm] at e1
   simp only[t0,t1,t7,t8,d1,eI,gb,eL,e1,Lw,ZX,Zn,Zo,ZI,Zu,ZX,Zn,Zo,ZI,Zu,I6,Z9,Xg,Xe]
   refine⟨_,_,_,rfl,.inr ⟨by simp,rfl,.inl ⟨rfl,i,rfl,?_⟩⟩⟩
   rw[List.all_eq_false]
   exact⟨_,uy hi,by rw[hm];simp⟩
theorem Zhy(E:Env Zx fs fuel)(hk:13<=k){v:AV}{L:List Mem}(gP:Ot H)(hV:Mv H v L)(hl:L.length<=1000)(hs: ∀x∈L,Ea x):
  Z7 (LK Zx fs fuel k) fs fuel (n+3) 9 [v,.func 10 [] []] H=.ret (.bool (!L.all Wm)) H:=by
 rw[Z1 (ZU E.n9 (.inr rfl) _ _) E.f9]
 have hf:=E.big
 have e1: ∃w,Z7 (LK Zx fs fuel k) fs fuel (n+2) 24 [v,.func 10 [] []] H=.ret w H∧((L.all Wm=false∧ ∃p,w=nI .i64 p)∨(L.all Wm=true∧w=.int .i64 (.negSucc 0))):=by
  rw[Z1 (ZU E.n24 (.inr rfl) _ _) E.f24]
  have ln:=hV.len
  simp only[ln,c24,Z9,Xg,Xe]
  generalize hL:Ue (I6 _) fuel _ _ _=LL
  obtain⟨o,Ny,H2,rfl,_,h2,z⟩:=XZ (P:=λT=>IMI H v L L.length T H) (Q:=IMQ H L)
   (λT hi=>We (IMI H v L) (IMQ H L) (λm tm H2 h=>dj E (k:=k) (n:=n) hk gP hV hl hs _ _ _ _ _ m tm H2 h) fuel L.length T H (by omega) hi) hL
   (by exact⟨rfl,rfl,rfl,rfl,0,rfl,by omega,λj hj=>by omega⟩)
  subst h2
  rcases z with⟨rfl,p,t4,e⟩|⟨rfl,e⟩
  ·simp only[PD] at t4
   simp only[t4,Z9,ZY,Xe]
   refine⟨_,rfl,?_⟩
   exact .inl ⟨e,p,rfl⟩
  ·
   simp only[Z9,Xg,ZY,Xe]
   refine⟨_,rfl,?_⟩
   exact .inr ⟨e,rfl⟩
 obtain⟨w,e1,h⟩:=e1
 rcases h with⟨h,p,rfl⟩|⟨h,rfl⟩
 ·rw[h]
  simp only[e1,ZI,ZR,ZA,decide_true,ZI,ZR,c9,Z9,Xg,ZY,Xe]
 ·rw[h]
  simp only[e1,YV,ZN,YV,ZN,c9,Z9,Xg,ZY,Xe]
theorem fU(E:Env Zx fs fuel):
  Z7 (LK Zx fs fuel k) fs fuel (n+1) 13 [] H=.ret (.slice H.nx 0 1024 none) (H.new (.row ⟨5,1,1024,.leaf,nI .u8 0,0,false,true,true⟩)):=by
 rw[Z1 (ZU E.n13 (.inr rfl) _ _) E.f13]
 have m5: ∀G:Heap,dW 5 1 1 [nI .u8 0] (nI .i64 1024) (nI .i64 1024) G=.val (.slice G.nx 0 1024 none) (G.new (.row ⟨5,1,1024,.leaf,nI .u8 0,0,false,true,true⟩)):=λG=>uz (by decide) (by decide) _ _ _
 simp only[m5,Ly,c13,Z9,Xg,ZY,Xe]
theorem Zbn:BV (H.new (.row ⟨5,1,1024,.leaf,nI .u8 0,0,false,true,true⟩)) (.slice H.nx 0 1024 none) (List.replicate 1024 0):=by
 have:=md (H:=H.new (.row ⟨5,1,1024,.leaf,nI .u8 0,0,false,true,true⟩)) (c:=none) (a:=0) (n:=1024) (l:=List.replicate 1024 0) (YD rfl _) (G8 5 1024) rfl (YP _) (by decide) (by rw[Z5];decide) (λk hk=>by cases hk)
 rwa [ZC,Y1 (by rw[Z5];exact Zz _)] at this
def Ln(m:Mem):List UInt8:=U3 m++m.data++List.replicate (UM m.data.length) 0
def KE(L:List Mem):List UInt8:=(L.map Ln).flatten
def LOk(m:Mem):Prop:=Cd m∧m.data.length<=2000
theorem BQ{m:Mem}(h:LOk m)(hm:Wm m=true):(Ln m).length<=2003000:=by
 have h1:=kh h.1 (BR hm).2.2.2.1
 have h2:=h.2
 have h3:=rP m.data.length
 unfold Ln
 rw[Zk,Zk,Z5];omega
theorem DC{L:List Mem}(h: ∀x∈L,LOk x∧Wm x=true):(KE L).length<=L.length*2003000:=by
 unfold KE
 induction L with
 |nil=>exact Zz _
 |cons a l ih=>
  rw[ZB,WD,Zk,Zl]
  have h1:=BQ (h a (ZE ..)).1 (h a (ZE ..)).2
  have h2:=ih λx hx=>h x (ZQ _ hx)
  omega
theorem ta{L:List Mem}(h:i<L.length):KE (L.take (i+1))=KE (L.take i)++Ln (L.getD i default):=by
 unfold KE
 rw[Uj,Zh,Zp h,Wn,UQ]
 simp
theorem No{v:AV}{l:List UInt8}(h:BV H v l)(hb: ∀b∈Wo v,b<n):WC n v=true:=by
 rcases h with⟨_,rfl|⟨b,o,c,rfl⟩⟩|⟨_,b,o,c,r,rfl,_⟩
 ·rfl
 ·exact Yg (hb b (by simp[Wo])) _ _ _
 ·exact Yg (hb b (by simp[Wo])) _ _ _
theorem O7{v:AV}{l:List UInt8}(h:BV H v l)(n:Nat)(t:T Obj):Um (.val v ⟨n,t,n⟩) v n=true:=by
 rcases h with⟨_,rfl|⟨b,o,c,rfl⟩⟩|⟨_,b,o,c,r,rfl,_⟩
 ·exact Qg n t
 ·exact Z8 ..
 ·exact Z8 ..
theorem BV.move{H H':Heap}{S:List Nat}{v:AV}{l:List UInt8}(h:BV H v l)(k:ZK H H' S)(hS: ∀b∈Wo v,b∉S):BV H' v l:=
 h.keep k λb o n c e=>hS b (by rw[e];simp[Wo])
structure PTI(Hs:Heap)(v:AV)(L:List Mem)(m:Nat)(tm:TM)(H:Heap):Prop where
 k:ZK Hs H []
 t16:X8 tm=v
 t17:WI tm=nI .i64 L.length
 i: ∃i w,Wv tm=nI .i64 i∧i+m=L.length∧XY tm=w∧GB H w (KE (L.take i)) Hs.nx
def PTQ(Hs:Heap)(L:List Mem)(o:Out)(tm:TM)(H:Heap):Prop:=o=.exit 1∧ZK Hs H []∧ ∃w,XY tm=w∧GB H w (KE L) Hs.nx
theorem be(E:Env Zx fs fuel)(hk:13<=k){v:AV}{L:List Mem}{Hs:Heap}(gH:TL Hs)(hV:Mv Hs v L)(hl:L.length<=12)(hok: ∀x∈L,LOk x∧Wm x=true)(y f dd q)(X0:X)(m:Nat)(tm:TM)(H:Heap)(hI:PTI Hs v L m tm H):
  ∃o tm' H',yH ⟨Z7 (LK Zx fs fuel k) fs fuel (n+7),y,f,dd,q⟩ tm H X0=.ok o tm' H' X0∧((o=.normal∧ ∃k,k<m∧PTI Hs v L k tm' H')∨(o≠.normal∧PTQ Hs L o tm' H')):=by
 obtain⟨k0,t16,t17,i,w,t18,him,t4,gbw⟩:=hI
 have nq:=t16;have Zjd:=t17;have Jp:=t4
 simp only[PD,lW,aJ,ZdY] at t4 t16 t17 t18
 cases m with
 |zero=>
  have d1:decide (i<L.length)=false:=Ze (by omega)
  simp only[t17,t18,d1,Zu,Zu,yH,Z9,Xg,Xe]
  rw[Y1 (by omega)] at gbw
  refine⟨_,_,_,rfl,?_⟩
  exact .inr ⟨by simp,rfl,k0,w,Jp,gbw⟩
 |succ m=>
  have d1:decide (i<L.length)=true:=Zi (by omega)
  have hi:i<L.length:=by omega
  obtain⟨bb,o,r,cs,eI,hb,gb,eL,_,hB0⟩:=hV.at_ hi
  have gb:=(k0.get bb hb (by simp)).trans gb
  have hb:bb<H.nx:=Yk hb k0.nx
  obtain⟨⟨hh1,hh2⟩,hm⟩:=hok _ (uy hi)
  have hpl:=DC (L:=L.take i) λx hx=>hok x (Ui hx)
  rw[Z2] at hpl
  have hpush:=ta hi
  have hmb:=BQ ⟨hh1,hh2⟩ hm
  generalize L.getD i default=me at*
  obtain⟨av,dv,rfl,hA0,hD0,Zec⟩:=hB0
  have hA:=hA0.keep0 k0
  have hD:BV H dv me.data:=hD0.keep k0 (λ_ _ _ _ _=>by simp)
  have hdb: ∀b∈Wo dv,b<H.nx:=λb hb=>Yk (Zec b hb) k0.nx
  have hx0:=k0.nx
  have gH0:=gH.keep0 k0
  have Zih:=gH0.p.ro
  have hDs:=su hD (CO hdb)
  obtain⟨H1,hH1⟩:=SK (H.new (rH 28 [.str me.path,.int .i64 me.kind,nI .u32 me.mode,nI .u32 me.uid,nI .u32 me.gid,.int .i64 me.time,av,dv,.str me.link]))
  have k1:ZK H H1 []:=by rw[<-hH1];exact ZK.new _ _ _
  have Kn:H1.nx=H.nx+1:=by rw[<-hH1];rfl
  have g1:H1.t.get H.nx=some (rH 28 [.str me.path,.int .i64 me.kind,nI .u32 me.mode,nI .u32 me.uid,nI .u32 me.gid,.int .i64 me.time,av,dv,.str me.link]):=by rw[<-hH1];exact YD rfl _
  have uj: ∀G,zq 9 (some (rH 28 [.str me.path,.int .i64 me.kind,nI .u32 me.mode,nI .u32 me.uid,nI .u32 me.gid,.int .i64 me.time,av,dv,.str me.link])) 0 G=.val (.agg [.str me.path,.int .i64 me.kind,nI .u32 me.mode,nI .u32 me.uid,nI .u32 me.gid,.int .i64 me.time,av,dv,.str me.link]) G:=λG=>TJ (show 0+9<=9 by decide) ..
  have sf:=SD (n:=9) (b:=H.nx) (l:=[.str [],nI .i64 0,nI .u32 0,nI .u32 0,nI .u32 0,nI .i64 0,.nils,.nils,.str []]) (vs:=[.str me.path,.int .i64 me.kind,nI .u32 me.mode,nI .u32 me.uid,nI .u32 me.gid,.int .i64 me.time,av,dv,.str me.link]) (H:=H.new (rH 28 [.str [],nI .i64 0,nI .u32 0,nI .u32 0,nI .u32 0,nI .i64 0,.nils,.nils,.str []])) rfl rfl (by decide) (by show H.ro<=_;exact Zih) 28 1 false true
  rw[SC rfl,hH1] at sf
  have hC1:KH H1 [.str me.path,.int .i64 me.kind,nI .u32 me.mode,nI .u32 me.uid,nI .u32 me.gid,.int .i64 me.time,av,dv,.str me.link] me:=KH.keep ⟨av,dv,rfl,hA,hDs⟩ k1
  obtain⟨v1,H2,e2,IW,k12,hb1,hc1,hv1,hbl1,hbl2⟩:=ym E (k:=k) (n:=n) (by omega) (gH0.keep0 k1) hC1 hh1 hm
  have z0: ∀G,ND VU true (nI .i64 0) (nI .i64 0) G=.val (.bool false) G:=λ_=>rfl
  have k2:=k1.trans' k12
  have g2:H2.t.get H.nx=some (rH 28 [.str me.path,.int .i64 me.kind,nI .u32 me.mode,nI .u32 me.uid,nI .u32 me.gid,.int .i64 me.time,av,dv,.str me.link]):=by rw[k12.get _ (by omega) (by simp)];exact g1
  have l7: ∀G,ld1 (some (rH 28 [.str me.path,.int .i64 me.kind,nI .u32 me.mode,nI .u32 me.uid,nI .u32 me.gid,.int .i64 me.time,av,dv,.str me.link])) 7 G=.val dv G:=λG=>rfl
  have qQ:=gbw.keep k2 (λ_ _=>by simp)
  have Zij:H2.ro<=H2.nx:=by rw[k2.ro];omega
  have hml:(Ln me).length=(U3 me).length+me.data.length+UM me.data.length:=by unfold Ln;rw[Zk,Zk,Z5]
  obtain⟨w3,H3,e3,A6,k23,bk3⟩:=JO qQ IW (by omega) Zij (by omega)
  have hx3:=k23.nx
  have bw: ∀c∈Wo w,Hs.nx<=c∧c<H.nx:=gbw.blk
  have g3:H3.t.get H.nx=some (rH 28 [.str me.path,.int .i64 me.kind,nI .u32 me.mode,nI .u32 me.uid,nI .u32 me.gid,.int .i64 me.time,av,dv,.str me.link]):=by rw[k23.get _ (by omega) (λh=>by have:=(bw _ h).2;omega)];exact g2
  have bV: ∀c∈Wo w3,Hs.nx<=c∧c≠H.nx:=λc hc=>by
   rcases bk3 c hc with h|h
   ·have:=bw c h;omega
   ·omega
  have hdv: ∀b∈Wo dv,b<H.nx:=hdb
  have hdw: ∀b∈Wo dv,b<Hs.nx:=Zec
  have bd3:BV H3 dv me.data:=(hD.keep k2 (λ_ _ _ _ _=>by simp)).move k23 λb hb hm=>by have:=hdw b hb;have:=(bw b hm).1;omega
  have Zet:H3.ro<=H3.nx:=by rw[k23.ro];omega
  obtain⟨w4,H4,e4,gb4,zk,bk4⟩:=JO A6 bd3 (by omega) Zet (by rw[Zk];omega)
  have hx4:=zk.nx
  have g4:H4.t.get H.nx=some (rH 28 [.str me.path,.int .i64 me.kind,nI .u32 me.mode,nI .u32 me.uid,nI .u32 me.gid,.int .i64 me.time,av,dv,.str me.link]):=by rw[zk.get _ (by omega) (λh=>(bV _ h).2 rfl)];exact g3
  have bw4: ∀c∈Wo w4,Hs.nx<=c:=λc hc=>by
   rcases bk4 c hc with h|h
   ·exact(bV c h).1
   ·omega
  have Zik:H4.ro<=H4.nx:=by rw[zk.ro];omega
  have et:=λ{j}=>ZcV E (k:=k) (n:=j) (by omega) (m:=me.data.length) (H:=H4) (by omega)
  obtain⟨w5,H5,e5,gb5,xq,bk5⟩:=sK gb4 (by omega) Zik (UM me.data.length) (by rw[Zk,Zk];omega)
  have ln:=hD.len
  have ln5:=gb5.len
  have d2:decide (67107840<(KE (L.take i)++U3 me++me.data++List.replicate (UM me.data.length) 0).length)=false:=Ze (by simp only[Zk,Z5];omega)
  have lw:=gbw.low (n:=H2.nx) (by omega)
  have lw1:=No IW (n:=H2.nx) (λb hb=>by rw[hv1] at hb;have:b=hb1:=(by simpa [Wo] using hb);omega)
  have ldv:=No hD (n:=H2.nx) (λb hb=>by have:=hdv b hb;omega)
  have sdv:=O7 hD
  have kk:ZK Hs H5 []:=(((k0.trans' k2).trans k23 λc hc hlt=>by have:=bw c hc;omega).trans zk λc hc hlt=>by have:=(bV c hc).1;omega).trans xq λc hc hlt=>by have:=bw4 c hc;omega
  simp(disch:=omega) only[t4,t16,t17,t18,d1,eI,gb,eL,sf,g1,uj,e2,z0,g2,l7,e3,g3,e4,g4,et,e5,ln,ln5,d2,lw,lw1,ldv,sdv,ZV,Zu,ZM,YB,Nat.reduceAdd,decide_true,decide_false,Zb,Zb,ZJ,ZV,ZB,ZG,Zu,ZM,Zb,ZJ,Yp,yH,Z9,Xg,ZY,Yu,Z3,Z6,Nat.reducePow,Nat.reduceDiv,Nat.reduceMod,reduceCtorEq,Xe,U4]
  refine⟨_,_,_,rfl,.inl ⟨rfl,m,by omega,kk,nq,Zjd,i+1,w5,rfl,by omega,rfl,?_⟩⟩
  rw[hpush]
  unfold Ln
  rw[<-Xd,<-Xd];exact gb5
def tK(L:List Mem):List UInt8:=KE L++List.replicate 1024 0
theorem gv(E:Env Zx fs fuel)(hk:13<=k){v:AV}{L:List Mem}(gH:TL H)(hV:Mv H v L)(hl:L.length<=12)(hok: ∀x∈L,LOk x):
  ∃w H',Z7 (LK Zx fs fuel k) fs fuel (n+8) 5 [v] H=.ret (.tup [w,nI .i64 (if L.all Wm then 0 else 1)]) H'∧BV H' w (if L.all Wm then tK L else [])∧ZK H H' []∧ ∀c∈Wo w,H.nx<=c∧c<H'.nx:=by
 rw[Z1 (ZU E.n5 (.inr rfl) _ _) E.f5]
 have hf:=E.big
 have ec:=λ{j}=>Zhy E (k:=k) (n:=j) hk gH.p hV (by omega) (λx hx=>(hok x hx).1.short)
 have ln:=hV.len
 have d1:decide (8192<L.length)=false:=Ze (by omega)
 cases ha:L.all Wm with
 |false=>
  rw[ha] at ec
  simp only[ec,ZI,ZI,c5,Z9,Xg,ZY,reduceCtorEq,Xe]
  exact⟨_,_,rfl,.inl ⟨rfl,.inl rfl⟩,ZK.refl _ _,λc hc=>by cases hc⟩
 |true=>
  rw[ha] at ec
  have hall:=Y2.1 ha
  simp only[ec,ln,d1,ZN,ZM,ZN,ZM,c5,Z9,Xg,Xe]
  generalize hL:Ue (yH _) fuel _ _ _=LL
  obtain⟨o,Ny,H1,rfl,_,rfl,k1,w,t4,gb⟩:=XZ (P:=λT=>PTI H v L L.length T H) (Q:=PTQ H L)
   (λT hi=>We (PTI H v L) (PTQ H L) (λm tm H2 h=>be E (n:=n) hk gH hV hl (λx hx=>⟨hok x hx,hall x hx⟩) _ _ _ _ _ m tm H2 h) fuel L.length T H (by omega) hi) hL
   (by exact⟨ZK.refl _ _,rfl,rfl,0,.nils,rfl,by omega,rfl,by rw[ZF];exact .inl ⟨rfl,rfl⟩⟩)
  simp only[PD] at t4
  have hx1:=k1.nx
  have e1:=λ{j}=>fU E (k:=k) (n:=j) (H:=H1)
  obtain⟨H2,hH2⟩:=SK (H1.new (.row ⟨5,1,1024,.leaf,nI .u8 0,0,false,true,true⟩))
  have IW:=Zbn (H:=H1)
  rw[hH2] at IW e1
  have k12:ZK H1 H2 []:=by rw[<-hH2];exact ZK.new _ _ _
  have nx2:H2.nx=H1.nx+1:=by rw[<-hH2];rfl
  have hro:=gH.p.ro
  have hpl:=DC (L:=L) λx hx=>⟨hok x hx,hall x hx⟩
  obtain⟨w3,H3,e3,A6,k23,bk3⟩:=JO (gb.keep k12 (λ_ _=>by simp)) IW (by omega) (by rw[k12.ro,k1.ro];omega) (by rw[Z5];omega)
  simp only[t4,e1,e3,ZV,ZV,Z9,Xg,ZY,Xe,U4]
  refine⟨_,_,rfl,A6.bv,(k1.trans' k12).trans k23 λc hc hlt=>?_,A6.blk⟩
  have:=(gb.blk c hc).1;omega
end
end
end Go.AI
