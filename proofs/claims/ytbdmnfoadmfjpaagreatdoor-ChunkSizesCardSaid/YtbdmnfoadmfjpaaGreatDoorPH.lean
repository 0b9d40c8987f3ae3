/- Members cut into parts: walked: proved without conditions but those that each names. -/
import Derived.Test.YtbdmnfoadmfjpaaGreatDoorPF
set_option maxRecDepth 1000000
set_option maxHeartbeats 0
set_option linter.unusedVariables false
set_option linter.unusedSimpArgs false
namespace Go.AI
open Go
noncomputable section
theorem xu: ∀(l:List AV),(∀v∈l,AI.same v v=true)->AI.sameL l l=true
 |[],_=>by unfold AI.sameL;rfl
 |a::l,h=>by
  unfold AI.sameL
  rw[h a (ZF ..),xu l λv hv=>h v (ZQ _ hv)];rfl
theorem kB{H:Heap}{sz:Nat}{v:AV}{ls:List (List AV)}(h:Sz H sz v ls):AI.same v v=true:=by
 have h2:cond (Nat.beq 0 0) (AI.same v v) false=true:=h.same 0 .leaf
 exact h2
def Ey(m:Mem):Bool:=decide (1<=(WB m.path).1)&&decide ((WB m.path).1<=3)&&UF m
theorem eM{Zo:Lib}{fs:T CF}{fuel:Nat}(E:Env Zo fs fuel){n:Nat}{cs:List AV}{m:Mem}{H:Heap}(hs:CX m)(gP:N3 H)(hC:Gm H cs m):
  ∃H',Z8 (LK Zo fs fuel 12) fs fuel (n+2) 14 [.agg cs] H=.ret (.bool (Ey m)) H'∧ZE H H' []:=by
 rw[Z7 (Z2 E.n14 (.inl (by decide)) _ _) E.f14]
 have hC0:=hC
 obtain⟨av,dv,rfl,hA,hD⟩:=hC
 obtain⟨H1,hH1⟩: ∃G,H.new (rG 36 1 [.str m.path,.int .i64 m.kind,nI .u32 m.mode,nI .u32 m.uid,nI .u32 m.gid,.int .i64 m.time,av,dv,.str m.link] 0 false true true)=G:=⟨_,rfl⟩
 have k1:ZE H H1 []:=by rw[<-hH1];exact ZE.new _ _ _
 have bx: ∀G:Heap,II 36 (.agg [.str m.path,.int .i64 m.kind,nI .u32 m.mode,nI .u32 m.uid,nI .u32 m.gid,.int .i64 m.time,av,dv,.str m.link]) G=.val (.ptr G.nx 0) (G.new (rG 36 1 [.str m.path,.int .i64 m.kind,nI .u32 m.mode,nI .u32 m.uid,nI .u32 m.gid,.int .i64 m.time,av,dv,.str m.link] 0 false true true)):=λG=>V7 (l:=[.str m.path,.int .i64 m.kind,nI .u32 m.mode,nI .u32 m.uid,nI .u32 m.gid,.int .i64 m.time,av,dv,.str m.link]) (show 1<=9 by decide) 36 G
 have g1:H1.t.get H.nx=some (rG 36 1 [.str m.path,.int .i64 m.kind,nI .u32 m.mode,nI .u32 m.uid,nI .u32 m.gid,.int .i64 m.time,av,dv,.str m.link] 0 false true true):=by rw[<-hH1];exact YB rfl _
 have l0: ∀G,ld1 (some (rG 36 1 [.str m.path,.int .i64 m.kind,nI .u32 m.mode,nI .u32 m.uid,nI .u32 m.gid,.int .i64 m.time,av,dv,.str m.link] 0 false true true)) 0 G=.val (.str m.path) G:=λG=>rfl
 have qk: ∀G,wZ 9 (some (rG 36 1 [.str m.path,.int .i64 m.kind,nI .u32 m.mode,nI .u32 m.uid,nI .u32 m.gid,.int .i64 m.time,av,dv,.str m.link] 0 false true true)) 0 G=.val (.agg [.str m.path,.int .i64 m.kind,nI .u32 m.mode,nI .u32 m.uid,nI .u32 m.gid,.int .i64 m.time,av,dv,.str m.link]) G:=λG=>To (show 0+9<=9 by decide) ..
 have ec:=λ{j}=>eK E (k:=12) (n:=j) (by decide) (s:=m.path) (H:=H1) hs.path (gP.keep0 k1)
 have em:=λ{j}=>ZbR E (k:=12) (n:=j) (by decide) hs (gP.keep0 k1) (hC0.keep k1)
 by_cases h1:1<=(WB m.path).1
 ·have d1:decide (1<=(WB m.path).1)=true:=Zj h1
  by_cases h2:(WB m.path).1<=3
  ·have d2:decide ((WB m.path).1<=3)=true:=Zj h2
   rw[show Ey m=UF m by unfold Ey;rw[d1,d2];rfl]
   simp only[bx,hH1,g1,l0,qk,ec,em,d1,d2,SA,ZM,ZK,Zd,Zd,ZK,ZM,Zd,c14,Yf,Xr,ZV,Xq]
   refine⟨_,rfl,?_⟩
   exact k1
  ·have d2:decide ((WB m.path).1<=3)=false:=Ze h2
   rw[show Ey m=false by unfold Ey;rw[d1,d2];rfl]
   simp only[bx,hH1,g1,l0,ec,d1,d2,SA,ZM,ZK,Zd,Zd,ZK,ZM,Zd,c14,Yf,Xr,ZV,Xq]
   refine⟨_,rfl,?_⟩
   exact k1
 ·have d1:decide (1<=(WB m.path).1)=false:=Ze h1
  rw[show Ey m=false by unfold Ey;rw[d1];rfl]
  simp only[bx,hH1,g1,l0,ec,d1,SA,ZM,Zd,Zd,ZM,Zd,c14,Yf,Xr,ZV,Xq]
  refine⟨_,rfl,?_⟩
  exact k1
theorem Zni{Zo:Lib}{fs:T CF}{fuel:Nat}(E:Env Zo fs fuel){k n:Nat}(hk:13<=k){cs:List AV}{m:Mem}{H:Heap}(hs:CX m)(gP:N3 H)(hC:Gm H cs m):
  Z8 (LK Zo fs fuel k) fs fuel (n+1) 14 [.agg cs] H=.ret (.bool (Ey m)) H:=by
 obtain⟨H',e,g⟩:=eM E (n:=898) (H:=H) hs gP hC
 exact Xp (r:=12) rfl rfl e g (rfl) hk
instance:Inhabited Mem:=⟨⟨[],0,0,0,0,0,[],[],[]⟩⟩
def yn(L:List Mem)(i:Nat):Bool:=Ey (L.getD i default)&&(decide (i=0)||!Vi (L.getD (i - 1) default).path (L.getD i default).path)
def Ez(L:List Mem):Bool:=(List.range L.length).all (yn L)
def kK(H:Heap)(cs:List AV)(m:Mem):Prop:= ∃av dv,cs=[.str m.path,.int .i64 m.kind,nI .u32 m.mode,nI .u32 m.uid,nI .u32 m.gid,.int .i64 m.time,av,dv,.str m.link]∧Sz H 2 av (QG m.attrs)∧BV H dv m.data∧ ∀b∈WK dv,b<H.nx
theorem NS{v:AV}{n:Nat}(h: ∀b∈WK v,b<n): ∀b o m c,v=.slice b o m c->b<n:=λb o m c e=>h b (by rw[e];simp[WK])
theorem kK.toC{H:Heap}{cs:List AV}{m:Mem}(h:kK H cs m):Gm H cs m:=by
 obtain⟨av,dv,e,h1,h2,h3⟩:=h
 exact⟨av,dv,e,h1,Gt h2 (NS h3)⟩
theorem kK.keep{H H':Heap}{cs:List AV}{m:Mem}(h:kK H cs m)(k:ZE H H' []):kK H' cs m:=by
 obtain⟨av,dv,e,h1,h2,h3⟩:=h
 exact⟨av,dv,e,h1.keep0 k,h2.keep k (λ_ _ _ _ _=>by simp),λb hb=>ZZ (h3 b hb) k.nx⟩
structure CV(H:Heap)(v:AV)(L:List Mem):Prop where
 ls: ∃ls,Sl H 9 v ls∧ls.length=L.length∧ ∀i,i<L.length->kK H (ls.getD i []) (L.getD i default)
 sl: ∀G,(∀x,x<H.nx->G.t.get x=H.t.get x)->Ss 9 v none (some (nI .i64 L.length)) G=.val v G
theorem CV.keep{H H':Heap}{v:AV}{L:List Mem}(h:CV H v L)(k:ZE H H' []):CV H' v L:=by
 obtain⟨⟨ls,h1,h2,h3⟩,h4⟩:=h
 exact⟨⟨ls,h1.keep0 k,h2,λi hi=>(h3 i hi).keep k⟩,λG hG=>h4 G λx hx=>(hG x (ZZ hx k.nx)).trans (k.get x hx (by simp))⟩
structure CMI(Hs:Heap)(v:AV)(L:List Mem)(m:Nat)(tm:TM)(H:Heap):Prop where
 k:ZE Hs H []
 t0:Y3 tm=v
 t9:Vc tm=v
 t10:XF tm=nI .i64 L.length
 i: ∃i,XO tm=nI .i64 i∧i+m=L.length∧ ∀j,j<i->yn L j=true
def CMQ(Hs:Heap)(v:AV)(L:List Mem)(o:Out)(tm:TM)(H:Heap):Prop:=ZE Hs H []∧((o=.exit 0∧Y3 tm=v∧Ez L=true)∨(o=.ret∧Uv tm=nI .i64 1∧Ez L=false))
theorem mX{L:List Mem}{i:Nat}(hi:i<L.length)(h:yn L i=false):Ez L=false:=by
 unfold Ez
 rw[List.all_eq_false]
 exact⟨i,VD.2 hi,by rw[h];simp⟩
theorem ZcE{Zo:Lib}{fs:T CF}{fuel:Nat}(E:Env Zo fs fuel){k n:Nat}(hk:13<=k){v:AV}{L:List Mem}{Hs:Heap}(gP:N3 Hs)(hV:CV Hs v L)(hl:L.length<=1000)(hs: ∀i,i<L.length->CX (L.getD i default))(y f dd qq)(X0:X)(m:Nat)(tm:TM)(H:Heap)(hI:CMI Hs v L m tm H):
  ∃o tm' H',Jn ⟨Z8 (LK Zo fs fuel k) fs fuel (n+1),y,f,dd,qq⟩ tm H X0=.ok o tm' H' X0∧((o=.normal∧ ∃k,k<m∧CMI Hs v L k tm' H')∨(o≠.normal∧CMQ Hs v L o tm' H')):=by
 obtain⟨k0,t0,t9,t10,i,t11,him,hgood⟩:=hI
 have t0':=t0;have ql:=t9;have EV:=t10
 simp only[Um] at t0
 simp only[IK] at t9
 simp only[LD] at t10
 simp only[QO] at t11
 cases m with
 |zero=>
  have d1:decide (i<L.length)=false:=Ze (by omega)
  simp only[t10,t11,d1,Zy,Zy,Jn,Yf,Xr,Xq]
  refine⟨_,_,_,rfl,?_⟩
  exact .inr ⟨by simp,k0,.inl ⟨rfl,t0',by unfold Ez;rw[Y6];exact λj hj=>hgood j (by have:=VD.1 hj;omega)⟩⟩
 |succ m=>
  have d1:decide (i<L.length)=true:=Zj (by omega)
  have hi:i<L.length:=by omega
  obtain⟨⟨ls,hS,hll,hM⟩,_⟩:=hV.keep k0
  obtain⟨bb,o,r,eI,hb,gb,eL,eE⟩:=(show Sz H 9 v ls from .inr hS).at_ (i:=i) (by omega)
  have hC:=(hM i hi).toC
  have hC0:=hC
  obtain⟨av,dv,ecs,hA,hD⟩:=hC
  rw[ecs] at eL
  rw[ecs] at hC0
  have hSi:=hs i hi
  have hgi:yn L i=(Ey (L.getD i default)&&(decide (i=0)||!Vi (L.getD (i - 1) default).path (L.getD i default).path)):=rfl
  have Zki:0<i-> ∃b2 o2 r2,(∀(k:IntKind) (G:Heap),IZ 9 v (nI k (i - 1)) G=.val (.ptr b2 o2) G)∧b2<H.nx∧H.t.get b2=some (.row r2)∧ ∀G,ld1 (some (.row r2)) o2 G=.val (.str (L.getD (i - 1) default).path) G:=λh0=>by
   obtain⟨b2,o2,r2,eY,hb2,Gj,_,eE2⟩:=(show Sz H 9 v ls from .inr hS).at_ (i:=i - 1) (by omega)
   obtain⟨av2,dv2,Zgq,_⟩:=(hM (i - 1) (by omega)).toC
   refine⟨b2,o2,r2,eY,hb2,Gj,λG=>?_⟩
   have:=eE2 0 G (by decide)
   rw[Zgq] at this
   exact this
  generalize hm:L.getD i default=m' at*
  obtain⟨H1,hH1⟩: ∃G,H.new (rG 36 1 [.str m'.path,.int .i64 m'.kind,nI .u32 m'.mode,nI .u32 m'.uid,nI .u32 m'.gid,.int .i64 m'.time,av,dv,.str m'.link] 0 false true true)=G:=⟨_,rfl⟩
  have k1:ZE H H1 []:=by rw[<-hH1];exact ZE.new _ _ _
  have Jh:H1.nx=H.nx+1:=by rw[<-hH1];rfl
  have g1:H1.t.get H.nx=some (rG 36 1 [.str m'.path,.int .i64 m'.kind,nI .u32 m'.mode,nI .u32 m'.uid,nI .u32 m'.gid,.int .i64 m'.time,av,dv,.str m'.link] 0 false true true):=by rw[<-hH1];exact YB rfl _
  have gP0:=gP.keep0 k0
  have sf:=SB (n:=9) (b:=H.nx) (l:=[.str [],nI .i64 0,nI .u32 0,nI .u32 0,nI .u32 0,nI .i64 0,.nils,.nils,.str []]) (vs:=[.str m'.path,.int .i64 m'.kind,nI .u32 m'.mode,nI .u32 m'.uid,nI .u32 m'.gid,.int .i64 m'.time,av,dv,.str m'.link]) (H:=H.new (rG 36 1 [.str [],nI .i64 0,nI .u32 0,nI .u32 0,nI .u32 0,nI .i64 0,.nils,.nils,.str []] 0 false true true)) rfl rfl (by decide) gP0.ro 36 1 false true
  rw[Sy rfl,hH1] at sf
  have l0: ∀G,ld1 (some (rG 36 1 [.str m'.path,.int .i64 m'.kind,nI .u32 m'.mode,nI .u32 m'.uid,nI .u32 m'.gid,.int .i64 m'.time,av,dv,.str m'.link] 0 false true true)) 0 G=.val (.str m'.path) G:=λG=>rfl
  have qk: ∀G,wZ 9 (some (rG 36 1 [.str m'.path,.int .i64 m'.kind,nI .u32 m'.mode,nI .u32 m'.uid,nI .u32 m'.gid,.int .i64 m'.time,av,dv,.str m'.link] 0 false true true)) 0 G=.val (.agg [.str m'.path,.int .i64 m'.kind,nI .u32 m'.mode,nI .u32 m'.uid,nI .u32 m'.gid,.int .i64 m'.time,av,dv,.str m'.link]) G:=λG=>To (show 0+9<=9 by decide) ..
  have em:=λ{j}=>Zni E (k:=k) (n:=j) hk hSi (gP0.keep0 k1) (hC0.keep k1)
  have lw1:Wu H1.nx v=true:=hS.low (by omega)
  have sm9: ∀(n:Nat) (T:T Obj),UR (.val (.agg [.str m'.path,.int .i64 m'.kind,nI .u32 m'.mode,nI .u32 m'.uid,nI .u32 m'.gid,.int .i64 m'.time,av,dv,.str m'.link]) ⟨n,T,n⟩) (.agg [.str m'.path,.int .i64 m'.kind,nI .u32 m'.mode,nI .u32 m'.uid,nI .u32 m'.gid,.int .i64 m'.time,av,dv,.str m'.link]) n=true:=λn T=>pg (xu _ λx hx=>by
   simp only[Yi,TY,or_false] at hx
   rcases hx with rfl|rfl|rfl|rfl|rfl|rfl|rfl|rfl|rfl<;>first|exact kB hA|exact kB hD|exact sX _|exact JZ _ _|exact lN _ _) n T
  have qi:=k0.trans' k1
  cases hc:Ey m' with
  |false=>
   rw[hc] at em
   rw[hc,PB] at hgi
   simp only[t9,t10,t11,d1,eI,gb,eL,sf,g1,qk,em,sm9,Yx,Zy,decide_true,Zz,ZH,Zy,Jn,Yf,Xr,ZV,Yv,Z0,Z1,Nat.reducePow,Nat.reduceDiv,Nat.reduceMod,Xq,TB]
   refine⟨_,_,_,rfl,?_⟩
   exact .inr ⟨by simp,qi,.inr ⟨rfl,rfl,mX hi hgi⟩⟩
  |true=>
   rw[hc] at em
   rw[hc,Sm] at hgi
   by_cases h0:i=0
   ·subst h0
    have dz: ∀G,Te SQ VW (nI .i64 0) (nI .i64 0) G=.val (.bool false) G:=λ_=>rfl
    simp only[t9,t10,t11,d1,eI,gb,eL,sf,g1,qk,em,sm9,dz,Zy,Yy,decide_true,Zb,Zb,Zz,ZH,Zy,Zb,Jn,Yf,Xr,ZV,Yv,Z0,Z1,Nat.reducePow,Nat.reduceDiv,Nat.reduceMod,Xq,TB]
    exact⟨_,_,_,rfl,.inl ⟨rfl,m,by omega,qi,t0',ql,EV,0+1,rfl,by omega,λj hj=>by
     obtain rfl:j=0:=by omega
     rw[hgi];rfl⟩⟩
   ·have d2:decide (0<i)=true:=Zj (by omega)
    obtain⟨b2,o2,r2,eY,hb2,Gj,eE2⟩:=Zki (by omega)
    have ZcW:H1.t.get b2=some (.row r2):=by rw[k1.get _ hb2 (by simp)];exact Gj
    have sb: ∀G,J8 (nI .i64 i) (nI .i64 1) G=.val (nI .i64 (i - 1)) G:=λG=>YR (by omega) (by omega) G
    rw[Ze h0,Bool.false_or] at hgi
    cases hge:Vi (L.getD (i - 1) default).path m'.path with
    |true=>
     rw[hge] at hgi
     simp(disch:=omega) only[t0,t9,t10,t11,d1,eI,gb,eL,sf,g1,l0,qk,em,lw1,sm9,d2,eY,ZcW,eE2,sb,Qp,hge,Zy,ZJ,decide_true,Zd,Zd,Qp,ZN,Zz,ZH,Zy,ZJ,Zd,ZN,Jn,Yf,Xr,ZV,Yv,Z0,Z1,Nat.reducePow,Nat.reduceDiv,Nat.reduceMod,Xq,TB]
     refine⟨_,_,_,rfl,?_⟩
     exact .inr ⟨by simp,qi,.inr ⟨rfl,rfl,mX hi hgi⟩⟩
    |false=>
     rw[hge] at hgi
     simp(disch:=omega) only[t0,t9,t10,t11,d1,eI,gb,eL,sf,g1,l0,qk,em,lw1,sm9,d2,eY,ZcW,eE2,sb,Qp,hge,Zy,ZJ,Yy,decide_true,Zd,Zd,Qp,ZN,Zz,ZH,Zy,ZJ,Zd,ZN,Jn,Yf,Xr,ZV,Yv,Z0,Z1,Nat.reducePow,Nat.reduceDiv,Nat.reduceMod,Xq,TB]
     exact⟨_,_,_,rfl,.inl ⟨rfl,m,by omega,qi,t0',ql,EV,i+1,rfl,by omega,λj hj=>by
      rcases Nat.lt_or_ge j i with h|h
      ·exact hgood j h
      ·obtain rfl:j=i:=by omega
       exact hgi⟩⟩
theorem je{Zo:Lib}{fs:T CF}{fuel:Nat}(E:Env Zo fs fuel){k n:Nat}(hk:13<=k){v:AV}{L:List Mem}{H:Heap}(gP:N3 H)(hV:CV H v L)(hl:L.length<=1000)(hs: ∀i,i<L.length->CX (L.getD i default)):
  ∃H',Z8 (LK Zo fs fuel k) fs fuel (n+2) 11 [v] H=.ret (nI .i64 (if Ez L=true then 0 else 1)) H'∧ZE H H' []:=by
 rw[Z7 (Z2 E.n11 (.inr rfl) _ _) E.f11]
 have hf:=E.big
 obtain⟨⟨ls,hS,hll,hM⟩,hsl⟩:=hV
 have ln:=hS.len
 rw[hll] at ln
 have sl:=hsl H λ_ _=>rfl
 have mn: ∀G,zu false [nI .i64 L.length,nI .i64 4096] G=.val (nI .i64 L.length) G:=λG=>by rw[TJ,Wh (by omega)]
 have d5:decide (4096<L.length)=false:=Ze (by omega)
 simp only[ln,sl,mn,Po,RZ,XG,VI,c11,Yf,Xr,Xq]
 generalize hL:WP (Jn _) fuel _ _ _=LL
 obtain⟨o,KO,H2,rfl,_,k2,z⟩:=Wd (P:=λT=>CMI H v L L.length T H) (Q:=CMQ H v L)
  (λT hi=>Wo (CMI H v L) (CMQ H v L) (λm tm H2 h=>ZcE E (k:=k) (n:=n) hk gP ⟨⟨ls,hS,hll,hM⟩,hsl⟩ hl hs _ _ _ _ _ m tm H2 h) fuel L.length T H (by omega) hi) hL
  (by exact⟨ZE.refl _ _,rfl,rfl,rfl,0,rfl,by omega,λj hj=>by cases hj⟩)
 rcases z with⟨rfl,t0,hm⟩|⟨rfl,t2,hm⟩
 ·simp only[Um] at t0
  rw[if_pos hm]
  simp only[t0,ln,d5,ZJ,ZJ,Yf,Xr,ZV,Xq,TB]
  refine⟨_,rfl,?_⟩
  exact k2
 ·simp only[Oa] at t2
  rw[if_neg (by rw[hm];simp)]
  simp only[t2,Yf,ZV,Xq]
  refine⟨_,rfl,?_⟩
  exact k2
structure VB where
 entry:Nat
 head:Bool
 at_:Nat
 size:Nat
 raw:List UInt8
 sum:List UInt8
instance:Inhabited VB:=⟨⟨0,false,0,0,[],[]⟩⟩
def Sv(rv:AV)(x:VB):List AV:=[nI .i64 x.entry,.bool x.head,nI .i64 x.at_,nI .i64 x.size,rv]++x.sum.map X8
theorem N0{rv:AV}{x:VB}(h:x.sum.length=32):(Sv rv x).length=37:=by unfold Sv;rw[Zm,Zt,h];rfl
def v9(H:Heap)(S:List Nat)(cs:List AV)(x:VB):Prop:= ∃rv,cs=Sv rv x∧x.sum.length=32∧BV H rv x.raw∧ ∀b∈WK rv,b∉S∧b<H.nx
theorem v9.keep{H H':Heap}{S S' T:List Nat}{cs:List AV}{x:VB}(h:v9 H S cs x)(k:ZE H H' T)(hT: ∀b∈T,b∈S∨H.nx<=b)(hS: ∀b∈S',b∈S∨H.nx<=b):v9 H' S' cs x:=by
 obtain⟨rv,e,h1,h2,h3⟩:=h
 refine⟨rv,e,h1,h2.keep k λb o n c hh hb=>?_,λb hb=>⟨λhs=>?_,ZZ (h3 b hb).2 k.nx⟩⟩
 ·have:=h3 b (by rw[hh];simp[WK])
  rcases hT b hb with h|h
  ·exact this.1 h
  ·omega
 ·have:=h3 b hb
  rcases hS b hs with h|h
  ·exact this.1 h
  ·omega
def N4(H:Heap)(w:AV)(S:List Nat)(lo:Nat)(ps:List VB):Prop:= ∃ls,Py H w 40 37 ls lo∧ls.length=ps.length∧ ∀i,i<ps.length->v9 H S (ls.getD i []) (ps.getD i default)
theorem N4.keep{H H':Heap}{w:AV}{S:List Nat}{lo:Nat}{ps:List VB}(h:N4 H w S lo ps)(k:ZE H H' []):N4 H' w S lo ps:=by
 obtain⟨ls,h1,h2,h3⟩:=h
 exact⟨ls,h1.below (λc _ hc=>k.get c hc (by simp)) k.ro k.nx,h2,λi hi=>(h3 i hi).keep k (λb hb=>by cases hb) (λb hb=>.inl hb)⟩
def qg(H:Heap)(xb lo:Nat)(ps:List VB):Prop:= ∃w,H.t.get xb=some (rG 53 1 [w] 0 false true true)∧N4 H w (xb::WK w) lo ps∧xb<lo∧H.ro<=xb∧lo<=H.nx
theorem qg.keep{H H':Heap}{xb lo:Nat}{ps:List VB}(h:qg H xb lo ps)(k:ZE H H' []):qg H' xb lo ps:=by
 obtain⟨w,h1,h2,h3,h4,h5⟩:=h
 exact⟨w,by rw[k.get xb (by omega) (by simp)];exact h1,h2.keep k,h3,by rw[k.ro];exact h4,Yl h5 k.nx⟩
theorem mO{H0 H:Heap}{xb lo:Nat}{ps:List VB}{rv:AV}{x:VB}(h:qg H0 xb lo ps)(k:ZE H0 H [])(hro:H.ro<=H.nx)(hb:BV H rv x.raw)(hrv: ∀b∈WK rv,H0.nx<=b∧b<H.nx)(hs:x.sum.length=32)(hl:ps.length<=100000):
  ∃w w' H2,H.t.get xb=some (rG 53 1 [w] 0 false true true)∧(∀n,H.nx<=n->Wu n w=true)∧(∀n T,UR (.val w ⟨n,T,n⟩) w n=true)∧U2 40 37 88 w (.slice H.nx 0 1 none) (H.new (rG 40 37 (Sv rv x) 0 false true true))=.val w' H2∧
   H2.t.get xb=some (rG 53 1 [w] 0 false true true)∧oA 1 (some (rG 53 1 [w] 0 false true true)) xb 0 w' H2=.val XE (H2.put xb (rG 53 1 [w'] 0 false true true))∧
   qg (H2.put xb (rG 53 1 [w'] 0 false true true)) xb lo (ps++[x])∧ ∃S,ZE H (H2.put xb (rG 53 1 [w'] 0 false true true)) S∧ ∀y∈S,y=xb∨lo<=y∧y<H0.nx:=by
 obtain⟨w,h1,⟨ls,r1,r2,r3⟩,h3,h4,h5⟩:=h.keep k
 have hw0: ∀b∈WK w,lo<=b∧b<H0.nx:=by
  obtain⟨w0,g1,⟨ls0,q1,_,_⟩,g3,_,_⟩:=h
  have g2:H.t.get xb=H0.t.get xb:=k.get xb (by omega) (by simp)
  rw[g2,g1] at h1
  have e:w0=w:=by
   have:=congrArg (λo=>match o with|some (Obj.row r)=>r.get 0|_=>.unk) h1
   simpa [rG,vM] using this
  subst e
  exact λb hb=>by have:=(TN q1).2.2.2 b hb;omega
 obtain⟨lw,sw,cw,bw⟩:=TN r1
 obtain⟨w',H2,ea,w2,k2,hb2,n2⟩:=lG (bytes:=88) r1 (by decide) (by decide) (by omega) hro h5 (x:=Sv rv x) (N0 hs)
 obtain⟨_,_,cw',bw'⟩:=TN w2
 have hx2:=k2.nx
 have g2:H2.t.get xb=some (rG 53 1 [w] 0 false true true):=by rw[k2.get xb (by omega) (λh=>by have:=(bw _ h).1;omega)];exact h1
 have sq:oA 1 (some (rG 53 1 [w] 0 false true true)) xb 0 w' H2=.val XE (H2.put xb (rG 53 1 [w'] 0 false true true)):=by
  rw[KK cw' (YK 0) (by rw[k2.ro];exact h4) (ZB _)];rfl
 have kq:ZE H (H2.put xb (rG 53 1 [w'] 0 false true true)) (xb::WK w):=(⟨k2.nx,k2.ro,λc hc hn=>k2.get c hc λh=>hn (ZQ _ h)⟩:ZE H H2 (xb::WK w)).then_put (λ_=>ZF ..)
 refine⟨w,w',H2,h1,lw,sw,ea,g2,sq,⟨w',XY ..,⟨ls++[Sv rv x],?_,by rw[Zm,Zm,r2];rfl,λi hi=>?_⟩,h3,by show H2.ro<=xb;rw[k2.ro];exact h4,by show lo<=H2.nx;omega⟩,_,kq,λy hy=>?_⟩
 ·rcases w2 with hw2|⟨g1,b0,r0,g3,g4,g5⟩
  ·exact .inl hw2
  ·exact .inr ⟨g1,b0,r0,g3,g4.moved (Q7 (by omega) ..) rfl (Zq _),g5⟩
 ·have hS: ∀b∈xb::WK w',b∈xb::WK w∨H.nx<=b:=λb hb=>by
   rcases Yi.1 hb with rfl|hb
   ·exact .inl (ZF ..)
   ·exact .inr (hb2 b hb)
  by_cases hlt:i<ps.length
  ·have:=(r3 i hlt).keep kq (λb hb=>.inl hb) hS
   rw[Zf,Zf,Yt hlt,Yt (by omega),<-Zf,<-Zf]
   exact this
  ·rw[Zm] at hi
   have hi:i<ps.length+1:=hi
   obtain rfl:i=ps.length:=by omega
   rw[Zf,Zf,Yz (Zq _),Yz (by omega),Tl,show ps.length - ls.length=0 by omega]
   have Zoy: ∀b∈WK rv,b∉xb::WK w:=λb hb hm=>by
    have h1:=(hrv b hb).1
    rcases Yi.1 hm with rfl|hm
    ·have:=k.nx
     obtain⟨w0,_,_,g3,_,g5⟩:=h
     omega
    ·have:=(hw0 b hm).2;omega
   have hp:v9 H (xb::WK w) (Sv rv x) x:=⟨rv,rfl,hs,hb,λb hb=>⟨Zoy b hb,(hrv b hb).2⟩⟩
   exact hp.keep kq (λb hb=>.inl hb) hS
 ·rcases Yi.1 hy with rfl|hy
  ·exact .inl rfl
  ·exact .inr (hw0 _ hy)
theorem Zcn{Zo:Lib}{fs:T CF}{fuel:Nat}(E:Env Zo fs fuel){k n:Nat}{H:Heap}{v:AV}{l:List UInt8}(h:Sz H 1 v (ND l))(hl:l.length<=90000)(hne:l≠[])(hro:H.ro<=H.nx):
  ∃v' H',Z8 (LK Zo fs fuel k) fs fuel (n+1) 10 [v] H=.ret v' H'∧GB H' v' l H.nx∧ZE H H' []:=by
 rw[Z7 (Z2 E.n10 (.inr rfl) _ _) E.f10]
 have hd:ND l≠[]:=λe=>hne (by
  cases l with
  |nil=>rfl
  |cons a l=>cases e)
 rcases kA h with en|⟨rfl,e0⟩
 ·have bs:UL 5 1 0 (List.replicate 0 [nI .u8 0]).flatten [] H=.val (.slice H.nx 0 0 none) (H.new (rG 5 1 [] 0 false true true)):=rfl
  have hk:ZE H (H.new (rG 5 1 [] 0 false true true)) []:=ZE.new _ _ _
  rcases nu (e:=5) (bytes:=1) h (by decide) (by decide) (by rw[SK];omega) with⟨ea,e0⟩|⟨ea,e0⟩
  ·exact absurd e0 hd
  ·rw[If,SK] at ea
   simp(maxSteps:=4000000) (disch:=first|assumption|omega|(simp -implicitDefEqProofs only[Xl,Xm]<;>first|assumption|omega)|decide) only[en,bs,ea,ZX,ZW,ZH,Yx,Ye,ZM,ZK,Zy,ZJ,YN,Y7,YE,Xa,YR,Yy,ZP,Ya,Yb,YV,Nat.reduceSub,Nat.reduceAdd,Nat.reduceLeDiff,ZB,ZL,Nat.reduceEqDiff,decide_true,decide_false,Yq,Zd,Zb,X7,Wc,Y0,Yw,Yk,YQ,YP,Z6,Zx,Zr,Y8,ZY,Zb,Zd,Xg,ZD,ZR,Qp,ZN,Zu,ZC,Zw,ZI,Zs,Zv,Zl,ZO,XC,XJ,Xx,Xw,ZU,ZS,ZX,ZW,Zz,ZH,YC,YF,Zy,ZJ,ZK,ZM,Zb,Zd,c10,Yf,Xr,ZV,Yv,Z0,Z1,Yc,Nat.reduceEqDiff,reduceCtorEq,Xq]
   refine⟨_,_,rfl,?_⟩
   exact⟨.inr ⟨_,false,rfl,Ws _,YK _,Yl hro (Ws _),YB rfl _⟩,hk.then_new _⟩
 ·exact absurd e0 hd
theorem oP:z37=nI .i64 0::.bool false::nI .i64 0::nI .i64 0::.nils::List.replicate 32 (nI .u8 0):=rfl
theorem IG:z37.length=37:=by rw[oP];simp
theorem ZiU{x:List AV}(hx:x.length=37)(G:Heap):UL 40 37 1 z37 [(0,37,.agg x)] G=.val (.slice G.nx 0 1 none) (G.new (rG 40 37 x 0 false true true)):=by
 rw[Hu (by decide) (by rw[IG]),Ei hx (by decide) (by rw[IG];decide),NV]
 rw[Et _ _ _ (by rw[IG,hx];decide),ZI,Zx,Vt (by rw[IG,hx];decide),Zr]
 rfl
theorem ZiR(x a b c d:AV):[x]++([a,b,c,d]++[])=[x,a,b,c,d]:=rfl
def Kept(H G:Heap):Prop:=H.nx<=G.nx∧G.ro=H.ro∧ ∀c,c<100->G.t.get c=H.t.get c
theorem ZE.kept{H G:Heap}{S:List Nat}(k:ZE H G S)(h:100<=H.nx)(hS: ∀x∈S,100<=x):Kept H G:=⟨k.nx,k.ro,λc hc=>k.get c (by omega) λhm=>by have:=hS c hm;omega⟩
theorem Kept.trans{H G F:Heap}(a:Kept H G)(b:Kept G F):Kept H F:=⟨Yl a.1 b.1,b.2.1.trans a.2.1,λc hc=>(b.2.2 c hc).trans (a.2.2 c hc)⟩
def zh(Zo:Lib)(sf:List UInt8->List UInt8)(H:Heap):Prop:= ∀G v' l',Kept H G->BV G v' l'->l'.length<=1200->(∀b o n c,v'=.slice b o n c->b<G.nx)->Zo 28 [v'] G=some (.ret (.agg ((sf l').map X8)) G)
theorem zh.keep{Zo:Lib}{sf:List UInt8->List UInt8}{H G:Heap}(h:zh Zo sf H)(k:Kept H G):zh Zo sf G:=λF v' l' kf=>h F v' l' (k.trans kf)
theorem jd{Zo:Lib}{fs:T CF}{fuel:Nat}(E:Env Zo fs fuel){k n:Nat}{sf:List UInt8->List UInt8}(qY: ∀l,(sf l).length=32){H:Heap}{xb lo en at_ pad:Nat}{bv:AV}{l:List UInt8}{ps:List VB}(gH:Su H)(h:qg H xb lo ps)(hb:BV H bv l)(hne:l≠[])(hl:l.length<=1200)(hbl: ∀b∈WK bv,b<H.nx)(hpad:pad<512)(hps:ps.length<=100000)
  (hsum:zh Zo sf H):
  ∃H' S,Z8 (LK Zo fs fuel k) fs fuel (n+2) 17 [.ptr xb 0,nI .i64 en,nI .i64 at_,bv,nI .i64 pad] H=.ret (.tup []) H'∧qg H' xb lo (ps++[⟨en,false,at_,l.length,l++List.replicate pad 0,sf l⟩])∧ZE H H' S∧ ∀y∈S,y=xb∨lo<=y:=by
 rw[Z7 (Z2 E.n17 (.inr rfl) _ _) E.f17]
 have hro:=gH.p.ro
 obtain⟨v1,H1,e1,gb1,k1⟩:=Zcn E (k:=k) (n:=n) (Gt hb (NS hbl)) (by omega) hne hro
 have hx1:=k1.nx
 have FX:H1.ro<=H1.nx:=by rw[k1.ro];omega
 obtain⟨v2,H2,e2,Gj,k12,bk2⟩:=nG gb1 (by omega) FX pad (by omega)
 have k2:ZE H H2 []:=k1.trans k12 λc hc hlt=>by have:=(gb1.blk c hc).1;omega
 have hx2:=k12.nx
 have gj:H2.ro<=H2.nx:=by rw[k12.ro];omega
 have lb:=hb.len
 have hb2:=hb.keep k2 λ_ _ _ _ _=>by simp
 have ZjX: ∀b∈WK bv,b<H2.nx:=λb hb=>by have:=hbl b hb;omega
 have es:=λ{j}=>OW (fs:=fs) (fuel:=fuel) (k:=k) (n:=j) (SR:=SR) (Qv:=Qv) (f:=28) rfl (hsum H2 _ _ (k2.kept gH.p.nx λx hx=>by cases hx) hb2 hl (NS ZjX))
 have Zg1:=qY l
 have hsm:((sf l).map X8).length=32:=by rw[Zt];exact Zg1
 obtain⟨w,w',H3,g3,lw,sw,ea,g4,sq,ld,S,kS,hS⟩:=mO (x:=⟨en,false,at_,l.length,l++List.replicate pad 0,sf l⟩) h k2 gj Gj.bv (λb hb=>by
  have:=Gj.blk b hb;omega) Zg1 hps
 have cv2:=Gj.cells
 have bu: ∀G,Rz z37 [(0,1,nI .i64 en),(1,1,.bool false),(2,1,nI .i64 at_),(3,1,nI .i64 l.length),(4,1,v2),(5,32,.agg ((sf l).map X8))] G=.val (.agg (Sv v2 ⟨en,false,at_,l.length,l++List.replicate pad 0,sf l⟩)) G:=λG=>by
  rw[oP,MP,Tw rfl (by simp),Tw rfl (by simp),Tw rfl (by simp),Tw rfl (by simp),Tw cv2 (by simp),Ei hsm (by decide) (by simp),NV]
  rw[Et _ _ _ (by rw[hsm];simp),Vt (by rw[hsm];simp),Zr]
  rfl
 have pl:(Sv v2 ⟨en,false,at_,l.length,l++List.replicate pad 0,sf l⟩).length=37:=N0 Zg1
 have b37:=λG=>ZiU pl G
 have lq: ∀G,ld1 (some (rG 53 1 [w] 0 false true true)) 0 G=.val w G:=λG=>Vo (YK 0) ..
 have lxb: ∀o n,H2.nx<=n->Wu n (.ptr xb o)=true:=λo n hn=>ZN (by
  obtain⟨_,_,_,_,_,hq⟩:=h.keep k2
  obtain⟨_,_,_,hq3,_,_⟩:=h
  omega) o
 have lx1:=λo=>lxb o H2.nx (Zq _)
 have lx2:=λo=>lxb o (H2.nx+1) (by omega)
 have lx3:=λo=>lxb o H3.nx kS.nx
 have g3z:(H2.new (rG 40 37 (Sv v2 ⟨en,false,at_,l.length,l++List.replicate pad 0,sf l⟩) 0 false true true)).t.get xb=some (rG 53 1 [w] 0 false true true):=by
  rw[Ma (λe=>?_)]
  ·exact g3
  ·obtain⟨_,_,_,hq3,_,hq5⟩:=h.keep k2
   omega
 have lw1:=lw H2.nx (Zq _)
 have lw2:=lw (H2.nx+1) (by omega)
 have lv2:Wu H2.nx v2=true:=Gj.low (Zq _)
 have lbv:Wu H2.nx bv=true:=by
  rcases hb2 with⟨_,rfl|⟨b,o,c,rfl⟩⟩|⟨_,b,o,c,r,rfl,_,hlt⟩
  ·rfl
  ·exact Yp (ZjX b (by simp[WK])) ..
  ·exact Yp hlt ..
 have lsm:Wu H2.nx (.agg ((sf l).map X8))=true:=by
  rw[Ad]
  generalize sf l=q
  induction q with
  |nil=>rfl
  |cons a q ih=>rw[Zz,Ij,mU,ih];rfl
 have lpa:Wu H2.nx (.agg (Sv v2 ⟨en,false,at_,l.length,l++List.replicate pad 0,sf l⟩))=true:=by
  rw[Ad] at lsm ⊢
  show RL H2.nx (nI .i64 en::.bool false::nI .i64 at_::nI .i64 l.length::v2::(sf l).map X8)=true
  simp only[Ij,G5,yZ,lv2,lsm,cond_true]
 simp(maxSteps:=4000000) (disch:=first|assumption|omega|(simp -implicitDefEqProofs only[Xl,Xm]<;>first|assumption|omega)|decide) only[oX,e1,e2,lb,es,g3,g3z,lq,bu,b37,ea,g4,sq,lx1,lx2,lx3,lw1,lw2,lv2,lbv,lsm,lpa,sw,TK,ZX,ZW,Zz,ZH,Us,Vk,Yx,Ye,ZM,ZK,Zy,ZJ,YN,Y7,YE,Xa,YR,Yy,ZP,Ya,Yb,YV,Nat.reduceSub,Nat.reduceAdd,Nat.reduceLeDiff,ZB,ZL,Nat.reduceEqDiff,decide_true,decide_false,Yq,Zd,Zb,X7,Wc,Y0,Yw,Yk,YQ,YP,Z6,Zx,Zr,Y8,ZY,Zb,Zd,Xg,ZD,ZR,Qp,ZN,Zu,ZC,Zw,ZI,Zs,Zv,Zl,ZO,XC,XJ,Xx,Xw,ZU,ZS,ZX,ZW,Zz,ZH,YC,YF,Zy,ZJ,ZK,ZM,Zb,Zd,ZD,ZR,ZN,YL,YA,YH,YZ,Yp,Yj,c17,Yf,Xr,ZV,Yv,Z0,Z1,Yc,Nat.reducePow,Nat.reduceDiv,Nat.reduceMod,Nat.reduceEqDiff,reduceCtorEq,Xq]
 refine⟨_,S,rfl,?_⟩
 exact⟨ld,k2.trans' kS,λy hy=>(hS y hy).imp id And.left⟩
def Ky(sf:List UInt8->List UInt8)(en s:Nat)(d:List UInt8)(at_:Nat):VB:=
 ⟨en,false,at_,((d.take (at_+s)).drop at_).length,(d.take (at_+s)).drop at_++List.replicate (if d.length<=at_+s then Ro d.length else 0) 0,sf ((d.take (at_+s)).drop at_)⟩
def WQ(sf:List UInt8->List UInt8)(en s:Nat)(d:List UInt8):Nat->Nat->List VB
 |0,_=>[]
 |f+1,at_=>if at_<d.length then Ky sf en s d at_::WQ sf en s d f (at_+s) else []
theorem OG{sf:List UInt8->List UInt8}{en s:Nat}{d:List UInt8}{at_:Nat}(h:d.length<=at_): ∀f,WQ sf en s d f at_=[]
 |0=>rfl
 |f+1=>by unfold WQ;rw[if_neg (by omega)]
structure PCI(Hs:Heap)(sf:List UInt8->List UInt8)(xb lo en s:Nat)(dv:AV)(d:List UInt8)(ps0:List VB)(m:Nat)(tm:TM)(H:Heap):Prop where
 k: ∃S,ZE Hs H S∧ ∀y∈S,y=xb∨lo<=y
 t0:Y3 tm=dv
 t1:Wv tm=nI .i64 s
 t2:Uv tm=.func 17 [.ptr xb 0] []
 t3:VL tm=nI .i64 en
 i: ∃at_ ps,WD tm=nI .i64 at_∧d.length<=at_+m∧at_<=d.length+s∧qg H xb lo ps∧ps0++WQ sf en s d d.length 0=ps++WQ sf en s d m at_∧ps.length+m<=ps0.length+d.length
def PCQ(Hs:Heap)(sf:List UInt8->List UInt8)(xb lo en s:Nat)(d:List UInt8)(ps0:List VB)(o:Out)(tm:TM)(H:Heap):Prop:=o=.exit 0∧(∃S,ZE Hs H S∧ ∀y∈S,y=xb∨lo<=y)∧qg H xb lo (ps0++WQ sf en s d d.length 0)
theorem Ze0(x a b c d:AV):[x]++[a,b,c,d]=[x,a,b,c,d]:=rfl
theorem ZeZ(x a b c d:AV):x::([a,b,c,d]++[])=[x,a,b,c,d]:=rfl
theorem Zen{Zo:Lib}{fs:T CF}{fuel:Nat}(E:Env Zo fs fuel){k n:Nat}(hk:1<=k){Hs:Heap}{sf:List UInt8->List UInt8}(qY: ∀l,(sf l).length=32){xb lo en s:Nat}{dv:AV}{d:List UInt8}{ps0:List VB}(gH:Su Hs)(hx:100<=xb)(hxl:xb<lo)(hb:BV Hs dv d)(hbl: ∀b∈WK dv,b<xb∧b<Hs.nx)(hs1:16<=s)(hs2:s<=65536)(hd:d.length<=1200)(hps:ps0.length<=50000)(hsum:zh Zo sf Hs)(y f dd qq)(X0:X)(m:Nat)(tm:TM)(H:Heap)(hI:PCI Hs sf xb lo en s dv d ps0 m tm H):
  ∃o tm' H',F7 ⟨Z8 (LK Zo fs fuel k) fs fuel (n+2),y,f,dd,qq⟩ tm H X0=.ok o tm' H' X0∧((o=.normal∧ ∃k,k<m∧PCI Hs sf xb lo en s dv d ps0 k tm' H')∨(o≠.normal∧PCQ Hs sf xb lo en s d ps0 o tm' H')):=by
 obtain⟨⟨S,kS,hS⟩,t0,t1,t2,t3,at_,ps,t8,hm,hat,ld,heq,hpl⟩:=hI
 have t0':=t0;have t1':=t1;have t2':=t2;have vW:=t3
 simp only[Um] at t0
 simp only[Mi] at t1
 simp only[Oa] at t2
 simp only[RK] at t3
 simp only[HH] at t8
 have lb:=hb.len
 have Zfk: ∀x∈S,100<=x:=λx hx=>by rcases hS x hx with h|h<;>omega
 have gH':=gH.keep kS Zfk
 have hb':BV H dv d:=hb.keep kS λb o n c e hm=>by
  have:=hbl b (by rw[e];simp[WK])
  rcases hS b hm with h|h<;>omega
 by_cases hlt:at_<d.length
 ·have d1:decide (at_<d.length)=true:=Zj hlt
  obtain⟨m,rfl⟩: ∃m',m=m'+1:=⟨m - 1,by omega⟩
  have hpc:WQ sf en s d (m+1) at_=Ky sf en s d at_::WQ sf en s d m (at_+s):=by
   show(if at_<d.length then _ else _)=_
   rw[if_pos hlt]
  obtain⟨e,he⟩: ∃e,(if d.length<=at_+s then d.length else at_+s)=e:=⟨_,rfl⟩
  obtain⟨pd,HJ⟩: ∃p,(if d.length<=at_+s then Ro d.length else 0)=p:=⟨_,rfl⟩
  have he1:at_<e:=by rw[<-he];split<;>omega
  have he2:e<=d.length:=by rw[<-he];split<;>omega
  have Zou:pd<512:=by rw[<-HJ];split;exact Vu _ (by decide);decide
  have htk:d.take (at_+s)=d.take e:=by
   rw[<-he];split
   ·rw[YS (by omega),YS (Zq _)]
   ·rfl
  have hl:((d.take e).drop at_).length=e - at_:=by rw[YW,Z4];omega
  obtain⟨vb,vo,vc,r,hv,hB,hblt⟩: ∃b o c r,dv=.slice b o d.length c∧Bytes H b o c d r∧b<H.nx:=by
   rcases hb' with⟨h,_⟩|⟨_,b,o,c,r,e,h1,h2⟩
   ·rw[h] at hlt;cases hlt
   ·exact⟨b,o,c,r,e,h1,h2⟩
  have sl:Ss 1 (.slice vb vo d.length vc) (some (nI .i64 at_)) (some (nI .i64 e)) H=.val (.slice vb (vo+at_) (e - at_) (QA vc at_)) H:=xA hB.at_ hB.sz he1 (by have:=hB.fits;omega) (λc hc=>by have:=(hB.cap c hc).1;omega) .i64 .i64
  have hbp:BV H (.slice vb (vo+at_) (e - at_) (QA vc at_)) ((d.take e).drop at_):=by
   refine .inr ⟨λh=>by rw[h] at hl;have:0=e - at_:=hl;omega,vb,vo+at_,QA vc at_,r,by rw[hl],⟨hB.at_,hB.sz,by rw[hl];have:=hB.fits;omega,λi hi=>?_,λq hq=>?_⟩,hblt⟩
   ·rw[hl] at hi
    rw[X3,hB.get (at_+i) (by omega),Zf,Zf,XV,XT (by omega)]
   ·rw[hl]
    cases vc with
    |none=>cases hq
    |some c=>
     have h1:=hB.cap c rfl
     have h2:c - at_=q:=by simpa [QA] using hq
     omega
  have hvb:=hbl vb (by rw[hv];simp[WK])
  obtain⟨H2,S2,e2,aa,k2,hS2⟩:=jd E (k:=k) (n:=n) qY (en:=en) (at_:=at_) (pad:=pd) gH' ld hbp (λh=>by rw[h] at hl;have:0=e - at_:=hl;omega) (by rw[hl];omega) (λb hb=>by
   have:b=vb:=by simpa [WK] using hb
   omega) Zou (by omega) (hsum.keep (kS.kept gH.p.nx Zfk))
  rw[<-hv] at sl
  have ad: ∀G,RI (nI .i64 at_) (nI .i64 s) G=.val (nI .i64 (at_+s)) G:=λG=>Yy (by omega) G
  have fin:qg H2 xb lo (ps++[Ky sf en s d at_]):=by
   have:Ky sf en s d at_=⟨en,false,at_,((d.take e).drop at_).length,(d.take e).drop at_++List.replicate pd 0,sf ((d.take e).drop at_)⟩:=by unfold Ky;rw[htk,HJ]
   rw[this];exact aa
  have hk2: ∃S,ZE Hs H2 S∧ ∀y∈S,y=xb∨lo<=y:=⟨S++S2,(⟨kS.nx,kS.ro,λc hc hn=>kS.get c hc λh=>hn (ZA.2 (.inl h))⟩:ZE Hs H (S++S2)).trans k2 (λc hc _=>ZA.2 (.inr hc)),λy hy=>by
   rcases ZA.1 hy with h|h
   ·exact hS y h
   ·exact hS2 y h⟩
  rw[hpc] at heq
  by_cases hend:d.length<=at_+s
  ·have d2:decide (d.length<=at_+s)=true:=Zj hend
   rw[if_pos hend] at he HJ
   subst he
   subst HJ
   have et:=λ{j}=>ZlH (Zo:=Zo) (fs:=fs) (fuel:=fuel) E (k:=k) (n:=j) hk (m:=d.length) (H:=H) (by omega)
   simp(maxSteps:=4000000) (disch:=first|assumption|omega|(simp -implicitDefEqProofs only[Xl,Xm]<;>first|assumption|omega)|decide) only[t0,t1,t2,t3,t8,lb,d1,ad,sl,e2,ZiR,ZeZ,Ze0,RZ,LN,Z6,XG,d2,et,Yx,Ye,ZM,ZK,Zy,ZJ,YN,Y7,YE,Xa,YR,Yy,ZP,Ya,Yb,YV,Nat.reduceSub,Nat.reduceAdd,Nat.reduceLeDiff,ZB,ZL,Nat.reduceEqDiff,decide_true,decide_false,Yq,Zd,Zb,X7,Wc,Y0,Yw,Yk,YQ,YP,Z6,Zx,Zr,Y8,ZY,Zb,Zd,Xg,ZD,ZR,Qp,ZN,Zu,ZC,Zw,ZI,Zs,Zv,Zl,ZO,XC,XJ,Xx,Xw,ZU,ZS,ZX,ZW,Zz,ZH,YC,YF,Zy,ZJ,ZK,ZM,Zb,Zd,ZD,ZR,ZN,YL,YA,YH,YZ,Yp,Yj,F7,Yf,Xr,ZV,Yv,Z0,Z1,Yc,Nat.reduceEqDiff,reduceCtorEq,Xq,TB]
   refine⟨_,_,_,rfl,?_⟩
   exact .inl ⟨rfl,m,by omega,hk2,t0',t1',t2',vW,at_+s,ps++[Ky sf en s d at_],rfl,by omega,by omega,fin,by rw[heq,XB];rfl,by rw[Zm];show _+1+_<=_;omega⟩
  ·have d2:decide (d.length<=at_+s)=false:=Ze hend
   rw[if_neg hend] at he HJ
   subst he
   subst HJ
   simp(maxSteps:=4000000) (disch:=first|assumption|omega|(simp -implicitDefEqProofs only[Xl,Xm]<;>first|assumption|omega)|decide) only[t0,t1,t2,t3,t8,lb,d1,ad,sl,e2,ZiR,ZeZ,Ze0,RZ,LN,Z6,XG,d2,Yx,Ye,ZM,ZK,Zy,ZJ,YN,Y7,YE,Xa,YR,Yy,ZP,Ya,Yb,YV,Nat.reduceSub,Nat.reduceAdd,Nat.reduceLeDiff,ZB,ZL,Nat.reduceEqDiff,decide_true,decide_false,Yq,Zd,Zb,X7,Wc,Y0,Yw,Yk,YQ,YP,Z6,Zx,Zr,Y8,ZY,Zb,Zd,Xg,ZD,ZR,Qp,ZN,Zu,ZC,Zw,ZI,Zs,Zv,Zl,ZO,XC,XJ,Xx,Xw,ZU,ZS,ZX,ZW,Zz,ZH,YC,YF,Zy,ZJ,ZK,ZM,Zb,Zd,ZD,ZR,ZN,YL,YA,YH,YZ,Yp,Yj,F7,Yf,Xr,ZV,Yv,Z0,Z1,Yc,Nat.reduceEqDiff,reduceCtorEq,Xq,TB]
   refine⟨_,_,_,rfl,?_⟩
   exact .inl ⟨rfl,m,by omega,hk2,t0',t1',t2',vW,at_+s,ps++[Ky sf en s d at_],rfl,by omega,by omega,fin,by rw[heq,XB];rfl,by rw[Zm];show _+1+_<=_;omega⟩
 ·have d1:decide (at_<d.length)=false:=Ze hlt
  rw[OG (at_:=at_) (by omega) m,Zr] at heq
  simp(maxSteps:=4000000) (disch:=first|assumption|omega|(simp -implicitDefEqProofs only[Xl,Xm]<;>first|assumption|omega)|decide) only[t0,t8,lb,d1,Yx,Ye,ZM,ZK,Zy,ZJ,YN,Y7,YE,Xa,YR,Yy,ZP,Ya,Yb,YV,Nat.reduceSub,Nat.reduceAdd,Nat.reduceLeDiff,ZB,ZL,Nat.reduceEqDiff,decide_true,decide_false,Yq,Zd,Zb,X7,Wc,Y0,Yw,Yk,YQ,YP,Z6,Zx,Zr,Y8,ZY,Zb,Zd,Xg,ZD,ZR,Qp,ZN,Zu,ZC,Zw,ZI,Zs,Zv,Zl,ZO,XC,XJ,Xx,Xw,ZU,ZS,ZX,ZW,Zz,ZH,YC,YF,Zy,ZJ,ZK,ZM,Zb,Zd,ZD,ZR,ZN,YL,YA,YH,YZ,Yp,Yj,F7,Yf,Xr,ZV,Yv,Z0,Z1,Yc,Nat.reduceEqDiff,reduceCtorEq,Xq,TB]
  refine⟨_,_,_,rfl,?_⟩
  exact .inr ⟨by simp,rfl,⟨S,kS,hS⟩,by rw[heq];exact ld⟩
theorem pX{Zo:Lib}{fs:T CF}{fuel:Nat}(E:Env Zo fs fuel){k n:Nat}(hk:1<=k){H:Heap}{sf:List UInt8->List UInt8}(qY: ∀l,(sf l).length=32){xb lo en s:Nat}{dv:AV}{d:List UInt8}{ps0:List VB}(gH:Su H)(hx:100<=xb)(ld:qg H xb lo ps0)(hb:BV H dv d)(hbl: ∀b∈WK dv,b<xb∧b<H.nx)(hs1:16<=s)(hs2:s<=65536)(hd:d.length<=1200)(hps:ps0.length<=50000)(hsum:zh Zo sf H):
  ∃H',Z8 (LK Zo fs fuel k) fs fuel (n+3) 16 [dv,nI .i64 s,.func 17 [.ptr xb 0] [],nI .i64 en] H=.ret (.tup []) H'∧qg H' xb lo (ps0++WQ sf en s d d.length 0)∧ ∃S,ZE H H' S∧ ∀y∈S,y=xb∨lo<=y:=by
 rw[Z7 (Z2 E.n16 (.inr rfl) _ _) E.f16]
 have hf:=E.big
 have hxl:xb<lo:=by
  obtain⟨_,_,_,h,_⟩:=ld
  exact h
 simp(maxSteps:=4000000) (disch:=first|assumption|omega|(simp -implicitDefEqProofs only[Xl,Xm]<;>first|assumption|omega)|decide) only[Yx,Ye,ZM,ZK,Zy,ZJ,YN,Y7,YE,Xa,YR,Yy,ZP,Ya,Yb,YV,Nat.reduceSub,Nat.reduceAdd,Nat.reduceLeDiff,ZB,ZL,Nat.reduceEqDiff,decide_true,decide_false,Yq,Zd,Zb,X7,Wc,Y0,Yw,Yk,YQ,YP,Z6,Zx,Zr,Y8,ZY,Zb,Zd,Xg,ZD,ZR,Qp,ZN,Zu,ZC,Zw,ZI,Zs,Zv,Zl,ZO,XC,XJ,Xx,Xw,ZU,ZS,ZX,ZW,Zz,ZH,YC,YF,Zy,ZJ,ZK,ZM,Zb,Zd,ZD,ZR,ZN,YL,YA,YH,YZ,Yp,Yj,c16,Yf,Xr,ZV,Yv,Z0,Z1,Yc,Nat.reduceEqDiff,reduceCtorEq,Xq]
 generalize hL:WP (F7 _) fuel _ _ _=LL
 obtain⟨o,KO,H2,rfl,_,rfl,hS,aa⟩:=Wd (P:=λT=>PCI H sf xb lo en s dv d ps0 d.length T H) (Q:=PCQ H sf xb lo en s d ps0)
  (λT hi=>Wo (PCI H sf xb lo en s dv d ps0) (PCQ H sf xb lo en s d ps0) (λm tm H2 h=>Zen E (k:=k) (n:=n) hk qY gH hx hxl hb hbl hs1 hs2 hd hps hsum _ _ _ _ _ m tm H2 h) fuel d.length T H (by omega) hi) hL
  (by exact⟨⟨[],ZE.refl _ _,λy hy=>by cases hy⟩,rfl,rfl,rfl,rfl,0,ps0,rfl,by omega,by omega,ld,rfl,by omega⟩)
 simp(maxSteps:=4000000) (disch:=first|assumption|omega|(simp -implicitDefEqProofs only[Xl,Xm]<;>first|assumption|omega)|decide) only[Yx,Ye,ZM,ZK,Zy,ZJ,YN,Y7,YE,Xa,YR,Yy,ZP,Ya,Yb,YV,Nat.reduceSub,Nat.reduceAdd,Nat.reduceLeDiff,ZB,ZL,Nat.reduceEqDiff,decide_true,decide_false,Yq,Zd,Zb,X7,Wc,Y0,Yw,Yk,YQ,YP,Z6,Zx,Zr,Y8,ZY,Zb,Zd,Xg,ZD,ZR,Qp,ZN,Zu,ZC,Zw,ZI,Zs,Zv,Zl,ZO,XC,XJ,Xx,Xw,ZU,ZS,ZX,ZW,Zz,ZH,YC,YF,Zy,ZJ,ZK,ZM,Zb,Zd,ZD,ZR,ZN,YL,YA,YH,YZ,Yp,Yj,c16,Yf,Xr,ZV,Yv,Z0,Z1,Yc,Nat.reduceEqDiff,reduceCtorEq,Xq]
 refine⟨_,rfl,?_⟩
 exact⟨aa,hS⟩
def LH(k:Nat)(m:Mem):VB:=⟨k,true,0,0,MZ m,List.replicate 32 0⟩
def VY(sf:List UInt8->List UInt8)(s:Nat):Nat->List Mem->List VB
 |_,[]=>[]
 |k,m::L=>LH k m::(WQ sf k s m.data m.data.length 0++VY sf s (k+1) L)
theorem JT(sf:List UInt8->List UInt8)(en s:Nat)(d:List UInt8): ∀f at_,(WQ sf en s d f at_).length<=f
 |0,_=>Zq _
 |f+1,at_=>by
  unfold WQ
  split
  ·rw[Zl];have:=JT sf en s d f (at_+s);omega
  ·exact ZB _
structure PRI(Hs:Heap)(sf:List UInt8->List UInt8)(xb s:Nat)(v:AV)(L:List Mem)(m:Nat)(tm:TM)(H:Heap):Prop where
 k:ZE Hs H []
 t1:Wv tm=nI .i64 s
 t5:Wa tm=.ptr xb 0
 t12:X6 tm=v
 t13:XR tm=nI .i64 L.length
 i: ∃i ps,Wi tm=nI .i64 i∧i+m=L.length∧qg H xb (xb+1) ps∧VY sf s 0 L=ps++VY sf s i (L.drop i)∧ps.length<=i*1201
def PRQ(Hs:Heap)(sf:List UInt8->List UInt8)(xb s:Nat)(L:List Mem)(o:Out)(tm:TM)(H:Heap):Prop:=o=.exit 0∧ZE Hs H []∧Wa tm=.ptr xb 0∧qg H xb (xb+1) (VY sf s 0 L)
theorem ZcG{α:Type}[Inhabited α]{L:List α}{i:Nat}(h:i<L.length):L.drop i=L.getD i default::L.drop (i+1):=by
 rw[List.drop_eq_getElem_cons h,Zf,Zn h];rfl
theorem Zes{Zo:Lib}{fs:T CF}{fuel:Nat}(E:Env Zo fs fuel){k n:Nat}(hk:12<=k){Hs:Heap}{sf:List UInt8->List UInt8}(qY: ∀l,(sf l).length=32){xb s:Nat}{v:AV}{L:List Mem}(gH:Su Hs)(hx:Hs.nx<=xb)(hV:CV Hs v L)(hl:L.length<=40)(hok: ∀x∈L,Hj x∧UF x=true∧x.data.length<=1200)(hs1:16<=s)(hs2:s<=65536)(hsum:zh Zo sf Hs)(y f dd qq)(X0:X)(m:Nat)(tm:TM)(H:Heap)(hI:PRI Hs sf xb s v L m tm H):
  ∃o tm' H',Bj ⟨Z8 (LK Zo fs fuel k) fs fuel (n+7),y,f,dd,qq⟩ tm H X0=.ok o tm' H' X0∧((o=.normal∧ ∃k,k<m∧PRI Hs sf xb s v L k tm' H')∨(o≠.normal∧PRQ Hs sf xb s L o tm' H')):=by
 obtain⟨k0,t1,t5,t12,t13,i,ps,t14,him,ld,heq,hpl⟩:=hI
 have t1':=t1;have A1:=t5;have ZeJ:=t12;have Zid:=t13
 simp only[Mi] at t1
 simp only[QD] at t5
 simp only[LF] at t12
 simp only[JB] at t13
 simp only[IY] at t14
 cases m with
 |zero=>
  have d1:decide (i<L.length)=false:=Ze (by omega)
  simp(maxSteps:=4000000) (disch:=first|assumption|omega|(simp -implicitDefEqProofs only[Xl,Xm]<;>first|assumption|omega)|decide) only[t12,t13,t14,d1,Yx,Ye,ZM,ZK,Zy,ZJ,YN,Y7,YE,Xa,YR,Yy,ZP,Ya,Yb,YV,Nat.reduceSub,Nat.reduceAdd,Nat.reduceLeDiff,ZB,ZL,Nat.reduceEqDiff,decide_true,decide_false,Yq,Zd,Zb,X7,Wc,Y0,Yw,Yk,YQ,YP,Z6,Zx,Zr,Y8,ZY,Zb,Zd,Xg,ZD,ZR,Qp,ZN,Zu,ZC,Zw,ZI,Zs,Zv,Zl,ZO,XC,XJ,Xx,Xw,ZU,ZS,ZX,ZW,Zz,ZH,YC,YF,Zy,ZJ,ZK,ZM,Zb,Zd,ZD,ZR,ZN,YL,YA,YH,YZ,Yp,Yj,Bj,Yf,Xr,ZV,Yv,Z0,Z1,Yc,Nat.reduceEqDiff,reduceCtorEq,Xq,TB]
  rw[Vt (by omega)] at heq
  refine⟨_,_,_,rfl,?_⟩
  exact .inr ⟨by simp,rfl,k0,A1,by rw[heq];show qg H xb (xb+1) (ps++[]);rw[Zr];exact ld⟩
 |succ m=>
  have d1:decide (i<L.length)=true:=Zj (by omega)
  have hi:i<L.length:=by omega
  have GY:100<=Hs.nx:=gH.p.nx
  have hmem:L.getD i default∈L:=by rw[Zf,Zn hi];exact WN hi
  obtain⟨hok1,hok2,Zor⟩:=hok _ hmem
  obtain⟨⟨ls,hS,hll,hM⟩,_⟩:=hV
  obtain⟨bb,o,r,eI,hb,gb,eL,eE⟩:=(show Sz H 9 v ls from .inr (hS.keep0 k0)).at_ (i:=i) (by omega)
  have hB0:=hM i hi
  rw[ZcG hi] at heq
  generalize hm:L.getD i default=m' at*
  obtain⟨av,dv,ecs,hA,hD,hdb⟩:=hB0
  rw[ecs] at eL
  have hA:=hA.keep0 k0
  have hD0:=hD
  have hD:=hD.keep k0 (λ_ _ _ _ _=>by simp)
  have hx0:=k0.nx
  obtain⟨H1,hH1⟩: ∃G,H.new (rG 36 1 [.str m'.path,.int .i64 m'.kind,nI .u32 m'.mode,nI .u32 m'.uid,nI .u32 m'.gid,.int .i64 m'.time,av,dv,.str m'.link] 0 false true true)=G:=⟨_,rfl⟩
  have k1:ZE H H1 []:=by rw[<-hH1];exact ZE.new _ _ _
  have Jh:H1.nx=H.nx+1:=by rw[<-hH1];rfl
  have g1:H1.t.get H.nx=some (rG 36 1 [.str m'.path,.int .i64 m'.kind,nI .u32 m'.mode,nI .u32 m'.uid,nI .u32 m'.gid,.int .i64 m'.time,av,dv,.str m'.link] 0 false true true):=by rw[<-hH1];exact YB rfl _
  have gH0:=gH.keep0 k0
  have gH1:=gH0.keep0 k1
  have cvA:=hA.cells
  have cvD:dv.cells=[dv]:=(Gt hD0 (NS hdb)).cells
  have sf9:=SB (n:=9) (b:=H.nx) (l:=[.str [],nI .i64 0,nI .u32 0,nI .u32 0,nI .u32 0,nI .i64 0,.nils,.nils,.str []]) (vs:=[.str m'.path,.int .i64 m'.kind,nI .u32 m'.mode,nI .u32 m'.uid,nI .u32 m'.gid,.int .i64 m'.time,av,dv,.str m'.link]) (H:=H.new (rG 36 1 [.str [],nI .i64 0,nI .u32 0,nI .u32 0,nI .u32 0,nI .i64 0,.nils,.nils,.str []] 0 false true true)) rfl rfl (by decide) gH0.p.ro 36 1 false true
  rw[Sy rfl,hH1] at sf9
  have gz:=λ(G:Heap)=>YB (H:=H) rfl (rG 36 1 [.str [],nI .i64 0,nI .u32 0,nI .u32 0,nI .u32 0,nI .i64 0,.nils,.nils,.str []] 0 false true true)
  have qk: ∀G,wZ 9 (some (rG 36 1 [.str m'.path,.int .i64 m'.kind,nI .u32 m'.mode,nI .u32 m'.uid,nI .u32 m'.gid,.int .i64 m'.time,av,dv,.str m'.link] 0 false true true)) 0 G=.val (.agg [.str m'.path,.int .i64 m'.kind,nI .u32 m'.mode,nI .u32 m'.uid,nI .u32 m'.gid,.int .i64 m'.time,av,dv,.str m'.link]) G:=λG=>To (show 0+9<=9 by decide) ..
  have l7: ∀G,ld1 (some (rG 36 1 [.str m'.path,.int .i64 m'.kind,nI .u32 m'.mode,nI .u32 m'.uid,nI .u32 m'.gid,.int .i64 m'.time,av,dv,.str m'.link] 0 false true true)) 7 G=.val dv G:=λG=>rfl
  have hC1:Gm H1 [.str m'.path,.int .i64 m'.kind,nI .u32 m'.mode,nI .u32 m'.uid,nI .u32 m'.gid,.int .i64 m'.time,av,dv,.str m'.link] m':=⟨av,dv,rfl,hA.keep0 k1,Gt (hD.keep k1 (λ_ _ _ _ _=>by simp)) (NS λb hb=>by have:=hdb b hb;omega)⟩
  obtain⟨hv,H2,e2,bh,k12,hb0,hc0,ehv,hh1,hh2⟩:=fE E (k:=k) (n:=n) hk gH1 hC1 hok1 hok2
  have k2:ZE H H2 []:=k1.trans' k12
  have fy:=gH1.keep0 k12
  obtain⟨w,w',H3,g3,lw,sw,ea,g4,sq,ld3,S3,kS3,hS3⟩:=mO (x:=LH i m') ld k2 fy.p.ro bh (λb hb=>by
   rw[ehv] at hb
   have:b=hb0:=by simpa [WK] using hb
   have:=k1.nx
   omega) (by show(List.replicate 32 (0:UInt8)).length=32;rw[Yu]) (by
    have:i*1201<=40*1201:=XX _ (by omega)
    omega)
  have chv:hv.cells=[hv]:=by rw[ehv];rfl
  have bu: ∀G,Rz z37 [(0,1,nI .i64 i),(1,1,.bool true),(4,1,hv)] G=.val (.agg (Sv hv (LH i m'))) G:=λG=>by
   rw[oP,MP,Tw rfl (by simp),Tw rfl (by simp),Tw chv (by simp),NV]
   show OR.val (.agg (nI .i64 i::.bool true::nI .i64 0::nI .i64 0::hv::List.replicate 32 (nI .u8 0))) G=.val (.agg ([nI .i64 i,.bool true,nI .i64 0,nI .i64 0,hv]++(List.replicate 32 (0:UInt8)).map X8)) G
   rw[VM];rfl
  have pl:(Sv hv (LH i m')).length=37:=N0 (by show(List.replicate 32 (0:UInt8)).length=32;rw[Yu])
  have b37:=λG=>ZiU pl G
  have lq: ∀G,ld1 (some (rG 53 1 [w] 0 false true true)) 0 G=.val w G:=λG=>Vo (YK 0) ..
  obtain⟨H4,GZ⟩: ∃G,H3.put xb (rG 53 1 [w'] 0 false true true)=G:=⟨_,rfl⟩
  rw[GZ] at sq ld3 kS3
  have k04:ZE Hs H4 []:=(k0.trans' k2).trans kS3 λc hc hlt=>by rcases hS3 c hc with h|h<;>omega
  have gH4:=gH.keep0 k04
  have g14:H4.t.get H.nx=some (rG 36 1 [.str m'.path,.int .i64 m'.kind,nI .u32 m'.mode,nI .u32 m'.uid,nI .u32 m'.gid,.int .i64 m'.time,av,dv,.str m'.link] 0 false true true):=by
   rw[kS3.get H.nx (by have:=k2.nx;have:=k12.nx;omega) (λh=>by
    have hq:xb<H.nx:=by
     obtain⟨_,_,_,_,_,h⟩:=ld
     omega
    rcases hS3 _ h with h|h<;>omega),k12.get H.nx (by omega) (by simp)]
   exact g1
  have ZgW:(ps++[LH i m']).length<=50000:=by
   rw[Zm]
   have:i*1201<=40*1201:=XX _ (by omega)
   show _+1<=_;omega
  obtain⟨H5,e5,ld5,S5,kS5,hS5⟩:=pX E (k:=k) (n:=n+4) (by omega) qY (en:=i) (s:=s) gH4 (by omega) ld3 (hD0.keep k04 (λ_ _ _ _ _=>by simp)) (λb hb=>by have:=hdb b hb;have:=k04.nx;omega) hs1 hs2 Zor ZgW (hsum.keep (k04.kept GY λx hx=>by cases hx))
  have k05:ZE Hs H5 []:=k04.trans kS5 λc hc hlt=>by rcases hS5 c hc with h|h<;>omega
  have hpz:=JT sf i s m'.data m'.data.length 0
  simp(maxSteps:=4000000) (disch:=first|assumption|omega|(simp -implicitDefEqProofs only[Xl,Xm]<;>first|assumption|omega)|decide) only[t1,t5,t12,t13,t14,d1,eI,gb,eL,gz,sf9,g1,qk,e2,g3,lq,bu,b37,ea,g4,sq,g14,l7,e5,TK,ZX,ZW,Fc,Zz,ZH,Us,Vk,Yx,Ye,ZM,ZK,Zy,ZJ,YN,Y7,YE,Xa,YR,Yy,ZP,Ya,Yb,YV,Nat.reduceSub,Nat.reduceAdd,Nat.reduceLeDiff,ZB,ZL,Nat.reduceEqDiff,decide_true,decide_false,Yq,Zd,Zb,X7,Wc,Y0,Yw,Yk,YQ,YP,Z6,Zx,Zr,Y8,ZY,Zb,Zd,Xg,ZD,ZR,Qp,ZN,Zu,ZC,Zw,ZI,Zs,Zv,Zl,ZO,XC,XJ,Xx,Xw,ZU,ZS,ZX,ZW,Zz,ZH,YC,YF,Zy,ZJ,ZK,ZM,Zb,Zd,ZD,ZR,ZN,YL,YA,YH,YZ,Yp,Yj,Bj,Yf,Xr,ZV,Yv,Z0,Z1,Yc,Nat.reduceEqDiff,reduceCtorEq,Xq,TB]
  refine⟨_,_,_,rfl,.inl ⟨rfl,m,by omega,k05,t1',A1,ZeJ,Zid,i+1,_,rfl,by omega,ld5,?_,?_⟩⟩
  ·rw[heq]
   show ps++(LH i m'::(WQ sf i s m'.data m'.data.length 0++VY sf s (i+1) (L.drop (i+1))))=_
   rw[XB,XB];rfl
  ·rw[Zm,Zm,WF]
   show _+1+_<=_;omega
theorem iX{Zo:Lib}{fs:T CF}{fuel:Nat}(E:Env Zo fs fuel){k n:Nat}(hk:12<=k){H:Heap}{sf:List UInt8->List UInt8}(qY: ∀l,(sf l).length=32){s:Nat}{v:AV}{L:List Mem}(gH:Su H)(hV:CV H v L)(hl:L.length<=40)(hok: ∀x∈L,Hj x∧UF x=true∧x.data.length<=1200)(hs1:16<=s)(hs2:s<=65536)(hsum:zh Zo sf H):
  ∃w H',Z8 (LK Zo fs fuel k) fs fuel (n+8) 12 [v,nI .i64 s] H=.ret w H'∧N4 H' w [] (H.nx+1) (VY sf s 0 L)∧ZE H H' []:=by
 rw[Z7 (Z2 E.n12 (.inr rfl) _ _) E.f12]
 have hf:=E.big
 have hro:=gH.p.ro;have GY:=gH.p.nx
 have bd: ∀G:Heap,Rz [.nils] [] G=.val (.agg [.nils]) G:=λG=>rfl
 have bx: ∀G:Heap,II 53 (.agg [.nils]) G=.val (.ptr G.nx 0) (G.new (rG 53 1 [.nils] 0 false true true)):=λG=>V7 (l:=[.nils]) (show 1<=1 by decide) 53 G
 obtain⟨H1,hH1⟩: ∃G,H.new (rG 53 1 [.nils] 0 false true true)=G:=⟨_,rfl⟩
 have k1:ZE H H1 []:=by rw[<-hH1];exact ZE.new _ _ _
 have Jh:H1.nx=H.nx+1:=by rw[<-hH1];rfl
 have FX:H1.ro=H.ro:=by rw[<-hH1];rfl
 have ld1':qg H1 H.nx (H.nx+1) []:=⟨.nils,by rw[<-hH1];exact YB rfl _,⟨[],.inl ⟨rfl,rfl⟩,rfl,λi hi=>by cases hi⟩,YK _,by omega,by omega⟩
 obtain⟨ls,hS,hll,hM⟩:=hV.ls
 have ln:=hS.len
 rw[hll] at ln
 simp only[bd,bx,hH1,ln,TK,SA,ZH,ZH,c12,Yf,Xr,Xq]
 generalize hL:WP (Bj _) fuel _ _ _=LL
 obtain⟨o,KO,H2,rfl,_,rfl,k2,t5,aa⟩:=Wd (P:=λT=>PRI H sf H.nx s v L L.length T H1) (Q:=PRQ H sf H.nx s L)
  (λT hi=>Wo (PRI H sf H.nx s v L) (PRQ H sf H.nx s L) (λm tm H2 h=>Zes E (k:=k) (n:=n) hk qY gH (Zq _) hV hl hok hs1 hs2 hsum _ _ _ _ _ m tm H2 h) fuel L.length T H1 (by omega) hi) hL
  (by exact⟨k1,rfl,rfl,rfl,rfl,0,[],rfl,by omega,ld1',by rw[ZC];rfl,ZB _⟩)
 simp only[QD] at t5
 obtain⟨w,g2,⟨ls2,r1,r2,r3⟩,_⟩:=aa
 have lq: ∀G,ld1 (some (rG 53 1 [w] 0 false true true)) 0 G=.val w G:=λG=>Vo (YK 0) ..
 simp only[t5,g2,lq,Us,Vk,Zd,Zd,Zd,Yf,Xr,ZV,Xq,TB]
 refine⟨_,_,rfl,?_⟩
 exact⟨⟨ls2,r1,r2,λi hi=>(r3 i hi).keep (ZE.refl _ []) (λb hb=>by cases hb) (λb hb=>by cases hb)⟩,k2⟩
def Ja(ps:List VB):List UInt8:=(ps.map (·.raw)).flatten
theorem hU{ps:List VB}{i:Nat}(h:i<ps.length):Ja (ps.take (i+1))=Ja (ps.take i)++(ps.getD i default).raw:=by
 unfold Ja
 rw[UA,Zf,Zn h,Xe,Uf]
 simp
theorem Zao{ps:List VB}(h: ∀x∈ps,x.raw.length<=2000000):(Ja ps).length<=ps.length*2000000:=by
 unfold Ja
 induction ps with
 |nil=>exact Zq _
 |cons a l ih=>
  rw[Zz,Vy,Zm,Zl]
  have h1:=h a (ZF ..)
  have h2:=ih λx hx=>h x (ZQ _ hx)
  omega
theorem HT(e:Nat)(tm:TM)(H:Heap):V9 e z37 tm H=.val (.ptr H.nx 0) (H.new (rG e 1 z37 0 false true true)):=DF ..
structure RWI(Hs:Heap)(v:AV)(ps:List VB)(m:Nat)(tm:TM)(H:Heap):Prop where
 k:ZE Hs H []
 t6:Ve tm=v
 t7:WH tm=nI .i64 ps.length
 i: ∃i w,WD tm=nI .i64 i∧i+m=ps.length∧VL tm=w∧GB H w (Ja (ps.take i)) Hs.nx
def RWQ(Hs:Heap)(ps:List VB)(o:Out)(tm:TM)(H:Heap):Prop:=o=.exit 0∧ZE Hs H []∧ ∃w,VL tm=w∧GB H w (Ja ps) Hs.nx
theorem ZeB{Hs:Heap}{v:AV}{S:List Nat}{lo:Nat}{ps:List VB}(hro:Hs.ro<=Hs.nx)(hP:N4 Hs v S lo ps)(hl:ps.length<=60000)(hraw: ∀x∈ps,x.raw.length<=2000000)(cx:Ctx)(X0:X)(m:Nat)(tm:TM)(H:Heap)(hI:RWI Hs v ps m tm H):
  ∃o tm' H',uq cx tm H X0=.ok o tm' H' X0∧((o=.normal∧ ∃k,k<m∧RWI Hs v ps k tm' H')∨(o≠.normal∧RWQ Hs ps o tm' H')):=by
 obtain⟨k0,t6,t7,i,w,t8,him,t3,gb⟩:=hI
 have x8:=t6;have Cs:=t7;have vW:=t3
 simp only[RK] at t3
 simp only[JC] at t6
 simp only[LG] at t7
 simp only[HH] at t8
 cases m with
 |zero=>
  have d1:decide (i<ps.length)=false:=Ze (by omega)
  simp only[t7,t8,d1,Zy,Zy,uq,Yf,Xr,Xq]
  rw[YS (by omega)] at gb
  refine⟨_,_,_,rfl,?_⟩
  exact .inr ⟨by simp,rfl,k0,w,vW,gb⟩
 |succ m=>
  have d1:decide (i<ps.length)=true:=Zj (by omega)
  have hi:i<ps.length:=by omega
  obtain⟨ls,r1,r2,r3⟩:=hP.keep k0
  obtain⟨bb,o,r,eI,hb,gbb,eL,_⟩:=(show Sz H 37 v ls from .inr (Sl.of_buf r1)).at_ (i:=i) (by omega)
  obtain⟨rv,ecs,h32,bv,hbv⟩:=r3 i hi
  rw[ecs] at eL
  have hmem:ps.getD i default∈ps:=by rw[Zf,Zn hi];exact WN hi
  have hrw:=hraw _ hmem
  have hlen:=Zao (ps:=ps.take i) λx hx=>hraw x (Uz hx)
  rw[Z4] at hlen
  have hpush:=hU hi
  generalize ps.getD i default=x at*
  have hroH:H.ro<=H.nx:=by rw[k0.ro];exact Yl hro k0.nx
  obtain⟨H1,hH1⟩: ∃G,H.new (rG 40 1 (Sv rv x) 0 false true true)=G:=⟨_,rfl⟩
  have k1:ZE H H1 []:=by rw[<-hH1];exact ZE.new _ _ _
  have Jh:H1.nx=H.nx+1:=by rw[<-hH1];rfl
  have FX:H1.ro=H.ro:=by rw[<-hH1];rfl
  have g1:H1.t.get H.nx=some (rG 40 1 (Sv rv x) 0 false true true):=by rw[<-hH1];exact YB rfl _
  have pl:=N0 (rv:=rv) h32
  have sf:=SB (n:=37) (b:=H.nx) (l:=z37) (vs:=Sv rv x) (H:=H.new (rG 40 1 z37 0 false true true)) IG pl (by decide) hroH 40 1 false true
  rw[Sy rfl,hH1] at sf
  have l4: ∀G,ld1 (some (rG 40 1 (Sv rv x) 0 false true true)) 4 G=.val rv G:=λG=>by rw[Vo (by rw[pl];decide)];rfl
  have hx0:=k0.nx
  obtain⟨w2,H2,e2,Gj,k2,bk2⟩:=uE (gb.keep k1 (λ_ _=>by simp)) (bv.keep k1 (λ_ _ _ _ _=>by simp)) (by omega) (by omega) (by omega)
  simp(disch:=omega) only[t3,t6,t7,t8,d1,eI,gbb,eL,sf,g1,l4,e2,HT,ZW,Zy,Yy,Zb,Zb,ZW,Zy,Zb,uq,Yf,Xr,ZV,Xq]
  refine⟨_,_,_,rfl,.inl ⟨rfl,m,by omega,(k0.trans' k1).trans k2 (λc hc hlt=>?_),x8,Cs,i+1,w2,rfl,by omega,rfl,by rw[hpush];exact Gj⟩⟩
  have:=(gb.blk c hc).1;omega
theorem CN{Zo:Lib}{fs:T CF}{fuel:Nat}(E:Env Zo fs fuel){k n:Nat}{H:Heap}{v:AV}{S:List Nat}{lo:Nat}{ps:List VB}(hro:H.ro<=H.nx)(hP:N4 H v S lo ps)(hl:ps.length<=60000)(hraw: ∀x∈ps,x.raw.length<=2000000):
  ∃w H',Z8 (LK Zo fs fuel k) fs fuel (n+1) 9 [v] H=.ret w H'∧GB H' w (Ja ps) H.nx∧ZE H H' []:=by
 rw[Z7 (Z2 E.n9 (.inr rfl) _ _) E.f9]
 have hf:=E.big
 have ln: ∀G,lenV v G=.val (nI .i64 ps.length) G:=λG=>by
  obtain⟨ls,r1,r2,_⟩:=hP
  rw[r1.len,r2]
 simp only[ln,c9,Yf,Xr,Xq]
 generalize hL:WP (uq _) fuel _ _ _=LL
 obtain⟨o,KO,H2,rfl,_,rfl,k2,w,t3,gb⟩:=Wd (P:=λT=>RWI H v ps ps.length T H) (Q:=RWQ H ps)
  (λT hi=>Wo (RWI H v ps) (RWQ H ps) (λm tm H2 h=>ZeB hro hP hl hraw _ _ m tm H2 h) fuel ps.length T H (by omega) hi) hL
  (by exact⟨ZE.refl _ _,rfl,rfl,0,.nils,rfl,by omega,rfl,.inl ⟨rfl,rfl⟩⟩)
 simp only[RK] at t3
 simp only[t3,Yf,Xr,ZV,Xq]
 refine⟨_,_,rfl,?_⟩
 exact⟨gb,k2⟩
theorem FY{Zo:Lib}{fs:T CF}{fuel:Nat}(E:Env Zo fs fuel){k n:Nat}(hk:13<=k){H:Heap}{sf:List UInt8->List UInt8}(qY: ∀l,(sf l).length=32){s:Nat}{v:AV}{L:List Mem}(gH:Su H)(hV:CV H v L)(hl:L.length<=40)(hok: ∀x∈L,Hj x∧x.data.length<=1200)(hs1:16<=s)(hs2:s<=65536)(hsum:zh Zo sf H):
  ∃w H',Z8 (LK Zo fs fuel k) fs fuel (n+9) 6 [v,nI .i64 s] H=.ret (.tup [w,nI .i64 (if Ez L=true then 0 else 1)]) H'∧(Ez L=true-> ∃lo,N4 H' w [] lo (VY sf s 0 L))∧ZE H H' []:=by
 rw[Z7 (Z2 E.n6 (.inr rfl) _ _) E.f6]
 have d1:decide (s<16)=false:=Ze (by omega)
 have d2:decide (65536<s)=false:=Ze (by omega)
 obtain⟨H1,e1,k1⟩:=je E (k:=k) (n:=n+6) hk gH.p hV (by omega) (λi hi=>(hok _ (by rw[Zf,Zn hi];exact WN hi)).1.short)
 by_cases hm:Ez L=true
 ·rw[if_pos hm] at e1 ⊢
  obtain⟨w,H2,e2,hP,k2⟩:=iX E (k:=k) (n:=n) (by omega) qY (s:=s) (gH.keep0 k1) (hV.keep k1) hl (λx hx=>⟨(hok x hx).1,by
   unfold Ez at hm
   rw[Y6] at hm
   obtain⟨i,hi,rfl⟩:=Sx.1 hx
   have:=hm i (VD.2 hi)
   unfold yn Ey at this
   rw[Zf,Zn hi] at this
   simp only[SJ,Xn] at this
   exact this.1.2,(hok x hx).2⟩) hs1 hs2 (hsum.keep (k1.kept gH.p.nx λx hx=>by cases hx))
  have z0: ∀G,MU UB true (nI .i64 0) (nI .i64 0) G=.val (.bool false) G:=λ_=>rfl
  simp only[d1,d2,e1,e2,z0,Zy,ZJ,Zy,ZJ,c6,Yf,Xr,ZV,Xq]
  refine⟨_,_,rfl,?_⟩
  exact⟨λ_=>⟨_,hP⟩,k1.trans' k2⟩
 ·rw[if_neg hm] at e1 ⊢
  have z0: ∀G,MU UB true (nI .i64 1) (nI .i64 0) G=.val (.bool true) G:=λ_=>rfl
  simp only[d1,d2,e1,z0,Zy,ZJ,Zy,ZJ,c6,Yf,Xr,ZV,Xq]
  refine⟨_,_,rfl,?_⟩
  exact⟨λh=>absurd h hm,k1⟩
end
end Go.AI
