/- Members compared, by both: walked: proved without conditions but those that each names. -/
import Derived.Test.YtdogcjobgcckbaaGreatDoorPW
set_option maxRecDepth 1000000
set_option maxHeartbeats 0
set_option linter.unusedVariables false
set_option linter.unusedSimpArgs false
namespace Go.AI
open Go
noncomputable section
section
variable {Zn:Lib} {fs:T CF} {fuel k n i h b:Nat} {H H0:Heap} {s:List UInt8} {cs:List AV}
theorem yp(a b:List UInt8):NK a b=decide (a=b):=by
 have:=Zan a b
 exact Option.some.inj this
theorem q9(a b c d:List UInt8)(G:Heap):N6 (px Go.Proofs.Tryz.prog 10 45) true (.agg [.str a,.str b]) (.agg [.str c,.str d]) G=.val (.bool (!decide ((a,b)=(c,d)))) G:=by
 have h:px Go.Proofs.Tryz.prog 10 45 (.agg [.str a,.str b]) (.agg [.str c,.str d])=np (some (NK a c)) (np (some (NK b d)) (some true)):=by kernel_rfl
 show U3 (px Go.Proofs.Tryz.prog 10 45 (.agg [.str a,.str b]) (.agg [.str c,.str d])) _=_
 rw[h,yp,yp]
 by_cases h1:a=c
 ·by_cases h2:b=d
  ·rw[Ze h1,Ze h2,Ze (by rw[h1,h2])];rfl
  ·rw[Ze h1,Zb h2,Zb (λh=>h2 (Prod.mk.inj h).2)];rfl
 ·rw[Zb h1,Zb (λh=>h1 (Prod.mk.inj h).1)];rfl
structure AEI(Hs:Heap)(v w:AV)(l m:List NP)(q:Nat)(tm:TM)(H:Heap):Prop where
 h:H=Hs
 t0:Yb tm=v
 t1:Wc tm=w
 t12:Xr tm=nI .i64 l.length
 i: ∃i,Xf tm=nI .i64 i∧i+q=l.length∧ ∀j,j<i->l.getD j ([],[])=m.getD j ([],[])
def AEQ(Hs:Heap)(l m:List NP)(o:Out)(tm:TM)(H:Heap):Prop:=H=Hs∧((o=.ret∧Y4 tm=.bool false∧l≠m)∨(o=.exit 0∧l=m))
theorem dq{l m:List NP}(hl:l.length=m.length)(h: ∀j,j<l.length->l.getD j ([],[])=m.getD j ([],[])):l=m:=by
 refine List.ext_getElem hl λi h1 h2=>?_
 have:=h i h1
 rw[Zf,Zf,Zl h1,Zl h2] at this
 exact this
theorem aB{v w:AV}{l m:List NP}{Hs:Heap}(hv:Sz Hs 2 v (V8 l))(hw:Sz Hs 2 w (V8 m))(hlm:l.length=m.length)(hl:l.length<=90000)(cx:Ctx)(X0:X)(q:Nat)(tm:TM)(H:Heap)(hI:AEI Hs v w l m q tm H):
  ∃o tm' H',Fj cx tm H X0=.ok o tm' H' X0∧((o=.normal∧ ∃k,k<q∧AEI Hs v w l m k tm' H')∨(o≠.normal∧AEQ Hs l m o tm' H')):=by
 obtain⟨rfl,t0,t1,t12,i,t13,him,hall⟩:=hI
 have t0':=t0;have t1':=t1;have ZcD:=t12
 simp only[Sb,Kn,vx,fe] at t0 t1 t12 t13
 cases q with
 |zero=>
  have d1:decide (i<l.length)=false:=Zb (by omega)
  simp only[t12,t13,d1,Zy,Zy,Fj,Zu,Ye,Z6]
  refine⟨_,_,_,rfl,?_⟩
  exact .inr ⟨by simp,rfl,.inr ⟨rfl,dq hlm λj hj=>hall j (by omega)⟩⟩
 |succ q=>
  have d1:decide (i<l.length)=true:=Ze (by omega)
  have hi:i<l.length:=by omega
  obtain⟨bb,o,r,eI,hb,gb,eL,_⟩:=hv.at_ (i:=i) (by rw[XK];exact hi)
  rw[Sy hi] at eL
  obtain⟨b2,o2,r2,iM,hb2,ID,eL2,_⟩:=hw.at_ (i:=i) (by rw[XK];omega)
  rw[Sy (by omega)] at eL2
  have lv:=hv.low (n:=H.nx) (Zp _)
  have lw:=hw.low (n:=H.nx) (Zp _)
  have ea:=q9 (l.getD i ([],[])).1 (l.getD i ([],[])).2 (m.getD i ([],[])).1 (m.getD i ([],[])).2
  by_cases he:l.getD i ([],[])=m.getD i ([],[])
  ·have d2:(!decide (((l.getD i ([],[])).1,(l.getD i ([],[])).2)=((m.getD i ([],[])).1,(m.getD i ([],[])).2)))=false:=by rw[Ze (by exact he)];rfl
   rw[d2] at ea
   simp(disch:=omega) only[t0,t1,t12,t13,d1,eI,gb,eL,iM,ID,eL2,lv,lw,ea,Nv,Zy,YI,ZD,ZM,Zy,Fj,Zu,Ye,Zw,Z8,Yp,Yv,Z6]
   refine⟨_,_,_,rfl,.inl ⟨rfl,q,by omega,rfl,t0',t1',ZcD,i+1,rfl,by omega,λj hj=>?_⟩⟩
   by_cases h:j=i
   ·rw[h];exact he
   ·exact hall j (by omega)
  ·have d2:(!decide (((l.getD i ([],[])).1,(l.getD i ([],[])).2)=((m.getD i ([],[])).1,(m.getD i ([],[])).2)))=true:=by rw[Zb (by exact he)];rfl
   rw[d2] at ea
   simp only[t0,t1,t12,t13,d1,eI,gb,eL,iM,ID,eL2,lv,lw,ea,Nv,Zy,ZD,ZM,Zy,Fj,Zu,Ye,Zw,Z8,Yp,Yv,Z6]
   refine⟨_,_,_,rfl,?_⟩
   exact .inr ⟨by simp,rfl,.inl ⟨rfl,rfl,λh=>he (by rw[h])⟩⟩
theorem tK(E:Env Zn fs fuel){v w:AV}{l m:List NP}(hv:Sz H 2 v (V8 l))(hw:Sz H 2 w (V8 m))(hl:l.length<=90000):
  ∃H',ZE (LK Zn fs fuel 0) fs fuel (n+2) 38 [v,w] H=.ret (.bool (decide (l=m))) H'∧Zs H H' []:=by
 rw[ZI (ZA E.n38 (.inl (by decide)) _ _) E.f38]
 have hf:=E.big
 have ln:=hv.len
 have ln2:=hw.len
 rw[XK] at ln ln2
 by_cases h0:l.length=m.length
 ·have d0:decide (l.length=m.length)=true:=Ze h0
  have d0n:decide (¬l.length=m.length)=false:=Zb λh=>h h0
  rw[h0] at ln
  simp only[ln,ln2,ne_eq,not_true_eq_false,Vi,decide_false,c38,Zu,Ye,Z6]
  generalize hL:Wv (Fj _) fuel _ _ _=LL
  obtain⟨o,Pu,H1,rfl,_,h1,z⟩:=YA (P:=λT=>AEI H v w l m l.length T H) (Q:=AEQ H l m)
   (λT hi=>YP (AEI H v w l m) (AEQ H l m) (λq tm H1 h=>aB hv hw h0 hl _ _ q tm H1 h) fuel l.length T H (by omega) hi) hL
   (by exact⟨rfl,rfl,rfl,by rw[h0];rfl,0,rfl,by omega,λj hj=>by omega⟩)
  subst h1
  rcases z with⟨rfl,t4,e⟩|⟨rfl,e⟩
  ·simp only[Tp] at t4
   rw[Zb e]
   simp only[t4,Zu,Zw,Z6]
   refine⟨_,rfl,?_⟩
   exact Zs.refl _ _
  ·rw[Ze e]
   simp only[Zu,Ye,Zw,Z6]
   refine⟨_,rfl,?_⟩
   exact Zs.refl _ _
 ·have d0:decide (l.length=m.length)=false:=Zb h0
  have d0n:decide (¬l.length=m.length)=true:=Ze h0
  rw[Zb λh:l=m=>h0 (by rw[h])]
  simp only[ln,ln2,d0n,Vi,c38,Zu,Ye,Zw,Z6]
  refine⟨_,rfl,?_⟩
  exact Zs.refl _ _
theorem Zej(E:Env Zn fs fuel)(hk:1<=k){v w:AV}{l m:List NP}(hv:Sz H 2 v (V8 l))(hw:Sz H 2 w (V8 m))(hl:l.length<=90000):
  ZE (LK Zn fs fuel k) fs fuel (n+1) 38 [v,w] H=.ret (.bool (decide (l=m))) H:=by
 obtain⟨H',e,g⟩:=tK E (n:=898) (H:=H) hv hw hl
 exact Yl (r:=0) rfl rfl e g (rfl) hk
theorem Nk(k:IntKind)(x y:Int)(G:Heap):N6 Vp false (.int k x) (.int k y) G=.val (.bool (decide (x=y))) G:=by
 show U3 (cond (P3 k k) (some (Ge x y)) none) _=_
 rw[XG,Qr]
 exact Tb _ _
theorem Pd(k:IntKind)(x y:Int)(G:Heap):N6 Vp true (.int k x) (.int k y) G=.val (.bool (decide (¬x=y))) G:=by
 show U3 (cond (P3 k k) (some (Ge x y)) none) _=_
 rw[XG,Qr,decide_not]
 exact Tb _ _
theorem Dq{sz:Nat}{v:AV}{ls:List (List AV)}(h:Sz H sz v ls):AI.same v v=true:=by
 have h2:cond (Nat.beq 0 0) (AI.same v v) false=true:=h.same 0 .leaf
 exact h2
theorem oO{m:Mem}{av dv:AV}(hA:Sz H 2 av (V8 m.attrs))(hD:Sz H 1 dv (OX m.data))(n:Nat)(t:T Obj):Ud (.val (.agg [.int .i64 m.kind,nI .u32 m.mode,nI .u32 m.uid,nI .u32 m.gid,.int .i64 m.time,av,dv,.str m.link]) ⟨n,t,n⟩) (.agg [.int .i64 m.kind,nI .u32 m.mode,nI .u32 m.uid,nI .u32 m.gid,.int .i64 m.time,av,dv,.str m.link]) n=true:=
 IS (Jk _ λv hv=>by
  simp only[ZO,Ua,or_false] at hv
  rcases hv with rfl|rfl|rfl|rfl|rfl|rfl|rfl|rfl
  ·exact Ou ..
  ·exact LD ..
  ·exact LD ..
  ·exact LD ..
  ·exact Ou ..
  ·exact Dq hA
  ·exact Dq hD
  ·exact MY _) n t
def Vy(a b:Mem):Bool:=decide (a.path=b.path)&&decide (a.kind=b.kind)&&decide (a.mode=b.mode)&&decide (a.uid=b.uid)&&decide (a.gid=b.gid)&&decide (a.time=b.time)&&decide (a.link=b.link)&&decide (a.data=b.data)&&decide (a.attrs=b.attrs)
theorem ju(E:Env Zn fs fuel){ca cb:List AV}{ma mb:Mem}(hro:H.ro<=H.nx)(hCa:QN H ca ma)(hCb:QN H cb mb)(hla:ma.attrs.length<=90000):
  ∃H',ZE (LK Zn fs fuel 1) fs fuel (n+2) 11 [.agg ca,.agg cb] H=.ret (.bool (Vy ma mb)) H'∧Zs H H' []:=by
 rw[ZI (ZA E.n11 (.inl (by decide)) _ _) E.f11]
 obtain⟨av,dv,rfl,hA,hD⟩:=hCa
 obtain⟨bv,ev,rfl,hA2,hD2⟩:=hCb
 have bxa: ∀G:Heap,Ni 36 (.agg [.str ma.path,.int .i64 ma.kind,nI .u32 ma.mode,nI .u32 ma.uid,nI .u32 ma.gid,.int .i64 ma.time,av,dv,.str ma.link]) G=.val (.ptr G.nx 0) (G.new (rH 36 [.str ma.path,.int .i64 ma.kind,nI .u32 ma.mode,nI .u32 ma.uid,nI .u32 ma.gid,.int .i64 ma.time,av,dv,.str ma.link])):=λG=>XS (l:=[.str ma.path,.int .i64 ma.kind,nI .u32 ma.mode,nI .u32 ma.uid,nI .u32 ma.gid,.int .i64 ma.time,av,dv,.str ma.link]) (show 1<=9 by decide) 36 G
 have bxb: ∀G:Heap,Ni 36 (.agg [.str mb.path,.int .i64 mb.kind,nI .u32 mb.mode,nI .u32 mb.uid,nI .u32 mb.gid,.int .i64 mb.time,bv,ev,.str mb.link]) G=.val (.ptr G.nx 0) (G.new (rH 36 [.str mb.path,.int .i64 mb.kind,nI .u32 mb.mode,nI .u32 mb.uid,nI .u32 mb.gid,.int .i64 mb.time,bv,ev,.str mb.link])):=λG=>XS (l:=[.str mb.path,.int .i64 mb.kind,nI .u32 mb.mode,nI .u32 mb.uid,nI .u32 mb.gid,.int .i64 mb.time,bv,ev,.str mb.link]) (show 1<=9 by decide) 36 G
 obtain⟨H1,hH1⟩:=Sa (H.new (rH 36 [.str ma.path,.int .i64 ma.kind,nI .u32 ma.mode,nI .u32 ma.uid,nI .u32 ma.gid,.int .i64 ma.time,av,dv,.str ma.link]))
 have k1:Zs H H1 []:=by rw[<-hH1];exact Zs.new _ _ _
 have IY:H1.nx=H.nx+1:=by rw[<-hH1];rfl
 have g1:H1.t.get H.nx=some (rH 36 [.str ma.path,.int .i64 ma.kind,nI .u32 ma.mode,nI .u32 ma.uid,nI .u32 ma.gid,.int .i64 ma.time,av,dv,.str ma.link]):=by rw[<-hH1];exact ZW rfl _
 obtain⟨H2,hH2⟩:=Sa (H1.new (rH 36 [.str mb.path,.int .i64 mb.kind,nI .u32 mb.mode,nI .u32 mb.uid,nI .u32 mb.gid,.int .i64 mb.time,bv,ev,.str mb.link]))
 have k12:Zs H1 H2 []:=by rw[<-hH2];exact Zs.new _ _ _
 have nx2:H2.nx=H1.nx+1:=by rw[<-hH2];rfl
 have g2:H2.t.get H1.nx=some (rH 36 [.str mb.path,.int .i64 mb.kind,nI .u32 mb.mode,nI .u32 mb.uid,nI .u32 mb.gid,.int .i64 mb.time,bv,ev,.str mb.link]):=by rw[<-hH2];exact ZW rfl _
 have g12:H2.t.get H.nx=some (rH 36 [.str ma.path,.int .i64 ma.kind,nI .u32 ma.mode,nI .u32 ma.uid,nI .u32 ma.gid,.int .i64 ma.time,av,dv,.str ma.link]):=by rw[k12.get _ (by omega) (by simp)];exact g1
 have xe: ∀G,EW 8 (some (rH 36 [.str ma.path,.int .i64 ma.kind,nI .u32 ma.mode,nI .u32 ma.uid,nI .u32 ma.gid,.int .i64 ma.time,av,dv,.str ma.link])) 1 G=.val (.agg [.int .i64 ma.kind,nI .u32 ma.mode,nI .u32 ma.uid,nI .u32 ma.gid,.int .i64 ma.time,av,dv,.str ma.link]) G:=λG=>Vr (show 1+8<=9 by decide) ..
 have xf: ∀G,EW 8 (some (rH 36 [.str mb.path,.int .i64 mb.kind,nI .u32 mb.mode,nI .u32 mb.uid,nI .u32 mb.gid,.int .i64 mb.time,bv,ev,.str mb.link])) 1 G=.val (.agg [.int .i64 mb.kind,nI .u32 mb.mode,nI .u32 mb.uid,nI .u32 mb.gid,.int .i64 mb.time,bv,ev,.str mb.link]) G:=λG=>Vr (show 1+8<=9 by decide) ..
 have pA: ∀G,ld1 (some (rH 36 [.str ma.path,.int .i64 ma.kind,nI .u32 ma.mode,nI .u32 ma.uid,nI .u32 ma.gid,.int .i64 ma.time,av,dv,.str ma.link])) 0 G=.val (.str ma.path) G:=λG=>rfl
 have pB: ∀G,ld1 (some (rH 36 [.str mb.path,.int .i64 mb.kind,nI .u32 mb.mode,nI .u32 mb.uid,nI .u32 mb.gid,.int .i64 mb.time,bv,ev,.str mb.link])) 0 G=.val (.str mb.path) G:=λG=>rfl
 obtain⟨H3,hH3⟩:=Sa (H2.new (rH 34 [nI .i64 0,nI .u32 0,nI .u32 0,nI .u32 0,nI .i64 0,.nils,.nils,.str []]))
 have nx3:H3.nx=H2.nx+1:=by rw[<-hH3];rfl
 have k23:Zs H2 H3 []:=by rw[<-hH3];exact Zs.new _ _ _
 have g3:H3.t.get H2.nx=some (rH 34 [nI .i64 0,nI .u32 0,nI .u32 0,nI .u32 0,nI .i64 0,.nils,.nils,.str []]):=by rw[<-hH3];exact ZW rfl _
 obtain⟨H4,Nu⟩:=Sa (H3.new (rH 34 [nI .i64 0,nI .u32 0,nI .u32 0,nI .u32 0,nI .i64 0,.nils,.nils,.str []]))
 have nx4:H4.nx=H3.nx+1:=by rw[<-Nu];rfl
 have Hj:Zs H3 H4 []:=by rw[<-Nu];exact Zs.new _ _ _
 have g44:H4.t.get H3.nx=some (rH 34 [nI .i64 0,nI .u32 0,nI .u32 0,nI .u32 0,nI .i64 0,.nils,.nils,.str []]):=by rw[<-Nu];exact ZW rfl _
 have k24:=k23.trans' Hj
 have g43:H4.t.get H2.nx=some (rH 34 [nI .i64 0,nI .u32 0,nI .u32 0,nI .u32 0,nI .i64 0,.nils,.nils,.str []]):=by rw[Hj.get _ (by omega) (by simp)];exact g3
 have A6:H4.t.get H.nx=some (rH 36 [.str ma.path,.int .i64 ma.kind,nI .u32 ma.mode,nI .u32 ma.uid,nI .u32 ma.gid,.int .i64 ma.time,av,dv,.str ma.link]):=by rw[k24.get _ (by omega) (by simp)];exact g12
 have Et:H4.t.get H1.nx=some (rH 36 [.str mb.path,.int .i64 mb.kind,nI .u32 mb.mode,nI .u32 mb.uid,nI .u32 mb.gid,.int .i64 mb.time,bv,ev,.str mb.link]):=by rw[k24.get _ (by omega) (by simp)];exact g2
 have ro4:H4.ro=H.ro:=by rw[k24.ro,k12.ro,k1.ro]
 have s5:=Tn (n:=8) (b:=H2.nx) (l:=[nI .i64 0,nI .u32 0,nI .u32 0,nI .u32 0,nI .i64 0,.nils,.nils,.str []]) (vs:=[.int .i64 ma.kind,nI .u32 ma.mode,nI .u32 ma.uid,nI .u32 ma.gid,.int .i64 ma.time,av,dv,.str ma.link]) (H:=H4) rfl rfl (by decide) (by omega) 34 1 false true
 obtain⟨H5,hH5⟩:=Sa (H4.put H2.nx (rH 34 [.int .i64 ma.kind,nI .u32 ma.mode,nI .u32 ma.uid,nI .u32 ma.gid,.int .i64 ma.time,av,dv,.str ma.link]))
 rw[hH5] at s5
 have nx5:H5.nx=H4.nx:=by rw[<-hH5];rfl
 have EA:Zs H4 H5 [H2.nx]:=by rw[<-hH5];exact Zs.put λ_=>Zq.2 rfl
 have g54:H5.t.get H3.nx=some (rH 34 [nI .i64 0,nI .u32 0,nI .u32 0,nI .u32 0,nI .i64 0,.nils,.nils,.str []]):=by rw[EA.get _ (by omega) (λh=>by have:=Zq.1 h;omega)];exact g44
 have g53:H5.t.get H2.nx=some (rH 34 [.int .i64 ma.kind,nI .u32 ma.mode,nI .u32 ma.uid,nI .u32 ma.gid,.int .i64 ma.time,av,dv,.str ma.link]):=by rw[<-hH5];exact Xw _ _ _
 have ga5:H5.t.get H.nx=some (rH 36 [.str ma.path,.int .i64 ma.kind,nI .u32 ma.mode,nI .u32 ma.uid,nI .u32 ma.gid,.int .i64 ma.time,av,dv,.str ma.link]):=by rw[EA.get _ (by omega) (λh=>by have:=Zq.1 h;omega)];exact A6
 have sT:H5.t.get H1.nx=some (rH 36 [.str mb.path,.int .i64 mb.kind,nI .u32 mb.mode,nI .u32 mb.uid,nI .u32 mb.gid,.int .i64 mb.time,bv,ev,.str mb.link]):=by rw[EA.get _ (by omega) (λh=>by have:=Zq.1 h;omega)];exact Et
 have s6:=Tn (n:=8) (b:=H3.nx) (l:=[nI .i64 0,nI .u32 0,nI .u32 0,nI .u32 0,nI .i64 0,.nils,.nils,.str []]) (vs:=[.int .i64 mb.kind,nI .u32 mb.mode,nI .u32 mb.uid,nI .u32 mb.gid,.int .i64 mb.time,bv,ev,.str mb.link]) (H:=H5) rfl rfl (by decide) (by rw[EA.ro];omega) 34 1 false true
 obtain⟨H6,hH6⟩:=Sa (H5.put H3.nx (rH 34 [.int .i64 mb.kind,nI .u32 mb.mode,nI .u32 mb.uid,nI .u32 mb.gid,.int .i64 mb.time,bv,ev,.str mb.link]))
 rw[hH6] at s6
 have CM:Zs H5 H6 [H3.nx]:=by rw[<-hH6];exact Zs.put λ_=>Zq.2 rfl
 have kp: ∀{c:Nat} {o:Option Obj},c<H4.nx->c≠H3.nx->H5.t.get c=o->H6.t.get c=o:=λhc hn h=>by rw[CM.get _ (by omega) (λh=>hn (Zq.1 h))];exact h
 have g63:=kp (c:=H2.nx) (by omega) (by omega) g53
 have ga6:=kp (c:=H.nx) (by omega) (by omega) ga5
 have am:=kp (c:=H1.nx) (by omega) (by omega) sT
 have g64:H6.t.get H3.nx=some (rH 34 [.int .i64 mb.kind,nI .u32 mb.mode,nI .u32 mb.uid,nI .u32 mb.gid,.int .i64 mb.time,bv,ev,.str mb.link]):=by rw[<-hH6];exact Xw _ _ _
 have kk:Zs H H6 []:=(((k1.trans' k12).trans' k24).trans EA λc hc hlt=>by have:=Zq.1 hc;omega).trans CM λc hc hlt=>by have:=Zq.1 hc;omega
 have smA:=oO hA hD
 have smB:=oO hA2 hD2
 have e1:=λ{j}=>Zen E (k:=1) (n:=j) (by decide) (H:=H6) (hD.keep0 kk) (hD2.keep0 kk)
 have e2:=λ{j}=>Zej E (k:=1) (n:=j) (by decide) (H:=H6) (hA.keep0 kk) (hA2.keep0 kk) hla
 have vI: ∀G,ld1 (some (rH 34 [.int .i64 ma.kind,nI .u32 ma.mode,nI .u32 ma.uid,nI .u32 ma.gid,.int .i64 ma.time,av,dv,.str ma.link])) 0 G=.val (.int .i64 ma.kind) G:=λG=>rfl
 have rj: ∀G,ld1 (some (rH 34 [.int .i64 ma.kind,nI .u32 ma.mode,nI .u32 ma.uid,nI .u32 ma.gid,.int .i64 ma.time,av,dv,.str ma.link])) 1 G=.val (nI .u32 ma.mode) G:=λG=>rfl
 have mW: ∀G,ld1 (some (rH 34 [.int .i64 ma.kind,nI .u32 ma.mode,nI .u32 ma.uid,nI .u32 ma.gid,.int .i64 ma.time,av,dv,.str ma.link])) 2 G=.val (nI .u32 ma.uid) G:=λG=>rfl
 have fY: ∀G,ld1 (some (rH 34 [.int .i64 ma.kind,nI .u32 ma.mode,nI .u32 ma.uid,nI .u32 ma.gid,.int .i64 ma.time,av,dv,.str ma.link])) 3 G=.val (nI .u32 ma.gid) G:=λG=>rfl
 have la4: ∀G,ld1 (some (rH 34 [.int .i64 ma.kind,nI .u32 ma.mode,nI .u32 ma.uid,nI .u32 ma.gid,.int .i64 ma.time,av,dv,.str ma.link])) 4 G=.val (.int .i64 ma.time) G:=λG=>rfl
 have la5: ∀G,ld1 (some (rH 34 [.int .i64 ma.kind,nI .u32 ma.mode,nI .u32 ma.uid,nI .u32 ma.gid,.int .i64 ma.time,av,dv,.str ma.link])) 5 G=.val av G:=λG=>rfl
 have la6: ∀G,ld1 (some (rH 34 [.int .i64 ma.kind,nI .u32 ma.mode,nI .u32 ma.uid,nI .u32 ma.gid,.int .i64 ma.time,av,dv,.str ma.link])) 6 G=.val dv G:=λG=>rfl
 have la7: ∀G,ld1 (some (rH 34 [.int .i64 ma.kind,nI .u32 ma.mode,nI .u32 ma.uid,nI .u32 ma.gid,.int .i64 ma.time,av,dv,.str ma.link])) 7 G=.val (.str ma.link) G:=λG=>rfl
 have vJ: ∀G,ld1 (some (rH 34 [.int .i64 mb.kind,nI .u32 mb.mode,nI .u32 mb.uid,nI .u32 mb.gid,.int .i64 mb.time,bv,ev,.str mb.link])) 0 G=.val (.int .i64 mb.kind) G:=λG=>rfl
 have rn: ∀G,ld1 (some (rH 34 [.int .i64 mb.kind,nI .u32 mb.mode,nI .u32 mb.uid,nI .u32 mb.gid,.int .i64 mb.time,bv,ev,.str mb.link])) 1 G=.val (nI .u32 mb.mode) G:=λG=>rfl
 have m7: ∀G,ld1 (some (rH 34 [.int .i64 mb.kind,nI .u32 mb.mode,nI .u32 mb.uid,nI .u32 mb.gid,.int .i64 mb.time,bv,ev,.str mb.link])) 2 G=.val (nI .u32 mb.uid) G:=λG=>rfl
 have eC: ∀G,ld1 (some (rH 34 [.int .i64 mb.kind,nI .u32 mb.mode,nI .u32 mb.uid,nI .u32 mb.gid,.int .i64 mb.time,bv,ev,.str mb.link])) 3 G=.val (nI .u32 mb.gid) G:=λG=>rfl
 have lb4: ∀G,ld1 (some (rH 34 [.int .i64 mb.kind,nI .u32 mb.mode,nI .u32 mb.uid,nI .u32 mb.gid,.int .i64 mb.time,bv,ev,.str mb.link])) 4 G=.val (.int .i64 mb.time) G:=λG=>rfl
 have lb5: ∀G,ld1 (some (rH 34 [.int .i64 mb.kind,nI .u32 mb.mode,nI .u32 mb.uid,nI .u32 mb.gid,.int .i64 mb.time,bv,ev,.str mb.link])) 5 G=.val bv G:=λG=>rfl
 have lb6: ∀G,ld1 (some (rH 34 [.int .i64 mb.kind,nI .u32 mb.mode,nI .u32 mb.uid,nI .u32 mb.gid,.int .i64 mb.time,bv,ev,.str mb.link])) 6 G=.val ev G:=λG=>rfl
 have lb7: ∀G,ld1 (some (rH 34 [.int .i64 mb.kind,nI .u32 mb.mode,nI .u32 mb.uid,nI .u32 mb.gid,.int .i64 mb.time,bv,ev,.str mb.link])) 7 G=.val (.str mb.link) G:=λG=>rfl
 by_cases c_path:ma.path=mb.path
 ·have d_path:decide (ma.path=mb.path)=true:=Ze c_path
  have n_path:decide (¬(ma.path=mb.path))=false:=Zb λh=>h c_path
  by_cases c_kind:ma.kind=mb.kind
  ·have d_kind:decide (ma.kind=mb.kind)=true:=Ze c_kind
   have n_kind:decide (¬(ma.kind=mb.kind))=false:=Zb λh=>h c_kind
   by_cases c_mode:ma.mode=mb.mode
   ·have d_mode:decide (ma.mode=mb.mode)=true:=Ze c_mode
    have n_mode:decide (¬(ma.mode=mb.mode))=false:=Zb λh=>h c_mode
    by_cases c_uid:ma.uid=mb.uid
    ·have d_uid:decide (ma.uid=mb.uid)=true:=Ze c_uid
     have n_uid:decide (¬(ma.uid=mb.uid))=false:=Zb λh=>h c_uid
     by_cases c_gid:ma.gid=mb.gid
     ·have d_gid:decide (ma.gid=mb.gid)=true:=Ze c_gid
      have n_gid:decide (¬(ma.gid=mb.gid))=false:=Zb λh=>h c_gid
      by_cases c_time:ma.time=mb.time
      ·have d_time:decide (ma.time=mb.time)=true:=Ze c_time
       have n_time:decide (¬(ma.time=mb.time))=false:=Zb λh=>h c_time
       by_cases c_link:ma.link=mb.link
       ·have d_link:decide (ma.link=mb.link)=true:=Ze c_link
        have n_link:decide (¬(ma.link=mb.link))=false:=Zb λh=>h c_link
        rw[show Vy ma mb=(decide (ma.data=mb.data)&&decide (ma.attrs=mb.attrs)) by unfold Vy;simp only[d_path,d_kind,d_mode,d_uid,d_gid,d_time,d_link,X9]]
        cases hd:decide (ma.data=mb.data)
        all_goals
         rw[hd] at e1
         simp(disch:=first|assumption|omega|(simp -implicitDefEqProofs only[X3,X4]<;>first|assumption|omega)|decide) only[bxa,bxb,hH1,hH2,g2,g12,xe,xf,pA,pB,hH3,Nu,g43,A6,Et,s5,g54,sT,s6,g63,ga6,am,g64,smA,smB,vI,rj,mW,fY,la4,la5,la6,la7,vJ,rn,m7,eC,lb4,lb5,lb6,lb7,Nk,Wd,d_path,d_kind,d_mode,d_uid,d_gid,d_time,d_link,e1,e2,X9,Z7,YL,YT,decide_true,decide_false,Zg,Zd,Zd,Zg,YD,ZD,ZM,Zd,Zg,YD,c11,Zu,Ye,Zw,Z8,Yp,Yv,Y6,Nat.reducePow,Nat.reduceDiv,Nat.reduceMod,reduceCtorEq,Z6,Vk,QS]
         refine⟨_,rfl,?_⟩
         exact kk
       ·have d_link:decide (ma.link=mb.link)=false:=Zb c_link
        rw[show Vy ma mb=false by unfold Vy;simp only[d_path,d_kind,d_mode,d_uid,d_gid,d_time,d_link,YS,Z7]]
        simp(disch:=first|assumption|omega|(simp -implicitDefEqProofs only[X3,X4]<;>first|assumption|omega)|decide) only[bxa,bxb,hH1,hH2,g2,g12,xe,xf,pA,pB,hH3,Nu,g43,A6,Et,s5,g54,sT,s6,g63,ga6,am,g64,smA,smB,vI,rj,mW,fY,la4,la7,vJ,rn,m7,eC,lb4,lb7,Nk,Wd,d_path,d_kind,d_mode,d_uid,d_gid,d_time,d_link,YL,YT,decide_true,decide_false,Zg,Zd,Zd,Zg,YD,ZD,ZM,Zd,Zg,YD,c11,Zu,Ye,Zw,Z8,Yp,Yv,Y6,Nat.reducePow,Nat.reduceDiv,Nat.reduceMod,reduceCtorEq,Z6,Vk,QS]
        refine⟨_,rfl,?_⟩
        exact kk
      ·have d_time:decide (ma.time=mb.time)=false:=Zb c_time
       rw[show Vy ma mb=false by unfold Vy;simp only[d_path,d_kind,d_mode,d_uid,d_gid,d_time,YS,Z7]]
       simp(disch:=first|assumption|omega|(simp -implicitDefEqProofs only[X3,X4]<;>first|assumption|omega)|decide) only[bxa,bxb,hH1,hH2,g2,g12,xe,xf,pA,pB,hH3,Nu,g43,A6,Et,s5,g54,sT,s6,g63,ga6,am,g64,smA,smB,vI,rj,mW,fY,la4,vJ,rn,m7,eC,lb4,Nk,Wd,d_path,d_kind,d_mode,d_uid,d_gid,d_time,YL,YT,decide_true,decide_false,Zg,Zd,Zd,Zg,YD,ZD,ZM,Zd,Zg,YD,c11,Zu,Ye,Zw,Z8,Yp,Yv,Y6,Nat.reducePow,Nat.reduceDiv,Nat.reduceMod,reduceCtorEq,Z6,Vk,QS]
       refine⟨_,rfl,?_⟩
       exact kk
     ·have d_gid:decide (ma.gid=mb.gid)=false:=Zb c_gid
      rw[show Vy ma mb=false by unfold Vy;simp only[d_path,d_kind,d_mode,d_uid,d_gid,YS,Z7]]
      simp(disch:=first|assumption|omega|(simp -implicitDefEqProofs only[X3,X4]<;>first|assumption|omega)|decide) only[bxa,bxb,hH1,hH2,g2,g12,xe,xf,pA,pB,hH3,Nu,g43,A6,Et,s5,g54,sT,s6,g63,ga6,am,g64,smA,smB,vI,rj,mW,fY,vJ,rn,m7,eC,Nk,Wd,d_path,d_kind,d_mode,d_uid,d_gid,YL,YT,decide_true,decide_false,Zg,Zd,Zd,Zg,YD,ZD,ZM,Zd,Zg,YD,c11,Zu,Ye,Zw,Z8,Yp,Yv,Y6,Nat.reducePow,Nat.reduceDiv,Nat.reduceMod,reduceCtorEq,Z6,Vk,QS]
      refine⟨_,rfl,?_⟩
      exact kk
    ·have d_uid:decide (ma.uid=mb.uid)=false:=Zb c_uid
     rw[show Vy ma mb=false by unfold Vy;simp only[d_path,d_kind,d_mode,d_uid,YS,Z7]]
     simp(disch:=first|assumption|omega|(simp -implicitDefEqProofs only[X3,X4]<;>first|assumption|omega)|decide) only[bxa,bxb,hH1,hH2,g2,g12,xe,xf,pA,pB,hH3,Nu,g43,A6,Et,s5,g54,sT,s6,g63,ga6,am,g64,smA,smB,vI,rj,mW,vJ,rn,m7,Nk,Wd,d_path,d_kind,d_mode,d_uid,YL,YT,decide_true,decide_false,Zg,Zd,Zd,Zg,YD,ZD,ZM,Zd,Zg,YD,c11,Zu,Ye,Zw,Z8,Yp,Yv,Y6,Nat.reducePow,Nat.reduceDiv,Nat.reduceMod,reduceCtorEq,Z6,Vk,QS]
     refine⟨_,rfl,?_⟩
     exact kk
   ·have d_mode:decide (ma.mode=mb.mode)=false:=Zb c_mode
    rw[show Vy ma mb=false by unfold Vy;simp only[d_path,d_kind,d_mode,YS,Z7]]
    simp(disch:=first|assumption|omega|(simp -implicitDefEqProofs only[X3,X4]<;>first|assumption|omega)|decide) only[bxa,bxb,hH1,hH2,g2,g12,xe,xf,pA,pB,hH3,Nu,g43,A6,Et,s5,g54,sT,s6,g63,ga6,am,g64,smA,smB,vI,rj,vJ,rn,Nk,Wd,d_path,d_kind,d_mode,YL,YT,decide_true,decide_false,Zg,Zd,Zd,Zg,YD,ZD,ZM,Zd,Zg,YD,c11,Zu,Ye,Zw,Z8,Yp,Yv,Y6,Nat.reducePow,Nat.reduceDiv,Nat.reduceMod,reduceCtorEq,Z6,Vk,QS]
    refine⟨_,rfl,?_⟩
    exact kk
  ·have d_kind:decide (ma.kind=mb.kind)=false:=Zb c_kind
   rw[show Vy ma mb=false by unfold Vy;simp only[d_path,d_kind,YS,Z7]]
   simp(disch:=first|assumption|omega|(simp -implicitDefEqProofs only[X3,X4]<;>first|assumption|omega)|decide) only[bxa,bxb,hH1,hH2,g2,g12,xe,xf,pA,pB,hH3,Nu,g43,A6,Et,s5,g54,sT,s6,g63,ga6,am,g64,smA,smB,vI,vJ,Nk,Wd,d_path,d_kind,YT,decide_true,decide_false,Zg,Zd,Zd,Zg,YD,ZD,ZM,Zd,Zg,YD,c11,Zu,Ye,Zw,Z8,Yp,Yv,Y6,Nat.reducePow,Nat.reduceDiv,Nat.reduceMod,reduceCtorEq,Z6,Vk,QS]
   refine⟨_,rfl,?_⟩
   exact kk
 ·have d_path:decide (ma.path=mb.path)=false:=Zb c_path
  rw[show Vy ma mb=false by unfold Vy;simp only[d_path,Z7]]
  simp(disch:=first|assumption|omega|(simp -implicitDefEqProofs only[X3,X4]<;>first|assumption|omega)|decide) only[bxa,bxb,hH1,hH2,g2,g12,xe,xf,pA,pB,hH3,Nu,g43,A6,Et,s5,g54,sT,s6,ga6,am,smA,smB,Wd,d_path,YT,decide_true,decide_false,Zg,Zd,Zd,Zg,YD,ZD,ZM,Zd,Zg,YD,c11,Zu,Ye,Zw,Z8,Yp,Yv,Y6,Nat.reducePow,Nat.reduceDiv,Nat.reduceMod,reduceCtorEq,Z6,Vk,QS]
  refine⟨_,rfl,?_⟩
  exact kk
theorem Zju(E:Env Zn fs fuel)(hk:2<=k){ca cb:List AV}{ma mb:Mem}(hro:H.ro<=H.nx)(hCa:QN H ca ma)(hCb:QN H cb mb)(hla:ma.attrs.length<=90000):
  ZE (LK Zn fs fuel k) fs fuel (n+1) 11 [.agg ca,.agg cb] H=.ret (.bool (Vy ma mb)) H:=by
 obtain⟨H',e,g⟩:=ju E (n:=898) (H:=H) hro hCa hCb hla
 exact Yl (r:=1) rfl rfl e g (rfl) hk
structure DEI(Hs:Heap)(p q:Nat)(l m:List NP)(z:Nat)(tm:TM)(H:Heap):Prop where
 h:H=Hs
 t5:YW tm=.ptr p 0
 t6:XI tm=.ptr q 0
 i: ∃i,XQ tm=nI .i64 i∧i+z=l.length∧ ∀j,j<i->l.getD j ([],[])=m.getD j ([],[])
def DEQ(Hs:Heap)(l m:List NP)(o:Out)(tm:TM)(H:Heap):Prop:=H=Hs∧((o=.ret∧Y4 tm=.bool false∧l≠m)∨(o=.exit 0∧l=m))
theorem Zai{p q:Nat}{ma mb:Mem}{av dv bv ev:AV}{Hs:Heap}(hp:p<Hs.nx)(hq:q<Hs.nx)(gp:Hs.t.get p=some (rH 34 [.int .i64 ma.kind,nI .u32 ma.mode,nI .u32 ma.uid,nI .u32 ma.gid,.int .i64 ma.time,av,dv,.str ma.link]))(gq:Hs.t.get q=some (rH 34 [.int .i64 mb.kind,nI .u32 mb.mode,nI .u32 mb.uid,nI .u32 mb.gid,.int .i64 mb.time,bv,ev,.str mb.link]))(hv:Sz Hs 2 av (V8 ma.attrs))(hw:Sz Hs 2 bv (V8 mb.attrs))(hlm:ma.attrs.length=mb.attrs.length)(hl:ma.attrs.length<=90000)(cx:Ctx)(X0:X)(z:Nat)(tm:TM)(H:Heap)(hI:DEI Hs p q ma.attrs mb.attrs z tm H):
  ∃o tm' H',Ff cx tm H X0=.ok o tm' H' X0∧((o=.normal∧ ∃k,k<z∧DEI Hs p q ma.attrs mb.attrs k tm' H')∨(o≠.normal∧DEQ Hs ma.attrs mb.attrs o tm' H')):=by
 obtain⟨rfl,t5,t6,i,t7,him,hall⟩:=hI
 have PE:=t5;have Dr:=t6
 simp only[QP,EU,LX] at t5 t6 t7
 have ln:=hv.len
 rw[XK] at ln
 have la5: ∀G,ld1 (some (rH 34 [.int .i64 ma.kind,nI .u32 ma.mode,nI .u32 ma.uid,nI .u32 ma.gid,.int .i64 ma.time,av,dv,.str ma.link])) 5 G=.val av G:=λG=>rfl
 have lb5: ∀G,ld1 (some (rH 34 [.int .i64 mb.kind,nI .u32 mb.mode,nI .u32 mb.uid,nI .u32 mb.gid,.int .i64 mb.time,bv,ev,.str mb.link])) 5 G=.val bv G:=λG=>rfl
 cases z with
 |zero=>
  have d1:decide (i<ma.attrs.length)=false:=Zb (by omega)
  simp only[t5,t7,gp,la5,ln,d1,Zy,Zd,Zd,Zy,Zd,Ff,Zu,Ye,Z6,QS]
  refine⟨_,_,_,rfl,?_⟩
  exact .inr ⟨by simp,rfl,.inr ⟨rfl,dq hlm λj hj=>hall j (by omega)⟩⟩
 |succ z=>
  have d1:decide (i<ma.attrs.length)=true:=Ze (by omega)
  have hi:i<ma.attrs.length:=by omega
  obtain⟨bb,o,r,eI,hb,gb,eL,_⟩:=hv.at_ (i:=i) (by rw[XK];exact hi)
  rw[Sy hi] at eL
  obtain⟨b2,o2,r2,iM,hb2,ID,eL2,_⟩:=hw.at_ (i:=i) (by rw[XK];omega)
  rw[Sy (by omega)] at eL2
  have lv:=hv.low (n:=H.nx) (Zp _)
  have lw:=hw.low (n:=H.nx) (Zp _)
  have sv:=hv.same
  have sw:=hw.same
  have ea:=q9 (ma.attrs.getD i ([],[])).1 (ma.attrs.getD i ([],[])).2 (mb.attrs.getD i ([],[])).1 (mb.attrs.getD i ([],[])).2
  by_cases he:ma.attrs.getD i ([],[])=mb.attrs.getD i ([],[])
  ·have d2:(!decide (((ma.attrs.getD i ([],[])).1,(ma.attrs.getD i ([],[])).2)=((mb.attrs.getD i ([],[])).1,(mb.attrs.getD i ([],[])).2)))=false:=by rw[Ze (by exact he)];rfl
   rw[d2] at ea
   simp(disch:=omega) only[t5,t6,t7,gp,gq,la5,lb5,ln,d1,eI,gb,eL,iM,ID,eL2,lv,lw,sv,sw,ea,Nv,Zy,YI,Zd,Zd,YD,ZD,ZM,Zy,Zd,YD,Ff,Zu,Ye,Zw,Z8,Yp,Yv,Z6,QS]
   refine⟨_,_,_,rfl,.inl ⟨rfl,z,by omega,rfl,PE,Dr,i+1,rfl,by omega,λj hj=>?_⟩⟩
   by_cases h:j=i
   ·rw[h];exact he
   ·exact hall j (by omega)
  ·have d2:(!decide (((ma.attrs.getD i ([],[])).1,(ma.attrs.getD i ([],[])).2)=((mb.attrs.getD i ([],[])).1,(mb.attrs.getD i ([],[])).2)))=true:=by rw[Zb (by exact he)];rfl
   rw[d2] at ea
   simp(disch:=omega) only[t5,t6,t7,gp,gq,la5,lb5,ln,d1,eI,gb,eL,iM,ID,eL2,lv,lw,sv,sw,ea,Nv,Zy,Zd,Zd,YD,ZD,ZM,Zy,Zd,YD,Ff,Zu,Ye,Zw,Z8,Yp,Yv,Z6,QS]
   refine⟨_,_,_,rfl,?_⟩
   exact .inr ⟨by simp,rfl,.inl ⟨rfl,rfl,λh=>he (by rw[h])⟩⟩
theorem nP(E:Env Zn fs fuel){ca cb:List AV}{ma mb:Mem}(hro:H.ro<=H.nx)(hCa:QN H ca ma)(hCb:QN H cb mb)(hla:ma.attrs.length<=90000):
  ∃H',ZE (LK Zn fs fuel 0) fs fuel (n+2) 12 [.agg ca,.agg cb] H=.ret (.bool (Vy ma mb)) H'∧Zs H H' []:=by
 rw[ZI (ZA E.n12 (.inl (by decide)) _ _) E.f12]
 obtain⟨av,dv,rfl,hA,hD⟩:=hCa
 obtain⟨bv,ev,rfl,hA2,hD2⟩:=hCb
 have bxa: ∀G:Heap,Ni 36 (.agg [.str ma.path,.int .i64 ma.kind,nI .u32 ma.mode,nI .u32 ma.uid,nI .u32 ma.gid,.int .i64 ma.time,av,dv,.str ma.link]) G=.val (.ptr G.nx 0) (G.new (rH 36 [.str ma.path,.int .i64 ma.kind,nI .u32 ma.mode,nI .u32 ma.uid,nI .u32 ma.gid,.int .i64 ma.time,av,dv,.str ma.link])):=λG=>XS (l:=[.str ma.path,.int .i64 ma.kind,nI .u32 ma.mode,nI .u32 ma.uid,nI .u32 ma.gid,.int .i64 ma.time,av,dv,.str ma.link]) (show 1<=9 by decide) 36 G
 have bxb: ∀G:Heap,Ni 36 (.agg [.str mb.path,.int .i64 mb.kind,nI .u32 mb.mode,nI .u32 mb.uid,nI .u32 mb.gid,.int .i64 mb.time,bv,ev,.str mb.link]) G=.val (.ptr G.nx 0) (G.new (rH 36 [.str mb.path,.int .i64 mb.kind,nI .u32 mb.mode,nI .u32 mb.uid,nI .u32 mb.gid,.int .i64 mb.time,bv,ev,.str mb.link])):=λG=>XS (l:=[.str mb.path,.int .i64 mb.kind,nI .u32 mb.mode,nI .u32 mb.uid,nI .u32 mb.gid,.int .i64 mb.time,bv,ev,.str mb.link]) (show 1<=9 by decide) 36 G
 obtain⟨H1,hH1⟩:=Sa (H.new (rH 36 [.str ma.path,.int .i64 ma.kind,nI .u32 ma.mode,nI .u32 ma.uid,nI .u32 ma.gid,.int .i64 ma.time,av,dv,.str ma.link]))
 have k1:Zs H H1 []:=by rw[<-hH1];exact Zs.new _ _ _
 have IY:H1.nx=H.nx+1:=by rw[<-hH1];rfl
 have g1:H1.t.get H.nx=some (rH 36 [.str ma.path,.int .i64 ma.kind,nI .u32 ma.mode,nI .u32 ma.uid,nI .u32 ma.gid,.int .i64 ma.time,av,dv,.str ma.link]):=by rw[<-hH1];exact ZW rfl _
 obtain⟨H2,hH2⟩:=Sa (H1.new (rH 36 [.str mb.path,.int .i64 mb.kind,nI .u32 mb.mode,nI .u32 mb.uid,nI .u32 mb.gid,.int .i64 mb.time,bv,ev,.str mb.link]))
 have k12:Zs H1 H2 []:=by rw[<-hH2];exact Zs.new _ _ _
 have nx2:H2.nx=H1.nx+1:=by rw[<-hH2];rfl
 have g2:H2.t.get H1.nx=some (rH 36 [.str mb.path,.int .i64 mb.kind,nI .u32 mb.mode,nI .u32 mb.uid,nI .u32 mb.gid,.int .i64 mb.time,bv,ev,.str mb.link]):=by rw[<-hH2];exact ZW rfl _
 have g12:H2.t.get H.nx=some (rH 36 [.str ma.path,.int .i64 ma.kind,nI .u32 ma.mode,nI .u32 ma.uid,nI .u32 ma.gid,.int .i64 ma.time,av,dv,.str ma.link]):=by rw[k12.get _ (by omega) (by simp)];exact g1
 have xe: ∀G,EW 8 (some (rH 36 [.str ma.path,.int .i64 ma.kind,nI .u32 ma.mode,nI .u32 ma.uid,nI .u32 ma.gid,.int .i64 ma.time,av,dv,.str ma.link])) 1 G=.val (.agg [.int .i64 ma.kind,nI .u32 ma.mode,nI .u32 ma.uid,nI .u32 ma.gid,.int .i64 ma.time,av,dv,.str ma.link]) G:=λG=>Vr (show 1+8<=9 by decide) ..
 have xf: ∀G,EW 8 (some (rH 36 [.str mb.path,.int .i64 mb.kind,nI .u32 mb.mode,nI .u32 mb.uid,nI .u32 mb.gid,.int .i64 mb.time,bv,ev,.str mb.link])) 1 G=.val (.agg [.int .i64 mb.kind,nI .u32 mb.mode,nI .u32 mb.uid,nI .u32 mb.gid,.int .i64 mb.time,bv,ev,.str mb.link]) G:=λG=>Vr (show 1+8<=9 by decide) ..
 have pA: ∀G,ld1 (some (rH 36 [.str ma.path,.int .i64 ma.kind,nI .u32 ma.mode,nI .u32 ma.uid,nI .u32 ma.gid,.int .i64 ma.time,av,dv,.str ma.link])) 0 G=.val (.str ma.path) G:=λG=>rfl
 have pB: ∀G,ld1 (some (rH 36 [.str mb.path,.int .i64 mb.kind,nI .u32 mb.mode,nI .u32 mb.uid,nI .u32 mb.gid,.int .i64 mb.time,bv,ev,.str mb.link])) 0 G=.val (.str mb.path) G:=λG=>rfl
 have hf:=E.big
 have q1:H2.ro<=H2.nx:=by rw[k12.ro,k1.ro];omega
 obtain⟨H3,hH3⟩:=Sa (H2.new (rH 34 [.int .i64 ma.kind,nI .u32 ma.mode,nI .u32 ma.uid,nI .u32 ma.gid,.int .i64 ma.time,av,dv,.str ma.link]))
 have nx3:H3.nx=H2.nx+1:=by rw[<-hH3];rfl
 have k23:Zs H2 H3 []:=by rw[<-hH3];exact Zs.new _ _ _
 have g3:H3.t.get H2.nx=some (rH 34 [.int .i64 ma.kind,nI .u32 ma.mode,nI .u32 ma.uid,nI .u32 ma.gid,.int .i64 ma.time,av,dv,.str ma.link]):=by rw[<-hH3];exact ZW rfl _
 have bf:=Tn (n:=8) (b:=H2.nx) (l:=[nI .i64 0,nI .u32 0,nI .u32 0,nI .u32 0,nI .i64 0,.nils,.nils,.str []]) (vs:=[.int .i64 ma.kind,nI .u32 ma.mode,nI .u32 ma.uid,nI .u32 ma.gid,.int .i64 ma.time,av,dv,.str ma.link]) (H:=H2.new (rH 34 [nI .i64 0,nI .u32 0,nI .u32 0,nI .u32 0,nI .i64 0,.nils,.nils,.str []])) rfl rfl (by decide) (by show H2.ro<=_;omega) 34 1 false true
 rw[Tm rfl,hH3] at bf
 have q3:H3.ro<=H3.nx:=by rw[k23.ro];omega
 have K7:H3.t.get H1.nx=some (rH 36 [.str mb.path,.int .i64 mb.kind,nI .u32 mb.mode,nI .u32 mb.uid,nI .u32 mb.gid,.int .i64 mb.time,bv,ev,.str mb.link]):=by rw[k23.get _ (by omega) (by simp)];exact g2
 obtain⟨H4,Nu⟩:=Sa (H3.new (rH 34 [.int .i64 mb.kind,nI .u32 mb.mode,nI .u32 mb.uid,nI .u32 mb.gid,.int .i64 mb.time,bv,ev,.str mb.link]))
 have nx4:H4.nx=H3.nx+1:=by rw[<-Nu];rfl
 have Hj:Zs H3 H4 []:=by rw[<-Nu];exact Zs.new _ _ _
 have bh:=Tn (n:=8) (b:=H3.nx) (l:=[nI .i64 0,nI .u32 0,nI .u32 0,nI .u32 0,nI .i64 0,.nils,.nils,.str []]) (vs:=[.int .i64 mb.kind,nI .u32 mb.mode,nI .u32 mb.uid,nI .u32 mb.gid,.int .i64 mb.time,bv,ev,.str mb.link]) (H:=H3.new (rH 34 [nI .i64 0,nI .u32 0,nI .u32 0,nI .u32 0,nI .i64 0,.nils,.nils,.str []])) rfl rfl (by decide) (by show H3.ro<=_;omega) 34 1 false true
 rw[Tm rfl,Nu] at bh
 have g44:H4.t.get H3.nx=some (rH 34 [.int .i64 mb.kind,nI .u32 mb.mode,nI .u32 mb.uid,nI .u32 mb.gid,.int .i64 mb.time,bv,ev,.str mb.link]):=by rw[<-Nu];exact ZW rfl _
 have g43:H4.t.get H2.nx=some (rH 34 [.int .i64 ma.kind,nI .u32 ma.mode,nI .u32 ma.uid,nI .u32 ma.gid,.int .i64 ma.time,av,dv,.str ma.link]):=by rw[Hj.get _ (by omega) (by simp)];exact g3
 have k24:=k23.trans' Hj
 have A6:H4.t.get H.nx=some (rH 36 [.str ma.path,.int .i64 ma.kind,nI .u32 ma.mode,nI .u32 ma.uid,nI .u32 ma.gid,.int .i64 ma.time,av,dv,.str ma.link]):=by rw[k24.get _ (by omega) (by simp)];exact g12
 have Et:H4.t.get H1.nx=some (rH 36 [.str mb.path,.int .i64 mb.kind,nI .u32 mb.mode,nI .u32 mb.uid,nI .u32 mb.gid,.int .i64 mb.time,bv,ev,.str mb.link]):=by rw[k24.get _ (by omega) (by simp)];exact g2
 have kk:Zs H H4 []:=(k1.trans' k12).trans' k24
 have sd1:=x7 (hD.keep0 kk)
 have sd2:=x7 (hD2.keep0 kk)
 have ln1:=hA.len
 have ln2:=hA2.len
 rw[XK] at ln1 ln2
 have vI: ∀G,ld1 (some (rH 34 [.int .i64 ma.kind,nI .u32 ma.mode,nI .u32 ma.uid,nI .u32 ma.gid,.int .i64 ma.time,av,dv,.str ma.link])) 0 G=.val (.int .i64 ma.kind) G:=λG=>rfl
 have rj: ∀G,ld1 (some (rH 34 [.int .i64 ma.kind,nI .u32 ma.mode,nI .u32 ma.uid,nI .u32 ma.gid,.int .i64 ma.time,av,dv,.str ma.link])) 1 G=.val (nI .u32 ma.mode) G:=λG=>rfl
 have mW: ∀G,ld1 (some (rH 34 [.int .i64 ma.kind,nI .u32 ma.mode,nI .u32 ma.uid,nI .u32 ma.gid,.int .i64 ma.time,av,dv,.str ma.link])) 2 G=.val (nI .u32 ma.uid) G:=λG=>rfl
 have fY: ∀G,ld1 (some (rH 34 [.int .i64 ma.kind,nI .u32 ma.mode,nI .u32 ma.uid,nI .u32 ma.gid,.int .i64 ma.time,av,dv,.str ma.link])) 3 G=.val (nI .u32 ma.gid) G:=λG=>rfl
 have la4: ∀G,ld1 (some (rH 34 [.int .i64 ma.kind,nI .u32 ma.mode,nI .u32 ma.uid,nI .u32 ma.gid,.int .i64 ma.time,av,dv,.str ma.link])) 4 G=.val (.int .i64 ma.time) G:=λG=>rfl
 have la5: ∀G,ld1 (some (rH 34 [.int .i64 ma.kind,nI .u32 ma.mode,nI .u32 ma.uid,nI .u32 ma.gid,.int .i64 ma.time,av,dv,.str ma.link])) 5 G=.val av G:=λG=>rfl
 have la6: ∀G,ld1 (some (rH 34 [.int .i64 ma.kind,nI .u32 ma.mode,nI .u32 ma.uid,nI .u32 ma.gid,.int .i64 ma.time,av,dv,.str ma.link])) 6 G=.val dv G:=λG=>rfl
 have la7: ∀G,ld1 (some (rH 34 [.int .i64 ma.kind,nI .u32 ma.mode,nI .u32 ma.uid,nI .u32 ma.gid,.int .i64 ma.time,av,dv,.str ma.link])) 7 G=.val (.str ma.link) G:=λG=>rfl
 have vJ: ∀G,ld1 (some (rH 34 [.int .i64 mb.kind,nI .u32 mb.mode,nI .u32 mb.uid,nI .u32 mb.gid,.int .i64 mb.time,bv,ev,.str mb.link])) 0 G=.val (.int .i64 mb.kind) G:=λG=>rfl
 have rn: ∀G,ld1 (some (rH 34 [.int .i64 mb.kind,nI .u32 mb.mode,nI .u32 mb.uid,nI .u32 mb.gid,.int .i64 mb.time,bv,ev,.str mb.link])) 1 G=.val (nI .u32 mb.mode) G:=λG=>rfl
 have m7: ∀G,ld1 (some (rH 34 [.int .i64 mb.kind,nI .u32 mb.mode,nI .u32 mb.uid,nI .u32 mb.gid,.int .i64 mb.time,bv,ev,.str mb.link])) 2 G=.val (nI .u32 mb.uid) G:=λG=>rfl
 have eC: ∀G,ld1 (some (rH 34 [.int .i64 mb.kind,nI .u32 mb.mode,nI .u32 mb.uid,nI .u32 mb.gid,.int .i64 mb.time,bv,ev,.str mb.link])) 3 G=.val (nI .u32 mb.gid) G:=λG=>rfl
 have lb4: ∀G,ld1 (some (rH 34 [.int .i64 mb.kind,nI .u32 mb.mode,nI .u32 mb.uid,nI .u32 mb.gid,.int .i64 mb.time,bv,ev,.str mb.link])) 4 G=.val (.int .i64 mb.time) G:=λG=>rfl
 have lb5: ∀G,ld1 (some (rH 34 [.int .i64 mb.kind,nI .u32 mb.mode,nI .u32 mb.uid,nI .u32 mb.gid,.int .i64 mb.time,bv,ev,.str mb.link])) 5 G=.val bv G:=λG=>rfl
 have lb6: ∀G,ld1 (some (rH 34 [.int .i64 mb.kind,nI .u32 mb.mode,nI .u32 mb.uid,nI .u32 mb.gid,.int .i64 mb.time,bv,ev,.str mb.link])) 6 G=.val ev G:=λG=>rfl
 have lb7: ∀G,ld1 (some (rH 34 [.int .i64 mb.kind,nI .u32 mb.mode,nI .u32 mb.uid,nI .u32 mb.gid,.int .i64 mb.time,bv,ev,.str mb.link])) 7 G=.val (.str mb.link) G:=λG=>rfl
 by_cases c_path:ma.path=mb.path
 ·have d_path:decide (ma.path=mb.path)=true:=Ze c_path
  have n_path:decide (¬(ma.path=mb.path))=false:=Zb λh=>h c_path
  by_cases c_kind:ma.kind=mb.kind
  ·have d_kind:decide (ma.kind=mb.kind)=true:=Ze c_kind
   have n_kind:decide (¬(ma.kind=mb.kind))=false:=Zb λh=>h c_kind
   by_cases c_mode:ma.mode=mb.mode
   ·have d_mode:decide (ma.mode=mb.mode)=true:=Ze c_mode
    have n_mode:decide (¬(ma.mode=mb.mode))=false:=Zb λh=>h c_mode
    by_cases c_uid:ma.uid=mb.uid
    ·have d_uid:decide (ma.uid=mb.uid)=true:=Ze c_uid
     have n_uid:decide (¬(ma.uid=mb.uid))=false:=Zb λh=>h c_uid
     by_cases c_gid:ma.gid=mb.gid
     ·have d_gid:decide (ma.gid=mb.gid)=true:=Ze c_gid
      have n_gid:decide (¬(ma.gid=mb.gid))=false:=Zb λh=>h c_gid
      by_cases c_time:ma.time=mb.time
      ·have d_time:decide (ma.time=mb.time)=true:=Ze c_time
       have n_time:decide (¬(ma.time=mb.time))=false:=Zb λh=>h c_time
       by_cases c_link:ma.link=mb.link
       ·have d_link:decide (ma.link=mb.link)=true:=Ze c_link
        have n_link:decide (¬(ma.link=mb.link))=false:=Zb λh=>h c_link
        by_cases c_data:ma.data=mb.data
        ·have d_data:decide (ma.data=mb.data)=true:=Ze c_data
         have n_data:decide (¬(ma.data=mb.data))=false:=Zb λh=>h c_data
         by_cases c_len:ma.attrs.length=mb.attrs.length
         ·have d_len:decide (ma.attrs.length=mb.attrs.length)=true:=Ze c_len
          have n_len:decide (¬(ma.attrs.length=mb.attrs.length))=false:=Zb λh=>h c_len
          simp only[bxa,bxb,hH1,hH2,g12,xe,xf,pA,pB,bf,K7,bh,g44,g43,A6,Et,sd1,sd2,ln1,ln2,vI,rj,mW,fY,la4,la5,la6,la7,vJ,rn,m7,eC,lb4,lb5,lb6,lb7,Pd,Wd,P5,d_path,n_kind,n_mode,n_uid,n_gid,n_time,d_link,d_data,n_len,Vi,Wu,Zg,Zd,Zd,Zg,Yq,Zd,Zg,c12,Zu,Ye,Zw,Z6,Vk,QS]
          generalize hL:Wv (Ff _) fuel _ _ _=LL
          obtain⟨o,Pu,H5,rfl,_,h5,z⟩:=YA (P:=λT=>DEI H4 H2.nx H3.nx ma.attrs mb.attrs ma.attrs.length T H4) (Q:=DEQ H4 ma.attrs mb.attrs)
           (λT hi=>YP (DEI H4 H2.nx H3.nx ma.attrs mb.attrs) (DEQ H4 ma.attrs mb.attrs) (λz tm H1 h=>Zai (by omega) (by omega) g43 g44 (hA.keep0 kk) (hA2.keep0 kk) c_len hla _ _ z tm H1 h) fuel ma.attrs.length T H4 (by omega) hi) hL
           (by exact⟨rfl,rfl,rfl,0,rfl,by omega,λj hj=>by omega⟩)
          subst h5
          rcases z with⟨rfl,t4,e⟩|⟨rfl,e⟩
          ·simp only[Tp] at t4
           rw[show Vy ma mb=false by unfold Vy;rw[Zb e,YS]]
           simp only[t4,Zu,Zw,Z6,]
           refine⟨_,rfl,?_⟩
           exact kk
          ·rw[show Vy ma mb=true by unfold Vy;simp only[d_path,d_kind,d_mode,d_uid,d_gid,d_time,d_link,d_data,Ze e,Bool.and_self]]
           simp only[Zu,Ye,Zw,Z6,]
           refine⟨_,rfl,?_⟩
           exact kk
         ·have d_len:decide (ma.attrs.length=mb.attrs.length)=false:=Zb c_len
          have n_len:decide (¬(ma.attrs.length=mb.attrs.length))=true:=Ze c_len
          rw[show Vy ma mb=false by unfold Vy;rw[Zb (λh:ma.attrs=mb.attrs=>c_len (by rw[h])),YS]]
          simp only[bxa,bxb,hH1,hH2,g12,xe,xf,pA,pB,bf,K7,bh,g44,g43,A6,Et,sd1,sd2,ln1,ln2,vI,rj,mW,fY,la4,la5,la6,la7,vJ,rn,m7,eC,lb4,lb5,lb6,lb7,Pd,Wd,P5,d_path,n_kind,n_mode,n_uid,n_gid,n_time,d_link,d_data,n_len,Vi,Wu,Zg,Zd,Zd,Zg,Yq,Zd,Zg,c12,Zu,Ye,Zw,Z6,Vk,QS]
          refine⟨_,rfl,?_⟩
          exact kk
        ·have d_data:decide (ma.data=mb.data)=false:=Zb c_data
         rw[show Vy ma mb=false by unfold Vy;simp only[d_path,d_kind,d_mode,d_uid,d_gid,d_time,d_link,d_data,YS,Z7]]
         simp only[bxa,bxb,hH1,hH2,g12,xe,xf,pA,pB,bf,K7,bh,g44,g43,A6,Et,sd1,sd2,vI,rj,mW,fY,la4,la6,la7,vJ,rn,m7,eC,lb4,lb6,lb7,Pd,Wd,P5,d_path,n_kind,n_mode,n_uid,n_gid,n_time,d_link,d_data,Vi,Wu,Zg,Zd,Zd,Zg,Yq,Y2,Zd,Zg,c12,Zu,Ye,Zw,Z6,Vk,QS]
         refine⟨_,rfl,?_⟩
         exact kk
       ·have d_link:decide (ma.link=mb.link)=false:=Zb c_link
        rw[show Vy ma mb=false by unfold Vy;simp only[d_path,d_kind,d_mode,d_uid,d_gid,d_time,d_link,YS,Z7]]
        simp only[bxa,bxb,hH1,hH2,g12,xe,xf,pA,pB,bf,K7,bh,g44,g43,A6,Et,vI,rj,mW,fY,la4,la7,vJ,rn,m7,eC,lb4,lb7,Pd,Wd,d_path,n_kind,n_mode,n_uid,n_gid,n_time,d_link,Vi,Wu,Zg,Zd,Zd,Zg,Yq,Y2,Zd,Zg,c12,Zu,Ye,Zw,Z6,Vk]
        refine⟨_,rfl,?_⟩
        exact kk
      ·have d_time:decide (ma.time=mb.time)=false:=Zb c_time
       have n_time:decide (¬(ma.time=mb.time))=true:=Ze c_time
       rw[show Vy ma mb=false by unfold Vy;simp only[d_path,d_kind,d_mode,d_uid,d_gid,d_time,YS,Z7]]
       simp only[bxa,bxb,hH1,hH2,g12,xe,xf,pA,pB,bf,K7,bh,g44,g43,A6,Et,vI,rj,mW,fY,la4,vJ,rn,m7,eC,lb4,Pd,Wd,d_path,n_kind,n_mode,n_uid,n_gid,n_time,Vi,Wu,Zg,Zd,Zd,Zg,Yq,Zd,Zg,c12,Zu,Ye,Zw,Z6,Vk]
       refine⟨_,rfl,?_⟩
       exact kk
     ·have d_gid:decide (ma.gid=mb.gid)=false:=Zb c_gid
      have n_gid:decide (¬(ma.gid=mb.gid))=true:=Ze c_gid
      rw[show Vy ma mb=false by unfold Vy;simp only[d_path,d_kind,d_mode,d_uid,d_gid,YS,Z7]]
      simp only[bxa,bxb,hH1,hH2,g12,xe,xf,pA,pB,bf,K7,bh,g44,g43,A6,Et,vI,rj,mW,fY,vJ,rn,m7,eC,Pd,Wd,d_path,n_kind,n_mode,n_uid,n_gid,Vi,Wu,Zg,Zd,Zd,Zg,Yq,Zd,Zg,c12,Zu,Ye,Zw,Z6,Vk]
      refine⟨_,rfl,?_⟩
      exact kk
    ·have d_uid:decide (ma.uid=mb.uid)=false:=Zb c_uid
     have n_uid:decide (¬(ma.uid=mb.uid))=true:=Ze c_uid
     rw[show Vy ma mb=false by unfold Vy;simp only[d_path,d_kind,d_mode,d_uid,YS,Z7]]
     simp only[bxa,bxb,hH1,hH2,g12,xe,xf,pA,pB,bf,K7,bh,g44,g43,A6,Et,vI,rj,mW,vJ,rn,m7,Pd,Wd,d_path,n_kind,n_mode,n_uid,Vi,Wu,Zg,Zd,Zd,Zg,Yq,Zd,Zg,c12,Zu,Ye,Zw,Z6,Vk]
     refine⟨_,rfl,?_⟩
     exact kk
   ·have d_mode:decide (ma.mode=mb.mode)=false:=Zb c_mode
    have n_mode:decide (¬(ma.mode=mb.mode))=true:=Ze c_mode
    rw[show Vy ma mb=false by unfold Vy;simp only[d_path,d_kind,d_mode,YS,Z7]]
    simp only[bxa,bxb,hH1,hH2,g12,xe,xf,pA,pB,bf,K7,bh,g44,g43,A6,Et,vI,rj,vJ,rn,Pd,Wd,d_path,n_kind,n_mode,Vi,Wu,Zg,Zd,Zd,Zg,Yq,Zd,Zg,c12,Zu,Ye,Zw,Z6,Vk]
    refine⟨_,rfl,?_⟩
    exact kk
  ·have d_kind:decide (ma.kind=mb.kind)=false:=Zb c_kind
   have n_kind:decide (¬(ma.kind=mb.kind))=true:=Ze c_kind
   rw[show Vy ma mb=false by unfold Vy;simp only[d_path,d_kind,YS,Z7]]
   simp only[bxa,bxb,hH1,hH2,g12,xe,xf,pA,pB,bf,K7,bh,g44,g43,A6,Et,vI,vJ,Pd,Wd,d_path,n_kind,Wu,Zg,Zd,Zd,Zg,Yq,Zd,Zg,c12,Zu,Ye,Zw,Z6,Vk]
   refine⟨_,rfl,?_⟩
   exact kk
 ·have d_path:decide (ma.path=mb.path)=false:=Zb c_path
  rw[show Vy ma mb=false by unfold Vy;simp only[d_path,Z7]]
  simp only[bxa,bxb,hH1,hH2,g12,xe,xf,pA,pB,bf,K7,bh,A6,Et,Wd,d_path,Wu,Zg,Zd,Zd,Zg,Y2,Zd,Zg,c12,Zu,Ye,Zw,Z6,Vk]
  refine⟨_,rfl,?_⟩
  exact kk
theorem Zhe(E:Env Zn fs fuel)(hk:1<=k){ca cb:List AV}{ma mb:Mem}(hro:H.ro<=H.nx)(hCa:QN H ca ma)(hCb:QN H cb mb)(hla:ma.attrs.length<=90000):
  ZE (LK Zn fs fuel k) fs fuel (n+1) 12 [.agg ca,.agg cb] H=.ret (.bool (Vy ma mb)) H:=by
 obtain⟨H',e,g⟩:=nP E (n:=898) (H:=H) hro hCa hCb hla
 exact Yl (r:=0) rfl rfl e g (rfl) hk
end
end
end Go.AI
