/- ManifestNotes walked; the program's sum looked up; arguments that are bytes, or pairs of texts: proved without conditions but those that each names. -/
import Derived.Test.YtoihnnkidhmfeaaGreatDoorPB
import Derived.Test.YtoihnnkidhmfeaaGreatDoorPC
import Derived.Test.YtoihnnkidhmfeaaGreatDoorP7
import Derived.Test.YtoihnnkidhmfeaaGreatDoorP6
import Derived.Deep.Slices
import Derived.ChangeArms
import Derived.ChangeSame
set_option maxRecDepth 1000000
set_option maxHeartbeats 0
set_option linter.unusedVariables false
set_option linter.unusedSimpArgs false
namespace Go.AI
open Go
noncomputable section
def Zdo(o:Nat)(a:AV)(H:Heap):OR:=Be a λcs=>Rm (FU cs o) λv=>.val v H
theorem vG(x:Z0)(o:Nat)(tm:TM)(H:Heap):kW x o tm H=Zdo o (x tm) H:=rfl
theorem qd(v:AV)(H:Heap):Zdo 34 (.agg (pB v)) H=.val v H:=rfl
theorem qI{n:Nat}: ∀{l:List AV},(∀x∈l,Va n x=true)->Pd n l=true
 |[],_=>rfl
 |y::l,h=>by
  show cond (Va n y) (Pd n l) false=true
  rw[h y (Zv ..),qI λx hx=>h x (ZF _ hx)];rfl
theorem uc: ∀{l:List AV},(∀x∈l,same x x=true)->RN l l=true
 |[],_=>by unfold RN;rfl
 |y::l,h=>by
  unfold RN;rw[h y (Zv ..),uc λx hx=>h x (ZF _ hx)];rfl
theorem x9{H:Heap}{v:AV}{l:List NP}(h:Dt H v l):same v v=true:=by
 rcases h with⟨_,rfl⟩|⟨b,r,rfl,_⟩
 ·unfold same;rfl
 ·unfold same;rw[YC,YC,YC];rfl
theorem x7{md X:List UInt8}{u:Nat}{v:AV}(h:same v v=true):RN (P2 md X u v) (P2 md X u v)=true:=by
 refine uc λx hx=>?_
 unfold P2 at hx
 rcases Yb.1 hx with rfl|hx
 ·exact ud md
 ·rcases Zu.1 hx with hx|hx
  ·obtain⟨c,_,rfl⟩:=Wx.1 hx;exact xQ c
  ·simp only[Yb,O8,or_false] at hx
   rcases hx with rfl|rfl
   ·exact pc ..
   ·exact h
theorem kO{md:List UInt8}(h:NF md=false):md.length<900000:=by
 unfold NF at h
 by_cases h0:md=CY
 ·rw[h0];decide
 by_cases h1:md=CZ
 ·rw[h1];decide
 by_cases h2:md=C0
 ·rw[h2];decide
 by_cases h3:md=C1
 ·rw[h3];decide
 simp[h0,h1,h2,h3] at h
theorem rI{md X:List UInt8}{u n:Nat}{v:AV}(h:Va n v=true):Pd n (P2 md X u v)=true:=by
 refine qI λx hx=>?_
 unfold P2 at hx
 rcases Yb.1 hx with rfl|hx
 ·rfl
 ·rcases Zu.1 hx with hx|hx
  ·obtain⟨c,_,rfl⟩:=Wx.1 hx;rfl
  ·simp only[Yb,O8,or_false] at hx
   rcases hx with rfl|rfl
   ·rfl
   ·exact h
theorem Dt.low{H:Heap}{v:AV}{l:List NP}(h:Dt H v l){n:Nat}(hn:H.nx<=n):Va n v=true:=by
 rcases h with⟨_,rfl⟩|⟨b,r,rfl,hb,_⟩
 ·rfl
 ·exact UR (by omega) _ _ _
theorem Dt.cells{H:Heap}{v:AV}{l:List NP}(h:Dt H v l):v.cells=[v]:=by rcases h with⟨_,rfl⟩|⟨_,_,rfl,_⟩<;>rfl
theorem lC(l:List NP):(DO l).length<=20:=by unfold DO;rw[Zi,Ys];omega
theorem ZaL(l:List NP)(i:Nat):((DO l).getD i ([],[])).1.length<=1000∧((DO l).getD i ([],[])).2.length<=1000:=by
 unfold DO
 rw[Zh,Z1]
 cases(l.take 20)[i]? with
 |none=>exact⟨Yv _,Yv _⟩
 |some p=>refine⟨?_,?_⟩<;>(show(List.take _ _).length<=1000;rw[Ys];omega)
theorem pO(l:List UInt8):(VR l).length=32:=QV _ _
theorem m7{ZM:Lib}{fs:T CF}{fuel:Nat}(E:Env ZM fs fuel){k n u:Nat}{md X:List UInt8}{l:List NP}{v:AV}{H:Heap}(hd:X.length=32)(hu:u<=1000)(hro:H.ro<=H.nx)(hN:NT H v l)(hLn:l.length<=100)(hS: ∀i,(l.getD i ([],[])).1.length<=1000∧(l.getD i ([],[])).2.length<=1000):
  ∃H',Yo (LK ZM fs fuel k) fs fuel (n+6) 7 [.agg (P2 md X u v)] H=.ret (.bool (Ln md l)) H'∧ZE H H' []:=by
 rw[wF]
 cases hm:NF md with
 |true=>exact la E hd hm
 |false=>
  obtain⟨H',e,kk⟩:=hU E (k:=k) (n:=n) (md:=md) hd hm hu hro hN hLn hS
  exact⟨H',by rw[Wa,VX];exact e,kk⟩
theorem fy{ZM:Lib}{fs:T CF}{fuel:Nat}(E:Env ZM fs fuel){n Zbp:Nat}{md nm b:List UInt8}{l:List NP}{bv0 bv nv:AV}{H:Heap}(hro:H.ro<=H.nx)(lv0: ∀G,Ko bv0 G=.val (nI .i64 Zbp) G)(sl0:Mb 1 bv0 none (some (nI .i64 (min Zbp 500))) H=.val bv H)(lv: ∀G,Ko bv G=.val (nI .i64 b.length) G)(hbl:b.length<=500)(hbv:BV H bv b)
  (lb: ∀m,H.nx<=m->Va m bv=true)(sb: ∀m T,To (.val bv ⟨m,T,m⟩) bv m=true)(hNA:iB H nv l)(hvc:nv.cells=[nv])(bj: ∀bn o n c,nv=.slice bn o n c->bn<H.nx)(gU: ∀G,ZE H G []->Pj G)(sh: ∀G,ZE H G []->ZM 13 [bv] G=some (.ret (.agg ((VR b).map Y6)) G))(tl: ∀G,ZE H G []->ZM 8 [] G=some (.ret (.bool true) G)):
  ∃H',Yo (LK ZM fs fuel 3) fs fuel (n+12) 3 [.str md,bv0,nv,.str nm] H=.ret (.bool true) H':=by
 rw[YM (YW E.n3 (.inr rfl) _ _) E.f3]
 have mn:=λG=>C4 Zbp 500 G
 have bf:=Zam hvc
 have hd:=pO b
 obtain⟨H1,v1,ef,k1,hb1⟩:=gE E (k:=3) (n:=n+10) hro hNA hvc bj
 obtain⟨hN1,hv1⟩:=mr hb1
 have h20:=lC l
 have hS:=ZaL l
 obtain⟨L,hL⟩: ∃L,DO l=L:=⟨_,rfl⟩
 rw[hL] at hN1 hv1 h20 hS
 have n1:=k1.nx
 have r1:=k1.ro
 obtain⟨H2,v2,ed,k2,hN2,hv2⟩:=yT E (k:=3) (n:=n+4) (by decide) (md:=md) (dg:=VR b) (l:=L) (nv:=v1) (bv:=bv) (u:=b.length) (H:=H1) hd (by omega) (by omega) (λG hG=>gU G (k1.trans' hG)) lv (λG hG=>sh G (k1.trans' hG)) hN1 hv1 (by omega) hS
 have n2:=k2.nx
 have r2:=k2.ro
 have k02:=k1.trans' k2
 obtain⟨dc,qr⟩: ∃dc,(if Ln md L then P2 md (VR b) b.length v2 else M5)=dc:=⟨_,rfl⟩
 have hdl:dc.length=35:=by rw[<-qr];split;exact HD hd;rfl
 obtain⟨H3,hH3⟩: ∃G,H2.new (rG 27 1 dc 0 false true true)=G:=⟨_,rfl⟩
 have k3:ZE H2 H3 []:=by rw[<-hH3];exact ZE.new _ _ _
 have bJ:H3.nx=H2.nx+1:=by rw[<-hH3];rfl
 have g3:H3.t.get H2.nx=some (rG 27 1 dc 0 false true true):=by rw[<-hH3];exact Z3 rfl _
 have gn2: ∀ob,(H2.new ob).t.get H2.nx=some ob:=λob=>Z3 rfl ob
 have WZ:re 35 (some (rG 27 1 M5 0 false true true)) H2.nx 0 (.agg dc) (H2.new (rG 27 1 M5 0 false true true))=.val YZ H3:=by
  rw[PJ (n:=35) (l:=M5) (vs:=dc) (H:=H2.new (rG 27 1 M5 0 false true true)) rfl hdl (by decide) (by show H2.ro<=_;omega),Py rfl,hH3]
 have k03:=k02.trans' k3
 have r3:=k3.ro
 have es:=λ{j}=>ZfH (ZM:=ZM) (fs:=fs) (fuel:=fuel) E (k:=3) (n:=j) (by decide) (l:=b) (v:=bv) (H:=H3) (by omega) (hbv.keep k03 λ_ _ _ _ _=>by simp) (by omega)
 have bw:=yL (md:=md) (u:=b.length) hd hN1.cells
 obtain⟨H4,lX⟩: ∃G,H3.new (rG 34 1 (P2 md (VR b) b.length v1) 0 false true true)=G:=⟨_,rfl⟩
 have k4:ZE H3 H4 []:=by rw[<-lX];exact ZE.new _ _ _
 have nx4:H4.nx=H3.nx+1:=by rw[<-lX];rfl
 have g4:H4.t.get H3.nx=some (rG 34 1 (P2 md (VR b) b.length v1) 0 false true true):=by rw[<-lX];exact Z3 rfl _
 have gn3: ∀ob,(H3.new ob).t.get H3.nx=some ob:=λob=>Z3 rfl ob
 have hwl:=HD (md:=md) (u:=b.length) (v:=v1) hd
 have Xp:re 35 (some (rG 34 1 M5 0 false true true)) H3.nx 0 (.agg (P2 md (VR b) b.length v1)) (H3.new (rG 34 1 M5 0 false true true))=.val YZ H4:=by
  rw[PJ (n:=35) (l:=M5) (vs:=P2 md (VR b) b.length v1) (H:=H3.new (rG 34 1 M5 0 false true true)) rfl hwl (by decide) (by show H3.ro<=_;omega),Py rfl,lX]
 have Zbt: ∀G,Gv 35 (some (rG 34 1 (P2 md (VR b) b.length v1) 0 false true true)) 0 G=.val (.agg (P2 md (VR b) b.length v1)) G:=λG=>FP (by omega) (by rw[Y8,YH (by omega)]) G
 have k04:=k03.trans' k4
 have r4:=k4.ro
 have k14:ZE H1 H4 []:=(k2.trans' k3).trans' k4
 obtain⟨H5,em,k5⟩:=m7 E (k:=3) (n:=n+5) (md:=md) (X:=VR b) (l:=L) (v:=v1) (u:=b.length) (H:=H4) hd (by omega) (by omega) (hN1.keep k14).nt (by omega) hS
 have n5:=k5.nx
 have k05:=k04.trans' k5
 have r5:=k5.ro
 have g35:H5.t.get H2.nx=some (rG 27 1 dc 0 false true true):=by rw[k5.get _ (by omega) (by simp),k4.get _ (by omega) (by simp)];exact g3
 have g45:H5.t.get H3.nx=some (rG 34 1 (P2 md (VR b) b.length v1) 0 false true true):=by rw[k5.get _ (by omega) (by simp)];exact g4
 have eb1: ∀G,Eo wJ true (.bool false) (.bool false) G=.val (.bool false) G:=λ_=>rfl
 have eb2: ∀G,Eo wJ true (.bool true) (.bool true) G=.val (.bool false) G:=λ_=>rfl
 cases hD:Ln md L with
 |false=>
  rw[hD] at qr em ed
  have ed:Yo (LK ZM fs fuel 3) fs fuel (n+4+7) 5 [.str md,bv,v1] H1=.ret (.tup [.agg M5,nI .i64 1]) H2:=ed
  have qr:M5=dc:=qr
  subst qr
  have st3b:=WZ
  rw[hH3] at st3b
  have q0: ∀G,ld1 (some (rG 27 1 M5 0 false true true)) 0 G=.val (.str []) G:=λG=>ZX (show 0<35 by decide) ..
  have q33: ∀G,ld1 (some (rG 27 1 M5 0 false true true)) 33 G=.val (nI .i64 0) G:=λG=>ZX (show 33<35 by decide) ..
  have q34: ∀G,ld1 (some (rG 27 1 M5 0 false true true)) 34 G=.val .nils G:=λG=>ZX (show 34<35 by decide) ..
  have et: ∀{j},Yo (LK ZM fs fuel 3) fs fuel (j+1) 8 [] H5=.ret (.bool true) H5:=λ{j}=>HN rfl (tl H5 k05)
  simp(maxSteps:=4000000) (disch:=first|assumption|omega|(simp -implicitDefEqProofs only[ZA,ZB]<;>first|assumption|omega)|decide) only[lv0,sl0,mn,bf,ef,ed,Fs,LF,vG,qd,gn2,g3,st3b,WZ,hH3,es,lv,bw,gn3,Xp,lX,g4,Zbt,em,g35,g45,q0,q33,q34,et,eb1,eb2,Gw,TL,YK,ne_eq,not_true_eq_false,not_false_eq_true,Oj,MJ,Tq,Uw,Xv,Ym,YY,Pn,Nat.one_ne_zero,Qy,c3,Z4,Yr,Zy,Zz,Zk,Zm,Zl,Nat.reducePow,Nat.reduceDiv,Nat.reduceMod,Nat.reduceEqDiff,reduceCtorEq,Yu,VW,SF,Nq]
  exact⟨_,rfl⟩
 |true=>
  rw[hD] at qr em ed
  have ed:Yo (LK ZM fs fuel 3) fs fuel (n+4+7) 5 [.str md,bv,v1] H1=.ret (.tup [.agg (P2 md (VR b) b.length v2),nI .i64 0]) H2:=ed
  have qr:P2 md (VR b) b.length v2=dc:=qr
  subst qr
  have hd2:=hD
  rw[wF,Xn] at hd2
  have hmd:NF md=false:=by
   cases hm:NF md with
   |false=>rfl
   |true=>rw[hm] at hd2;cases hd2.1
  have hml:=kO hmd
  have hall: ∀j,j<L.length->Lf L j=true:=λj hj=>by
   have:=hd2.2
   unfold Jy at this
   rw[Xn] at this
   exact Xc.1 this.2 j (List.mem_range.2 hj)
  have k35:=k4.trans' k5
  have k25:=k3.trans' k35
  have ZdC:=hN2.keep k25
  have Zgn:=hN1.keep (k14.trans' k5)
  have Zed: ∀G,Gv 35 (some (rG 27 1 (P2 md (VR b) b.length v2) 0 false true true)) 0 G=.val (.agg (P2 md (VR b) b.length v2)) G:=λG=>FP (by omega) (by rw[Y8,YH (by omega)]) G
  obtain⟨H6,w,is,en,k6,ZdV⟩:=kU E (k:=3) (n:=n+10) (u:=b.length) (md:=md) (s:=VR b) (nm:=nm) (l:=L) (v:=v2) (H:=H5) hd (by omega) ZdC (by omega)
  have en:Yo (LK ZM fs fuel 3) fs fuel (n+10+1) 9 [.agg (P2 md (VR b) b.length v2),.str nm] H5=.ret (.tup [.str w,.bool is]) H6:=en
  have n6:=k6.nx
  have r6:=k6.ro
  have k06:=k05.trans' k6
  have gD6:H6.t.get H2.nx=some (rG 27 1 (P2 md (VR b) b.length v2) 0 false true true):=by rw[k6.get _ (by omega) (by simp)];exact g35
  have gW6:H6.t.get H3.nx=some (rG 34 1 (P2 md (VR b) b.length v1) 0 false true true):=by rw[k6.get _ (by omega) (by simp)];exact g45
  have ZaW:=ZdC.keep k6
  have gL:=Zgn.keep k6
  simp(maxSteps:=4000000) (disch:=first|assumption|omega|(simp -implicitDefEqProofs only[ZA,ZB]<;>first|assumption|omega)|decide) only[lv0,sl0,mn,bf,ef,ed,en,Fs,LF,vG,qd,gn2,WZ,hH3,es,lv,bw,gn3,Xp,lX,g3,g4,Zbt,Zed,em,g35,g45,eb1,eb2,YK,Qy,ne_eq,not_true_eq_false,not_false_eq_true,Oj,MJ,Tq,Uw,Xv,Ym,YY,c3,Z4,Yr,Zy,Zz,Zk,Zm,Zl,Nat.reducePow,Nat.reduceDiv,Nat.reduceMod,Nat.reduceEqDiff,reduceCtorEq,Yu,VW,SF,Nq]
  generalize hQ:Wu (AY _) fuel _ _ _=Q
  obtain⟨o,Pi,H6',rfl,_,rfl,hh,t3,t9,t1,t10,t12,t13,t14,i,t17,hi,hm,hw⟩:=X9 (P:=λT=>SEI H6 L nm v1 bv (.ptr H2.nx 0) (.ptr H3.nx 0) (.str w) (.bool is) L.length T H6) (Q:=SEQ H6 L nm v1 bv (.ptr H2.nx 0) (.ptr H3.nx 0) (.str w) (.bool is))
   (λT hi=>Wv (SEI H6 L nm v1 bv (.ptr H2.nx 0) (.ptr H3.nx 0) (.str w) (.bool is)) (SEQ H6 L nm v1 bv (.ptr H2.nx 0) (.ptr H3.nx 0) (.str w) (.bool is)) (λm tm H' h=>eW gL (by omega) _ _ m tm H' h) fuel L.length T H6 (by have:=E.big;omega) hi) hQ
   (by exact⟨rfl,rfl,rfl,rfl,rfl,rfl,rfl,rfl,0,rfl,Yv _,by omega,.inl ⟨rfl,rfl,λj hj=>by omega⟩⟩)
  have hh:=hh.symm
  subst hh
  obtain rfl:i=L.length:=by omega
  have Zgj:XQ Pi=.str w∧XZ Pi=.bool is:=by
   rcases ZdV with⟨rfl,rfl,hno⟩|⟨rfl,j,hj,ej,rfl⟩<;>rcases hw with⟨e15,e16,h⟩|⟨j',hj',ej',e15,e16⟩
   ·exact⟨e15,e16⟩
   ·exact absurd ej' (hno j' hj')
   ·exact absurd ej (h j hj)
   ·have:=oE hall hj hj' ej ej';subst this;exact⟨e15,e16⟩
  obtain⟨iE,t16⟩:=Zgj
  simp only[Od,TB,Ji,Nu,MG,Je,Lz,Ix,Jf,Jg] at t1 t3 t9 t10 t12 t13 t14 iE t16 t17
  obtain⟨H7,e7,k7⟩:=ZbB E (k:=3) (n:=n+10) (md:=md) (X:=VR b) (u:=b.length) (v:=v2) (H:=H6) hd (by omega) hv2
  have n7:=k7.nx
  have r7:=k7.ro
  obtain⟨H8,e8,k8⟩:=zi E (k:=3) (n:=n+4) (u:=b.length) (md:=md) (s:=VR b) (v:=v2) (l:=L) (H:=H7) hd hml (by omega) (ZaW.keep k7).nt (by omega) hS (by omega)
  have e8:Yo (LK ZM fs fuel 3) fs fuel (n+4+7) 11 [.agg (P2 md (VR b) b.length v2)] H7=.ret (.str (dtx md (VR b) b.length L)) H8:=e8
  have n8:=k8.nx
  have r8:=k8.ro
  have bE:=k7.trans' k8
  obtain⟨H9,e9,k9⟩:=zi E (k:=3) (n:=n+4) (u:=b.length) (md:=md) (s:=VR b) (v:=v1) (l:=L) (H:=H8) hd hml (by omega) (gL.keep bE).nt (by omega) hS (by omega)
  have e9:Yo (LK ZM fs fuel 3) fs fuel (n+4+7) 11 [.agg (P2 md (VR b) b.length v1)] H8=.ret (.str (dtx md (VR b) b.length L)) H9:=e9
  have n9:=k9.nx
  have r9:=k9.ro
  have k69:=bE.trans' k9
  obtain⟨HA,eA,kA⟩:=vw E (k:=3) (n:=n+9) (md:=md) (dg:=VR b) (v:=v2) (bv:=bv) (u:=b.length) (H:=H9) hd (by omega) lv (λm hm=>lb m (by have:=k06.nx;omega)) sb (λG hG=>sh G ((k06.trans' k69).trans' hG))
  have nA:=kA.nx
  have et: ∀{j},Yo (LK ZM fs fuel 3) fs fuel (j+1) 8 [] HA=.ret (.bool true) HA:=λ{j}=>HN rfl (tl HA ((k06.trans' k69).trans' kA))
  have gD7:H7.t.get H2.nx=some (rG 27 1 (P2 md (VR b) b.length v2) 0 false true true):=by rw[k7.get _ (by omega) (by simp)];exact gD6
  have gW7:H7.t.get H3.nx=some (rG 34 1 (P2 md (VR b) b.length v1) 0 false true true):=by rw[k7.get _ (by omega) (by simp)];exact gW6
  have gD8:H8.t.get H2.nx=some (rG 27 1 (P2 md (VR b) b.length v2) 0 false true true):=by rw[k8.get _ (by omega) (by simp)];exact gD7
  have gW8:H8.t.get H3.nx=some (rG 34 1 (P2 md (VR b) b.length v1) 0 false true true):=by rw[k8.get _ (by omega) (by simp)];exact gW7
  have gD9:H9.t.get H2.nx=some (rG 27 1 (P2 md (VR b) b.length v2) 0 false true true):=by rw[k9.get _ (by omega) (by simp)];exact gD8
  have gW9:H9.t.get H3.nx=some (rG 34 1 (P2 md (VR b) b.length v1) 0 false true true):=by rw[k9.get _ (by omega) (by simp)];exact gW8
  have smD:=Oe (x7 (md:=md) (X:=VR b) (u:=b.length) (x9 ZaW))
  have smW:=Oe (x7 (md:=md) (X:=VR b) (u:=b.length) (x9 gL))
  have loD: ∀m,H6.nx<=m->Pd m (P2 md (VR b) b.length v2)=true:=λm hm=>rI (ZaW.low hm)
  have loW: ∀m,H6.nx<=m->Pd m (P2 md (VR b) b.length v1)=true:=λm hm=>rI (gL.low hm)
  have lpD:=λm (h:H6.nx<=m)=>Z6 (n:=m) (b:=H2.nx) (by omega) 0
  have lpW:=λm (h:H6.nx<=m)=>Z6 (n:=m) (b:=H3.nx) (by omega) 0
  have lbv: ∀m,H6.nx<=m->Va m bv=true:=λm hm=>lb m (by have:=k06.nx;omega)
  have dw: ∀s:List UInt8,decide (s=s)=true:=λs=>Zg rfl
  have eis: ∀G,Eo wJ false (.bool is) (.bool is) G=.val (.bool true) G:=λG=>by cases is<;>rfl
  simp(maxSteps:=4000000) (disch:=first|assumption|omega|(simp -implicitDefEqProofs only[ZA,ZB]<;>first|assumption|omega)|decide) only[t1,t3,t9,t10,t12,t13,t14,iE,t16,t17,gD6,gW6,gD7,gW7,gD8,gW8,gD9,gW9,Zbt,Zed,e7,e8,e9,eA,et,smD,smW,loD,loW,lpD,lpW,lbv,sb,dw,eis,TL,Gx,Pw,c3,Z4,Yr,Zy,Zz,Zk,Zm,Zl,Nat.reducePow,Nat.reduceDiv,Nat.reduceMod,Nat.reduceEqDiff,reduceCtorEq,Yu,VW,SF,Nq]
  exact⟨_,rfl⟩
section
attribute [local irreducible] Y1
variable {lib:Nat->List AV->Heap->Option CR} {fs:T CF} {fuel:Nat}
theorem eD{n:Nat}(hl: ∀l H,lib 84 l H=none)(hl2: ∀l H,lib 69 l H=none)(hl3: ∀l H,lib 68 l H=none)(hl4: ∀l H,lib 56 l H=none)(hf:fs.get 84=some yO)(hf2:fs.get 69=some x6)(hf3:fs.get 68=some mf)(uV:fs.get 56=some mH)(hF:64<fuel)(hl5: ∀l H,lib 55 l H=none)(mh:fs.get 55=some iY)(iD: ∀l H,lib 54 l H=none)(iC:fs.get 54=some iX)(ol: ∀l H,lib 37 l H=none)(hf8:fs.get 37=some c37)
  (hl7: ∀l H,lib 36 l H=none)(hf7:fs.get 36=some c36)(hl9: ∀l H,lib 35 l H=none)(hf9:fs.get 35=some c35)(hlA: ∀l H,lib 24 l H=none)(hfA:fs.get 24=some c24)(hlB: ∀l H,lib 13 l H=none)(hfB:fs.get 13=some c13)
  {K B:List UInt32}{l:List UInt8}{v:AV}{H:Heap}{rK rB:Row}(hlF:l.length/64<fuel)(hll:l.length<=140737488355328)(hK:H.t.get 3=some (.row rK))(cK:Cells rK (K.map ZH))(nK:K.length=64)(h7:3<H.nx)(hB:H.t.get 0=some (.row rB))(cB:Cells rB (B.map ZH))(nB:B.length=8)(hro:H.ro<=H.nx)
  (hv:BV H v l)(far: ∀b o n c,v=.slice b o n c->b<H.nx):
  ∃H',Yo lib fs fuel (n+8) 13 [v] H=.ret (.agg ((Kx K B l).map Y6)) H'∧ZE H H' []:=by
 rw[YM (hlB _ _) hfB]
 generalize ha:H.new (.row ⟨25,1,32,.leaf,nI .u8 0,0,false,true,true⟩)=Ha
 have nxa:Ha.nx=H.nx+1:=by rw[<-ha];rfl
 have ka:ZE H Ha []:=by rw[<-ha];exact ZE.new H _ []
 have ga:Ha.t.get H.nx=some (.row ⟨25,1,32,.leaf,nI .u8 0,0,false,true,true⟩):=by rw[<-ha,Xj,if_pos rfl]
 have vc:v.cells=[v]:=by
  rcases hv with⟨_,rfl|⟨b,o,c,rfl⟩⟩|⟨_,b,o,c,r,rfl,_⟩<;>rfl
 have bs:Su 22 1 1 [.nils] [(0,1,v)] Ha=.val (.slice (H.nx+1) 0 1 none) (Ha.newRow 22 1 [v] true):=by
  rw[<-nxa];exact RV 22 .nils v vc Ha
 generalize hb:Ha.newRow 22 1 [v] true=Hb at bs
 have nxb:Hb.nx=H.nx+2:=by rw[<-hb,So,VN,nxa]
 have kab:ZE Ha Hb []:=by rw[<-hb];exact ZE.new Ha _ []
 have kb:ZE H Hb []:=ka.trans' kab
 have gb:Hb.t.get (H.nx+1)=some (.row ⟨22,1,1,T.ofList [v],.unk,0,false,true,true⟩):=by rw[<-hb,So,Xj,nxa,if_pos rfl];rfl
 obtain⟨Hd,es,kd⟩:=iL (n:=n) (fuel:=fuel) hl hl2 hl3 hl4 hf hf2 hf3 uV hF hl5 mh iD iC ol hf8 hl7 hf7 hl9 hf9 hlA hfA (H:=Hb) (v:=v) (l:=l) hlF hll (by rw[kb.get 3 h7 (by simp)];exact hK) cK nK (by omega) (by rw[kb.get 0 (by omega) (by simp)];exact hB) cB nB (by rw[kb.ro];omega) (hv.keep kb (S:=[]) (by simp)) (λb o n c e=>by have:=far b o n c e;omega) gb (Cells.new 22 1 [v] 0 false true true) (by omega)
 have nd:((Kx K B l).map Y6).length=32:=by rw[Zi];exact QV _ _
 have kad:ZE Ha Hd []:=kab.trans' kd
 have r2:Hd.t.get H.nx=some (.row ⟨25,1,32,.leaf,nI .u8 0,0,false,true,true⟩):=by
  rw[kad.get H.nx (by omega) (by simp),ga]
 have std:RJ 32 (.ptr H.nx 0) (.agg ((Kx K B l).map Y6)) Hd=.val YZ (Hd.put H.nx (.row (Row.setCells ⟨25,1,32,.leaf,nI .u8 0,0,false,true,true⟩ (YV .leaf 0 ((Kx K B l).map Y6))))):=
  UU (v:=.agg ((Kx K B l).map Y6)) r2 (Cells.zero 25 32 (nI .u8 0) 0 false true true) rfl (by rw[kad.ro,ka.ro];exact hro) rfl (by omega) nd (by simp)
 have cw:Cells (Row.setCells ⟨25,1,32,.leaf,nI .u8 0,0,false,true,true⟩ (YV .leaf 0 ((Kx K B l).map Y6))) ((Kx K B l).map Y6):=(Cells.zero 25 32 (nI .u8 0) 0 false true true).whole (by rw[nd,Wf])
 simp(disch:=omega) only[c13,JR,ha,Ux,Ym,YY,bs,es,std,XF,XE,XJ,Wm,XO,Yn,XC,Xm,Xf,X2,XI,XP,XR,Xq,Y5,Y9,Yp,Yw,Xs,V4,TC,Vc,Wj,WN,WD,WB,XK,WJ,WC,WF,WG,XS,WH,WI,XV,WA,Vl,WE,XU,Xk,N8.g00,N8.g01,N8.g02,N8.g03,N8.g04,N8.g05,N8.g06,N8.g07,N8.g10,N8.g11,N8.g12,N8.g13,N8.g14,N8.g15,N8.g16,N8.g17,N8.g20,N8.g21,N8.g22,N8.g23,N8.g24,N8.g25,N8.g26,N8.g27,N8.g30,N8.g31,N8.g32,N8.g33,N8.g34,N8.g35,N8.g36,N8.g37,N8.g40,N8.g41,N8.g42,N8.g43,N8.g44,N8.g45,N8.g46,N8.g47,N8.g50,N8.g51,N8.g52,N8.g53,N8.g54,N8.g55,N8.g56,N8.g57,N8.g60,N8.g61,N8.g62,N8.g63,N8.g64,N8.g65,N8.g66,N8.g67,N8.g70,N8.g71,N8.g72,N8.g73,N8.g74,N8.g75,N8.g76,N8.g77,XB,XT,Xt,WW,X3,X4,WV,X5,Xb,WX,WU,Z5,Xu,Xj,UB,UC,VN,UA,Zn,Ud,Ru,TB,T7,Pc,nP,xW,Ij,Ik,Hu,Ud]
 simp only[QI]
 exact⟨_,ML rfl (by rw[Xu,if_pos rfl]) cw nd,ZE.then_put (ka.trans' kad) (λhlt=>absurd hlt (Rx _))⟩
end
section
attribute [local irreducible] Y1
theorem dj{x y:UInt8}(h:Y6 x=Y6 y):x=y:=by
 unfold Y6 at h
 injection h with _ h
 injection h with h
 exact Rq.1 h
theorem Bytes.uniq{H:Heap}{b o:Nat}{c:Option Nat}{l l':List UInt8}{r r':Row}(h:Bytes H b o c l r)(h':Bytes H b o c l' r')(e:l.length=l'.length):l=l':=by
 have hr:r=r':=by
  have:=h.at_.symm.trans h'.at_
  injection this with this
  injection this
 subst hr
 refine List.ext_getElem e λi h1 h2=>?_
 have a:=h.get i h1
 have b:=h'.get i h2
 rw[a] at b
 have:=dj b
 rwa [Zh,Zh,Zr h1,Zr h2] at this
theorem BV.uniq{H:Heap}{v:AV}{l l':List UInt8}(h:BV H v l)(h':BV H v l'):l=l':=by
 have e:l.length=l'.length:=by
  have a:=h.len H
  rw[h'.len H] at a
  injection a with a _
  injection a with _ a
  injection a with a
  exact a.symm
 rcases h with⟨rfl,_⟩|⟨hne,b,o,c,r,rfl,hb,_⟩
 ·exact(We.1 e.symm).symm
 ·rcases h' with⟨rfl,_⟩|⟨hne',b',o',c',r',e',hb',_⟩
  ·exact We.1 e
  ·injection e' with e1 e2 e3 e4
   subst e1;subst e2;subst e4
   exact hb.uniq hb' e
structure mt(top:Nat)(K B:List UInt32)(H:Heap)(v:AV)(l:List UInt8):Prop where
 bv:BV H v l
 short:l.length<=64*top
 keys: ∃r,H.t.get 3=some (.row r)∧Cells r (K.map ZH)
 beg: ∃r,H.t.get 0=some (.row r)∧Cells r (B.map ZH)
 nx:3<H.nx
 ro:H.ro<=H.nx
theorem BV.far{H:Heap}{v:AV}{l:List UInt8}(h:BV H v l)(hne:l≠[]): ∀b o n c,v=.slice b o n c->b<H.nx:=by
 rcases h with⟨rfl,_⟩|⟨_,b,o,c,r,rfl,_,hlt⟩
 ·exact absurd rfl hne
 ·intro b o n c e;cases e;exact hlt
def Bx(f0 top:Nat)(K B:List UInt32)(base:Nat->List AV->Heap->Option CR)(f:Nat)(args:List AV)(H:Heap):Option CR:=
 cond (Nat.beq f f0) (open Classical in if h: ∃v l,args=[v]∧mt top K B H v l∧(∀b o n c,v=.slice b o n c->b<H.nx) then some (.ret (.agg ((Kx K B h.choose_spec.choose).map Y6)) H) else none) (base f args H)
theorem nD{f0 top:Nat}{K B:List UInt32}{base:Nat->List AV->Heap->Option CR}{H:Heap}{v:AV}{l:List UInt8}(h:mt top K B H v l)(far: ∀b o n c,v=.slice b o n c->b<H.nx):
  Bx f0 top K B base f0 [v] H=some (.ret (.agg ((Kx K B l).map Y6)) H):=by
 have hx: ∃v' l',[v]=[v']∧mt top K B H v' l'∧(∀b o n c,v'=.slice b o n c->b<H.nx):=⟨v,l,rfl,h,far⟩
 unfold Bx
 rw[show Nat.beq f0 f0=true from YC f0,cond_true,dif_pos hx]
 obtain⟨e1,e2,_⟩:=hx.choose_spec.choose_spec
 generalize hx.choose_spec.choose=l2 at e2
 generalize hx.choose=v2 at e1 e2
 injection e1 with e1 _
 subst e1
 rw[e2.bv.uniq h.bv]
theorem qJ(n:Nat): ∀l:List UInt8,Pd n (l.map Y6)=true
 |[]=>rfl
 |x::l=>by
  show cond (Va n (Y6 x)) (Pd n (l.map Y6)) false=true
  rw[qJ n l];rfl
variable {lib:Nat->List AV->Heap->Option CR} {fs:T CF} {fuel:Nat} {P:Program}
theorem nE{n:Nat}(hl: ∀l H,lib 84 l H=none)(hl2: ∀l H,lib 69 l H=none)(hl3: ∀l H,lib 68 l H=none)(hl4: ∀l H,lib 56 l H=none)(hf:fs.get 84=some yO)(hf2:fs.get 69=some x6)(hf3:fs.get 68=some mf)(uV:fs.get 56=some mH)(hF:64<fuel)(hl5: ∀l H,lib 55 l H=none)(mh:fs.get 55=some iY)(iD: ∀l H,lib 54 l H=none)(iC:fs.get 54=some iX)(ol: ∀l H,lib 37 l H=none)(hf8:fs.get 37=some c37)
  (hl7: ∀l H,lib 36 l H=none)(hf7:fs.get 36=some c36)(hl9: ∀l H,lib 35 l H=none)(hf9:fs.get 35=some c35)(hlA: ∀l H,lib 24 l H=none)(hfA:fs.get 24=some c24)(hlB: ∀l H,lib 13 l H=none)(hfB:fs.get 13=some c13)(hcall:SS P (Yo lib fs fuel (n+8))){K B:List UInt32}(nK:K.length=64)(nB:B.length=8){top:Nat}(htop:top<fuel)(htop2:64*top<=140737488355328)
  {base:Nat->List AV->Heap->Option CR}(hb:Np P base):Np P (Bx 13 top K B base):=by
 intro f args H r hr σ w vs hs hv
 unfold Bx at hr
 cases e:Nat.beq f 13 with
 |false=>rw[e] at hr;exact hb f args H r hr σ w vs hs hv
 |true=>
  have:=ZJ e
  subst this
  rw[e,cond_true] at hr
  split at hr
  ·rename_i hx
   obtain⟨e1,h1,far⟩:=hx.choose_spec.choose_spec
   generalize hx.choose_spec.choose=l at hr h1
   generalize hx.choose=v at e1 h1 far
   subst e1
   cases hr
   obtain⟨rK,gK,cK⟩:=h1.keys
   obtain⟨rB,gB,cB⟩:=h1.beg
   have hs1:=h1.short
   obtain⟨H',e2,k⟩:=eD (n:=n) (fuel:=fuel) hl hl2 hl3 hl4 hf hf2 hf3 uV hF hl5 mh iD iC ol hf8 hl7 hf7 hl9 hf9 hlA hfA hlB hfB (by omega) (by omega) gK cK nK h1.nx gB cB nB h1.ro h1.bv far
   exact qD hcall e2 k (qJ 0 _) hs hv
  ·cases hr
end
section
open Go Go.Deep
variable {P:Program} {H:Type} {enc:TypeId×Value->H}
structure Zfo(W:World)(id:Nat)(v:Value)(a:AV)(ws:List (Nat×Fr))(l:List UInt8):Prop where
 ids: ∀b x,(b,x)∈ws->b=id
 few:ws.length<=1
 win: ∀σ b x,(b,x)∈ws->mw W σ x
 rel: ∀σ:Mp,(∀b x,(b,x)∈ws->σ b=some x.loc)->Yl σ a v
 bv: ∀G:Heap,(∀b x,(b,x)∈ws->G.t.get b=some (.row x.row)∧b<G.nx)->BV G a l
 far: ∀b o n c,a=.slice b o n c->b=id
 sl: ∀G:Heap,(∀b x,(b,x)∈ws->G.t.get b=some (.row x.row)∧b<G.nx)->(a=.nils∧l=[])∨ ∃b o c r,a=.slice b o l.length (some c)∧G.t.get b=some (.row r)∧l.length<=c∧b<G.nx
theorem pH{W:World}{r:Reach}{base:Nat}{t e:TypeId}{v:Value}{d:DataW H}{p:List MemPlace}(id:Nat)(ht:P.underlying t=some (.slice e))(he:P.underlying e=some (.int .u8))(hc:P.cellsOf e=1)
  (hok:Value.okWide P W r base t v)(h:DataW.Trod enc P W 0 (λ_=>true) true t v d p): ∃a ws l,Zfo W id v a ws l:=by
 obtain⟨fuel,h⟩:=h
 have hk:Cell.ok P W r base t v:=by
  unfold Value.okWide Cell.okWide at hok
  rw[ht] at hok
  simpa using hok
 rcases open_slice1 ht hc h with⟨e1,_⟩|⟨a,len,cap,m,n,V,D,Pl,e1,_,hl,_,hm,_,hV⟩
 ·have:v=.slice none 0 0:=by
   unfold Cell.ok at hk
   rw[ht] at hk
   cases v<;>simp_all [Value.cells]
  subst this
  exact⟨.nils,[],[],⟨(λ_ _ h=>by cases h),Yv _,(λ_ _ _ h=>by cases h),(λ_ _=>by simp[Yl]),(λ_ _=>.inl ⟨rfl,.inl rfl⟩),(λ_ _ _ _ h=>by cases h),(λ_ _=>.inl ⟨rfl,rfl⟩)⟩⟩
 ·have hm:m=cap:=by rw[hm];exact if_pos rfl
  have:v=.slice (some a) len cap:=by
   unfold Cell.ok at hk
   rw[ht] at hk
   cases v<;>simp_all [Value.cells]
  subst this
  unfold Cell.ok at hk
  rw[ht] at hk
  obtain⟨_,_,_,hsp,row,cells,hsh,_⟩:=hk
  obtain⟨ab,ao,asp⟩:=a
  simp only at hsp
  subst hsp
  obtain⟨cs,el,fr,hcs⟩: ∃cs el fr,W.heap[ab]? =some (.cells cs el fr):=by
   unfold World.shape? at hsh
   split at hsh
   ·rename_i c e2 f e1;exact⟨c,e2,f,e1⟩
   ·cases hsh
  have hcell: ∀i,i<cap-> ∃u:UInt8,cs[ao+i]? =some (.int .u8 (.ofNat u.toNat)):=by
   intro i hi
   obtain⟨h1,h2⟩:=hV i (by omega)
   obtain⟨n,h3,_,h4⟩:=DataW.trod_int he h2
   have h5:W.cell? (Addr.add ⟨ab,ao,none⟩ i)=cs[ao+i]? :=by
    have h6:Addr.add ⟨ab,ao,none⟩ i=⟨ab,ao+i,none⟩:=by
     unfold Addr.add
     split
     ·rename_i h0;subst h0;rfl
     ·rfl
    rw[h6]
    unfold World.cell?
    rw[hcs]
    rfl
   rw[h5] at h1
   simp only[List.cons.injEq,and_true] at h3
   rw[h1,h3]
   have h6:0<=n∧n<=255:=by
    simp only[Lit.wf,Xn,decide_eq_true_eq] at h4
    exact h4
   refine⟨n.toNat.toUInt8,?_⟩
   have:n.toNat.toUInt8.toNat=n.toNat:=by
    show n.toNat % 256=_
    omega
   rw[this]
   congr 2
   exact(Int.toNat_of_nonneg h6.1).symm
  obtain⟨f,hf⟩:=Classical.axiomOfChoice (r:=λ(i:Nat) (u:UInt8)=>i<cap->cs[ao+i]? =some (.int .u8 (.ofNat u.toNat))) (λi=>by
   by_cases hi:i<cap
   ·obtain⟨u,hu⟩:=hcell i hi;exact⟨u,λ_=>hu⟩
   ·exact⟨0,λh=>absurd h hi⟩)
  have kj: ∀i,i<cap->((List.range cap).map λi=>Y6 (f i))[i]? =some (Y6 (f i)):=λi hi=>by
   rw[Z1,Wb hi];rfl
  by_cases h0:cap=0
  ·have hl0:len=0:=by omega
   subst hl0
   refine⟨.slice id ao 0 (some cap),[(id,⟨⟨ab,0,0,1⟩,el,[]⟩)],[],⟨λb x h=>?_,Zq _,λσ b x h=>?_,λσ hσ=>?_,(λ_ _=>.inl ⟨rfl,.inr ⟨_,_,_,rfl⟩⟩),(λ_ _ _ _ h=>by cases h;rfl),(λG hG=>by
    obtain⟨g1,g2⟩:=hG _ _ (Zv ..)
    exact .inr ⟨id,ao,cap,_,rfl,g1,Yv _,g2⟩)⟩⟩
   ·simp at h;exact h.1
   ·simp at h;obtain⟨_,rfl⟩:=h
    exact⟨rfl,Zq _,cs,fr,hcs,Yv _,λi x hx=>by simp at hx⟩
   ·simp only[Yl]
    exact⟨_,hσ _ _ (Zv ..),by simp⟩
  ·have hsz:ao+cap<=cs.size:=by
    have:=hf (cap - 1) (by omega)
    have:=(ZN.1 this).1
    omega
   refine⟨.slice id 0 len (some cap),[(id,⟨⟨ab,ao,cap,1⟩,el,(List.range cap).map λi=>Y6 (f i)⟩)],(List.range len).map f,⟨λb x h=>?_,Zq _,λσ b x h=>?_,λσ hσ=>?_,λG hG=>?_,(λ_ _ _ _ h=>by cases h;rfl),(λG hG=>by
    obtain⟨g1,g2⟩:=hG _ _ (Zv ..)
    exact .inr ⟨id,0,cap,_,by rw[Zi,VP],g1,by rw[Zi,VP];exact hl,g2⟩)⟩⟩
   ·simp at h;exact h.1
   ·simp at h;obtain⟨_,rfl⟩:=h
    refine⟨rfl,by simp,cs,fr,hcs,hsz,λi x hx=>?_⟩
    have hi:i<cap:=by
     have:=(XH.1 hx).1
     simpa using this
    rw[kj i hi] at hx;cases hx
    exact⟨_,hf i hi,by simp[Yl,Y6],rfl⟩
   ·simp only[Yl]
    exact⟨_,hσ _ _ (Zv ..),rfl⟩
   ·obtain⟨g1,g2⟩:=hG _ _ (Zv ..)
    by_cases hn:len=0
    ·subst hn;exact .inl ⟨rfl,.inr ⟨_,_,_,rfl⟩⟩
    ·refine .inr ⟨by intro e;have:=congrArg List.length e;simp at this;exact hn this,id,0,some cap,_,by simp,⟨g1,rfl,?_,λi hi=>?_,λc e=>?_⟩,g2⟩
     ·show 0+_<=YF _
      rw[Yt];simp;omega
     ·rw[Zi,VP] at hi
      rw[Zn,Fr.get_row (kj i (by omega))]
      rw[Zh,Z1,Wb hi]
      rfl
     ·cases e
      refine⟨by simp;omega,?_⟩
      show 0+cap<=YF _
      rw[Yt];simp
end
section
open Go Go.Deep
variable {P:Program} {H:Type} {enc:TypeId×Value->H}
def vV:List NP->List AV
 |[]=>[]
 |p::l=>.str p.1::.str p.2::vV l
theorem GQ: ∀l:List NP,(vV l).length=2*l.length
 |[]=>rfl
 |p::l=>by show(vV l).length+1+1=2*(l.length+1);rw[GQ l];omega
theorem xL: ∀(l:List NP) (i:Nat) (p:NP),l[i]? =some p->(vV l)[i*2]? =some (.str p.1)∧(vV l)[i*2+1]? =some (.str p.2)
 |[],i,p,h=>by simp at h
 |q::l,0,p,h=>by cases h;exact⟨rfl,rfl⟩
 |q::l,i+1,p,h=>by
  have:=xL l i p h
  rw[show(i+1)*2=i*2+1+1 by omega]
  exact this
structure Zfn(W:World)(id:Nat)(v:Value)(a:AV)(ws:List (Nat×Fr))(l:List NP):Prop where
 ids: ∀b x,(b,x)∈ws->b=id
 few:ws.length<=1
 win: ∀σ b x,(b,x)∈ws->mw W σ x
 rel: ∀σ:Mp,(∀b x,(b,x)∈ws->σ b=some x.loc)->Yl σ a v
 na: ∀G:Heap,(∀b x,(b,x)∈ws->G.t.get b=some (.row x.row)∧b<G.nx)->iB G a l
 one:a.cells=[a]
 far: ∀b o n c,a=.slice b o n c->b=id
theorem yF(ab ao i:Nat):Addr.add ⟨ab,ao,none⟩ i=⟨ab,ao+i,none⟩:=by
 unfold Addr.add
 split
 ·rename_i h0;subst h0;rfl
 ·rfl
theorem mB{W:World}{r:Reach}{base:Nat}{t e:TypeId}{f0 f1:Field}{v:Value}{d:DataW H}{p:List MemPlace}(id:Nat)(ht:P.underlying t=some (.slice e))(he:P.underlying e=some (.struct #[f0,f1]))(hc:P.cellsOf e=2)
  (o0:f0.offset=0)(o1:f1.offset=1)(y0:P.underlying f0.type=some .string)(y1:P.underlying f1.type=some .string)(z0:P.cellsOf f0.type=1)(z1:P.cellsOf f1.type=1)
  (hok:Value.okWide P W r base t v)(h:DataW.Trod enc P W 0 (λ_=>true) true t v d p): ∃a ws l,Zfn W id v a ws l:=by
 obtain⟨fuel,h⟩:=h
 have hk:Cell.ok P W r base t v:=by
  unfold Value.okWide Cell.okWide at hok
  rw[ht] at hok
  simpa using hok
 rcases open_slice ht h with⟨e1,_⟩|⟨a,len,cap,m,n,D,Pl,e1,_,hl,_,hm,_,hV⟩
 ·have:v=.slice none 0 0:=by
   unfold Cell.ok at hk
   rw[ht] at hk
   cases v<;>simp_all [Value.cells]
  subst this
  exact⟨.nils,[],[],⟨(λ_ _ h=>by cases h),Yv _,(λ_ _ _ h=>by cases h),(λ_ _=>by simp[Yl]),(λ_ _=>.inl ⟨rfl,.inl rfl⟩),rfl,(λ_ _ _ _ h=>by cases h)⟩⟩
 ·have hm:m=cap:=by rw[hm];exact if_pos rfl
  have:v=.slice (some a) len cap:=by
   unfold Cell.ok at hk
   rw[ht] at hk
   cases v<;>simp_all [Value.cells]
  subst this
  unfold Cell.ok at hk
  rw[ht] at hk
  obtain⟨_,_,_,hsp,row,cells,hsh,_⟩:=hk
  obtain⟨ab,ao,asp⟩:=a
  simp only at hsp
  subst hsp
  obtain⟨cs,el,fr,hcs⟩: ∃cs el fr,W.heap[ab]? =some (.cells cs el fr):=by
   unfold World.shape? at hsh
   split at hsh
   ·rename_i c e2 f e1;exact⟨c,e2,f,e1⟩
   ·cases hsh
  have hget: ∀i,W.cell? (Addr.add ⟨ab,ao,none⟩ i)=cs[ao+i]? :=λi=>by
   rw[yF];unfold World.cell?;rw[hcs];rfl
  have hcell: ∀i,i<cap-> ∃q:NP,∃v0 v1,cs[ao+i*2]? =some v0∧cs[ao+(i*2+1)]? =some v1∧(∀σ,Yl σ (.str q.1) v0)∧(∀σ,Yl σ (.str q.2) v1)∧v0.oneCell'=true∧v1.oneCell'=true:=by
   intro i hi
   obtain⟨cs',h1,h2⟩:=hV i (by omega)
   rw[hc] at h1
   obtain⟨_,hlen,hcc⟩:=World.cells?_some h1
   have g0:=hcc 0 (by decide)
   have g1:=hcc 1 (by decide)
   rw[yF,yF] at g0 g1
   match cs',hlen with
   |[c0,c1],_=>
    obtain⟨q0,q1,k,_,_,s0,s1⟩:=Go.ChangeShapes.trod_struct2 he h2
    rw[o0,z0] at s0
    rw[o1,z1] at s1
    obtain⟨t0,u0,_⟩:=DataW.trod_string y0 s0
    obtain⟨t1,u1,_⟩:=DataW.trod_string y1 s1
    have w0:[c0]=[Value.string t0]:=u0
    have w1:[c1]=[Value.string t1]:=u1
    have e0:c0=.string t0:=(List.cons.inj w0).1
    have e1:c1=.string t1:=(List.cons.inj w1).1
    subst e0;subst e1
    have k0:=hget (i*2)
    have k1:=hget (i*2+1)
    rw[yF] at k0 k1
    refine⟨(t0.data.toList,t1.data.toList),.string t0,.string t1,?_,?_,λσ=>by simp only[Yl],λσ=>by simp only[Yl],rfl,rfl⟩
    ·rw[<-k0];exact g0
    ·rw[<-k1,show ao+(i*2+1)=ao+i*2+1 by omega];exact g1
  obtain⟨f,hf⟩:=Classical.axiomOfChoice (r:=λ(i:Nat) (q:NP)=>i<cap-> ∃v0 v1,cs[ao+i*2]? =some v0∧cs[ao+(i*2+1)]? =some v1∧(∀σ,Yl σ (.str q.1) v0)∧(∀σ,Yl σ (.str q.2) v1)∧v0.oneCell'=true∧v1.oneCell'=true) (λi=>by
   by_cases hi:i<cap
   ·obtain⟨q,h⟩:=hcell i hi;exact⟨q,λ_=>h⟩
   ·exact⟨([],[]),λh=>absurd h hi⟩)
  have kj: ∀i,i<cap->((List.range cap).map f)[i]? =some (f i):=λi hi=>by
   rw[Z1,Wb hi];rfl
  have hLl:((List.range cap).map f).length=cap:=by rw[Zi,VP]
  by_cases h0:len=0
  ·subst h0
   refine⟨.slice id ao 0 (some cap),[(id,⟨⟨ab,0,0,1⟩,el,[]⟩)],[],⟨λb x h=>?_,Zq _,λσ b x h=>?_,λσ hσ=>?_,(λ_ _=>.inl ⟨rfl,.inr ⟨_,_,_,rfl⟩⟩),rfl,(λ_ _ _ _ h=>by cases h;rfl)⟩⟩
   ·simp at h;exact h.1
   ·simp at h;obtain⟨_,rfl⟩:=h
    exact⟨rfl,Zq _,cs,fr,hcs,Yv _,λi x hx=>by simp at hx⟩
   ·simp only[Yl]
    exact⟨_,hσ _ _ (Zv ..),by simp⟩
  ·have hsz:ao+2*cap<=cs.size:=by
    obtain⟨v0,v1,_,g1,_⟩:=hf (cap - 1) (by omega)
    have:=(ZN.1 g1).1
    omega
   refine⟨.slice id 0 len (some cap),[(id,⟨⟨ab,ao,2*cap,1⟩,el,vV ((List.range cap).map f)⟩)],(List.range len).map f,⟨λb x h=>?_,Zq _,λσ b x h=>?_,λσ hσ=>?_,λG hG=>?_,rfl,(λ_ _ _ _ h=>by cases h;rfl)⟩⟩
   ·simp at h;exact h.1
   ·simp at h;obtain⟨_,rfl⟩:=h
    refine⟨rfl,by show(vV _).length<=2*cap;rw[GQ,hLl];exact Zq _,cs,fr,hcs,hsz,λj x hx=>?_⟩
    have hj:j<2*cap:=by
     have:=(XH.1 hx).1
     rw[GQ,hLl] at this;exact this
    obtain⟨v0,v1,g0,g1,r0,r1,q0,q1⟩:=hf (j/2) (by omega)
    obtain⟨w0,w1⟩:=xL _ (j/2) _ (kj (j/2) (by omega))
    rcases Nat.mod_two_eq_zero_or_one j with hm|hm
    ·have ej:j=j/2*2:=by omega
     rw[<-ej] at w0 g0
     rw[w0] at hx;cases hx
     exact⟨v0,g0,r0 σ,q0⟩
    ·have ej:j=j/2*2+1:=by omega
     rw[<-ej] at w1 g1
     rw[w1] at hx;cases hx
     exact⟨v1,g1,r1 σ,q1⟩
   ·simp only[Yl]
    exact⟨_,hσ _ _ (Zv ..),rfl⟩
   ·obtain⟨g1,g2⟩:=hG _ _ (Zv ..)
    refine .inr ⟨id,some cap,_,by rw[Zi,VP],g2,g1,?_,λi q hq=>?_⟩
    ·show 2*_<=YF _
     rw[Yt,Zi,VP]
     show 2*len<=(vV _).length
     rw[GQ,hLl];omega
    ·have hi:i<len:=by have:=(XH.1 hq).1;simpa using this
     rw[Z1,Wb hi] at hq
     cases hq
     obtain⟨w0,w1⟩:=xL _ i _ (kj i (by omega))
     exact⟨Fr.get_row w0,Fr.get_row w1⟩
end
end
end Go.AI
