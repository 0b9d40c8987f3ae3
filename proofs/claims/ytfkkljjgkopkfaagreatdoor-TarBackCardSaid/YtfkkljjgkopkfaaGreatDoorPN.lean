/- All entries read, whole or cut short; Get: walked; proved, conditions as named. -/
import Derived.Test.YtfkkljjgkopkfaaGreatDoorPE
import Derived.Test.YtfkkljjgkopkfaaGreatDoorPU
import Derived.Test.YtfkkljjgkopkfaaGreatDoorPL
set_option maxRecDepth 1000000
set_option maxHeartbeats 0
set_option linter.all false
namespace Go.AI
open Go
noncomputable section
section
variable {Zq:Lib} {fs:T CF} {Zk k n i h b:Nat} {H H0:Heap} {s:Zd} {cs:List AV}
def sE(E:Env Zq fs Zk)(hk:12<=k){q lo:Nat}{l B:Zd}{wt:Bool}{wv ov:AV}{sp:Prop}{ws:List NP}{m:Mem}(gH:V8 H)(g:Lm sp H q l wt wv ov)(hw:WT H wv ws lo)(hB:HR H b B){r1:Zd}(hmo:(B.drop 100).take 8=Qn 7 m.mode++0::r1)(hm4:m.mode<=4095)
  (hu:m.uid<4294967296)(hg:m.gid<4294967296)(tu:Q0 Zq fs Zk k q b lo B ws [117,105,100] m.uid)(tg:Q0 Zq fs Zk k q b lo B ws [103,105,100] m.gid)(ts:Q0 Zq fs Zk k q b lo B ws [115,105,122,101] m.data.length)(tt:Q0 Zq fs Zk k q b lo B ws [109,116,105,109,101] m.time)(hda:m.data.length<=90000)(hls:l.length<m.data.length+VC m.data.length)(hl2:l.length<=1000000000)(hq0:H.ro<=q)(Zai:q<lo)(rm:100<=q):
  ∃H',ZA (LK Zq fs Zk k) fs Zk (n+8) 57 [.ptr q 0,.ptr b 0,.int .i64 m.kind] H=.pan (eP 4) H'∧Zu H H' []:=by
 rw[Z5 E.f57 (.inr rfl)];have gro:H.ro<=H.nx:=gH.p.ro;obtain⟨H1,s1,r1,k1,NB⟩:=Zgj (H:=H) (e:=32) (z:=8) (l:=[nI .i64 0,nI .u32 0,nI .u32 0,nI .u32 0,nI .i64 0,.nils,.nils,.str []]) (vs:=[.int .i64 m.kind,nI .u32 0,nI .u32 0,nI .u32 0,nI .i64 0,.nils,.nils,.str []]) (sm:=false) (ex:=true) gro rfl rfl (by decide) rfl;have FI:=k1.ro;have fh:=gH.keep k1 (by simp);have hB1:=hB.keep0 k1;obtain⟨H2,e2,k2⟩:=JE E (K:=k) (n:=n+2) fh hB1 vM hmo (by decide) (by decide) (UD hm4 (by decide)) (by decide);have ew:=λ{e:Nat} {G:Heap}=>UL E (k:=k) (n:=n+6) (H:=G) (e:=e);have r2:=(k2.get _ (by omega) (by simp)).trans r1;have m9:=k2.ro;have nx2:=k2.nx;obtain⟨H3,s3,r3,k3,nx3,ro3⟩:=Pd (v:=nI .u32 m.mode) (o:=1) r2 (by simp) (by omega) rfl;have r3:H3.t.get H.nx=some (rH 32 [.int .i64 m.kind,nI .u32 m.mode,nI .u32 0,nI .u32 0,nI .i64 0,.nils,.nils,.str []]):=r3;have lb:=λ(G:Heap)=>xl hm4 G;have iu: ∀G,O1 .u32 (nI .i64 m.mode) G=.val (nI .u32 m.mode) G:=λG=>SS (by omega) G;have q3:=(k1.trans' k2).far k3 (Zs _);obtain⟨H4,e4,k4⟩:=tu n H3 l wt wv ov sp (gH.keep q3 (by simp)) (g.keep q3) (hw.keep q3 (by simp)) (hB.keep0 q3);have e4:=vZ E (n:=n+4) e4 hu;have r4:=(k4.get _ (by omega) (by simp)).trans r3;have ro4:=k4.ro;have nx4:=k4.nx;obtain⟨H5,s5,r5,k5,nx5,ro5⟩:=Pd (v:=nI .u32 m.uid) (o:=2) r4 (by simp) (by omega) rfl;have r5:H5.t.get H.nx=some (rH 32 [.int .i64 m.kind,nI .u32 m.mode,nI .u32 m.uid,nI .u32 0,nI .i64 0,.nils,.nils,.str []]):=r5;have q5:=(q3.trans' k4).far k5 (Zs _);obtain⟨H6,e6,k6⟩:=tg n H5 l wt wv ov sp (gH.keep q5 (by simp)) (g.keep q5) (hw.keep q5 (by simp)) (hB.keep0 q5);have e6:=vZ E (n:=n+4) e6 hg;have r6:=(k6.get _ (by omega) (by simp)).trans r5;have ro6:=k6.ro;have nx6:=k6.nx;obtain⟨H7,s7,r7,k7,nx7,ro7⟩:=Pd (v:=nI .u32 m.gid) (o:=3) r6 (by simp) (by omega) rfl;have r7:H7.t.get H.nx=some (rH 32 [.int .i64 m.kind,nI .u32 m.mode,nI .u32 m.uid,nI .u32 m.gid,nI .i64 0,.nils,.nils,.str []]):=r7;have q7:=(q5.trans' k6).far k7 (Zs _);obtain⟨H8,e8,k8⟩:=ts (n+1) H7 l wt wv ov sp (gH.keep q7 (by simp)) (g.keep q7) (hw.keep q7 (by simp)) (hB.keep0 q7);have e8:ZA (LK Zq fs Zk k) fs Zk (n+7) 84 [.ptr q 0,.ptr b 0,.str [115,105,122,101]] H7=.ret (nI .i64 m.data.length) H8:=e8;have Zad:m.data.length<=16777216:=Yb hda (by decide);have e8':=iP E (K:=k) (n:=n+5) (H:=H8) Zad;have q8:=q7.trans' k8;have nx8:=k8.nx;have ro8:=k8.ro;obtain⟨H9,e9,k9⟩:=tt (n+1) H8 l wt wv ov sp (gH.keep q8 (by simp)) (g.keep q8) (hw.keep q8 (by simp)) (hB.keep0 q8);have q9:=q8.trans' k9;have r9:=(k9.get _ (by omega) (by simp)).trans ((k8.get _ (by omega) (by simp)).trans r7);have ro9:=k9.ro;have nx9:=k9.nx;obtain⟨HA,sA,rA,kA,nxA,roA⟩:=Pd (v:=.int .i64 m.time) (o:=4) r9 (by simp) (by omega) rfl;have rA:HA.t.get H.nx=some (rH 32 [.int .i64 m.kind,nI .u32 m.mode,nI .u32 m.uid,nI .u32 m.gid,.int .i64 m.time,.nils,.nils,.str []]):=rA;have qA:=q9.far kA (by omega);have eB:=tS E (k:=k) (n:=n+5) (by omega) (g.keep qA) Zad hls;simp(disch:=first|assumption|omega|(simp -implicitDefEqProofs only[VV,VW]<;>first|assumption|omega)|decide) only[eB,s1,e2,ew,r2,s3,lb,iu,r4,s5,e4,r6,s7,e6,e8,e8',e9,r9,sA,XR,Yr,ZN,decide_true,Zl,Zl,ZD,ZO,Yr,Zl,c57,ZG,Yj,Zz,Yc,Yg,UH,]
 refine⟨_,rfl,?_⟩;exact qA
def sN{p:Zd}(h:PF p)(q:Zd):((p++q).getD 0 0).toNat≠47:=by
 have h1:=(h.noslash q).1;have h2:=(h.noslash q).2;cases p with
 |nil=>exact absurd rfl h2
 |cons a s=>
  intro e;have e:a.toNat=47:=e;obtain rfl:a=47:=Wj.1 e;have:Qq [47] (47::s++q)=true:=AT [47] (s++q);rw[h1] at this;cases this
def Aj(m:Mem):Wp m.kind m.path=m.path∨Wp m.kind m.path=m.path++[47]:=by
 unfold Wp
 split
 ·exact .inr rfl
 ·exact .inl rfl
def vi(E:Env Zq fs Zk){K q lo:Nat}(hK:6<=K){m:Mem}(hu:m.uid<4294967296):Q0 Zq fs Zk K q b lo (Ug m) (X2 m) [117,105,100] m.uid:=by
 by_cases h:2097151<m.uid
 ·exact E0 E hK (by rw[pg,if_pos h]) (by omega) (by omega)
 ·have e:Nn (L5 m)=m.uid:=by unfold Nn L5;rw[if_neg (by show ¬((m.uid:Int)<((0:Nat):Int)∨((2097151:Nat):Int)<(m.uid:Int));omega)];rfl
  have:=Ib E (K:=K) (q:=q) (b:=b) (lo:=lo) (ws:=X2 m) (by rw[pg,if_neg h]) ax (ZiJ m) (by decide) (by decide) (by rw[e];show _<2097152;omega) (by decide)
  rwa [e] at this
def vg(E:Env Zq fs Zk){K q lo:Nat}(hK:6<=K){m:Mem}(hu:m.gid<4294967296):Q0 Zq fs Zk K q b lo (Ug m) (X2 m) [103,105,100] m.gid:=by
 by_cases h:2097151<m.gid
 ·exact E0 E hK (by rw[pe,if_pos h]) (by omega) (by omega)
 ·have e:Nn (LB m)=m.gid:=by unfold Nn LB;rw[if_neg (by show ¬((m.gid:Int)<((0:Nat):Int)∨((2097151:Nat):Int)<(m.gid:Int));omega)];rfl
  have:=Ib E (K:=K) (q:=q) (b:=b) (lo:=lo) (ws:=X2 m) (by rw[pe,if_neg h]) aw (ZiI m) (by decide) (by decide) (by rw[e];show _<2097152;omega) (by decide)
  rwa [e] at this
def zy(E:Env Zq fs Zk){K q lo:Nat}(hK:6<=K){m:Mem}(z1: -9223372036854775808<=m.time)(z2:m.time<=9223372036854775807):Q0 Zq fs Zk K q b lo (Ug m) (X2 m) [109,116,105,109,101] m.time:=by
 by_cases h:m.time<0∨8589934591<m.time
 ·exact E0 E hK (by rw[wq,if_pos h]) z1 z2
 ·have e:Nn (Gl m)=m.time.toNat:=by unfold Nn Gl;rw[if_neg (by show ¬(m.time<((0:Nat):Int)∨((8589934591:Nat):Int)<m.time);omega)]
  have e2:((m.time.toNat:Nat):Int)=m.time:=by omega
  have:=Ib E (K:=K) (q:=q) (b:=b) (lo:=lo) (ws:=X2 m) (by rw[wq,if_neg h]) vN (Zep m) (by decide) (by decide) (by rw[e];show _<8589934592;omega) (by decide)
  rwa [e,e2] at this
def zx(E:Env Zq fs Zk){K q lo:Nat}{m:Mem}(hd:m.data.length<=90000):Q0 Zq fs Zk K q b lo (Ug m) (X2 m) [115,105,122,101] m.data.length:=
 Ib E (by rw[dF]) BA (Zeo m hd) (by decide) (by decide) (by show _<8589934592;omega) (by decide)
def lL(E:Env Zq fs Zk){K q lo:Nat}(hK:12<=K){m:Mem}(hcl:(Wm m.path).1≠0):cJ Zq fs Zk K q b lo (Ug m) (X2 m) m.kind m.path:=λn G l wt wv ov sp gH g hw hB=>by
 have hc:=Da hcl;have hz:=si hcl
 by_cases hf:(Wx (Wp m.kind m.path)).2.2=true
 ·have hj:(if (Wx (Wp m.kind m.path)).1=[] then(Wx (Wp m.kind m.path)).2.1 else(Wx (Wp m.kind m.path)).1++[47]++(Wx (Wp m.kind m.path)).2.1)=Wp m.kind m.path:=by
   have h0:((Wp m.kind m.path).getD 0 0).toNat≠47:=by
    rcases Aj m with e|e
    ·rw[e,<-ZM m.path];exact sN hc []
    ·rw[e];exact sN hc [47]
   have:=mO h0 hf;rw[Yq];exact this
  exact Zbz E (k:=K) (n:=n) hK gH g hw (by rw[wp,if_pos hf]) hB hc (Zen m hz) (eG m hz) (by rw[hj];exact Aj m) hcl
 ·exact⟨G,ZbA E (k:=K) (n:=n+2) hK gH.p g hw (by rw[wp,if_neg hf]) hc (Aj m) hcl,Zu.refl _ _⟩
def lK(E:Env Zq fs Zk){K q lo:Nat}(hK:6<=K){m:Mem}(hz:NZ m.link):cI Zq fs Zk K q b lo (Ug m) (X2 m) m.link:=λn G l wt wv ov sp gH g hw hB=>by
 by_cases h:100<m.link.length
 ·exact⟨G,oo E (k:=K) (n:=n+2) g hw (by rw[wo,if_pos h]),Zu.refl _ _⟩
 ·have:=om E (k:=K) (n:=n) hK gH g hw (key:=[108,105,110,107,112,97,116,104]) (by rw[wo,if_neg h]) Bz hB (by decide)
  rwa [Zem m hz (by omega)] at this
structure tj(m:Mem):Prop where
 lo:LOk m
 may:Xh m=true
def xA{m:Mem}(h:Xh m=true):(m.kind≠2->m.data=[])∧(m.kind≠3->m.link=[])∧(m.kind=3->m.link≠[]∧W2 0 m.link=0∧m.link.length<=4096)∧(m.kind=1∨m.kind=2∨m.kind=3∨m.kind=4):=by
 have hp:=Nz h;unfold Xh at h;simp only[Z4,UX,decide_eq_true_eq] at h;refine⟨λh2=>?_,λh3=>?_,λh3=>?_,?_⟩
 ·rcases h.2 with e|e
  ·exact absurd e h2
  ·exact YF.1 e
 ·have:=hp.2.2.2.2.1
  unfold N2 at this;rw[Zc h3,if_neg (by decide),decide_eq_true_eq] at this;exact this
 ·have:=hp.2.2.2.2.1
  unfold N2 at this;rw[Zi h3,if_pos rfl] at this;simp only[Z4,UM,decide_eq_true_eq,decide_eq_false_iff_not] at this;exact⟨this.1.1,this.2,this.1.2⟩
 ·have:=hp.2.1
  unfold E1 at this
  by_cases h1:m.kind=1
  ·exact .inl h1
  by_cases h2:m.kind=2
  ·exact .inr (.inl h2)
  by_cases h3:m.kind=3
  ·exact .inr (.inr (.inl h3))
  by_cases h4:m.kind=4
  ·exact .inr (.inr (.inr h4))
  rw[if_neg h1,if_neg h2,if_neg h3,if_neg h4] at this;exact absurd rfl this
def Zdq(E:Env Zq fs Zk)(hk:12<=k){q lo:Nat}{l:Zd}{wt:Bool}{wv ov:AV}{sp:Prop}{m:Mem}(gH:V8 H)(g:Lm sp H q l wt wv ov)(hw:WT H wv (X2 m) lo)(hB:HR H b (Ug m))(hM:tj m)(hll:m.data.length+VC m.data.length<l.length∨(m.data.length+VC m.data.length<=l.length∧sp))(hl2:l.length<=1000000000)(hdt:l.take m.data.length=m.data)(hqb:b≠q)(Zai:q<lo)(rm:100<=q){os:List (List AV)}{lp:Nat}(ho:TZ H ov 34 9 os lp)(hlp:q<lp)(fD:lp<=H.nx)(ho8:os.length<8192):
  ∃H' KB cs,ZA (LK Zq fs Zk k) fs Zk (n+8) 57 [.ptr q 0,.ptr b 0,.int .i64 m.kind] H=.ret (.tup []) H'∧Zu H H' (q::Xk ov)∧Lm sp H' q (l.drop (m.data.length+VC m.data.length)) false .nils KB∧TZ H' KB 34 9 (os++[cs]) lp∧tq H' (List.range H.nx++Xk KB) cs m∧ ∀x∈Xk KB,H.nx<=x:=by
 obtain⟨hLO,hm⟩:=hM;obtain⟨p1,p2,p3,p4,p5,p6⟩:=Nz hm;obtain⟨d1,d2,d3,_⟩:=xA hm;obtain⟨r1,r2⟩:=CI hLO.1 p4;obtain⟨a1,a2,a3,a4,a5⟩:=hU p4;obtain⟨H',KB,av,cv,e,x1,x2,x3,x4,x5,x6,x7,x8⟩:=Zdr E (k:=k) (n:=n) hk gH g hw hB (jQ m p3) p3 hLO.1.uid hLO.1.gid (vi E (by omega) hLO.1.uid) (vg E (by omega) hLO.1.gid) (zx E (by have:=hLO.2;omega)) (zy E (by omega) hLO.1.t1 hLO.1.t2) (by have:=hLO.2;omega) hll hl2 hdt (lL E hk p1) g.ro hqb Zai rm (λx hx=>by have:=(r1 x hx).2;omega) (mY m a2) a4 a5 (λx hx=>by have:=a3 x hx;omega) a1 (Da p1|>.noslash []).2 (λh3=>lK E (by omega) (Qj.1 (d3 h3).2.1)) d3 d1 d2 ho hlp fD ho8;refine⟨H',KB,_,e,x1,x2,x3,⟨av,cv,rfl,.inr (Sl.of_buf x4),x5,λx hx=>?_,λx hx=>?_⟩,x6⟩
 ·obtain⟨y1,y2,y3⟩:=x7 x hx
  exact⟨λhm=>(Zt.1 hm).elim (λh=>by have:=XM.1 h;omega) y3,y2⟩
 ·obtain⟨y1,y2,y3⟩:=x8 x hx
  exact⟨λhm=>(Zt.1 hm).elim (λh=>by have:=XM.1 h;omega) y3,y2⟩
def bY(E:Env Zq fs Zk)(hk:12<=k){q lo:Nat}{l:Zd}{wt:Bool}{wv ov:AV}{sp:Prop}{m:Mem}(gH:V8 H)(g:Lm sp H q l wt wv ov)(hw:WT H wv (X2 m) lo)(hB:HR H b (Ug m))(hM:tj m)(hls:l.length<m.data.length+VC m.data.length)(hl2:l.length<=1000000000)(Zai:q<lo)(rm:100<=q):
  ∃H',ZA (LK Zq fs Zk k) fs Zk (n+8) 57 [.ptr q 0,.ptr b 0,.int .i64 m.kind] H=.pan (eP 4) H'∧Zu H H' []:=by
 obtain⟨hLO,hm⟩:=hM;obtain⟨p1,p2,p3,p4,p5,p6⟩:=Nz hm;exact sE E (k:=k) (n:=n) hk gH g hw hB (jQ m p3) p3 hLO.1.uid hLO.1.gid (vi E (by omega) hLO.1.uid) (vg E (by omega) hLO.1.gid) (zx E (by have:=hLO.2;omega)) (zy E (by omega) hLO.1.t1 hLO.1.t2) (by have:=hLO.2;omega) hls hl2 g.ro Zai rm
def oE(E:Env Zq fs Zk)(hk:1<=k)(g:HR H b (List.replicate 512 0)):
  ZA (LK Zq fs Zk k) fs Zk (n+4) 53 [.ptr b 0] H=.ret (.bool true) H:=by
 rw[Z5 E.f53 (.inr rfl)];have hl:=g.len;have bv:=KH g (a:=0) (n:=512) (by decide) (by decide);rw[YL,Z1 (by omega)] at bv;have e1:=Zko E (k:=k) (n:=n) hk (H:=H) (l:=List.replicate 512 0) (by omega) (Rd.of_bv bv);rw[kf (λj hj=>by
  have:(List.replicate 512 (0:UInt8)).getD j 0=0:=by
   rw[Ze,XJ];split<;>rfl
  rw[this];rfl)] at e1
 have eqp: ∀(o:Nat) G,NL zT true (.ptr b o) .nilp G=.val (.bool true) G:=λ_ _=>rfl;have sa: ∀(b:Nat) G,O5 512 1 (.ptr b 0) none none G=.val (.slice b 0 512 (some 512)) G:=λ_ _=>rfl;simp only[eqp,sa,e1,SK,XA,XH,c53,ZG,Yj,Zz,Yc,Yg]
def vt(ct:Bool)(sp:Prop)(l W:Zd):Prop:=(ct=false∧l=W)∨(ct=true∧sp∧ ∃c,c<W.length∧l=W.take c)
def KM{ct:Bool}{sp:Prop}{l X W:Zd}(h:vt ct sp l (X++W))(hW:0<W.length):(ct=true∧l.length<X.length)∨((X.length<l.length∨(X.length<=l.length∧sp))∧l.take X.length=X∧vt ct sp (l.drop X.length) W):=by
 rcases h with⟨h1,rfl⟩|⟨h1,hs,c,hc,rfl⟩
 ·exact .inr ⟨.inl (by rw[Zh];omega),W3 ..,.inl ⟨h1,UY ..⟩⟩
 ·rw[Zh] at hc
  by_cases h2:c<X.length
  ·exact .inl ⟨h1,by rw[Zy,Zh];omega⟩
  ·have e:(X++W).take c=X++W.take (c - X.length):=by rw[List.take_append,Z1 (by omega)]
   rw[e];exact .inr ⟨.inr ⟨by rw[Zh];omega,hs⟩,W3 ..,.inr ⟨h1,hs,c - X.length,by omega,UY ..⟩⟩
def nW{z:Int}(h:z=1∨z=2∨z=3∨z=4):(∀G,lkO WX (nI .i64 0) true (some (.cmap kEs)) (nI .u8 (E1 z)) G=.val (.tup [.int .i64 z,.bool true]) G)∧(∀(j:Nat) (T:T Obj),Vo (.val (.tup [.int .i64 z,.bool true]) ⟨j,T,j⟩) (.tup [.int .i64 z,.bool true]) j=true)∧decide (E1 z=120)=false∧(UInt8.ofNat (E1 z)).toNat=E1 z:=by
 rcases h with rfl|rfl|rfl|rfl<;>exact⟨λG=>rfl,λj T=>VM _ _ _ rfl,rfl,rfl⟩
def lkX(G:Heap):lkO WX (nI .i64 0) true (some (.cmap kEs)) (nI .u8 120) G=.val (.tup [nI .i64 0,.bool false]) G:=rfl
structure zL(Hs:Heap)(q:Nat)(L:List Mem)(i:Nat)(ov:AV)(H:Heap):Prop where
 r: ∃os,TZ H ov 34 9 os Hs.nx∧os.length=i∧ ∀j,j<i->tq H (List.range Hs.nx++Xk ov) (os.getD j []) (L.getD j default)
def zL.keep{Hs H H':Heap}{q:Nat}{L:List Mem}{ov:AV}(h:zL Hs q L i ov H)(hq:q<Hs.nx)(k:Zu H H' [q]):zL Hs q L i ov H':=by
 obtain⟨os,h1,h2,h3⟩:=h.r;exact⟨os,h1.below (λc hc hlt=>k.get c hlt (λhm=>by have:=Zn.1 hm;omega)) k.ro k.nx,h2,λj hj=>(h3 j hj).keep k (λb hb=>.inl (by rw[Zn.1 hb];exact Zt.2 (.inl (XM.2 hq)))) (λb hb=>.inl hb)⟩
inductive Rst(q:Nat)(ct:Bool)(L:List Mem)(tail:Zd)(H:Heap)(i:Nat)(sp:Prop)(l:Zd)(wv:AV):Bool->Nat->Prop
 |no:wv=.nils->vt ct sp l (TQ (L.drop i)++tail)->Rst q ct L tail H i sp l wv false (2*(L.length - i)+1)
 |yes:i<L.length->WT H wv (X2 (L.getD i default)) (q+1)->vt ct sp l (Ug (L.getD i default)++((L.getD i default).data++List.replicate (VC (L.getD i default).data.length) 0++(TQ (L.drop (i+1))++tail)))->Rst q ct L tail H i sp l wv true (2*(L.length - i))
structure ALW(Hs:Heap)(q:Nat)(ct:Bool)(L:List Mem)(tail:Zd)(m:Nat)(tm:TM)(H:Heap):Prop where
 t0:Z6 tm=.ptr q 0
 k:Zu Hs H [q]
 r: ∃i wt wv ov sp l,Lm sp H q l wt wv ov∧zL Hs q L i ov H∧i<=L.length∧l.length<=1000000000∧Rst q ct L tail H i sp l wv wt m
def ALR(Hs:Heap)(q:Nat)(ct:Bool)(L:List Mem)(o:Out)(H:Heap):Prop:=Zu Hs H [q]∧((ct=true∧o=.pan (eP 4))∨(ct=false∧o=.ret∧ ∃bv wv ov,H.t.get q=some (rH 69 [bv,wv,.bool false,ov])∧ov.cells=[ov]∧zL Hs q L L.length ov H))
def ALE(Hs:Heap)(q:Nat)(ct:Bool)(L:List Mem)(o:Out)(tm:TM)(H:Heap):Prop:=ALR Hs q ct L o H
def mU{L:List Mem}(h:i<L.length):TQ (L.drop i)=Ru (L.getD i default)++TQ (L.drop (i+1)):=by
 unfold TQ;rw[List.drop_eq_getElem_cons h,ZD,XC,Ze,Zm h];rfl
structure HdX(q:Nat)(H1:Heap)(b:Nat)(m:Mem):Prop where
 hr:HR H1 b (Ug m)
 qb:q<b
def ug(m:Mem):(Ug m).length=512:=P3 m
def qW(E:Env Zq fs Zk){K:Nat}(hK:12<=K){Hs:Heap}{q:Nat}{ct:Bool}{L:List Mem}{tail:Zd}(gK:Ms Hs)(hq:100<=q)(Fc:q<Hs.nx)(hL: ∀x∈L,tj x)(hL2:L.length<=8000)(ht:0<tail.length)(y f dd qq)(X0:X)(tm:TM)(H:Heap)(t0:Z6 tm=.ptr q 0)(k0:Zu Hs H [q]){lo:Nat}{wt:Bool}{wv ov:AV}{sp:Prop}{l:Zd}(g:Lm sp H q l wt wv ov)(hO:zL Hs q L i ov H)(hi:i<L.length)(hl:l.length<=1000000000)(hw:WT H wv (X2 (L.getD i default)) lo)(hlo:q<lo)(hC:vt ct sp l (Ug (L.getD i default)++((L.getD i default).data++List.replicate (VC (L.getD i default).data.length) 0++(TQ (L.drop (i+1))++tail)))):
  ∃o tm' H',QB ⟨ZA (LK Zq fs Zk K) fs Zk (n+8),y,f,dd,qq⟩ tm H X0=.ok o tm' H' X0∧((o=.normal∧ ∃k,k<2*(L.length - i)∧ALW Hs q ct L tail k tm' H')∨(o≠.normal∧ALE Hs q ct L o tm' H')):=by
 have t0':=t0;simp only[Pa] at t0;have hM:=hL _ (HI hi);have g0:=gK.keep k0 (λx hx=>by rw[Zn.1 hx];exact hq);have ok5:=λ{H:Heap} {e:Nat}=>UL E (k:=K) (n:=n+7) (H:=H) (e:=e);rcases KM hC (by simp only[Zh];omega) with⟨hct,hlt⟩|⟨hll,htk,jw⟩
 ·rw[ug] at hlt
  have e1:=Gu E (k:=K) (n:=n+6) g hlt;simp only[t0,e1,QB,ZG,Yj,Zz,Yg];refine⟨_,_,_,rfl,?_⟩;exact .inr ⟨(λh=>by cases h),k0,.inl ⟨hct,rfl⟩⟩
 rw[ug] at hll htk jw;obtain⟨b,H1,e1,k1,hr1,hqb,gr1⟩:=Gv E (k:=K) (n:=n+6) g0.gH g hll hl;rw[htk] at hr1;obtain⟨⟨j,hj,hz⟩,N,rest,hc,hN,hch⟩:=ZiH (L.getD i default);have e2:=iW E (k:=K) (n:=n+4) (by omega) hr1 hj hz;have g1:=g0.keep k1 (λx hx=>by rw[Zn.1 hx];exact hq);have hw1:=hw.keep k1 (λx hx=>by rw[Zn.1 hx];exact hlo);have hO1:=hO.keep Fc k1;obtain⟨H2,e3,k2⟩:=yw E (k:=K) (n:=n+3) g1.gH hr1 hc hN;rw[hch] at e3;have g2:=g1.keep0 k2;have hr2:=hr1.keep0 k2;obtain⟨v,H3,e4,bv,k3,far⟩:=PN E (k:=K) (n:=n+5) g2.gH nC hr2;rw[Zeq] at bv;have g3:=g2.keep0 k3;have hr3:=hr2.keep0 k3;have gr3:=(gr1.keep k2).keep k3;have hw3:=(hw1.keep k2 (by simp)).keep k3 (by simp);have hO3:=(hO1.keep Fc k2.any).keep Fc k3.any;have hbl:=λb hb=>(Ba bv far b hb).2;have lv:=PJ bv (n:=H3.nx) hbl;obtain⟨b0,o0,r0,eI,hb0,gb0,ld0⟩:=(Rd.of_bv bv).at_ 0 (ZU 0);obtain⟨lkC,st,d2,ty⟩:=nW (xA hM.may).2.2.2;have n6: ∀G,ld1 (some (.row r0)) o0 G=.val (nI .u8 (E1 (L.getD i default).kind)) G:=λG=>by
  have:=ld0 G;rw[show Vk ([UInt8.ofNat (E1 (L.getD i default).kind)].getD 0 0)=nI .u8 (E1 (L.getD i default).kind) from by show nI .u8 (UInt8.ofNat _).toNat=_;rw[ty]] at this;exact this
 obtain⟨rK,k1r,k2r,k3r⟩:=g3.r;have kM:=g3.m;have ldK: ∀G,ld1 (some (.row rK)) 0 G=.val (.map 14) G:=λG=>by rw[Qt k2r,k3r]
 have sm: ∀(j:Nat) (T:T Obj),Vo (.val (.map 14) ⟨j,T,j⟩) (.map 14) j=true:=λj T=>VM _ _ _ rfl;have k03:Zu Hs H3 [q]:=((k0.trans k1 (λc hc _=>hc)).trans k2.more (λc hc _=>hc)).trans k3.more (λc hc _=>hc);have hl1:(l.drop 512).length<=1000000000:=by rw[Ye];omega
 have hln:(L.getD i default).data.length+VC (L.getD i default).data.length=((L.getD i default).data++List.replicate (VC (L.getD i default).data.length) 0).length:=by rw[Zh,ZB]
 rcases KM jw (by simp only[Zh];omega) with⟨hct,hlt⟩|⟨Zah,Zie,hC2⟩
 ·rw[<-hln] at hlt
  obtain⟨H4,e5,k4⟩:=bY E (k:=K) (n:=n) hK g3.gH gr3 hw3 hr3 hM hlt hl1 hlo hq;clear hl hz hc;simp only[t0,e1,e2,e3,ok5,e4,lv,eI,gb0,n6,k1r,kM,ldK,lkC,sm,st,d2,e5,XA,XR,YQ,decide_true,Zo,Zo,YM,Xz,ZD,ZO,Zo,YM,Xz,QB,ZG,Yj,Zz,Yc,Xc,XZ,Nat.reducePow,Nat.reduceDiv,Nat.reduceMod,Yg,UH];refine⟨_,_,_,rfl,?_⟩;exact .inr ⟨(λh=>by cases h),k03.trans k4.any (λc hc _=>hc),.inl ⟨hct,rfl⟩⟩
 ·have hdt:(l.drop 512).take (L.getD i default).data.length=(L.getD i default).data:=by
   have:=congrArg (List.take (L.getD i default).data.length) Zie;rw[Sk,W3,Xy (by rw[<-hln];omega)] at this;exact this
  rw[<-hln] at Zah hC2;obtain⟨os,o1,o2,o3⟩:=hO3.r;have kx:=k03.nx;obtain⟨H4,KB,cs,e5,k4,gr4,ob4,mn4,hb4⟩:=Zdq E (k:=K) (n:=n) hK g3.gH gr3 hw3 hr3 hM Zah hl1 hdt (by omega) hlo hq o1 Fc kx (by omega);have xg: ∀x∈Xk ov,Hs.nx<=x:=λx hx=>((Wb o1).2.2.2 x hx).1;have nV:Zu Hs H4 [q]:=k03.trans k4 (λc hc hlt=>by
   rcases ZY.1 hc with h|h
   ·rw[h];exact Zn.2 rfl
   ·have:=xg c h;omega)
  have hO4:zL Hs q L (i+1) KB H4:=⟨os++[cs],ob4,by rw[Zh,o2];rfl,λj hj=>by
   by_cases hji:j<i
   ·rw[Ze,ZW (by omega),<-Ze]
    exact(o3 j hji).keep k4 (λb hb=>.inl (by
     rcases ZY.1 hb with h|h
     ·rw[h];exact Zt.2 (.inl (XM.2 Fc))
     ·exact Zt.2 (.inr h))) (λb hb=>by
     rcases Zt.1 hb with h|h
     ·exact .inl (Zt.2 (.inl h))
     ·exact .inr (hb4 b h))
   ·obtain rfl:j=i:=by omega
    rw[Ze,Z0 (by omega),show j - os.length=0 by omega]
    exact mn4.keep (Zu.refl _ []) (λb hb=>by cases hb) (λb hb=>.inl (by
     rcases Zt.1 hb with h|h
     ·exact Zt.2 (.inl (XM.2 (ZK (XM.1 h) kx)))
     ·exact Zt.2 (.inr h)))⟩
  clear hl hz hc;simp only[t0,e1,e2,e3,ok5,e4,lv,eI,gb0,n6,k1r,kM,ldK,lkC,sm,st,d2,e5,XA,XR,YQ,decide_true,Zo,Zo,YM,Xz,ZD,ZO,Zo,YM,Xz,QB,ZG,Yj,Zz,Yc,Xc,XZ,Nat.reducePow,Nat.reduceDiv,Nat.reduceMod,Yg,UH];refine⟨_,_,_,rfl,.inl ⟨rfl,_,?_,t0',nV,i+1,false,.nils,KB,sp,_,gr4,hO4,hi,?_,.no rfl hC2⟩⟩
  ·omega
  ·rw[Ye];omega
def oK:Zd:=List.replicate 512 0
def D9:oK.length=512:=ZB ..
def KR(bh:Zd):Zd:=oK++(oK++bh)
def bW(bh:Zd):0<(KR bh).length:=by unfold KR;rw[Zh,D9];omega
def bX(E:Env Zq fs Zk){K:Nat}(hK:12<=K){Hs:Heap}{q:Nat}{ct:Bool}{L:List Mem}{bh:Zd}(gK:Ms Hs)(hq:100<=q)(Fc:q<Hs.nx)(hct:ct=true->bh=[])(y f dd qq)(X0:X)(tm:TM)(H:Heap)(t0:Z6 tm=.ptr q 0)(k0:Zu Hs H [q]){wv ov:AV}{sp:Prop}{l:Zd}(g:Lm sp H q l false wv ov)(hO:zL Hs q L L.length ov H)(hl:l.length<=1000000000)(hC:vt ct sp l (KR bh)):
  ∃o tm' H',QB ⟨ZA (LK Zq fs Zk K) fs Zk (n+8),y,f,dd,qq⟩ tm H X0=.ok o tm' H' X0∧o≠.normal∧ALE Hs q ct L o tm' H':=by
 simp only[Pa] at t0;have g0:=gK.keep k0 (λx hx=>by rw[Zn.1 hx];exact hq);have ok5:=λ{H:Heap} {e:Nat}=>UL E (k:=K) (n:=n+7) (H:=H) (e:=e);rcases KM hC (by rw[Zh,D9];omega) with⟨h,hlt⟩|⟨hll,htk,jw⟩
 ·rw[D9] at hlt
  have e1:=Gu E (k:=K) (n:=n+6) g hlt;simp only[t0,e1,QB,ZG,Yj,Zz,Yg];refine⟨_,_,_,rfl,?_⟩;exact⟨(λh=>by cases h),k0,.inl ⟨h,rfl⟩⟩
 rw[D9] at hll htk jw;obtain⟨b,H1,e1,k1,hr1,hqb,gr1⟩:=Gv E (k:=K) (n:=n+6) g0.gH g hll hl;rw[htk] at hr1;have e2:=oE E (k:=K) (n:=n+4) (by omega) hr1;have g1:=g0.keep k1 (λx hx=>by rw[Zn.1 hx];exact hq);have hO1:=hO.keep Fc k1;have k01:Zu Hs H1 [q]:=k0.trans k1 (λc hc _=>hc);rcases jw with⟨h,h2⟩|⟨h,hs,c,hc,h2⟩
 ·have hl1:(l.drop 512).length<=1000000000:=by rw[Ye];omega
  have hz:(l.drop 512).take 512=oK:=by
   rw[h2];have:=W3 (l₁:=oK) (l₂:=bh)
   rwa [D9] at this
  have hb: ∃b2 H2 bv,ZA (LK Zq fs Zk K) fs Zk (n+8) 52 [.ptr q 0] H1=.ret (.ptr b2 0) H2∧Zu H1 H2 [q]∧HR H2 b2 oK∧H2.t.get q=some (rH 69 [bv,wv,.bool false,ov]):=by
   by_cases hb:bh=[]
   ·have hl5:(l.drop 512).length=512:=by rw[h2,hb,ZM,D9]
    obtain⟨b2,H2,e3,k2,hr2,_,vG,g2⟩:=gj E (k:=K) (n:=n+6) g1.gH gr1 hl5 hl1;rw[hz] at hr2;exact⟨b2,H2,vG,e3,k2,hr2,g2⟩
   ·obtain⟨b2,H2,e3,k2,hr2,_,g2⟩:=Gv E (k:=K) (n:=n+6) g1.gH gr1 (.inl (by
     have:=Ws.2 hb
     rw[h2,Zh,D9];omega)) hl1
    rw[hz] at hr2;obtain⟨⟨vG,g3,_⟩,_⟩:=g2;exact⟨b2,H2,vG,e3,k2,hr2,g3⟩
  obtain⟨b2,H2,bv,e3,k2,hr2,g2⟩:=hb;have e4:=oE E (k:=K) (n:=n+4) (by omega) hr2;have l2: ∀G,ld1 (some (rH 69 [bv,wv,.bool false,ov])) 2 G=.val (.bool false) G:=λG=>XQ (show 2<4 by decide) ..;have oc:=g.oc;simp only[t0,e1,e2,e3,e4,g2,l2,ok5,XA,XR,Zo,Zl,Zl,Zo,Zl,Zo,QB,ZG,Yj,Yc,Yg];refine⟨_,_,_,rfl,?_⟩;exact⟨(λh=>by cases h),k01.trans k2 (λc hc _=>hc),.inr ⟨h,rfl,bv,wv,ov,g2,oc,hO1.keep Fc k2⟩⟩
 ·have hb:=hct h
  subst hb;rw[ZM,D9] at hc;have hlt:(l.drop 512).length<512:=by rw[h2,Zy];omega
  have e3:=Gu E (k:=K) (n:=n+6) gr1 hlt;simp only[t0,e1,e2,e3,XA,XR,Zo,Zo,Zo,QB,ZG,Yj,Zz,Yg];refine⟨_,_,_,rfl,?_⟩;exact⟨(λh=>by cases h),k01,.inl ⟨h,rfl⟩⟩
def au(E:Env Zq fs Zk){K:Nat}(hK:12<=K){Hs:Heap}{q:Nat}{ct:Bool}{L:List Mem}{tail:Zd}(gK:Ms Hs)(hq:100<=q)(Fc:q<Hs.nx)(hL: ∀x∈L,tj x)(y f dd qq)(X0:X)(tm:TM)(H:Heap)(t0:Z6 tm=.ptr q 0)(k0:Zu Hs H [q]){wv ov:AV}{sp:Prop}{l W:Zd}(g:Lm sp H q l false wv ov)(hO:zL Hs q L i ov H)(hi:i<L.length)(hl:l.length<=1000000000)(hT0:0<W.length)(hT:W=Ug (L.getD i default)++((L.getD i default).data++List.replicate (VC (L.getD i default).data.length) 0++(TQ (L.drop (i+1))++tail)))(hC:vt ct sp l (Ch (VO (X2 (L.getD i default))).length++(VO (X2 (L.getD i default))++List.replicate (VC (VO (X2 (L.getD i default))).length) 0++W))):
  ∃o tm' H',QB ⟨ZA (LK Zq fs Zk K) fs Zk (n+8),y,f,dd,qq⟩ tm H X0=.ok o tm' H' X0∧((o=.normal∧ ∃k,k<2*(L.length - i)+1∧ALW Hs q ct L tail k tm' H')∨(o≠.normal∧ALE Hs q ct L o tm' H')):=by
 have t0':=t0;simp only[Pa] at t0;have hM:=hL _ (HI hi);obtain⟨r1,r2⟩:=CI hM.lo.1 (Nz hM.may).2.2.2.1;have hpl:=FC (l:=X2 (L.getD i default)) λx hx=>(r1 x hx).2;have hX:=ZbB (r:=(VO (X2 (L.getD i default))).length) (by omega);have g0:=gK.keep k0 (λx hx=>by rw[Zn.1 hx];exact hq);have ok5:=λ{H:Heap} {e:Nat}=>UL E (k:=K) (n:=n+7) (H:=H) (e:=e);have hl5:=hX.len;rcases KM hC (by rw[Zh];omega) with⟨h,hlt⟩|⟨hll,htk,jw⟩
 ·rw[hl5] at hlt
  have e1:=Gu E (k:=K) (n:=n+6) g hlt;simp only[t0,e1,QB,ZG,Yj,Zz,Yg];refine⟨_,_,_,rfl,?_⟩;exact .inr ⟨(λh=>by cases h),k0,.inl ⟨h,rfl⟩⟩
 rw[hl5] at hll htk jw;obtain⟨b,H1,e1,k1,hr1,hqb,gr1⟩:=Gv E (k:=K) (n:=n+6) g0.gH g hll hl;rw[htk] at hr1;obtain⟨j,hj,hz⟩:=hX.nz;obtain⟨N,rest,hc,hN,hch⟩:=hX.chk;have e2:=iW E (k:=K) (n:=n+4) (by omega) hr1 hj hz;have g1:=g0.keep k1 (λx hx=>by rw[Zn.1 hx];exact hq);have hO1:=hO.keep Fc k1;obtain⟨H2,e3,k2⟩:=yw E (k:=K) (n:=n+3) g1.gH hr1 hc hN;rw[hch] at e3;have g2:=g1.keep0 k2;have hr2:=hr1.keep0 k2;obtain⟨v,H3,e4,bv,k3,far⟩:=PN E (k:=K) (n:=n+5) g2.gH nC hr2;rw[hX.ty] at bv;have g3:=g2.keep0 k3;have hr3:=hr2.keep0 k3;have gr3:=(gr1.keep k2).keep k3;have hO3:=(hO1.keep Fc k2.any).keep Fc k3.any;have hbl:=λb hb=>(Ba bv far b hb).2;have lv:=PJ bv (n:=H3.nx) hbl;obtain⟨b0,o0,r0,eI,hb0,gb0,ld0⟩:=(Rd.of_bv bv).at_ 0 (by decide);have n6: ∀G,ld1 (some (.row r0)) o0 G=.val (nI .u8 120) G:=ld0;obtain⟨rK,k1r,k2r,k3r⟩:=g3.r;have kM:=g3.m;have ldK: ∀G,ld1 (some (.row rK)) 0 G=.val (.map 14) G:=λG=>by rw[Qt k2r,k3r]
 have sm: ∀(j:Nat) (T:T Obj),Vo (.val (.map 14) ⟨j,T,j⟩) (.map 14) j=true:=λj T=>VM _ _ _ rfl;have st: ∀(j:Nat) (T:T Obj),Vo (.val (.tup [nI .i64 0,.bool false]) ⟨j,T,j⟩) (.tup [nI .i64 0,.bool false]) j=true:=λj T=>VM _ _ _ rfl;have k03:Zu Hs H3 [q]:=((k0.trans k1 (λc hc _=>hc)).trans k2.more (λc hc _=>hc)).trans k3.more (λc hc _=>hc);have hl1:(l.drop 512).length<=1000000000:=by rw[Ye];omega
 have hln:(VO (X2 (L.getD i default))).length+VC (VO (X2 (L.getD i default))).length=(VO (X2 (L.getD i default))++List.replicate (VC (VO (X2 (L.getD i default))).length) 0).length:=by rw[Zh,ZB]
 rcases KM jw hT0 with⟨h,hlt⟩|⟨Zah,Zie,hC2⟩
 ·rw[<-hln] at hlt
  obtain⟨H4,e5,k4⟩:=ZhP E (K:=K) (n:=n+2) (by omega) g3.gH gr3 hr3 hX (by omega) hlt;clear hl hz hc;simp only[t0,e1,e2,e3,ok5,e4,lv,eI,gb0,n6,k1r,kM,ldK,lkX,sm,st,e5,XA,XR,YQ,decide_true,Zo,Zo,YM,Xz,ZD,ZO,Zo,YM,Xz,QB,ZG,Yj,Zz,Yc,Xc,XZ,Nat.reducePow,Nat.reduceDiv,Nat.reduceMod,Yg,UH];refine⟨_,_,_,rfl,?_⟩;exact .inr ⟨(λh=>by cases h),k03.trans k4.any (λc hc _=>hc),.inl ⟨h,rfl⟩⟩
 ·have hdt:(l.drop 512).take (VO (X2 (L.getD i default))).length=VO (X2 (L.getD i default)):=by
   have:=congrArg (List.take (VO (X2 (L.getD i default))).length) Zie;rw[Sk,W3,Xy (by rw[<-hln];omega)] at this;exact this
  rw[<-hln] at Zah hC2;obtain⟨w,H4,e5,k4,gr4,hw4⟩:=ZhQ E (K:=K) (n:=n+2) (by omega) g3.gH gr3 hq hr3 hX hdt (by omega) Zah hl1 r1 (by omega);have hO4:=hO3.keep Fc k4;rw[hT] at hC2;clear hl hz hc;simp only[t0,e1,e2,e3,ok5,e4,lv,eI,gb0,n6,k1r,kM,ldK,lkX,sm,st,e5,XA,XR,YQ,decide_true,Zo,Zo,YM,Xz,ZD,ZO,Zo,YM,Xz,QB,ZG,Yj,Zz,Yc,Xc,XZ,Nat.reducePow,Nat.reduceDiv,Nat.reduceMod,Yg,UH];refine⟨_,_,_,rfl,.inl ⟨rfl,_,ZU _,t0',k03.trans k4 (λc hc _=>hc),i,true,w,ov,sp,_,gr4,hO4,QH hi,?_,.yes hi hw4 hC2⟩⟩;rw[Ye];omega
def cL(E:Env Zq fs Zk){K:Nat}(hK:12<=K){Hs:Heap}{q:Nat}{ct:Bool}{L:List Mem}{bh:Zd}(gK:Ms Hs)(hq:100<=q)(Fc:q<Hs.nx)(hL: ∀x∈L,tj x)(hL2:L.length<=8000)(hct:ct=true->bh=[])(y f dd qq)(X0:X)(m:Nat)(tm:TM)(H:Heap)(hI:ALW Hs q ct L (KR bh) m tm H):
  ∃o tm' H',QB ⟨ZA (LK Zq fs Zk K) fs Zk (n+8),y,f,dd,qq⟩ tm H X0=.ok o tm' H' X0∧((o=.normal∧ ∃k,k<m∧ALW Hs q ct L (KR bh) k tm' H')∨(o≠.normal∧ALE Hs q ct L o tm' H')):=by
 obtain⟨t0,k0,i,wt,wv,ov,sp,l,g,hO,hi,hl,hR⟩:=hI;have ep:=bW bh;cases hR with
 |no hwv hC=>
  by_cases hin:i<L.length
  ·rw[mU hin] at hC
   by_cases hr:X2 (L.getD i default)=[]
   ·have e:Ru (L.getD i default)++TQ (L.drop (i+1))++KR bh=Ug (L.getD i default)++((L.getD i default).data++List.replicate (VC (L.getD i default).data.length) 0++(TQ (L.drop (i+1))++KR bh)):=by
     unfold Ru QL;rw[if_pos hr];simp only[Yq]
    rw[e] at hC;obtain⟨o,tm',H',e1,h⟩:=qW E (n:=n) hK gK hq Fc hL hL2 ep y f dd qq X0 tm H t0 k0 g hO hin hl (by rw[hr,hwv];exact WT.nil H (q+1)) (ZU q) hC;refine⟨o,tm',H',e1,?_⟩;rcases h with⟨h1,k,h2,h3⟩|h
    ·exact .inl ⟨h1,k,by omega,h3⟩
    ·exact .inr h
   ·have e:Ru (L.getD i default)++TQ (L.drop (i+1))++KR bh=Ch (VO (X2 (L.getD i default))).length++(VO (X2 (L.getD i default))++List.replicate (VC (VO (X2 (L.getD i default))).length) 0++(Ug (L.getD i default)++((L.getD i default).data++List.replicate (VC (L.getD i default).data.length) 0++(TQ (L.drop (i+1))++KR bh)))):=by
     unfold Ru QL;rw[if_neg hr];simp only[Yq]
    rw[e] at hC;exact au E (n:=n) hK gK hq Fc hL y f dd qq X0 tm H t0 k0 g hO hin hl (by rw[Zh,ug];omega) rfl hC
  ·obtain rfl:i=L.length:=by omega
   have e:TQ (L.drop L.length)++KR bh=KR bh:=by rw[List.drop_length];rfl
   rw[e] at hC;obtain⟨o,tm',H',e1,h⟩:=bX E (n:=n) hK gK hq Fc hct y f dd qq X0 tm H t0 k0 g hO hl hC;exact⟨o,tm',H',e1,.inr h⟩
 |yes hin hw hC=>exact qW E (n:=n) hK gK hq Fc hL hL2 ep y f dd qq X0 tm H t0 k0 g hO hin hl hw (ZU q) hC
def cM(E:Env Zq fs Zk){K:Nat}(hK:12<=K){q:Nat}{ct:Bool}{L:List Mem}{bh l:Zd}{sp:Prop}(gK:Ms H)(hq:100<=q)(Fc:q<H.nx)(hL: ∀x∈L,tj x)(hL2:L.length<=8000)(hct:ct=true->bh=[])(g:Lm sp H q l false .nils .nils)(hl:l.length<=1000000000)(hC:vt ct sp l (TQ L++KR bh)):
  ∃H',Zu H H' [q]∧((ct=true∧ZA (LK Zq fs Zk K) fs Zk (n+9) 27 [.ptr q 0] H=.pan (eP 4) H')∨(ct=false∧ZA (LK Zq fs Zk K) fs Zk (n+9) 27 [.ptr q 0] H=.ret (.tup []) H'∧ ∃bv wv ov,H'.t.get q=some (rH 69 [bv,wv,.bool false,ov])∧ov.cells=[ov]∧zL H q L L.length ov H')):=by
 rw[Z5 E.f27 (.inr rfl)];have hf:=E.big;simp only[c27,ZG,Yg];generalize hLL:Vq (QB _) Zk _ _ _=LL;obtain⟨o,OS,H1,rfl,ho,k1,z⟩:=YP (P:=λT=>ALW H q ct L (KR bh) (2*(L.length - 0)+1) T H) (Q:=ALE H q ct L)
  (λT hi=>Y5 (ALW H q ct L (KR bh)) (ALE H q ct L) (λm tm H1 h=>cL E (n:=n) hK gK hq Fc hL hL2 hct _ _ _ _ _ m tm H1 h) Zk (2*(L.length - 0)+1) T H (by omega) hi) hLL
  (by exact⟨rfl,Zu.refl _ _,0,false,.nils,.nils,sp,l,g,⟨[],.inl ⟨rfl,rfl⟩,rfl,λj hj=>by cases hj⟩,ZN _,hl,.no rfl (by rw[YL];exact hC)⟩)
 rcases z with⟨h,rfl⟩|⟨h,rfl,bv,wv,ov,z1,z2,z3⟩
 ·refine⟨H1,k1,.inl ⟨h,?_⟩⟩
  simp only[Zz,]
 ·refine⟨H1,k1,.inr ⟨h,?_,bv,wv,ov,z1,z2,z3⟩⟩
  simp only[ZG,Zz,]
def BB.mono{st:Prop}{v:AV}{l:Zd}{q q':Nat}(h:BB st H v l q)(hq:q<=q'):BB st H v l q':=by
 obtain⟨b,o,c,r,h1,h2,h3,h4,h5⟩:=h.is;exact⟨b,o,c,r,h1,h2,ZK h3 hq,h4,h5⟩
def tK{v:AV}{l:Zd}(h:BV H v l)(hl:l≠[]):BB False H v l H.nx:=by
 rcases h with⟨h,_⟩|⟨_,b,o,c,r,e,hB,hlt⟩
 ·exact absurd h hl
 ·exact⟨b,o,c,r,e,hB,hlt,hlt,λh=>h.elim⟩
def sP(E:Env Zq fs Zk){K:Nat}(hK:12<=K){v:AV}{ct:Bool}{L:List Mem}{bh l:Zd}{sp:Prop}(gK:Ms H)(hL: ∀x∈L,tj x)(hL2:L.length<=8000)(hct:ct=true->bh=[])(bb:BB sp H v l H.nx)(hl:l.length<=1000000000)(hC:vt ct sp l (TQ L++KR bh)):
  ∃w e H',ZA (LK Zq fs Zk K) fs Zk (n+10) 10 [v] H=.ret (.tup [w,nI .i64 e]) H'∧Zu H H' []∧((ct=true∧e=4)∨(ct=false∧e=0∧Qe H' w L∧(∀b∈Xk w,H.nx<=b∧b<H'.nx))):=by
 obtain⟨bv,hb0⟩:=bb.bv;have hb: ∀b∈Xk v,b<H.nx:=λb hb=>(hb0 b hb).1;rw[Z5 E.f10 (.inr rfl)];have rf:=gK.gH.p.nx;have hro:=gK.gH.p.ro;obtain⟨H1,hH1⟩:=TO (H.new (rH 22 [.nils]));obtain⟨H2,hH2⟩:=TO (H1.new (rH 26 [nI .i64 0]));obtain⟨H3,hH3⟩:=TO (H2.new (rH 69 [v,.nils,.bool false,.nils]));have NB:H1.nx=H.nx+1:=by rw[<-hH1];rfl
 have nx2:H2.nx=H.nx+1+1:=by rw[<-hH2,EB,NB]
 have nx3:H3.nx=H.nx+1+1+1:=by rw[<-hH3,EB,nx2]
 have k1:Zu H H1 []:=by rw[<-hH1];exact Zu.new _ _ _
 have k2:Zu H H2 []:=by rw[<-hH2];exact k1.then_new _
 have k3:Zu H H3 []:=by rw[<-hH3];exact k2.then_new _
 have a1:H3.t.get H.nx=some (rH 22 [.nils]):=by rw[<-hH3,SF (by omega),<-hH2,SF (by omega),<-hH1,ZR rfl]
 have a2:H3.t.get (H.nx+1)=some (rH 26 [nI .i64 0]):=by rw[<-hH3,SF (by omega),<-hH2,ZR NB]
 have a3:H3.t.get (H.nx+1+1)=some (rH 69 [v,.nils,.bool false,.nils]):=by rw[<-hH3,ZR nx2]
 have g3:Lm sp H3 (H.nx+1+1) l false .nils .nils:=⟨⟨v,a3,(bb.mono (by omega)).keep k3 (by simp)⟩,rfl,rfl,by omega,by rw[k3.ro];omega⟩;have lb:=λj (hj:H.nx<=j)=>PJ bv (n:=j) (λb hb'=>by have:=hb b hb';omega);have vc:v.cells=[v]:=by
  rcases bv with⟨_,rfl|⟨b,o,c,rfl⟩⟩|⟨_,b,o,c,r,rfl,_⟩<;>rfl
 have bd: ∀G:Heap,TS [.nils,.nils,.bool false,.nils] [(0,1,v)] G=.val (.agg [v,.nils,.bool false,.nils]) G:=λG=>by
  rcases bv with⟨_,rfl|⟨b,o,c,rfl⟩⟩|⟨_,b,o,c,r,rfl,_⟩<;>rfl
 have bx: ∀G:Heap,MW 69 (.agg [v,.nils,.bool false,.nils]) G=.val (.ptr G.nx 0) (G.new (rH 69 [v,.nils,.bool false,.nils])):=λG=>W4 (l:=[v,.nils,.bool false,.nils]) (show 1<=4 by decide) 69 G;obtain⟨H4,k4,z⟩:=cM E (K:=K) (n:=n) hK (gK.keep0 k3) (q:=H.nx+1+1) (by omega) (by omega) hL hL2 hct g3 hl hC;rcases z with⟨hc,ea⟩|⟨hc,ea,vG,wv',ov,g4,oc,hO⟩
 ·obtain⟨e,rfl⟩: ∃e,e=4:=⟨4,rfl⟩
  unfold eP at ea;have b1:H4.t.get H.nx=some (rH 22 [.nils]):=by rw[k4.get _ (by omega) (by rw[Zn];omega),a1]
  have b2:H4.t.get (H.nx+1)=some (rH 26 [nI .i64 0]):=by rw[k4.get _ (by omega) (by rw[Zn];omega),a2]
  have n4:H3.nx<=H4.nx:=k4.nx;have r4:H4.ro=H.ro:=by rw[k4.ro,k3.ro]
  have nV:Zu H H4 []:=k3.trans k4 (λc hc hl=>by rw[Zn] at hc;omega);obtain⟨H5,hH5⟩:=TO (H4.put H.nx (rH 22 [.nils]));obtain⟨H6,hH6⟩:=TO (H5.put (H.nx+1) (rH 26 [nI .i64 4]));have s1:F3 1 (some (rH 22 [.nils])) H.nx 0 .nils H4=.val Y9 H5:=by
   rw[Te rfl (ZU 0) (by omega) (ZN _),<-hH5];rfl
  have r5:H5.ro=H.ro:=by rw[<-hH5];exact r4
  have b3:H5.t.get (H.nx+1)=some (rH 26 [nI .i64 0]):=by rw[<-hH5,UO (by omega),b2]
  have s2:F3 1 (some (rH 26 [nI .i64 0])) (H.nx+1) 0 (nI .i64 4) H5=.val Y9 H6:=by
   rw[Te rfl (ZU 0) (by omega) (ZN _),<-hH6];rfl
  have c1:H6.t.get H.nx=some (rH 22 [.nils]):=by rw[<-hH6,UO (by omega),<-hH5,Yp]
  have c2:H6.t.get (H.nx+1)=some (rH 26 [nI .i64 4]):=by rw[<-hH6,Yp]
  have k6:Zu H H6 []:=by rw[<-hH6,<-hH5];exact(nV.then_put λh=>absurd h (Vc _)).then_put λh=>by omega
  have lb2:=lb H2.nx (by omega);have lb3:=lb (H.nx+1+1) (by omega);simp only[hH1,hH2,hH3,NB,nx2,bd,bx,ea,b1,s1,b3,s2,c1,c2,E.f26.1,ib,ZbM,UJ,OA,Ud,ZD,ZO,ZQ,YV,ZD,ZO,c10,c26,ZG,Yj,Zz,Yc,Yg];refine⟨_,_,_,rfl,?_⟩;exact⟨k6,.inl ⟨hc,rfl⟩⟩
 ·have l3: ∀G,ld1 (some (rH 69 [vG,wv',.bool false,ov])) 3 G=.val ov G:=λG=>XQ (show 3<4 by decide) ..
  have en: ∀G,NL (zS true (vK Go.Proofs.Tryz.prog (Dg Go.Proofs.Tryz.prog 9))) false .nili .nili G=.val (.bool true) G:=λG=>rfl;obtain⟨os,o1,o2,o3⟩:=hO.r;have lov:=(Wb o1).1;have b1:H4.t.get H.nx=some (rH 22 [.nils]):=by rw[k4.get _ (by omega) (by rw[Zn];omega),a1]
  have b2:H4.t.get (H.nx+1)=some (rH 26 [nI .i64 0]):=by rw[k4.get _ (by omega) (by rw[Zn];omega),a2]
  have r4:H4.ro=H.ro:=by rw[k4.ro,k3.ro]
  have nV:Zu H H4 []:=k3.trans k4 (λc hc hl=>by rw[Zn] at hc;omega);obtain⟨H5,hH5⟩:=TO (H4.put H.nx (rH 22 [ov]));obtain⟨H6,hH6⟩:=TO (H5.put (H.nx+1) (rH 26 [nI .i64 0]));have s1:F3 1 (some (rH 22 [.nils])) H.nx 0 ov H4=.val Y9 H5:=by
   rw[Te oc (ZU 0) (by omega) (ZN _),<-hH5];rfl
  have r5:H5.ro=H.ro:=by rw[<-hH5];exact r4
  have b3:H5.t.get (H.nx+1)=some (rH 26 [nI .i64 0]):=by rw[<-hH5,UO (by omega),b2]
  have s2:F3 1 (some (rH 26 [nI .i64 0])) (H.nx+1) 0 (nI .i64 0) H5=.val Y9 H6:=by
   rw[Te rfl (ZU 0) (by omega) (ZN _),<-hH6];rfl
  have c1:H6.t.get H.nx=some (rH 22 [ov]):=by rw[<-hH6,UO (by omega),<-hH5,Yp]
  have c2:H6.t.get (H.nx+1)=some (rH 26 [nI .i64 0]):=by rw[<-hH6,Yp]
  have k6:Zu H H6 []:=by rw[<-hH6,<-hH5];exact(nV.then_put λh=>absurd h (Vc _)).then_put λh=>by omega
  simp only[hH1,hH2,hH3,NB,nx2,bd,bx,ea,g4,l3,en,b1,s1,b3,s2,c1,c2,E.f26.1,ib,ZbM,UJ,OA,Ud,XA,XR,ZD,ZO,Zl,ZQ,Zl,YV,ZD,ZO,Zl,c10,c26,ZG,Yj,Zz,Yc,Yg];have q45:Zu H4 H5 [H.nx]:=by rw[<-hH5];exact Zu.put λ_=>Zn.2 rfl
  have q56:Zu H5 H6 [H.nx+1]:=by rw[<-hH6];exact Zu.put λ_=>Zn.2 rfl
  have o6:=(o1.below (λc h1 h2=>q45.get c h2 (λhm=>by have:=Zn.1 hm;omega)) q45.ro q45.nx).below (λc h1 h2=>q56.get c h2 (λhm=>by have:=Zn.1 hm;omega)) q56.ro q56.nx;refine⟨_,_,_,rfl,k6,.inr ⟨hc,rfl,⟨os,Sl.of_buf o6,o2,λi hi=>?_⟩,λb hb=>?_⟩⟩
  ·have m6:=((o3 i hi).keep q45 (λb hb=>.inl (Zt.2 (.inl (XM.2 (by rw[Zn.1 hb];omega))))) (λb hb=>.inl hb)).keep q56 (λb hb=>.inl (Zt.2 (.inl (XM.2 (by rw[Zn.1 hb];omega))))) (λb hb=>.inl hb)
   obtain⟨av,dv,e,m1,m2,m3,m4⟩:=m6;exact⟨av,dv,e,m1,m2,λb hb=>(m4 b hb).2⟩
  ·have:=(Wb o6).2.2.2 b hb
   exact⟨by omega,this.2⟩
end
end
end Go.AI
