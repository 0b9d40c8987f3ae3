/- The reader of a tar, its blocks, bytes, records and texts: walked; proved, conditions as named. -/
import Derived.Test.YtfkkljjgkopkfaaGreatDoorPW
import Derived.Test.YtfkkljjgkopkfaaGreatDoorPB
import Derived.KernelRfl
set_option maxRecDepth 1000000
set_option maxHeartbeats 0
set_option linter.all false
namespace Go.AI
open Go
noncomputable section
section
variable {Zq:Lib} {fs:T CF} {Zk k n i h b:Nat} {H H0:Heap} {s:Zd} {cs:List AV}
structure BB(st:Prop)(H:Heap)(v:AV)(l:Zd)(q:Nat):Prop where
 is: ∃b o c r,v=.slice b o l.length c∧Bytes H b o c l r∧b<q∧b<H.nx∧(st->l.length<Wa r o c)
def BB.keep{st:Prop}{H H':Heap}{v:AV}{l:Zd}{q:Nat}{S:List Nat}(h:BB st H v l q)(k:Zu H H' S)(hS: ∀x∈S,q<=x):BB st H' v l q:=by
 obtain⟨b,o,c,r,h1,h2,h3,h4,h5⟩:=h.is;exact⟨b,o,c,r,h1,h2.keep k h4 (λhm=>by have:=hS b hm;omega),h3,ZK h4 k.nx,h5⟩
def BB.bv{st:Prop}{v:AV}{l:Zd}{q:Nat}(h:BB st H v l q):BV H v l∧(∀c∈Xk v,c<q∧c<H.nx):=by
 obtain⟨b,o,c,r,rfl,h2,h3,h4,_⟩:=h.is;refine⟨?_,λx hx=>by rw[Zn.1 hx];exact⟨h3,h4⟩⟩;cases l with
 |nil=>exact .inl ⟨rfl,.inr ⟨b,o,c,rfl⟩⟩
 |cons a l=>exact .inr ⟨by simp,b,o,c,r,rfl,h2,h4⟩
def yr{o:Nat}{c:Option Nat}{l:Zd}{r:Row}(h:Bytes H b o c l r):l.length<=Wa r o c∧Oa r 1 c=true:=by
 constructor
 ·cases c with
  |none=>
   show l.length<=cond (Nat.beq r.sz 1) (r.size - o) _;rw[h.sz];have:=h.fits;show l.length<=r.size - o;omega
  |some k=>exact(h.cap k rfl).1
 ·cases c with
  |none=>show Nat.beq r.sz 1=true;rw[h.sz];rfl
  |some c=>rfl
def kn{st:Prop}{v:AV}{l:Zd}{q:Nat}(h:BB st H v l q)(hn:n<l.length∨(n<=l.length∧st))(k:IntKind): ∃v',(∀a b,Uo 1 v (some (nI k n)) none ⟨a,H.t,b⟩=.val v' ⟨a,H.t,b⟩)∧BB st H v' (l.drop n) q:=by
 obtain⟨b,o,c,r,rfl,hB,h3,h4,h5⟩:=h.is;obtain⟨hcap,hs⟩:=yr hB;have hle:n<=l.length:=by rcases hn with h|⟨h,_⟩<;>omega
 have hlt:n<Wa r o c:=by
  rcases hn with h|⟨h,hst⟩
  ·omega
  ·have:=h5 hst;omega
 refine⟨.slice b (o+n) (l.length - n) (OW c n),λx y=>?_,⟨b,o+n,OW c n,r,by rw[Ye],hB.drop hle,h3,h4,λhst=>?_⟩⟩
 ·show Yx (⟨x,H.t,y⟩:Heap) b _=_
  unfold Yx;show(match H.t.get b with|_=>_)=_;rw[hB.at_];show ZJ (Oa r 1 c) (ZJ (Nat.ble n l.length) (ZJ (Nat.ble n (Wa r o c)) (cond (Nat.beq n (Wa r o c)) _ (.val (.slice b (o+n*1) (l.length - n) _) ⟨x,H.t,y⟩))))=_;rw[hs,Zj hle,Zj (by omega),Yl,Zc (by omega),Y6];cases c<;>rfl
 ·have:=h5 hst
  rw[Ye];cases c with
  |none=>
   have e1: ∀x,Wa r x none=r.size - x:=λx=>by show cond (Nat.beq r.sz 1) (r.size - x) _=_;rw[hB.sz];rfl
   show l.length - n<Wa r (o+n) none;rw[e1] at this hlt ⊢;omega
  |some m=>show l.length - n<m - n;have h9:l.length<m:=this;omega
def Zfz{st:Prop}{v:AV}{l:Zd}{q:Nat}(h:BB st H v l q)(hn:n<=l.length)(hc:0<l.length∨st)(k:IntKind): ∃v',(∀a b,Uo 1 v none (some (nI k n)) ⟨a,H.t,b⟩=.val v' ⟨a,H.t,b⟩)∧BB (n<l.length∨st) H v' (l.take n) q:=by
 obtain⟨b,o,c,r,rfl,hB,h3,h4,h5⟩:=h.is;obtain⟨hcap,hs⟩:=yr hB;have hpos:0<Wa r o c:=by
  rcases hc with h|h
  ·omega
  ·have:=h5 h;omega
 refine⟨.slice b o n (OW c 0),λx y=>?_,⟨b,o,OW c 0,r,by rw[Zy,Xy hn],hB.take hn,h3,h4,λhst=>?_⟩⟩
 ·show Yx (⟨x,H.t,y⟩:Heap) b _=_
  unfold Yx;show(match H.t.get b with|_=>_)=_;rw[hB.at_];show ZJ (Oa r 1 c) (ZJ (Nat.ble n (Wa r o c)) (ZJ (Nat.ble 0 (Wa r o c)) (cond (Nat.beq 0 (Wa r o c)) _ (.val (.slice b (o+0*1) (n - 0) _) ⟨x,H.t,y⟩))))=_;rw[hs,Zj (by omega),Zj (ZN _),Yl,Zc (by omega),Vl,Zo,RK];cases c<;>rfl
 ·rw[Zy,Xy hn]
  have e:Wa r o (OW c 0)=Wa r o c:=by cases c<;>rfl
  rw[e];rcases hst with h|h
  ·omega
  ·have:=h5 h;omega
structure Lm(st:Prop)(H:Heap)(q:Nat)(l:Zd)(wt:Bool)(wv ov:AV):Prop where
 row: ∃bv,H.t.get q=some (rH 69 [bv,wv,.bool wt,ov])∧BB st H bv l q
 wc:wv.cells=[wv]
 oc:ov.cells=[ov]
 lt:q<H.nx
 ro:H.ro<=q
def Lm.keep{st:Prop}{H H':Heap}{q:Nat}{l:Zd}{wt:Bool}{wv ov:AV}(h:Lm st H q l wt wv ov)(k:Zu H H' []):Lm st H' q l wt wv ov:=by
 obtain⟨⟨bv,h1,h2⟩,h4,h5,h6,h7⟩:=h;exact⟨⟨bv,by rw[k.get q h6 (by simp)];exact h1,h2.keep k (by simp)⟩,h4,h5,ZK h6 k.nx,by rw[k.ro];exact h7⟩
def Gv(E:Env Zq fs Zk){q:Nat}{l:Zd}{wt:Bool}{wv ov:AV}{sp:Prop}(gH:V8 H)(g:Lm sp H q l wt wv ov)(hl:512<l.length∨(512<=l.length∧sp))(hl2:l.length<=1000000000):
  ∃b H',ZA (LK Zq fs Zk k) fs Zk (n+2) 52 [.ptr q 0] H=.ret (.ptr b 0) H'∧Zu H H' [q]∧HR H' b (l.take 512)∧q<b∧Lm sp H' q (l.drop 512) wt wv ov:=by
 rw[Z5 E.f52 (.inr rfl)];obtain⟨⟨bv,h1,hb⟩,h4,h5,hlt,hro⟩:=g;obtain⟨h2,h3⟩:=hb.bv;have hl9:512<=l.length:=by rcases hl with h|⟨h,_⟩<;>omega
 have ln:=h2.len;have d1:decide (512<=l.length)=true:=Zi (by omega);have ew:=λ{H:Heap}=>UL E (k:=k) (n:=n) (H:=H) (e:=4);have l0: ∀G,ld1 (some (rH 69 [bv,wv,.bool wt,ov])) 0 G=.val bv G:=λG=>XQ (show 0<4 by decide) ..;have bd: ∀G:Heap,TS Sg [] G=.val (.agg Sg) G:=λG=>by unfold Sg;rw[XY,Oj];rfl
 have bx: ∀G:Heap,MW 54 (.agg Sg) G=.val (.ptr G.nx 0) (G.new (rH 54 Sg)):=λG=>W4 (l:=Sg) (by unfold Sg;rw[ZB];decide) 54 G;obtain⟨H1,hH1⟩:=TO (H.new (rH 54 Sg));have k1:Zu H H1 []:=by rw[<-hH1];exact Zu.new _ _ _
 have NB:H1.nx=H.nx+1:=by rw[<-hH1];rfl
 have g1:H1.t.get H.nx=some (rH 54 Sg):=by rw[<-hH1];exact ZR rfl _
 have gq1:H1.t.get q=some (rH 69 [bv,wv,.bool wt,ov]):=by rw[k1.get q hlt (by simp)];exact h1
 have yp:=h2.keep k1 (λ_ _ _ _ _=>by simp);have hcp: ∃r',yA 1 (.slice H.nx 0 512 (some 512)) bv H1=.val (nI .i64 512) (H1.put H.nx (.row r'))∧Cells r' ((l.take 512).map Vk)∧r'.own=true∧r'.fz=0∧r'.sz=1:=by
  rcases yp with⟨rfl,_⟩|⟨_,sb,so,sc,s,rfl,hB,ZpE⟩
  ·exact absurd hl9 (by decide)
  have hl5:(l.take 512).length=512:=by rw[Zy];omega
  have hnew:Vw s so 512=(l.take 512).map Vk:=by
   refine Y7 λj=>?_
   by_cases hj:j<512
   ·rw[Sp s _ so j hj,hB.get j (by omega),Z3,Ze,Yu hj,Zm (by omega)];rfl
   ·rw[Z8 (by rw[UV];omega),Z8 (by rw[Zx];omega)]
  have hcs:=Ok (o:=0) (new:=(l.take 512).map Vk) (Le 54 1 Sg 0 false true true) (by rw[Zx,hl5];unfold Sg;rw[ZB];decide);rw[Xd,ZQ,Uz (by rw[Zx,hl5];unfold Sg;rw[ZB];decide),ZM] at hcs;refine⟨_,?_,hcs,rfl,rfl,rfl⟩;show Ts (O3 512 l.length) (λn=>Ww H1 1 (.slice sb so _ sc) n λnew=>cond (Nat.beq n 0) (.val (.int .i64 0) H1) (Yx H1 H.nx λr=>ZJ (H1.may r H.nx) (ZJ (Nat.ble r.fz 0) (ZJ (Nat.ble (0+n*1) r.size) (.val (.int .i64 (.ofNat n)) (H1.put H.nx (.row (r.setCells (XV r.cells 0 new)))))))))=_;have e':O3 512 l.length=512:=by unfold O3;rw[Zj (by omega)];rfl
  rw[Sm,e'];unfold Ww;rw[show Nat.beq 512 0=false from rfl];simp only[cond_false];unfold Yx;rw[hB.at_,g1];show ZJ (Nat.ble (so+512*1) s.size) (ZJ (cond true (Nat.ble H1.ro H.nx) false) (ZJ (Nat.ble 0 0) (ZJ (Nat.ble (0+512*1) (YN Sg)) _)))=_;have hz5:YN Sg=512:=by rw[Yw];unfold Sg;rw[ZB]
  have S5:Nat.ble H1.ro H.nx=true:=Zj (by rw[k1.ro];omega);rw[hz5,S5,Zj (by have:=hB.fits;omega)];show OR.val _ (H1.put H.nx (.row (Row.setCells _ (XV _ 0 (Vw s so (512*1))))))=_;rw[hnew];rfl
 obtain⟨r',ec,c1,c2,c3,c4⟩:=hcp;obtain⟨H2,hH2⟩:=TO (H1.put H.nx (.row r'));rw[hH2] at ec;have k2:Zu H H2 []:=by rw[<-hH2];exact k1.then_put (by omega)
 have nx2:H2.nx=H.nx+1:=by rw[<-hH2];exact NB
 have m9:H2.ro=H.ro:=by rw[<-hH2];exact k1.ro
 have hr2:HR H2 H.nx (l.take 512):=⟨⟨r',by rw[<-hH2];exact Yp _ _ _,c1,c2,c3,c4⟩,by rw[Zy];omega,by omega,by omega⟩;have gq2:H2.t.get q=some (rH 69 [bv,wv,.bool wt,ov]):=by rw[k2.get q hlt (by simp)];exact h1
 have hb2:=hb.keep k2 (by simp);obtain⟨v',sl,hb3⟩:=kn hb2 hl .i64;obtain⟨kw,hbl⟩:=hb3.bv;have sl2:Uo 1 bv (some (nI .i64 512)) none H2=.val v' H2:=sl H2.nx H2.ro;have cv':v'.cells=[v']:=by
  rcases kw with⟨_,rfl|⟨b,o,c,rfl⟩⟩|⟨_,b,o,c,r,rfl,_⟩<;>rfl
 obtain⟨H3,hH3⟩:=TO (H2.put q (rH 69 [v',wv,.bool wt,ov]));have st:F3 1 (some (rH 69 [bv,wv,.bool wt,ov])) q 0 v' H2=.val Y9 H3:=by
  rw[Te cv' (show 0<4 by decide) (by omega) (ZN _),<-hH3];rfl
 have k23:Zu H2 H3 [q]:=by rw[<-hH3];exact Zu.put λ_=>Zn.2 rfl
 have sbv:=Nf yp;have sa: ∀(b:Nat) G,O5 512 1 (.ptr b 0) none none G=.val (.slice b 0 512 (some 512)) G:=λ_ _=>rfl;simp(disch:=omega) only[h1,l0,ln,d1,ew,bd,bx,hH1,gq1,sa,ec,gq2,sl2,st,sbv,SK,NC,Th,Ud,UJ,XA,XR,XH,YY,ZO,Yr,decide_true,Zo,Zo,YW,ZD,ZO,Yr,Zo,YW,c52,ZG,Yj,Zz,Yc,Xc,XZ,Nat.reducePow,Nat.reduceDiv,Nat.reduceMod,Yg];refine⟨H.nx,_,rfl,?_,?_,by omega,?_⟩
 ·exact(k2.more).trans k23 λc hc _=>hc
 ·exact hr2.keep k23 λh=>by have:=Zn.1 h;omega
 ·exact⟨⟨v',by rw[<-hH3];exact Yp _ _ _,hb3.keep k23 (λx hx=>by rw[Zn.1 hx];exact Zs _)⟩,h4,h5,by rw[<-hH3];show q<H2.nx;omega,by rw[<-hH3];show H2.ro<=q;omega⟩
def Gu(E:Env Zq fs Zk){q:Nat}{l:Zd}{wt:Bool}{wv ov:AV}{sp:Prop}(g:Lm sp H q l wt wv ov)(hl:l.length<512):
  ZA (LK Zq fs Zk k) fs Zk (n+2) 52 [.ptr q 0] H=.pan (eP 4) H:=by
 rw[Z5 E.f52 (.inr rfl)];obtain⟨⟨bv,h1,hb⟩,h4,h5,hlt,hro⟩:=g;obtain⟨h2,h3⟩:=hb.bv;have ln:=h2.len;have d1:decide (512<=l.length)=false:=Zc (by omega);have ew:=λ{H:Heap}=>oC E (k:=k) (n:=n) (H:=H) (e:=4);have l0: ∀G,ld1 (some (rH 69 [bv,wv,.bool wt,ov])) 0 G=.val bv G:=λG=>XQ (show 0<4 by decide) ..;simp only[h1,l0,ln,d1,ew,XA,XR,Yr,Zo,Zo,Yr,Zo,c52,ZG,Yj,Zz,Yg]
def gj(E:Env Zq fs Zk){q:Nat}{l:Zd}{wt:Bool}{wv ov:AV}{sp:Prop}(gH:V8 H)(g:Lm sp H q l wt wv ov)(hl:l.length=512)(hl2:l.length<=1000000000):
  ∃b H',ZA (LK Zq fs Zk k) fs Zk (n+2) 52 [.ptr q 0] H=.ret (.ptr b 0) H'∧Zu H H' [q]∧HR H' b (l.take 512)∧q<b∧ ∃vG,H'.t.get q=some (rH 69 [vG,wv,.bool wt,ov]):=by
 rw[Z5 E.f52 (.inr rfl)];obtain⟨⟨bv,h1,hb⟩,h4,h5,hlt,hro⟩:=g;obtain⟨h2,h3⟩:=hb.bv;have ln:=h2.len;have d1:decide (512<=l.length)=true:=Zi (by omega);have ew:=λ{H:Heap}=>UL E (k:=k) (n:=n) (H:=H) (e:=4);have l0: ∀G,ld1 (some (rH 69 [bv,wv,.bool wt,ov])) 0 G=.val bv G:=λG=>XQ (show 0<4 by decide) ..;have bd: ∀G:Heap,TS Sg [] G=.val (.agg Sg) G:=λG=>by unfold Sg;rw[XY,Oj];rfl
 have bx: ∀G:Heap,MW 54 (.agg Sg) G=.val (.ptr G.nx 0) (G.new (rH 54 Sg)):=λG=>W4 (l:=Sg) (by unfold Sg;rw[ZB];decide) 54 G;obtain⟨H1,hH1⟩:=TO (H.new (rH 54 Sg));have k1:Zu H H1 []:=by rw[<-hH1];exact Zu.new _ _ _
 have NB:H1.nx=H.nx+1:=by rw[<-hH1];rfl
 have g1:H1.t.get H.nx=some (rH 54 Sg):=by rw[<-hH1];exact ZR rfl _
 have gq1:H1.t.get q=some (rH 69 [bv,wv,.bool wt,ov]):=by rw[k1.get q hlt (by simp)];exact h1
 have yp:=h2.keep k1 (λ_ _ _ _ _=>by simp);have hcp: ∃r',yA 1 (.slice H.nx 0 512 (some 512)) bv H1=.val (nI .i64 512) (H1.put H.nx (.row r'))∧Cells r' ((l.take 512).map Vk)∧r'.own=true∧r'.fz=0∧r'.sz=1:=by
  rcases yp with⟨rfl,_⟩|⟨_,sb,so,sc,s,rfl,hB,ZpE⟩
  ·exact absurd hl (by decide)
  have hl5:(l.take 512).length=512:=by rw[Zy];omega
  have hnew:Vw s so 512=(l.take 512).map Vk:=by
   refine Y7 λj=>?_
   by_cases hj:j<512
   ·rw[Sp s _ so j hj,hB.get j (by omega),Z3,Ze,Yu hj,Zm (by omega)];rfl
   ·rw[Z8 (by rw[UV];omega),Z8 (by rw[Zx];omega)]
  have hcs:=Ok (o:=0) (new:=(l.take 512).map Vk) (Le 54 1 Sg 0 false true true) (by rw[Zx,hl5];unfold Sg;rw[ZB];decide);rw[Xd,ZQ,Uz (by rw[Zx,hl5];unfold Sg;rw[ZB];decide),ZM] at hcs;refine⟨_,?_,hcs,rfl,rfl,rfl⟩;show Ts (O3 512 l.length) (λn=>Ww H1 1 (.slice sb so _ sc) n λnew=>cond (Nat.beq n 0) (.val (.int .i64 0) H1) (Yx H1 H.nx λr=>ZJ (H1.may r H.nx) (ZJ (Nat.ble r.fz 0) (ZJ (Nat.ble (0+n*1) r.size) (.val (.int .i64 (.ofNat n)) (H1.put H.nx (.row (r.setCells (XV r.cells 0 new)))))))))=_;have e':O3 512 l.length=512:=by unfold O3;rw[Zj (by omega)];rfl
  rw[Sm,e'];unfold Ww;rw[show Nat.beq 512 0=false from rfl];simp only[cond_false];unfold Yx;rw[hB.at_,g1];show ZJ (Nat.ble (so+512*1) s.size) (ZJ (cond true (Nat.ble H1.ro H.nx) false) (ZJ (Nat.ble 0 0) (ZJ (Nat.ble (0+512*1) (YN Sg)) _)))=_;have hz5:YN Sg=512:=by rw[Yw];unfold Sg;rw[ZB]
  have S5:Nat.ble H1.ro H.nx=true:=Zj (by rw[k1.ro];omega);rw[hz5,S5,Zj (by have:=hB.fits;omega)];show OR.val _ (H1.put H.nx (.row (Row.setCells _ (XV _ 0 (Vw s so (512*1))))))=_;rw[hnew];rfl
 obtain⟨r',ec,c1,c2,c3,c4⟩:=hcp;obtain⟨H2,hH2⟩:=TO (H1.put H.nx (.row r'));rw[hH2] at ec;have k2:Zu H H2 []:=by rw[<-hH2];exact k1.then_put (by omega)
 have nx2:H2.nx=H.nx+1:=by rw[<-hH2];exact NB
 have m9:H2.ro=H.ro:=by rw[<-hH2];exact k1.ro
 have hr2:HR H2 H.nx (l.take 512):=⟨⟨r',by rw[<-hH2];exact Yp _ _ _,c1,c2,c3,c4⟩,by rw[Zy];omega,by omega,by omega⟩;have gq2:H2.t.get q=some (rH 69 [bv,wv,.bool wt,ov]):=by rw[k2.get q hlt (by simp)];exact h1
 have Kc:=h2.keep k2 (λ_ _ _ _ _=>by simp);obtain⟨v',H25,sl2,k25,kw,hbl⟩:=cX Kc (λh=>by rw[h] at hl;cases hl) .i64;rw[hl] at sl2;have Zpc:H25.t.get q=some (rH 69 [bv,wv,.bool wt,ov]):=by rw[k25.get q (by omega) (by simp)];exact gq2
 have ro25:H25.ro=H.ro:=by rw[k25.ro];exact m9
 have cv':v'.cells=[v']:=by
  rcases kw with⟨_,rfl|⟨b,o,c,rfl⟩⟩|⟨_,b,o,c,r,rfl,_⟩<;>rfl
 obtain⟨H3,hH3⟩:=TO (H25.put q (rH 69 [v',wv,.bool wt,ov]));have st:F3 1 (some (rH 69 [bv,wv,.bool wt,ov])) q 0 v' H25=.val Y9 H3:=by
  rw[Te cv' (show 0<4 by decide) (by omega) (ZN _),<-hH3];rfl
 have k23:Zu H2 H3 [q]:=by rw[<-hH3];exact(k25.more).trans (Zu.put λ_=>Zn.2 rfl) (λc hc _=>hc)
 have sbv:=Nf yp;have sa: ∀(b:Nat) G,O5 512 1 (.ptr b 0) none none G=.val (.slice b 0 512 (some 512)) G:=λ_ _=>rfl;simp(disch:=omega) only[h1,l0,ln,d1,ew,bd,bx,hH1,gq1,sa,ec,gq2,Zpc,sl2,st,sbv,SK,NC,Th,Ud,UJ,XA,XR,XH,YY,ZO,Yr,decide_true,Zo,Zo,YW,ZD,ZO,Yr,Zo,YW,c52,ZG,Yj,Zz,Yc,Xc,XZ,Nat.reducePow,Nat.reduceDiv,Nat.reduceMod,Yg];refine⟨H.nx,_,rfl,?_,?_,by omega,?_⟩
 ·exact(k2.more).trans k23 λc hc _=>hc
 ·exact hr2.keep k23 λh=>by have:=Zn.1 h;omega
 ·exact⟨v',by rw[<-hH3];exact Yp _ _ _⟩
def tT(E:Env Zq fs Zk)(hk:1<=k){q m:Nat}{l:Zd}{wt:Bool}{wv ov:AV}{sp:Prop}(g:Lm sp H q l wt wv ov)(hm:m<=16777216)(hl:m+VC m<l.length∨(m+VC m<=l.length∧sp))(hl2:l.length<=1000000000):
  ∃v H',ZA (LK Zq fs Zk k) fs Zk (n+2) 82 [.ptr q 0,nI .i64 m] H=.ret v H'∧Zu H H' [q]∧BV H' v (l.take m)∧Lm sp H' q (l.drop (m+VC m)) wt wv ov∧ ∀c∈Xk v,c<q:=by
 rw[Z5 E.f82 (.inr rfl)];obtain⟨⟨bv,h1,hb⟩,h4,h5,hlt,hro⟩:=g;obtain⟨h2,h3⟩:=hb.bv;have ln:=h2.len;have et:=λ{j}=>Zcp E (k:=k) (n:=j) hk (m:=m) (H:=H) hm;have ad: ∀G,Sr (nI .i64 m) (nI .i64 (VC m)) G=.val (nI .i64 (m+VC m)) G:=λG=>Y0 (by omega) G;have d1:decide (m+VC m<=l.length)=true:=Zi (by omega);have ew:=UL E (k:=k) (n:=n) (H:=H) (e:=4);have l0: ∀G,ld1 (some (rH 69 [bv,wv,.bool wt,ov])) 0 G=.val bv G:=λG=>XQ (show 0<4 by decide) ..;obtain⟨v1,sl1,hb1⟩:=Zfz hb (n:=m) (by omega) (by rcases hl with h|⟨_,h⟩;exact .inl (by omega);exact .inr h) .i64;obtain⟨v2,sl2,hb2⟩:=kn hb hl .i64;obtain⟨yp,hc1⟩:=hb1.bv;obtain⟨Kc,hc2⟩:=hb2.bv;have sa:Uo 1 bv none (some (nI .i64 m)) H=.val v1 H:=sl1 H.nx H.ro;have cv2:v2.cells=[v2]:=by
  rcases Kc with⟨_,rfl|⟨b,o,c,rfl⟩⟩|⟨_,b,o,c,r,rfl,_⟩<;>rfl
 obtain⟨H3,hH3⟩:=TO (H.put q (rH 69 [v2,wv,.bool wt,ov]));have st:F3 1 (some (rH 69 [bv,wv,.bool wt,ov])) q 0 v2 H=.val Y9 H3:=by
  rw[Te cv2 (show 0<4 by decide) hro (ZN _),<-hH3];rfl
 have k3:Zu H H3 [q]:=by rw[<-hH3];exact Zu.put λ_=>Zn.2 rfl
 have lbv:=PJ h2 (n:=H.nx) (λb hb=>by have:=(h3 b hb).2;omega);have sbv:=Nf h2;have sv2:=Nf Kc;simp(disch:=omega) only[h1,l0,ln,et,ad,d1,ew,sa,sl2,st,lbv,sbv,sv2,Th,XA,XR,XH,YY,Yr,decide_true,decide_false,Zo,Zo,YW,ZD,ZO,Yr,Zo,YW,c82,ZG,Yj,Zz,Yc,Xc,XZ,Nat.reducePow,Nat.reduceDiv,Nat.reduceMod,reduceCtorEq,Yg,UH];have k9: ∀x∈[q],q<=x:=λx hx=>by rw[Zn.1 hx];exact Zs _
 exact⟨_,_,rfl,k3,(hb1.keep k3 k9).bv.1,⟨⟨v2,by rw[<-hH3];exact Yp _ _ _,hb2.keep k3 k9⟩,h4,h5,by rw[<-hH3];exact hlt,by rw[<-hH3];exact hro⟩,λc hc=>(hc1 c hc).1⟩
def tS(E:Env Zq fs Zk)(hk:1<=k){q m:Nat}{l:Zd}{wt:Bool}{wv ov:AV}{sp:Prop}(g:Lm sp H q l wt wv ov)(hm:m<=16777216)(hl:l.length<m+VC m):
  ZA (LK Zq fs Zk k) fs Zk (n+2) 82 [.ptr q 0,nI .i64 m] H=.pan (eP 4) H:=by
 rw[Z5 E.f82 (.inr rfl)];obtain⟨⟨bv,h1,hb⟩,h4,h5,hlt,hro⟩:=g;obtain⟨h2,h3⟩:=hb.bv;have ln:=h2.len;have et:=λ{j}=>Zcp E (k:=k) (n:=j) hk (m:=m) (H:=H) hm;have pz:VC m<512:=CH m;have ad: ∀G,Sr (nI .i64 m) (nI .i64 (VC m)) G=.val (nI .i64 (m+VC m)) G:=λG=>Y0 (by omega) G;have d1:decide (m+VC m<=l.length)=false:=Zc (by omega);have ew:=oC E (k:=k) (n:=n) (H:=H) (e:=4);have l0: ∀G,ld1 (some (rH 69 [bv,wv,.bool wt,ov])) 0 G=.val bv G:=λG=>XQ (show 0<4 by decide) ..;have lbv:=PJ h2 (n:=H.nx) (λb hb=>by have:=(h3 b hb).2;omega);have sbv:=Nf h2;simp(disch:=omega) only[h1,l0,ln,et,ad,d1,ew,lbv,sbv,XA,XR,Yr,decide_false,Zo,Zo,YW,ZD,ZO,Yr,Zo,YW,c82,ZG,Yj,Zz,Yc,Xc,XZ,Nat.reducePow,Nat.reduceDiv,Nat.reduceMod,reduceCtorEq,Yg]
def Ey(h:i<s.length):(s.map Vk).getD i .unk=nI .u8 (s.getD i 0).toNat:=by
 rw[Ze,Z3,Zm h,Ze,Zm h];rfl
def vl(a b:Zd):Uk a*10^b.length<=Uk (a++b):=by
 have: ∀(k:Nat) (b:Zd),b.length=k->Uk a*10^k<=Uk (a++b):=by
  intro k
  induction k with
  |zero=>intro b h;have:b=[]:=YF.1 h;subst this;simp
  |succ k ih=>
   intro b h;obtain⟨b,x,rfl⟩: ∃b' x,b=b'++[x]:=⟨b.dropLast,b.getLast (by intro e;subst e;simp at h),(List.dropLast_concat_getLast _).symm⟩;rw[Zh] at h;have:=ih b (by simp at h;omega);rw[<-Yq,L6,WB,<-Nat.mul_assoc];omega
 exact this _ b rfl
def lR(h:i<s.length):Uk (s.take (i+1))=10*Uk (s.take i)+((s.getD i 0).toNat - 48):=by rw[Ia h,L6]
def lQ(h:i<s.length):10*Uk (s.take i)<=Uk s:=by
 have e:=vl (s.take i) (s.drop i);rw[XN,Ye] at e;have:10<=10^(s.length - i):=by
  obtain⟨k,hk⟩: ∃k,s.length - i=k+1:=⟨s.length - i - 1,by omega⟩;rw[hk,WB];have:=Nat.one_le_pow k 10 (by decide);omega
 have:=Nat.mul_le_mul_left (Uk (s.take i)) this;omega
def lP(h:i<=s.length):Uk (s.take i)<=Uk s:=by
 have e:=vl (s.take i) (s.drop i);rw[XN] at e;have:=Nat.one_le_pow (s.drop i).length 10 (by decide);have:=Nat.mul_le_mul_left (Uk (s.take i)) this;omega
def i6(s:Zd):Prop:= ∀i,i<s.length->48<=(s.getD i 0).toNat∧(s.getD i 0).toNat<=57
def ny(k:Nat):AV:=.iface 225 (nI .i64 k)
def puV(s:Zd):AV:=if Uk s<18446744073709551616 then .tup [nI .u64 (Uk s),.nili] else .tup [nI .u64 18446744073709551615,ny 1]
structure PU(H1:Heap)(b:Nat)(s:Zd)(m:Nat)(tm:TM)(H:Heap):Prop where
 heap:H=H1
 t1:Xn tm=nI .i64 10
 t8:Xt tm=.bool false
 t10:YH tm=nI .u64 1844674407370955162
 t11:Y1 tm=nI .u64 18446744073709551615
 t12:Y2 tm=.bool false
 t99:G6 tm=.slice b 0 s.length none
 t100:NQ tm=nI .i64 s.length
 i: ∃i,i+m=s.length∧NR tm=nI .i64 i∧YS tm=nI .u64 (Uk (s.take i))∧Uk (s.take i)<18446744073709551616
def PQ(H1:Heap)(s:Zd)(o:Out)(tm:TM)(H:Heap):Prop:=H=H1∧((o=.ret∧XL tm=nI .u64 18446744073709551615∧XE tm=ny 1∧18446744073709551616<=Uk s)∨(o=.exit 3∧Y2 tm=.bool false∧YS tm=nI .u64 (Uk s)∧Uk s<18446744073709551616))
def Ze0{H1:Heap}(hs:i6 s)(hl:s.length<9223372036854775807)(gb:H1.t.get b=some (rG 5 1 (s.map Vk) 0 true true false))(cx:Ctx)(x:X)(m:Nat)(tm:TM)(H:Heap)(h:PU H1 b s m tm H):
  ∃o tm' H',Q7 cx tm H x=.ok o tm' H' x∧((o=.normal∧ ∃k,k<m∧PU H1 b s k tm' H')∨(o≠.normal∧PQ H1 s o tm' H')):=by
 obtain⟨rfl,t1,t8,t10,t11,t12,t99,t100,i,him,Zcl,t13,hn⟩:=h;simp only[Kp,G9,Du,jt,sZ,ju,Zk1,ZhY,ZhZ] at t1 t8 t10 t11 t12 t13 t99 t100 Zcl
 by_cases hi:i<s.length
 ·have d1:decide (i<s.length)=true:=Zi hi
  obtain⟨g1,g2⟩:=hs i hi;have eu:=lR hi;have em:=lQ hi;have ee:=lP (s:=s) (i:=i+1) hi;generalize hx:(s.getD i 0).toNat=y at g1 g2 eu;generalize hu:Uk (s.take i)=u at t13 hn eu em;have d2:decide (y=95)=false:=Zc (by omega);have d3:decide (48<=y)=true:=Zi g1;have d4:decide (y<=57)=true:=Zi g2;have d5:decide (10<=y - 48)=false:=Zc (by omega)
  by_cases hc:1844674407370955162<=u
  ·have d6:decide (1844674407370955162<=u)=true:=Zi hc
   simp(disch:=first|assumption|omega|(simp -implicitDefEqProofs only[VV,VW]<;>first|assumption|omega)|decide) only[Q7,t1,t10,t11,t13,t99,t100,Zcl,d1,d2,d3,d4,d5,d6,hx,gb,XQ,Ey,XP,ZE,Y4,Yr,YQ,FW,MC,Q7,ZG,Yj,Zz,Yc,Yg,Ca,i4]
   exact⟨_,_,_,rfl,.inr ⟨by simp,rfl,.inl ⟨rfl,rfl,rfl,by omega⟩⟩⟩
  ·have d6:decide (1844674407370955162<=u)=false:=Zc hc
   by_cases ho:u*10+(y - 48)<18446744073709551616
   ·have e1:(u*10+(y - 48)) % 18446744073709551616=u*10+(y - 48):=Yd ho
    have d7:decide (u*10+(y - 48)<u*10)=false:=Zc (by omega);have d8:decide (18446744073709551615<u*10+(y - 48))=false:=Zc (by omega);simp(disch:=first|assumption|omega|(simp -implicitDefEqProofs only[VV,VW]<;>first|assumption|omega)|decide) only[Q7,t1,t10,t11,t13,t99,t100,Zcl,d1,d2,d3,d4,d5,d6,d7,d8,e1,hx,gb,XQ,Ey,XP,ZE,Y4,Yr,Yn,YQ,FW,MC,T4,qs,tA,Y0,Q7,ZG,Yj,Yc,Yg,Ca,i4,ta]
    exact⟨_,_,_,rfl,.inl ⟨rfl,m - 1,by omega,rfl,t1,t8,t10,t11,t12,t99,t100,i+1,by omega,rfl,by rw[eu,VE 10 u];rfl,by rw[eu];omega⟩⟩
   ·have e1:(u*10+(y - 48)) % 18446744073709551616=u*10+(y - 48) - 18446744073709551616:=by omega
    have d7:decide (u*10+(y - 48) - 18446744073709551616<u*10)=true:=Zi (by omega);simp(disch:=first|assumption|omega|(simp -implicitDefEqProofs only[VV,VW]<;>first|assumption|omega)|decide) only[Q7,t1,t10,t11,t13,t99,t100,Zcl,d1,d2,d3,d4,d5,d6,d7,e1,hx,gb,XQ,Ey,XP,ZE,Y4,Yr,YQ,FW,MC,T4,qs,tA,Q7,ZG,Yj,Zz,Yc,Yg,Ca,i4,ta]
    exact⟨_,_,_,rfl,.inr ⟨by simp,rfl,.inl ⟨rfl,rfl,rfl,by omega⟩⟩⟩
 ·have d1:decide (i<s.length)=false:=Zc hi
  obtain rfl:i=s.length:=by omega
  rw[Vb] at t13 hn;simp only[Q7,t100,Zcl,d1,ZE,Q7,ZG,Yj,Ca,];exact⟨_,_,_,rfl,.inr ⟨by simp,rfl,.inr ⟨rfl,t12,t13,hn⟩⟩⟩
def yb(E:Env Zq fs Zk)(hs:i6 s)(hne:s≠[])(hl:s.length<100000):
  ∃H',ZA (LK Zq fs Zk 1) fs Zk (n+2) 179 [.str s,nI .i64 10,nI .i64 64] H=.ret (puV s) H'∧Zu H H' []:=by
 rw[Z5 E.f179 (.inl (by decide))];have d0:decide (s=[])=false:=Zc hne;have m1:(1*2^64) % 18446744073709551616=0:=rfl;obtain⟨H1,hH1⟩:=TO (H.new (rG 5 1 (s.map Vk) 0 true true false));have k1:Zu H H1 []:=by rw[<-hH1];exact Zu.new H _ []
 have gb:H1.t.get H.nx=some (rG 5 1 (s.map Vk) 0 true true false):=by rw[<-hH1,ZR rfl]
 have es: ∀H,Mh (nI .u64 0) (nI .u64 1) H=.val (nI .u64 18446744073709551615) H:=λH=>rfl;simp(disch:=omega) only[d0,m1,es,hH1,YQ,ZE,Y4,Yn,T4,RX,Nat.reduceLeDiff,UZ,decide_false,Vc,Zhu,ZG,Yj,Zz,Yc,Nat.reducePow,reduceCtorEq,Yg,KA,Ca];generalize hL:Vq (Q7 _) Zk _ _ _=L;obtain⟨o,OS,H2,rfl,_,rfl,z⟩:=YP (P:=λT=>PU H1 H.nx s s.length T H1) (Q:=PQ H1 s)
  (λT hi=>Y5 (PU H1 H.nx s) (PQ H1 s) (λm tm H' h=>Ze0 hs (by omega) gb _ _ m tm H' h) Zk s.length T H1 (by have:=E.big;omega) hi) hL
  ⟨rfl,rfl,rfl,rfl,rfl,rfl,rfl,rfl,0,by omega,rfl,rfl,by rw[Xd];decide⟩
 unfold puV;rcases z with⟨rfl,z6,z7,hu⟩|⟨rfl,z12,z13,hu⟩
 ·simp only[re,G8] at z6 z7
  rw[if_neg (by omega)];simp only[z6,z7,ZG,Zz,Yg,];exact⟨_,rfl,k1⟩
 ·simp only[sZ,ju] at z12 z13
  rw[if_pos hu];simp only[z12,z13,ZG,Yj,Zz,Yg,ta];exact⟨_,rfl,k1⟩
def dm(E:Env Zq fs Zk)(hk:2<=k)(hs:i6 s)(hne:s≠[])(hl:s.length<100000):
  ZA (LK Zq fs Zk k) fs Zk (n+1) 179 [.str s,nI .i64 10,nI .i64 64] H=.ret (puV s) H:=by
 obtain⟨H',e,g⟩:=yb E (n:=898) (H:=H) hs hne hl;exact Yh (r:=1) rfl rfl e g (by unfold puV;split<;>rfl) hk
def ZkB:vK Go.Proofs.Tryz.prog (Dg Go.Proofs.Tryz.prog 9) 225 (nI .i64 1) (nI .i64 1)=some true:=by kernel_rfl
def piV(neg:Bool)(u:Nat):AV:=if neg then(if u<=9223372036854775808 then .tup [.int .i64 (-(u:Int)),.nili] else .tup [.int .i64 (.negSucc 9223372036854775807),ny 1]) else(if u<9223372036854775808 then .tup [nI .i64 u,.nili] else .tup [nI .i64 9223372036854775807,ny 1])
def Zqa(u:Nat)(h:0<u):AV.int .i64 (.negSucc (u - 1))=AV.int .i64 (-(u:Int)):=by congr 1;omega
def z9(E:Env Zq fs Zk){neg:Bool}(hs:i6 s)(hne:s≠[])(hl:s.length<100000):
  ∃H',ZA (LK Zq fs Zk 2) fs Zk (n+2) 164 [.str (if neg then 45::s else s),nI .i64 10,nI .i64 64] H=.ret (piV neg (Uk s)) H'∧Zu H H' []:=by
 rw[Z5 E.f164 (.inl (by decide))];have hp:0<s.length:=Ws.2 hne;obtain⟨g1,g2⟩:=hs 0 hp;have m1:(1*2^63) % 18446744073709551616=9223372036854775808:=rfl;have ep:=λ{j}=>dm E (k:=2) (n:=j) (by decide) (H:=H) hs hne hl;unfold puV ny at ep;cases neg with
 |false=>
  have e0:(if (false:Bool)=true then(45::s:Zd) else s)=s:=rfl;have d0:decide (s=[])=false:=Zc hne;have d1:decide ((s.getD 0 0).toNat=43)=false:=Zc (by omega);have d2:decide ((s.getD 0 0).toNat=45)=false:=Zc (by omega);unfold piV ny;rw[e0,if_neg (by simp)]
  by_cases h1:Uk s<18446744073709551616
  ·rw[if_pos h1] at ep
   by_cases h2:Uk s<9223372036854775808
   ·have d3:decide (9223372036854775808<=Uk s)=false:=Zc (by omega)
    rw[if_pos h2];simp(disch:=omega) only[d0,d1,d2,d3,m1,ep,Yr,YQ,X7,Wz,T4,RX,V1,Nat.reduceSub,Nat.reducePow,Nat.reduceMul,zP,ZG,Yj,Zz,Yc,Nat.reducePow,reduceCtorEq,Yg,UH,KA];exact⟨_,rfl,Zu.refl _ _⟩
   ·have d3:decide (9223372036854775808<=Uk s)=true:=Zi (by omega)
    rw[if_neg h2];simp(disch:=omega) only[d0,d1,d2,d3,m1,ep,Yr,YQ,X7,Wz,T4,RX,p9,V1,Nat.reduceSub,Nat.reducePow,Nat.reduceMul,zP,ZG,Yj,Zz,Yc,Nat.reducePow,reduceCtorEq,Yg,UH];exact⟨_,rfl,Zu.refl _ _⟩
  ·rw[if_neg h1] at ep
   rw[if_neg (by omega)];simp(disch:=omega) only[d0,d1,d2,m1,ep,Nat.reduceLeDiff,ZkB,Yr,YQ,X7,Wz,T4,RX,p9,V1,Nat.reduceSub,Nat.reducePow,Nat.reduceMul,zP,ZG,Yj,Zz,Yc,Nat.reducePow,reduceCtorEq,Yg,UH];exact⟨_,rfl,Zu.refl _ _⟩
 |true=>
  have e0:(if (true:Bool)=true then(45::s:Zd) else s)=45::s:=rfl;have d1:UInt8.toNat 45=45:=rfl;have d2:(45::s:Zd).drop 1=s:=rfl;have d5:1<=(45::s:Zd).length:=by simp
  unfold piV ny;rw[e0,if_pos rfl]
  by_cases h1:Uk s<18446744073709551616
  ·rw[if_pos h1] at ep
   by_cases h2:Uk s<=9223372036854775808
   ·have d3:decide (9223372036854775808<Uk s)=false:=Zc (by omega)
    rw[if_pos h2]
    by_cases h3:Uk s=0
    ·rw[h3] at ep d3 ⊢
     simp(disch:=omega) only[d1,d2,d3,m1,ep,Yn,YQ,X7,Vy,Wz,T4,RX,V1,Fm,Nat.reduceEqDiff,Nat.reduceSub,Nat.reducePow,Nat.reduceMul,zP,ZG,Yj,Zz,Yc,Nat.reducePow,Nat.reduceEqDiff,reduceCtorEq,Yg,UH,KA];exact⟨_,rfl,Zu.refl _ _⟩
    ·rw[<-Zqa _ (by omega)]
     by_cases h4:Uk s=9223372036854775808
     ·rw[h4] at ep d3 ⊢
      simp(disch:=omega) only[d1,d2,d3,m1,ep,Yn,YQ,X7,Vy,Wz,T4,RX,xo,xB,Nat.reduceEqDiff,Nat.reduceSub,Nat.reducePow,Nat.reduceMul,zP,ZG,Yj,Zz,Yc,Nat.reducePow,Nat.reduceEqDiff,reduceCtorEq,Yg,UH,KA];exact⟨_,rfl,Zu.refl _ _⟩
     ·simp(disch:=omega) only[d1,d2,d3,m1,ep,Yn,YQ,X7,Vy,Wz,T4,RX,V1,qv,Nat.reduceEqDiff,Nat.reduceSub,Nat.reducePow,Nat.reduceMul,zP,ZG,Yj,Zz,Yc,Nat.reducePow,Nat.reduceEqDiff,reduceCtorEq,Yg,UH,KA]
      exact⟨_,rfl,Zu.refl _ _⟩
   ·have d3:decide (9223372036854775808<Uk s)=true:=Zi (by omega)
    rw[if_neg h2];simp(disch:=omega) only[d1,d2,d3,m1,ep,Yn,YQ,X7,Vy,Wz,T4,RX,xo,xB,Nat.reduceEqDiff,Nat.reduceSub,Nat.reducePow,Nat.reduceMul,zP,ZG,Yj,Zz,Yc,Nat.reducePow,Nat.reduceEqDiff,reduceCtorEq,Yg,UH,KA];exact⟨_,rfl,Zu.refl _ _⟩
  ·rw[if_neg h1] at ep
   rw[if_neg (by omega)];simp(disch:=omega) only[d1,d2,m1,ep,ZkB,Yn,YQ,X7,Vy,Wz,T4,RX,Nat.reduceEqDiff,Nat.reduceSub,Nat.reducePow,Nat.reduceMul,zP,ZG,Yj,Zz,Yc,Nat.reducePow,Nat.reduceEqDiff,reduceCtorEq,Yg,UH];exact⟨_,rfl,Zu.refl _ _⟩
def dj(E:Env Zq fs Zk)(hk:3<=k){neg:Bool}(hs:i6 s)(hne:s≠[])(hl:s.length<100000):
  ZA (LK Zq fs Zk k) fs Zk (n+1) 164 [.str (if neg then 45::s else s),nI .i64 10,nI .i64 64] H=.ret (piV neg (Uk s)) H:=by
 obtain⟨H',e,g⟩:=z9 E (n:=898) (H:=H) hs hne hl;exact Yh (r:=2) rfl rfl e g (by unfold piV;split<;>split<;>rfl) hk
theorem wn: ∀(ws:List NP) (j:Nat),j<ws.length->(TN ws).flatten.getD (j*2) .unk=.str (ws.getD j ([],[])).1∧(TN ws).flatten.getD (j*2+1) .unk=.str (ws.getD j ([],[])).2
 |[],j,h=>by cases h
 |p::ws,0,_=>⟨rfl,rfl⟩
 |p::ws,j+1,h=>by
  have:=wn ws j (by simpa using h);rw[show(j+1)*2=j*2+1+1 by omega];exact this
theorem pc{r:Row}: ∀(ws:List NP) (o:Nat),(∀j,j<ws.length->r.get (o+j*2)=.str (ws.getD j ([],[])).1∧r.get (o+j*2+1)=.str (ws.getD j ([],[])).2)->A0 r o ws.length=some ws
 |[],o,_=>rfl
 |p::ws,o,h=>by
  have h0:=h 0 (by simp);have ih:=pc ws (o+2) (λj hj=>by
   have:=h (j+1) (by simpa using hj)
   rw[show o+(j+1)*2=o+2+j*2 by omega] at this
   exact this)
  show(match r.get o,r.get (o+1),A0 r (o+2) ws.length with|.str a,.str b,some l=>some ((a,b)::l)|_,_,_=>none)=_;rw[ih,show r.get o=.str p.1 by simpa using h0.1,show r.get (o+1)=.str p.2 by simpa using h0.2]
def WT(H:Heap)(wv:AV)(ws:List NP)(lo:Nat):Prop:=TZ H wv 73 2 (TN ws) lo∧ws.length<=1000
def WT.keep{H H':Heap}{wv:AV}{ws:List NP}{lo:Nat}{S:List Nat}(h:WT H wv ws lo)(k:Zu H H' S)(hS: ∀x∈S,x<lo):WT H' wv ws lo:=
 ⟨h.1.below (λc h1 h2=>k.get c h2 (λhm=>by have:=hS c hm;omega)) k.ro k.nx,h.2⟩
def WT.rec{wv:AV}{ws:List NP}{lo:Nat}(h:WT H wv ws lo):EO H wv=some ws:=by
 obtain⟨h,hl⟩:=h;rcases h with⟨h1,rfl⟩|⟨_,b,r,rfl,h2,_⟩
 ·have:ws=[]:=List.map_eq_nil_iff.1 h1
  subst this;rfl
 ·have hsz:=h2.size
  rw[Vm] at hsz ⊢;show(match H.t.get b with|some (.row r)=>cond (Nat.ble (0+ws.length*2) r.size) (cond (Nat.ble (ws.length*32) 140737488351232) (A0 r 0 ws.length) none) none|_=>none)=_;rw[h2.at_];show cond (Nat.ble (0+ws.length*2) r.size) _ _=_;rw[Zj (by omega),Zj (by omega)];refine pc ws 0 λj hj=>?_;have hfl:=h2.cells.size;obtain⟨a1,a2⟩:=wn ws j hj;rw[Zl,h2.cells.get _ (by omega),h2.cells.get _ (by omega)];exact⟨a1,a2⟩
def WT.nil(H:Heap)(lo:Nat):WT H .nils [] lo:=⟨.inl ⟨rfl,rfl⟩,ZN _⟩
def M7(E:Env Zq fs Zk){wv:AV}{ws:List NP}{lo:Nat}(h:WT H wv ws lo)(key:Zd):
  ZA (LK Zq fs Zk k) fs Zk (n+1) 113 [wv,.str key] H=.ret (.tup [.str (Proofs.lastR ws key).1,.bool (Proofs.lastR ws key).2]) H:=
 Qh (fs:=fs) (Zk:=Zk) (k:=k) (n:=n) (Ta:=Ta) (Se:=Se) (f:=113) rfl (E.la H wv key ws h.rec)
def bN(m:Nat):i6 (dec m):=λi hi=>by
 have:(dec m).getD i 0∈dec m:=by rw[Ze,Zm hi];exact XD hi
 exact yD this
def aF(z:Int):QC z=(if decide (z<0)=true then 45::dec z.natAbs else dec z.natAbs):=by
 cases z with
 |ofNat m=>rw[GR,if_neg (by simp)];rfl
 |negSucc m=>rw[BG,if_pos (Zi (Int.negSucc_lt_zero m))];rfl
def ZeU{z:Int}(h1: -9223372036854775808<=z)(h2:z<=9223372036854775807):piV (decide (z<0)) (Uk (dec z.natAbs))=.tup [.int .i64 z,.nili]:=by
 rw[vm];unfold piV
 by_cases h:z<0
 ·rw[Zi h,if_pos rfl,if_pos (by omega)]
  congr 3
  omega
 ·rw[Zc h,if_neg (by simp),if_pos (by omega)]
  unfold nI;have:(Int.ofNat z.natAbs)=z:=by show((z.natAbs:Nat):Int)=z;omega
  rw[this]
def lE(E:Env Zq fs Zk){z:Int}(h1: -9223372036854775808<=z)(h2:z<=9223372036854775807):
  ∃H',ZA (LK Zq fs Zk 3) fs Zk (n+2) 139 [.str (QC z),nI .i64 10,nI .i64 64] H=.ret (.tup [.int .i64 z,.nili]) H'∧Zu H H' []:=by
 rw[Z5 E.f139 (.inl (by decide))];have hl:=TI (n:=z.natAbs) (k:=20) (by decide) (by omega);have hp:=SV z.natAbs;have ep:=λ{j}=>dj E (k:=3) (n:=j) (by decide) (neg:=decide (z<0)) (s:=dec z.natAbs) (H:=H) (bN _) (λh=>by have:=congrArg List.length h;rw[SE] at this;simp at this;omega) (by rw[SE];omega);rw[ZeU h1 h2,<-aF] at ep;have en: ∀G,NL (zS true (vK Go.Proofs.Tryz.prog (Dg Go.Proofs.Tryz.prog 9))) true .nili .nili G=.val (.bool false) G:=λG=>rfl;simp only[ep,en,Zhk,ZG,Yj,Zz,Yg];refine⟨_,rfl,?_⟩;exact Zu.refl _ _
def Zjt(E:Env Zq fs Zk)(hk:4<=k){z:Int}(h1: -9223372036854775808<=z)(h2:z<=9223372036854775807):
  ZA (LK Zq fs Zk k) fs Zk (n+1) 139 [.str (QC z),nI .i64 10,nI .i64 64] H=.ret (.tup [.int .i64 z,.nili]) H:=by
 obtain⟨H',e,g⟩:=lE E (n:=898) (H:=H) h1 h2;exact Yh (r:=3) rfl rfl e g (rfl) hk
def ZbI(E:Env Zq fs Zk){z:Int}(g:Qw H)(hro:H.ro<=H.nx)(h1: -9223372036854775808<=z)(h2:z<=9223372036854775807):
  ∃H',ZA (LK Zq fs Zk 5) fs Zk (n+3) 114 [.str (QC z)] H=.ret (.tup [.int .i64 z,.bool true]) H'∧Zu H H' []:=by
 rw[Z5 E.f114 (.inl (by decide))];have e1:=λ{j}=>Zjt E (k:=5) (n:=j) (by decide) (z:=z) (H:=H) h1 h2;have e2:=λ{j}=>ZlU E (k:=5) (n:=j) (by decide) (z:=z) (H:=H) g hro h1 h2;have en: ∀G,NL (zS true (vK Go.Proofs.Tryz.prog (Dg Go.Proofs.Tryz.prog 9))) true .nili .nili G=.val (.bool false) G:=λG=>rfl;simp only[e1,e2,en,VL,decide_true,Zg7,ZG,Yj,Zz,Yc,Yg];refine⟨_,rfl,?_⟩;exact Zu.refl _ _
def Zqj(E:Env Zq fs Zk)(hk:6<=k){z:Int}(g:Qw H)(hro:H.ro<=H.nx)(h1: -9223372036854775808<=z)(h2:z<=9223372036854775807):
  ZA (LK Zq fs Zk k) fs Zk (n+1) 114 [.str (QC z)] H=.ret (.tup [.int .i64 z,.bool true]) H:=by
 obtain⟨H',e,g⟩:=ZbI E (n:=897) (H:=H) g hro h1 h2;exact Yh (r:=5) rfl rfl e g (rfl) hk
def ZiO(E:Env Zq fs Zk)(hk:6<=k){q lo:Nat}{l key:Zd}{wt:Bool}{wv ov:AV}{sp:Prop}{ws:List NP}{z:Int}(gG:Qw H)(g:Lm sp H q l wt wv ov)(hw:WT H wv ws lo)(hl:Proofs.lastR ws key=(QC z,true))(z1: -9223372036854775808<=z)(z2:z<=9223372036854775807):
  ZA (LK Zq fs Zk k) fs Zk (n+2) 84 [.ptr q 0,.ptr b 0,.str key] H=.ret (.int .i64 z) H:=by
 rw[Z5 E.f84 (.inr rfl)];obtain⟨⟨bv,h1,hb⟩,h4,h5,hlt,hro⟩:=g;have l1: ∀G,ld1 (some (rH 69 [bv,wv,.bool wt,ov])) 1 G=.val wv G:=λG=>XQ (show 1<4 by decide) ..;have el:=λ{j}=>M7 E (k:=k) (n:=j) hw key;rw[hl] at el;have en:=λ{j}=>Zqj E (k:=k) (n:=j) hk (z:=z) (H:=H) gG (by omega) z1 z2;have ew:=UL E (k:=k) (n:=n) (H:=H) (e:=5);simp only[h1,l1,el,en,ew,XA,XR,Zl,Zl,Zl,c84,ZG,Yj,Zz,Yg]
def ZiN(E:Env Zq fs Zk){H H':Heap}{q lo:Nat}{l key:Zd}{wt:Bool}{wv ov v:AV}{sp:Prop}{ws:List NP}(g:Lm sp H q l wt wv ov)(hw:WT H wv ws lo)(hl:Proofs.lastR ws key=([],false))
  (ht:ZA (LK Zq fs Zk k) fs Zk (n+1) 80 [.ptr b 0,.str key] H=.ret v H'):
  ZA (LK Zq fs Zk k) fs Zk (n+2) 84 [.ptr q 0,.ptr b 0,.str key] H=.ret v H':=by
 rw[Z5 E.f84 (.inr rfl)];obtain⟨⟨bv,h1,hb⟩,h4,h5,hlt,hro⟩:=g;have l1: ∀G,ld1 (some (rH 69 [bv,wv,.bool wt,ov])) 1 G=.val wv G:=λG=>XQ (show 1<4 by decide) ..;have el:=λ{j}=>M7 E (k:=k) (n:=j) hw key;rw[hl] at el;simp only[h1,l1,el,ht,XA,XR,Zl,Zl,Zl,c84,ZG,Yj,Zz,Yg]
def vZ(E:Env Zq fs Zk){H H':Heap}{q u:Nat}{key:Zd}(ho:ZA (LK Zq fs Zk k) fs Zk (n+2) 84 [.ptr q 0,.ptr b 0,.str key] H=.ret (nI .i64 u) H')(hu:u<4294967296):
  ZA (LK Zq fs Zk k) fs Zk (n+3) 83 [.ptr q 0,.ptr b 0,.str key] H=.ret (nI .u32 u) H':=by
 rw[Z5 E.f83 (.inr rfl)];have ew:=UL E (k:=k) (n:=n+1) (H:=H') (e:=5);have d2:decide (u<4294967296)=true:=Zi hu;have iu: ∀G,O1 .u32 (nI .i64 u) G=.val (nI .u32 u) G:=λG=>SS hu G;simp only[ho,ew,d2,iu,Yr,ZE,ZN,decide_true,ZE,Yr,c83,ZG,Yj,Zz,Yg]
def Gi(s:Zd):Zd:=(cutX 0 s).1
def aJ(E:Env Zq fs Zk){v:AV}(h:BV H v s)(hs:s.length<=100000000):
  ∃H',ZA (LK Zq fs Zk 5) fs Zk (n+2) 115 [v] H=.ret (.str (Gi s)) H'∧Zu H H' []:=by
 rw[Z5 E.f115 (.inl (by decide))];have es:=Gx h;have ec: ∀{j:Nat},ZA (LK Zq fs Zk 5) fs Zk (j+1) 137 [.str s,.str [0]] H=.ret (.tup [.str (cutX 0 s).1,.str (cutX 0 s).2.1,.bool (cutX 0 s).2.2]) H:=λ{j}=>Zmb E (k:=5) (n:=j) (by decide) (s:=s) (x:=0) (H:=H) hs;unfold Gi;simp only[es,ec,RU,Zg8,ZG,Yj,Zz,Yg];refine⟨_,rfl,?_⟩;exact Zu.refl _ _
def ZkG(E:Env Zq fs Zk)(hk:6<=k){v:AV}(h:BV H v s)(hs:s.length<=100000000):
  ZA (LK Zq fs Zk k) fs Zk (n+1) 115 [v] H=.ret (.str (Gi s)) H:=by
 obtain⟨H',e,g⟩:=aJ E (n:=898) (H:=H) h hs;exact Yh (r:=5) rfl rfl e g (rfl) hk
def oo(E:Env Zq fs Zk){q lo:Nat}{l key nm:Zd}{wt:Bool}{wv ov:AV}{sp:Prop}{ws:List NP}(g:Lm sp H q l wt wv ov)(hw:WT H wv ws lo)(hl:Proofs.lastR ws key=(s,true)):
  ZA (LK Zq fs Zk k) fs Zk (n+2) 87 [.ptr q 0,.ptr b 0,.str key,.str nm] H=.ret (.str s) H:=by
 rw[Z5 E.f87 (.inr rfl)];obtain⟨⟨bv,h1,hb⟩,h4,h5,hlt,hro⟩:=g;have l1: ∀G,ld1 (some (rH 69 [bv,wv,.bool wt,ov])) 1 G=.val wv G:=λG=>XQ (show 1<4 by decide) ..;have el:=λ{j}=>M7 E (k:=k) (n:=j) hw key;rw[hl] at el;simp only[h1,l1,el,XA,XR,Zl,Zl,Zl,c87,ZG,Yj,Zz,Yg]
def om(E:Env Zq fs Zk)(hk:6<=k){q lo a m:Nat}{l B key nm:Zd}{wt:Bool}{wv ov:AV}{sp:Prop}{ws:List NP}(gH:V8 H)(g:Lm sp H q l wt wv ov)(hw:WT H wv ws lo)(hl:Proofs.lastR ws key=([],false))(F:CQ nm a m)(hB:HR H b B)(hm:m<=1000):
  ∃H',ZA (LK Zq fs Zk k) fs Zk (n+4) 87 [.ptr q 0,.ptr b 0,.str key,.str nm] H=.ret (.str (Gi ((B.drop a).take m))) H'∧Zu H H' []:=by
 rw[Z5 E.f87 (.inr rfl)];obtain⟨⟨bv,h1,hb⟩,h4,h5,hlt,hro⟩:=g;have l1: ∀G,ld1 (some (rH 69 [bv,wv,.bool wt,ov])) 1 G=.val wv G:=λG=>XQ (show 1<4 by decide) ..;have el:=λ{j}=>M7 E (k:=k) (n:=j) hw key;rw[hl] at el;obtain⟨v,H1,e1,yp,k1,far⟩:=PN E (k:=k) (n:=n) gH F hB;have e2:=ZkG E (k:=k) (n:=n+2) hk yp (by rw[Zy];omega);simp only[h1,l1,el,e1,e2,XA,XR,Zo,Zl,Zl,Zo,Zl,Zo,c87,ZG,Yj,Zz,Yg,UH];refine⟨_,rfl,?_⟩;exact k1
def kEs:List Ss:=[⟨nI .u8 0,nI .i64 2,0⟩,⟨nI .u8 48,nI .i64 2,0⟩,⟨nI .u8 50,nI .i64 3,0⟩,⟨nI .u8 53,nI .i64 1,0⟩,⟨nI .u8 54,nI .i64 4,0⟩]
structure Ms(H:Heap):Prop where
 gH:V8 H
 r: ∃r,H.t.get 2=some (.row r)∧0<r.size∧r.get 0=.map 14
 m:H.t.get 14=some (.cmap kEs)
def Ms.keep{H H':Heap}{S:List Nat}(g:Ms H)(k:Zu H H' S)(hS: ∀x∈S,100<=x):Ms H':=by
 obtain⟨a,⟨r,c1,c2,c3⟩,d⟩:=g;have kk:=λx (hx:x<100)=>k.get x (by have:=a.p.nx;omega) (λh=>by have:=hS x h;omega);exact⟨a.keep k hS,⟨r,by rw[kk _ (by decide)];exact c1,c2,c3⟩,by rw[kk _ (by decide)];exact d⟩
def Ms.keep0{H H':Heap}(g:Ms H)(k:Zu H H' []):Ms H':=g.keep k (by simp)
structure XBk(B:Zd)(r:Nat):Prop where
 len:B.length=512
 nz: ∃j,j<512∧(B.getD j 0).toNat≠0
 chk: ∃N rest,(B.drop 148).take 8=Qn 6 N++0::rest∧N<262144∧gI B N=0
 ty:(B.drop 156).take 1=[120]
 sz: ∃rest,(B.drop 124).take 12=Qn 11 r++0::rest
def ZhQ(E:Env Zq fs Zk){K:Nat}(hK:6<=K){q:Nat}{B l:Zd}{Rs:List NP}{wv ov:AV}{sp:Prop}(gH:V8 H)(g:Lm sp H q l false wv ov)(hq:100<=q)(hB:HR H b B)(hX:XBk B (VO Rs).length)(htk:l.take (VO Rs).length=VO Rs)(h1:(VO Rs).length<=16777216)(hl:(VO Rs).length+VC (VO Rs).length<l.length∨((VO Rs).length+VC (VO Rs).length<=l.length∧sp))(hl2:l.length<=1000000000)(hR: ∀x∈Rs,MT x)(hN:Rs.length<=1000):
  ∃w H',ZA (LK Zq fs Zk K) fs Zk (n+6) 56 [.ptr q 0,.ptr b 0] H=.ret (.tup []) H'∧Zu H H' [q]∧Lm sp H' q (l.drop ((VO Rs).length+VC (VO Rs).length)) true w ov∧WT H' w Rs (q+1):=by
 rw[Z5 E.f56 (.inr rfl)];obtain⟨rest,hs⟩:=hX.sz;obtain⟨H1,e1,k1⟩:=JE E (K:=K) (n:=n) (k:=11) (u:=(VO Rs).length) gH hB BA hs (by decide) (by decide) (by omega) (by decide);have e2:=iP E (K:=K) (n:=n+3) (H:=H1) h1;have g1:=g.keep k1;obtain⟨⟨bv,r1,_⟩,wc,oc,qlt,qro⟩:=id g1;have ld2: ∀G,ld1 (some (rH 69 [bv,wv,.bool false,ov])) 2 G=.val (.bool false) G:=λG=>XQ (show 2<4 by decide) ..;have w1:=λ{H:Heap}=>UL E (k:=K) (n:=n+4) (H:=H) (e:=5);obtain⟨v,H2,e3,k2,Kc,g2,hb2⟩:=tT E (k:=K) (n:=n+3) (by omega) g1 h1 hl hl2;rw[htk] at Kc;obtain⟨⟨vG,r2,hbb⟩,_,_,ZlZ,Zqm⟩:=id g2;obtain⟨w,H3,e4,k3,rb⟩:=ZbF E (K:=K) (n:=n+1) hK (H:=H2) (v:=v) (Rs:=Rs) (by omega) Kc (λb hb=>by have:=hb2 b hb;omega) hR hN h1;obtain⟨lw,sw,cw,bw⟩:=Wb rb;have r3:H3.t.get q=some (rH 69 [vG,wv,.bool false,ov]):=by rw[k3.get q ZlZ (by simp)];exact r2
 have k03:Zu H H3 [q]:=(k1.more.trans k2 (λc hc _=>hc)).trans k3.more (λc hc _=>hc);obtain⟨H4,MR⟩:=TO (H3.put q (rH 69 [vG,w,.bool false,ov]));obtain⟨H5,hH5⟩:=TO (H4.put q (rH 69 [vG,w,.bool true,ov]));have ro3:H3.ro<=q:=by rw[k3.ro];exact Zqm
 have s1:F3 1 (some (rH 69 [vG,wv,.bool false,ov])) q 1 w H3=.val Y9 H4:=by
  rw[Te cw (show 1<4 by decide) ro3 (ZN _),<-MR];rfl
 have g4:H4.t.get q=some (rH 69 [vG,w,.bool false,ov]):=by rw[<-MR];exact Yp _ _ _
 have s2:F3 1 (some (rH 69 [vG,w,.bool false,ov])) q 2 (.bool true) H4=.val Y9 H5:=by
  rw[Te rfl (show 2<4 by decide) (by rw[<-MR];exact ro3) (ZN _),<-hH5];rfl
 have fO:Zu H3 H5 [q]:=by rw[<-hH5,<-MR];exact(Zu.put λ_=>Zn.2 rfl).then_put λ_=>Zn.2 rfl
 have k9: ∀x∈[q],q<=x:=λx hx=>by rw[Zn.1 hx];exact Zs _
 simp only[e1,e2,r1,ld2,w1,e3,e4,r3,s1,g4,s2,XA,XR,YQ,decide_true,Zl,Zl,Zl,c56,ZG,Yj,Zz,Yc,Yg,UH];refine⟨w,_,rfl,k03.trans fO (λc hc _=>hc),⟨⟨vG,by rw[<-hH5];exact Yp _ _ _,(hbb.keep k3 (by simp)).keep fO k9⟩,cw,oc,ZK ZlZ (Yb k3.nx fO.nx),by rw[fO.ro];exact ro3⟩,?_⟩;have wt:WT H3 w Rs (q+1):=by
  refine⟨?_,hN⟩;rcases rb with h|⟨a1,b,r,a2,a3,a4⟩
  ·exact .inl h
  ·exact .inr ⟨a1,b,r,a2,a3,by omega⟩
 exact wt.keep fO (λx hx=>by rw[Zn.1 hx];exact ZU _)
def ZhP(E:Env Zq fs Zk){K:Nat}(hK:6<=K){q r:Nat}{B l:Zd}{wv ov:AV}{sp:Prop}(gH:V8 H)(g:Lm sp H q l false wv ov)(hB:HR H b B)(hX:XBk B r)(h1:r<=16777216)(hl:l.length<r+VC r):
  ∃H',ZA (LK Zq fs Zk K) fs Zk (n+6) 56 [.ptr q 0,.ptr b 0] H=.pan (eP 4) H'∧Zu H H' []:=by
 rw[Z5 E.f56 (.inr rfl)];obtain⟨rest,hs⟩:=hX.sz;obtain⟨H1,e1,k1⟩:=JE E (K:=K) (n:=n) (k:=11) (u:=r) gH hB BA hs (by decide) (by decide) (by omega) (by decide);have e2:=iP E (K:=K) (n:=n+3) (H:=H1) h1;have g1:=g.keep k1;obtain⟨⟨bv,r1,_⟩,wc,oc,qlt,qro⟩:=id g1;have ld2: ∀G,ld1 (some (rH 69 [bv,wv,.bool false,ov])) 2 G=.val (.bool false) G:=λG=>XQ (show 2<4 by decide) ..;have w1:=λ{H:Heap}=>UL E (k:=K) (n:=n+4) (H:=H) (e:=5);have e3:=tS E (k:=K) (n:=n+3) (by omega) g1 h1 hl;simp only[e1,e2,r1,ld2,w1,e3,XA,XR,Zl,Zl,Zl,c56,ZG,Yj,Zz,Yc,Yg];refine⟨_,rfl,?_⟩;exact k1
end
end
end Go.AI
