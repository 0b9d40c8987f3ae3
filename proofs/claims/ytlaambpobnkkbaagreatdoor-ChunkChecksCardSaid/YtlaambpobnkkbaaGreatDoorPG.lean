/- A chunk checked, by the program's code and the document's: walked: proved without conditions but those that each names. -/
import Derived.Test.YtlaambpobnkkbaaGreatDoorPD
import Derived.Test.YtlaambpobnkkbaaGreatDoorPF
import Derived.Test.YtlaambpobnkkbaaGreatDoorP7
import Derived.Test.YtlaambpobnkkbaaGreatDoorProg
set_option maxRecDepth 1000000
set_option maxHeartbeats 0
set_option linter.unusedVariables false
set_option linter.unusedSimpArgs false
namespace Go.AI
open Go
noncomputable section
theorem Zb4{H:Heap}{sz:Nat}{v:AV}{ls:List (List AV)}(h:Sz H sz v ls):(∀G,Iz jV false v .nils G=.val (.bool false) G)∨(v=.nils∧ls=[]):=by
 rcases h with⟨_,rfl⟩|⟨_,⟨e,rfl⟩|⟨b,o,c,rfl,hb,_⟩⟩
 ·exact .inl λ_=>rfl
 ·exact .inr ⟨rfl,e⟩
 ·exact .inl λ_=>rfl
theorem Zag(G:Heap):Iz jV false .nils .nils G=.val (.bool true) G:=rfl
theorem Fu(l:List UInt8):(P8 l).flatten=l.map XP:=by
 induction l with
 |nil=>rfl
 |cons a l ih=>
  show [XP a]++(P8 l).flatten=_
  rw[ih];rfl
theorem Zee{H:Heap}{e:Nat}{l:List UInt8}(h:l≠[])(ex:Bool):BV (H.new (rG e 1 (l.map XP) 0 false true ex)) (.slice H.nx 0 l.length none) l:=by
 refine .inr ⟨h,H.nx,0,none,⟨e,1,YL (l.map XP),T.ofList (l.map XP),.unk,0,false,true,ex⟩,rfl,⟨Yi rfl _,rfl,?_,λi hi=>?_,λk hk=>by cases hk⟩,Yo _⟩
 ·show 0+l.length<=YL (l.map XP)
  rw[Yz,Zp];omega
 ·rw[Zf,rS,Ze,ZZ,Ze,Zk hi];rfl
theorem yK{Zr:Lib}{fs:T CF}{fuel:Nat}(E:Env Zr fs fuel){k n:Nat}{H:Heap}{v:AV}{l:List UInt8}(h:Sz H 1 v (P8 l))(hl:l.length<=90000):
  ∃v' H',ZU (LK Zr fs fuel k) fs fuel (n+1) 5 [v] H=.ret v' H'∧BV H' v' l∧Zw H H' []∧ ∀b o m c,v'=.slice b o m c->H.nx<=b∧b<H'.nx:=by
 rw[Z4 (Z3 E.n5 (.inr rfl) _ _) E.f5]
 rcases Zb4 h with en|⟨rfl,e0⟩
 ·have bs:S9 5 1 0 (List.replicate 0 [nI .u8 0]).flatten [] H=.val (.slice H.nx 0 0 none) (H.new (rG 5 1 [] 0 false true true)):=rfl
  have hk:Zw H (H.new (rG 5 1 [] 0 false true true)) []:=Zw.new _ _ _
  rcases aS (e:=5) (bytes:=1) h (by decide) (by decide) (by rw[TI];omega) with⟨ea,e0⟩|⟨ea,e0⟩
  ·have hz:l=[]:=by
    cases l with
    |nil=>rfl
    |cons a l=>cases e0
   simp only[en,bs,ea,Z9,Wn,ZH,Z9,Wn,ZH,c5,ZI,Yw,ZG,Yt]
   exact⟨_,_,rfl,.inl ⟨hz,.inr ⟨_,_,_,rfl⟩⟩,hk,λb o m c e=>by cases e;exact⟨Zo _,Yo _⟩⟩
  ·rw[Fu,TI] at ea
   have hne:l≠[]:=λe=>e0 (by rw[e];rfl)
   simp only[en,bs,ea,Z9,Wn,ZH,Z9,Wn,ZH,c5,ZI,Yw,ZG,Yt]
   exact⟨_,_,rfl,Zee (H:=H.new (rG 5 1 [] 0 false true true)) hne false,hk.then_new _,λb o m c e=>by cases e;exact⟨Vj _,Yo _⟩⟩
 ·have hz:l=[]:=by
   cases l with
   |nil=>rfl
   |cons a l=>cases e0
  simp only[Zag,c5,ZI,Yw,ZG,Yt]
  exact⟨_,_,rfl,.inl ⟨hz,.inl rfl⟩,Zw.refl _ _,λb o m c e=>by cases e⟩
theorem bH{H:Heap}{v:AV}{l:List UInt8}(h:Sz H 1 v (P8 l)):Zb2 v H=.val (.str l) H:=by
 rcases h with⟨e0,rfl⟩|⟨_,⟨e0,rfl⟩|⟨b,o,c,rfl,hb,h2⟩⟩
 ·have hz:l=[]:=by
   cases l with
   |nil=>rfl
   |cons a l=>cases e0
  subst hz;rfl
 ·have hz:l=[]:=by
   cases l with
   |nil=>rfl
   |cons a l=>cases e0
  subst hz;rfl
 ·rw[TI]
  by_cases h0:l=[]
  ·subst h0;rfl
  ·obtain⟨r,h3,h4,h5⟩:=h2 (λe=>h0 (by
    cases l with
    |nil=>rfl
    |cons a l=>cases e))
   rw[TI,Xr] at h4 h5
   refine bC h3 rfl h4 λi hi=>?_
   rw[h5 i hi,Fu,Ze,ZZ,Ze,Zk hi];rfl
theorem Hj{H:Heap}{v:AV}{l:List UInt8}(h:BV H v l)(hb: ∀b o n c,v=.slice b o n c->b<H.nx):Sz H 1 v (P8 l):=by
 refine .inr ⟨λx hx=>?_,?_⟩
 ·unfold P8 at hx
  obtain⟨a,_,rfl⟩:=YV.1 hx
  rfl
 ·rcases h with⟨rfl,rfl|⟨b,o,c,rfl⟩⟩|⟨hne,b,o,c,r,rfl,hB,hlt⟩
  ·exact .inl ⟨rfl,rfl⟩
  ·exact .inr ⟨b,o,c,rfl,hb _ _ _ _ rfl,λh=>absurd rfl h⟩
  ·refine .inr ⟨b,o,c,by rw[TI],hlt,λ_=>⟨r,hB.at_,by rw[TI,Xr];exact hB.fits,λi hi=>?_⟩⟩
   rw[TI,Xr] at hi
   rw[hB.get i hi,Fu,Ze,Ze,ZZ,Zk hi];rfl
theorem tU{Zr:Lib}{fs:T CF}{fuel:Nat}(E:Env Zr fs fuel){n:Nat}{v w:AV}{l m:List UInt8}{H:Heap}(hv:Sz H 1 v (P8 l))(hw:Sz H 1 w (P8 m)):
  ∃H',ZU (LK Zr fs fuel 0) fs fuel (n+2) 9 [v,w] H=.ret (.bool (decide (l=m))) H'∧Zw H H' []:=by
 rw[Z4 (Z3 E.n9 (.inl (by decide)) _ _) E.f9]
 have e1:=bH hv
 have e2:=bH hw
 simp only[e1,e2,Xc,c9,ZI,Yw,ZG,Yt]
 refine⟨_,rfl,?_⟩
 exact Zw.refl _ _
theorem jk{Zr:Lib}{fs:T CF}{fuel:Nat}(E:Env Zr fs fuel){k n:Nat}(hk:1<=k){v w:AV}{l m:List UInt8}{H:Heap}(hv:Sz H 1 v (P8 l))(hw:Sz H 1 w (P8 m)):
  ZU (LK Zr fs fuel k) fs fuel (n+1) 9 [v,w] H=.ret (.bool (decide (l=m))) H:=by
 obtain⟨H',e,g⟩:=tU E (n:=898) (H:=H) hv hw
 exact YI (r:=0) rfl rfl e g (rfl) hk
theorem aR{Zr:Lib}{fs:T CF}{fuel:Nat}(E:Env Zr fs fuel){n:Nat}{x:UInt8}{H:Heap}:
  ∃H',ZU (LK Zr fs fuel 0) fs fuel (n+2) 14 [XP x] H=.ret (.bool (!decide (x.toNat=0))) H'∧Zw H H' []:=by
 rw[Z4 (Z3 E.n14 (.inl (by decide)) _ _) E.f14]
 have e1: ∀G,Iz Uk true (XP x) (nI .u8 0) G=.val (.bool (!decide (x.toNat=0))) G:=λG=>by
  rw[show XP x=nI .u8 x.toNat from rfl,VQ]
  cases hx:decide (x.toNat=0) with
  |true=>rw[Zb (λh=>h (Zm hx))];rfl
  |false=>rw[Zd (of_decide_eq_false hx)];rfl
 simp only[e1,c14,ZI,Yw,ZG,Yt]
 refine⟨_,rfl,?_⟩
 exact Zw.refl _ _
theorem ck1{Zr:Lib}{fs:T CF}{fuel:Nat}(E:Env Zr fs fuel){k n:Nat}(hk:1<=k){x:UInt8}{H:Heap}:
  ZU (LK Zr fs fuel k) fs fuel (n+1) 14 [XP x] H=.ret (.bool (!decide (x.toNat=0))) H:=by
 obtain⟨H',e,g⟩:=aR E (n:=898) (H:=H)
 exact YI (r:=0) rfl rfl e g (rfl) hk
structure Rd(H:Heap)(v:AV)(l:List UInt8):Prop where
 len: ∀G,Oy v G=.val (nI .i64 l.length) G
 at_: ∀i,i<l.length-> ∃b o r,(∀(k:IntKind) (G:Heap),HY 1 v (nI k i) G=.val (.ptr b o) G)∧b<H.nx∧H.t.get b=some (.row r)∧ ∀G,ld1 (some (.row r)) o G=.val (XP (l.getD i 0)) G
theorem aV{l:List UInt8}{i:Nat}(h:i<l.length):(P8 l).getD i []=[XP (l.getD i 0)]:=by
 unfold P8
 rw[Ze,ZZ,Ze,Zk h];rfl
theorem Rd.of_sz{H:Heap}{v:AV}{l:List UInt8}(h:Sz H 1 v (P8 l)):Rd H v l:=by
 have ln:=h.len
 rw[TI] at ln
 refine⟨ln,λi hi=>?_⟩
 obtain⟨b,o,r,eI,hb,gb,_,eE⟩:=h.at_ (i:=i) (by rw[TI];omega)
 exact⟨b,o,r,eI,hb,gb,λG=>by
  have:=eE 0 G (by decide)
  rw[aV hi] at this;exact this⟩
theorem Rd.of_bv{H:Heap}{v:AV}{l:List UInt8}(h:BV H v l):Rd H v l:=by
 by_cases h0:l=[]
 ·subst h0
  exact⟨h.len,λi hi=>by cases hi⟩
 ·refine Rd.of_sz (Hj h λb o n c e=>?_)
  rcases h with⟨e2,_⟩|⟨_,b',o',c',r',e2,_,hlt⟩
  ·exact absurd e2 h0
  ·rw[e] at e2;cases e2;exact hlt
structure IBI(v:AV)(l:List UInt8)(H0:Heap)(m:Nat)(tm:TM)(H:Heap):Prop where
 heap:H=H0
 t0:Yu tm=v
 t1:XR tm=.func 14 [] []
 t7:XY tm=nI .i64 l.length
 i: ∃i,Xt tm=nI .i64 i∧i+m=l.length∧ ∀j,j<i->(l.getD j 0).toNat=0
def IBQ(l:List UInt8)(H0:Heap)(o:Out)(tm:TM)(H:Heap):Prop:=H=H0∧((o=.ret∧ ∃p,Xu tm=nI .i64 p∧l.any (λc=>!decide (c.toNat=0))=true)∨(o=.exit 0∧l.any (λc=>!decide (c.toNat=0))=false))
theorem ZaC{Zr:Lib}{fs:T CF}{fuel:Nat}(E:Env Zr fs fuel){k n:Nat}(hk:1<=k){v:AV}{l:List UInt8}(hl:l.length<=90000){H0:Heap}(hN:Rd H0 v l)(y f dd q)(X0:X)(m:Nat)(tm:TM)(H:Heap)(hI:IBI v l H0 m tm H):
  ∃o tm' H',Fh ⟨ZU (LK Zr fs fuel k) fs fuel (n+1),y,f,dd,q⟩ tm H X0=.ok o tm' H' X0∧((o=.normal∧ ∃k,k<m∧IBI v l H0 k tm' H')∨(o≠.normal∧IBQ l H0 o tm' H')):=by
 obtain⟨rfl,t0,t1,t7,i,t8,him,hn⟩:=hI
 have t0':=t0;have t1':=t1;have kq:=t7
 simp only[VF] at t0
 simp only[Ov] at t1
 simp only[LN] at t7
 simp only[MI] at t8
 cases m with
 |zero=>
  have d1:decide (i<l.length)=false:=Zb (by omega)
  simp only[t7,t8,d1,Zv,Zv,Fh,ZI,Yw,Yt]
  refine⟨_,_,_,rfl,?_⟩
  exact .inr ⟨by simp,rfl,.inr ⟨rfl,Do λj hj=>by rw[Zd (hn j (by omega))];rfl⟩⟩
 |succ m=>
  have d1:decide (i<l.length)=true:=Zd (by omega)
  have hi:i<l.length:=by omega
  obtain⟨b,o,r,eI,hb,gb,e0⟩:=hN.at_ i hi
  have e1:=λ{j}=>ck1 E (k:=k) (n:=j) hk (H:=H) (x:=l.getD i 0)
  cases hm:decide ((l.getD i 0).toNat=0) with
  |true=>
   rw[hm] at e1
   simp(disch:=omega) only[t0,t1,t7,t8,d1,eI,gb,e0,e1,Zv,YU,XM,ZQ,Yn,YJ,Zv,XM,ZQ,Yn,Fh,ZI,Yw,ZG,Yt]
   refine⟨_,_,_,rfl,.inl ⟨rfl,m,by omega,rfl,t0',t1',kq,i+1,rfl,by omega,λj hj=>?_⟩⟩
   by_cases h:j=i
   ·rw[h];exact Zm hm
   ·exact hn j (by omega)
  |false=>
   rw[hm] at e1
   simp only[t0,t1,t7,t8,d1,eI,gb,e0,e1,Zv,XM,ZQ,Yn,Y7,Zv,XM,ZQ,Yn,Fh,ZI,Yw,ZG,Yt]
   refine⟨_,_,_,rfl,?_⟩
   exact .inr ⟨by simp,rfl,.inl ⟨rfl,i,rfl,KI hi (by rw[hm];rfl)⟩⟩
theorem ZmS{Zr:Lib}{fs:T CF}{fuel:Nat}(E:Env Zr fs fuel){k n:Nat}(hk:1<=k){v:AV}{l:List UInt8}(hl:l.length<=90000){H:Heap}(hN:Rd H v l):
  ∃w,ZU (LK Zr fs fuel k) fs fuel (n+2) 23 [v,.func 14 [] []] H=.ret w H∧((l.any (λc=>!decide (c.toNat=0))=true∧ ∃p,w=nI .i64 p)∨(l.any (λc=>!decide (c.toNat=0))=false∧w=.int .i64 (.negSucc 0))):=by
 rw[Z4 (Z3 E.n23 (.inr rfl) _ _) E.f23]
 have hf:=E.big
 have ln:=hN.len
 simp only[ln,c23,ZI,Yw,Yt]
 generalize hL:XD (Fh _) fuel _ _ _=L
 obtain⟨o,Nb,H2,rfl,_,rfl,z⟩:=YG (P:=λT=>IBI v l H l.length T H) (Q:=IBQ l H)
  (λT hi=>YX (IBI v l H) (IBQ l H) (λm tm H2 h=>ZaC E hk hl hN _ _ _ _ _ m tm H2 h) fuel l.length T H (by omega) hi) hL
  (by exact⟨rfl,rfl,rfl,rfl,0,rfl,by omega,λj hj=>by omega⟩)
 rcases z with⟨rfl,p,t4,e⟩|⟨rfl,e⟩
 ·simp only[Tb] at t4
  simp only[t4,ZI,ZG,Yt]
  refine⟨_,rfl,?_⟩
  exact .inl ⟨e,p,rfl⟩
 ·
  simp only[ZI,Yw,ZG,Yt]
  refine⟨_,rfl,?_⟩
  exact .inr ⟨e,rfl⟩
theorem ZhH{Zr:Lib}{fs:T CF}{fuel:Nat}(E:Env Zr fs fuel){k n:Nat}(hk:1<=k){v:AV}{l:List UInt8}(hl:l.length<=90000){H:Heap}(hN:Rd H v l):
  ZU (LK Zr fs fuel k) fs fuel (n+3) 13 [v,.func 14 [] []] H=.ret (.bool (l.any (λc=>!decide (c.toNat=0)))) H:=by
 rw[Z4 (Z3 E.n13 (.inr rfl) _ _) E.f13]
 obtain⟨w,e1,h⟩:=ZmS E (n:=n) hk hl hN
 rcases h with⟨h,p,rfl⟩|⟨h,rfl⟩
 ·rw[h]
  simp only[e1,Wh,Ym,decide_true,c13,ZI,Yw,ZG,Yt]
 ·rw[h]
  simp only[e1,xz,xz,c13,ZI,Yw,ZG,Yt]
def QJ(n:Nat):Nat:=(512 - n % 512) % 512
theorem ZbL{n:Nat}(h0:0<n)(h:n<=16777216)(H:Heap):Hi TZ (.int .i64 (.negSucc (n - 1))) (nI .i64 511) H=.val (nI .i64 (QJ n)) H:=by
 show ZP (Nl .i64 .i64) (TU .i64 (.ofNat (TZ (R4 .i64) (T1 (R4 .i64) (.negSucc (n - 1))) (T1 (R4 .i64) (.ofNat 511)))) H)=_
 have hx:TZ (R4 .i64) (T1 (R4 .i64) (.negSucc (n - 1))) (T1 (R4 .i64) (.ofNat 511))=QJ n:=by
  show Nat.land (18446744073709551616 - 1 - (n - 1) % 18446744073709551616) 511=_
  rw[Yx (by omega)]
  have:=Nat.and_two_pow_sub_one_eq_mod (18446744073709551616 - 1 - (n - 1)) 9
  have e:Nat.land (18446744073709551616 - 1 - (n - 1)) 511=(18446744073709551616 - 1 - (n - 1)) % 512:=this
  rw[e]
  unfold QJ
  omega
 have hl:QJ n<512:=Vy _ (by decide)
 rw[X3,Wy,hx]
 show OR.val (.int .i64 (IntKind.wrap .i64 ((QJ n:Nat):Int))) H=_
 rw[yA (by omega) (by omega)];rfl
theorem eP(H:Heap):Hi TZ (nI .i64 0) (nI .i64 511) H=.val (nI .i64 0) H:=rfl
theorem bM{Zr:Lib}{fs:T CF}{fuel:Nat}(E:Env Zr fs fuel){n:Nat}{m:Nat}{H:Heap}(hm:m<=16777216):
  ∃H',ZU (LK Zr fs fuel 0) fs fuel (n+2) 12 [nI .i64 m] H=.ret (nI .i64 (QJ m)) H'∧Zw H H' []:=by
 rw[Z4 (Z3 E.n12 (.inl (by decide)) _ _) E.f12]
 by_cases h0:m=0
 ·subst h0
  have d1:decide (0<0)=false:=rfl
  rw[show QJ 0=0 from rfl]
  simp only[xA,eP,Gk,OB,Zv,XT,decide_false,Zv,c12,ZI,Yw,ZG,Yt]
  refine⟨_,rfl,?_⟩
  exact Zw.refl _ _
 ·have d1:decide (m<0)=false:=Zb (by omega)
  have e1:=λG=>fS (u:=m) (by omega) (by omega) G
  have e2:=λG=>ZbL (n:=m) (by omega) hm G
  simp only[d1,e1,e2,Gk,OB,Zv,Zv,c12,ZI,Yw,ZG,Yt]
  refine⟨_,rfl,?_⟩
  exact Zw.refl _ _
theorem ZnI{Zr:Lib}{fs:T CF}{fuel:Nat}(E:Env Zr fs fuel){k n:Nat}(hk:1<=k){m:Nat}{H:Heap}(hm:m<=16777216):
  ZU (LK Zr fs fuel k) fs fuel (n+1) 12 [nI .i64 m] H=.ret (nI .i64 (QJ m)) H:=by
 obtain⟨H',e,g⟩:=bM E (n:=898) (H:=H) hm
 exact YI (r:=0) rfl rfl e g (rfl) hk
structure PZI(a:Nat)(H0:Heap)(m:Nat)(tm:TM)(H:Heap):Prop where
 heap:H=H0
 t0:Yu tm=nI .i64 a
 i: ∃i,Xx tm=nI .i64 i∧i+m=QJ a
def PZQ(a:Nat)(H0:Heap)(o:Out)(tm:TM)(H:Heap):Prop:=o=.exit 0∧H=H0∧Xx tm=nI .i64 (QJ a)
theorem ZbR{a:Nat}(ha:a<=16777216){H0:Heap}(cx:Ctx)(X0:X)(m:Nat)(tm:TM)(H:Heap)(hI:PZI a H0 m tm H):
  ∃o tm' H',D4 cx tm H X0=.ok o tm' H' X0∧((o=.normal∧ ∃k,k<m∧PZI a H0 k tm' H')∨(o≠.normal∧PZQ a H0 o tm' H')):=by
 obtain⟨rfl,t0,i,t3,him⟩:=hI
 have t0':=t0;have My:=t3
 simp only[VF] at t0
 simp only[UN] at t3
 have hp:QJ a<512:=Vy _ (by decide)
 have e1:=λG=>Zju (a+i) 512 (by decide) G
 cases m with
 |zero=>
  have d1:decide ((a+i) % 512=0)=true:=Zd (by unfold QJ at him;omega)
  have d2:decide (¬(a+i) % 512=0)=false:=Zb (by unfold QJ at him;omega)
  simp(disch:=omega) only[t0,t3,e1,d2,VQ,YU,D4,ZI,Yw,Yt]
  refine⟨_,_,_,rfl,?_⟩
  exact .inr ⟨by simp,rfl,rfl,by rw[show QJ a=i by omega];simp only[UN];exact t3⟩
 |succ m=>
  have d2:decide (¬(a+i) % 512=0)=true:=Zd (by unfold QJ at him;omega)
  simp(disch:=omega) only[t0,t3,e1,d2,VQ,YU,D4,ZI,Yw,Yt]
  refine⟨_,_,_,rfl,?_⟩
  exact .inl ⟨rfl,m,by omega,rfl,t0',i+1,rfl,by omega⟩
theorem dt{Zr:Lib}{fs:T CF}{fuel:Nat}(E:Env Zr fs fuel){n:Nat}{m:Nat}{H:Heap}(hm:m<=16777216):
  ∃H',ZU (LK Zr fs fuel 0) fs fuel (n+2) 17 [nI .i64 m] H=.ret (nI .i64 (QJ m)) H'∧Zw H H' []:=by
 rw[Z4 (Z3 E.n17 (.inl (by decide)) _ _) E.f17]
 have hf:=E.big
 have hp:QJ m<512:=Vy _ (by decide)
 simp only[c17,ZI,Yt]
 generalize hL:XD (D4 _) fuel _ _ _=L
 obtain⟨o,Nb,H1,rfl,_,rfl,rfl,t3⟩:=YG (P:=λT=>PZI m H (QJ m) T H) (Q:=PZQ m H)
  (λT hi=>YX (PZI m H) (PZQ m H) (λk tm H1 h=>ZbR hm _ _ k tm H1 h) fuel (QJ m) T H (by omega) hi) hL
  ⟨rfl,rfl,0,rfl,by omega⟩
 simp only[UN] at t3
 simp only[t3,ZI,Yw,ZG,Yt]
 refine⟨_,rfl,?_⟩
 exact Zw.refl _ _
theorem Zng{Zr:Lib}{fs:T CF}{fuel:Nat}(E:Env Zr fs fuel){k n:Nat}(hk:1<=k){m:Nat}{H:Heap}(hm:m<=16777216):
  ZU (LK Zr fs fuel k) fs fuel (n+1) 17 [nI .i64 m] H=.ret (nI .i64 (QJ m)) H:=by
 obtain⟨H',e,g⟩:=dt E (n:=898) (H:=H) hm
 exact YI (r:=0) rfl rfl e g (rfl) hk
theorem y6(k:IntKind)(a:Int)(b:Nat)(H:Heap):OM SA Wx (.int k a) (nI k b) H=.val (.bool (decide ((b:Int)<=a))) H:=xk k b a H
theorem Px(n:Nat)(l:List AV):Wl n (.agg l)=RJ n l:=rfl
theorem tE: ∃i,Go.Proofs.Tryz.prog.info? 5=some i∧i.size=1:=by
 have h:((Go.Proofs.Tryz.prog.info? 5).map (·.size))=some 1:=by kernel_rfl
 obtain⟨i,h1,h2⟩:=RO.1 h
 exact⟨i,h1,h2⟩
theorem jM{l m:List UInt8}(hl:l.length=32)(hm:m.length=32)(H:Heap):Iz (Ag Go.Proofs.Tryz.prog 10 55) true (.agg (l.map XP)) (.agg (m.map XP)) H=.val (.bool (!decide (l=m))) H:=by
 obtain⟨i,h1,h2⟩:=tE
 have:=AM (d:=8) (P:=Go.Proofs.Tryz.prog) Go.Proofs.Tryz.underlying55 Go.Proofs.Tryz.underlying5 h1 h2 l m hl hm H
 have h3: ∀o:Option Bool,UU o (λb=>So b H)=.val (.bool (decide (l=m))) H->UU o (λb=>So (cond b false true) H)=.val (.bool (!decide (l=m))) H:=by
  intro o h
  cases o with
  |none=>cases h
  |some b=>cases b<;>cases hd:decide (l=m)<;>rw[hd] at h<;>first|rfl|(cases h)
 exact h3 _ this
theorem ur: ∀(l:List I3) (a b:Nat),O9 a l=some b-> ∀x∈l,1<=x.size∧x.size<=65536
 |[],_,_,_,x,hx=>by cases hx
 |y::l,a,b,h,x,hx=>by
  unfold O9 at h
  split at h
  ·rename_i hc
   rcases ZR.1 hx with rfl|hx
   ·exact hc.2
   ·exact ur l _ b h x hx
  ·cases h
def ME(e:V0)(k:Int)(l:List UInt8):Nat:=
 if k<0 then 1 else if (e.chunks.length:Int)<=k then 1 else if P0 [e]=false then 1 else
 if l.length≠(e.chunks.getD k.toNat default).size.toNat+(if k.toNat=e.chunks.length - 1 then QJ e.size.toNat else 0) then 5 else
 if (l.drop (e.chunks.getD k.toNat default).size.toNat).any (λc=>!decide (c.toNat=0))=true then 5 else
 if Sx (l.take (e.chunks.getD k.toNat default).size.toNat)=(e.chunks.getD k.toNat default).sum then 0 else 21
def Oe(e:V0)(k:Int)(l:List UInt8):List UInt8:=if ME e k l=0 then l.take (e.chunks.getD k.toNat default).size.toNat else []
theorem zy{e:V0}(h:P0 [e]=true):0<=e.size∧e.size<=16777216∧ ∀x∈e.chunks,1<=x.size∧x.size<=65536:=by
 rw[C5,Yv] at h
 have h:=h.1
 unfold Vs at h
 simp only[Yv,decide_eq_true_eq] at h
 obtain⟨⟨⟨⟨_,h1⟩,h2⟩,_⟩,h3⟩:=h
 refine⟨h1,h2,?_⟩
 cases hr:O9 0 e.chunks with
 |none=>rw[hr] at h3;cases h3
 |some b=>exact ur _ _ _ hr
theorem jo{e sz:Nat}{zs x:List AV}(h1:1<=sz)(hz:zs.length=sz)(hx:x.length=sz)(G:Heap):S9 e sz 1 zs [(0,sz,.agg x)] G=.val (.slice G.nx 0 1 none) (G.new (rG e sz x 0 false true true)):=by
 rw[D3 h1 (by rw[hz,S2]),AO hx h1 (by omega),Fx]
 rw[CX _ _ _ (by omega),ZJ,ZQ,X8 (by omega),Yn]
 rfl
theorem OD: ∀l:List UInt8,AI.sameL (l.map XP) (l.map XP)=true:=λl=>F0 _ λv hv=>by
 obtain⟨x,_,rfl⟩:=YV.1 hv
 exact Rn .u8 x.toNat
theorem jp{H:Heap}{v:AV}{l:List UInt8}(hv: ∀b o n c,v=.slice b o n c->b<H.nx)(h:BV H v l):Wl H.nx v=true:=by
 rcases h with⟨_,rfl|⟨b,o,c,rfl⟩⟩|⟨_,b,o,c,r,rfl,_,_⟩
 ·rfl
 ·exact TO (hv _ _ _ _ rfl) ..
 ·exact TO (hv _ _ _ _ rfl) ..
theorem LH(l:List UInt8):(Sx l).length=32:=Pv ..
theorem ng{Zr:Lib}{fs:T CF}{fuel:Nat}(E:Env Zr fs fuel){n:Nat}{cs:List AV}{e:V0}{kk:Int}{v:AV}{l:List UInt8}{H:Heap}(hs:Oi e)(gP:PM H)(hE:JR H cs e)(hv:BV H v l)(hvl: ∀b o n c,v=.slice b o n c->b<H.nx)(hl:l.length<=1200)
  (hsum: ∀G v' l',Zw H G []->BV G v' l'->l'.length<=1200->(∀b o n c,v'=.slice b o n c->b<G.nx)->Zr 15 [v'] G=some (.ret (.agg ((Sx l').map XP)) G)):
  ∃w H',ZU (LK Zr fs fuel 15) fs fuel (n+5) 6 [.agg cs,.int .i64 kk,v] H=.ret (.tup [w,nI .i64 (ME e kk l)]) H'∧Zw H H' []∧BV H' w (Oe e kk l)∧(∀b o n c,w=.slice b o n c->b<H'.nx):=by
 rw[Z4 (Z3 E.n6 (.inr rfl) _ _) E.f6]
 have hro:=gP.ro
 have hE':=hE
 obtain⟨av,dv,cv,rfl,hA,hD,hC⟩:=hE
 obtain⟨H1,hH1⟩: ∃G,H.new (rG 31 1 [.str e.mem.path,.int .i64 e.mem.kind,nI .u32 e.mem.mode,nI .u32 e.mem.uid,nI .u32 e.mem.gid,.int .i64 e.mem.time,av,dv,.str e.mem.link,.int .i64 e.size,.int .i64 e.head,cv] 0 false true true)=G:=⟨_,rfl⟩
 have bx: ∀G,Ac 31 (.agg [.str e.mem.path,.int .i64 e.mem.kind,nI .u32 e.mem.mode,nI .u32 e.mem.uid,nI .u32 e.mem.gid,.int .i64 e.mem.time,av,dv,.str e.mem.link,.int .i64 e.size,.int .i64 e.head,cv]) G=.val (.ptr G.nx 0) (G.new (rG 31 1 [.str e.mem.path,.int .i64 e.mem.kind,nI .u32 e.mem.mode,nI .u32 e.mem.uid,nI .u32 e.mem.gid,.int .i64 e.mem.time,av,dv,.str e.mem.link,.int .i64 e.size,.int .i64 e.head,cv] 0 false true true)):=λG=>XU (l:=[.str e.mem.path,.int .i64 e.mem.kind,nI .u32 e.mem.mode,nI .u32 e.mem.uid,nI .u32 e.mem.gid,.int .i64 e.mem.time,av,dv,.str e.mem.link,.int .i64 e.size,.int .i64 e.head,cv]) (show 1<=12 by decide) 31 G
 have k1:Zw H H1 []:=by rw[<-hH1];exact Zw.new _ _ _
 have Lb:H1.nx=H.nx+1:=by rw[<-hH1];rfl
 have g1:H1.t.get H.nx=some (rG 31 1 [.str e.mem.path,.int .i64 e.mem.kind,nI .u32 e.mem.mode,nI .u32 e.mem.uid,nI .u32 e.mem.gid,.int .i64 e.mem.time,av,dv,.str e.mem.link,.int .i64 e.size,.int .i64 e.head,cv] 0 false true true):=by rw[<-hH1];exact Yi rfl _
 have lc:=hC.len
 rw[TG] at lc
 have bnil: ∀G:Heap,BV G .nils []:=λG=>.inl ⟨rfl,.inl rfl⟩
 by_cases h1:kk<((0:Nat):Int)
 ·have d1:decide (kk<((0:Nat):Int))=true:=Zd h1
  have hc:ME e kk l=1:=by unfold ME;rw[if_pos (show kk<0 from h1)]
  have h9:Oe e kk l=[]:=by unfold Oe;rw[hc];rfl
  rw[hc,h9]
  simp only[hH1,bx,d1,Up,c6,ZI,Yw,ZG,Yt,]
  exact⟨_,_,rfl,k1,bnil _,λb o n c h=>by cases h⟩
 have d1:decide (kk<((0:Nat):Int))=false:=Zb h1
 by_cases h2:(e.chunks.length:Int)<=kk
 ·have d2:decide ((e.chunks.length:Int)<=kk)=true:=Zd h2
  have hc:ME e kk l=1:=by unfold ME;rw[if_neg (show ¬kk<0 from h1),if_pos h2]
  have h9:Oe e kk l=[]:=by unfold Oe;rw[hc];rfl
  rw[hc,h9]
  simp(disch:=first|assumption|omega|(simp -implicitDefEqProofs only[Y3,Y4]<;>first|assumption|omega)|decide) only[hH1,g1,bx,lc,d1,d2,Yf,Zf,Zf,Zn,Zq,Up,y6,c6,ZI,Yw,ZG,Yt,]
  exact⟨_,_,rfl,k1,bnil _,λb o n c h=>by cases h⟩
 have d2:decide ((e.chunks.length:Int)<=kk)=false:=Zb h2
 obtain⟨H2,hH2⟩: ∃G,H1.new (rG 31 12 [.str e.mem.path,.int .i64 e.mem.kind,nI .u32 e.mem.mode,nI .u32 e.mem.uid,nI .u32 e.mem.gid,.int .i64 e.mem.time,av,dv,.str e.mem.link,.int .i64 e.size,.int .i64 e.head,cv] 0 false true true)=G:=⟨_,rfl⟩
 have k12:Zw H1 H2 []:=by rw[<-hH2];exact Zw.new _ _ _
 have k2:Zw H H2 []:=k1.trans' k12
 have nx2:H2.nx=H1.nx+1:=by rw[<-hH2];rfl
 have g12:H2.t.get H.nx=some (rG 31 1 [.str e.mem.path,.int .i64 e.mem.kind,nI .u32 e.mem.mode,nI .u32 e.mem.uid,nI .u32 e.mem.gid,.int .i64 e.mem.time,av,dv,.str e.mem.link,.int .i64 e.size,.int .i64 e.head,cv] 0 false true true):=by rw[k12.get _ (by omega) (by simp)];exact g1
 have g2:H2.t.get H1.nx=some (rG 31 12 [.str e.mem.path,.int .i64 e.mem.kind,nI .u32 e.mem.mode,nI .u32 e.mem.uid,nI .u32 e.mem.gid,.int .i64 e.mem.time,av,dv,.str e.mem.link,.int .i64 e.size,.int .i64 e.head,cv] 0 false true true):=by rw[<-hH2];exact Yi rfl _
 have bs:=λ(G:Heap)=>jo (e:=31) (sz:=12) (zs:=[.str [],nI .i64 0,nI .u32 0,nI .u32 0,nI .u32 0,nI .i64 0,.nils,.nils,.str [],nI .i64 0,nI .i64 0,.nils]) (x:=[.str e.mem.path,.int .i64 e.mem.kind,nI .u32 e.mem.mode,nI .u32 e.mem.uid,nI .u32 e.mem.gid,.int .i64 e.mem.time,av,dv,.str e.mem.link,.int .i64 e.size,.int .i64 e.head,cv]) (by decide) rfl rfl G
 have bd: ∀(b:Nat) (G:Heap),PT [.nils] [(0,1,.slice b 0 1 none)] G=.val (.agg [.slice b 0 1 none]) G:=λ_ _=>rfl
 have hS2:Sl H2 12 (.slice H1.nx 0 1 none) [[.str e.mem.path,.int .i64 e.mem.kind,nI .u32 e.mem.mode,nI .u32 e.mem.uid,nI .u32 e.mem.gid,.int .i64 e.mem.time,av,dv,.str e.mem.link,.int .i64 e.size,.int .i64 e.head,cv]]:=Sl.of_rG (ls:=[[.str e.mem.path,.int .i64 e.mem.kind,nI .u32 e.mem.mode,nI .u32 e.mem.uid,nI .u32 e.mem.gid,.int .i64 e.mem.time,av,dv,.str e.mem.link,.int .i64 e.size,.int .i64 e.head,cv]]) g2 (by omega) (λl hl=>by rw[ZD.1 hl];rfl)
 have em:=λ{j}=>Zgq E (k:=15) (n:=j) (by decide) (ev:=.slice H1.nx 0 1 none) (L:=[e]) (H:=H2) (by show 1<=_;decide) (λi hi=>by
  obtain rfl:i=0:=by have:i<1:=hi;omega
  exact hs) (gP.keep0 k2) ⟨[[.str e.mem.path,.int .i64 e.mem.kind,nI .u32 e.mem.mode,nI .u32 e.mem.uid,nI .u32 e.mem.gid,.int .i64 e.mem.time,av,dv,.str e.mem.link,.int .i64 e.size,.int .i64 e.head,cv]],.inr hS2,rfl,λi hi=>by
   obtain rfl:i=0:=by have:i<1:=hi;omega
   exact hE'.keep k2⟩
 cases hm:P0 [e] with
 |false=>
  rw[hm] at em
  have hc:ME e kk l=1:=by unfold ME;rw[if_neg (show ¬kk<0 from h1),if_neg h2,if_pos hm]
  have h9:Oe e kk l=[]:=by unfold Oe;rw[hc];rfl
  rw[hc,h9]
  simp(disch:=first|assumption|omega|(simp -implicitDefEqProofs only[Y3,Y4]<;>first|assumption|omega)|decide) only[hH1,hH2,g1,bx,bs,bd,em,lc,d1,d2,Yf,Xo,Z9,Zy,ZH,Zf,Zf,Zz,ZA,ZJ,Zn,Zq,Up,Z9,Zy,ZH,y6,Vl,c6,ZI,Yw,ZG,Yl,Yt,]
  exact⟨_,_,rfl,k2,bnil _,λb o n c h=>by cases h⟩
 |true=>
  rw[hm] at em
  obtain⟨f1,f2,f3⟩:=zy hm
  obtain⟨w,hw⟩: ∃w:Nat,e.size=(w:Int):=⟨e.size.toNat,by omega⟩
  obtain⟨kn,hkn⟩: ∃kn:Nat,kk=(kn:Int):=⟨kk.toNat,by omega⟩
  subst hkn
  have hkI:AV.int .i64 (kn:Int)=nI .i64 kn:=rfl
  have d1':decide (kn<0)=false:=rfl
  have hki:kn<e.chunks.length:=by omega
  have nr:decide (e.chunks.length<=kn)=false:=Zb (by omega)
  obtain⟨bb,o,r,eI,hb,gb,eL,_⟩:=(hC.keep0 k2).at_ (i:=kn) (by rw[TG];omega)
  rw[Jy hki] at eL
  have hmem:e.chunks.getD kn default∈e.chunks:=by rw[Ze,Zk hki];exact Xp hki
  have xe:=hs.sums _ hmem
  obtain⟨z1,z2⟩:=f3 _ hmem
  have hkt:((kn:Nat):Int).toNat=kn:=WD kn
  have QI:ME e (kn:Int) l=(if l.length≠(e.chunks.getD kn default).size.toNat+(if kn=e.chunks.length - 1 then QJ e.size.toNat else 0) then 5 else if (l.drop (e.chunks.getD kn default).size.toNat).any (λc=>!decide (c.toNat=0))=true then 5 else if Sx (l.take (e.chunks.getD kn default).size.toNat)=(e.chunks.getD kn default).sum then 0 else 21):=by
   unfold ME
   rw[if_neg (show ¬((kn:Int)<0) from h1),if_neg h2,if_neg (by rw[hm];simp),hkt]
  have KZ:Oe e (kn:Int) l=if ME e (kn:Int) l=0 then l.take (e.chunks.getD kn default).size.toNat else []:=by
   unfold Oe;rw[hkt]
  generalize hx:e.chunks.getD kn default=x at*
  obtain⟨s,hsz⟩: ∃s:Nat,x.size=(s:Int):=⟨x.size.toNat,by omega⟩
  have hst:x.size.toNat=s:=by rw[hsz];rfl
  have hwt:e.size.toNat=w:=by rw[hw];rfl
  rw[hst,hwt] at QI
  rw[hst] at KZ
  have xl:(Ta x).length=35:=by unfold Ta;simp[xe]
  obtain⟨H3,hH3⟩: ∃G,H2.new (rG 57 1 (Ta x) 0 false true true)=G:=⟨_,rfl⟩
  have k23:Zw H2 H3 []:=by rw[<-hH3];exact Zw.new _ _ _
  have k3:Zw H H3 []:=k2.trans' k23
  have nx3:H3.nx=H2.nx+1:=by rw[<-hH3];rfl
  have g3:H3.t.get H2.nx=some (rG 57 1 (Ta x) 0 false true true):=by rw[<-hH3];exact Yi rfl _
  have g13:H3.t.get H.nx=some (rG 31 1 [.str e.mem.path,.int .i64 e.mem.kind,nI .u32 e.mem.mode,nI .u32 e.mem.uid,nI .u32 e.mem.gid,.int .i64 e.mem.time,av,dv,.str e.mem.link,.int .i64 e.size,.int .i64 e.head,cv] 0 false true true):=by rw[k23.get _ (by omega) (by simp)];exact g12
  have ro2:H2.ro<=H2.nx:=by rw[k2.ro];exact ZX hro k2.nx
  have sf:=U4 (n:=35) (b:=H2.nx) (l:=z35) (vs:=Ta x) (H:=H2.new (rG 57 1 z35 0 false true true)) Kh xl (by decide) (by show H2.ro<=_;exact ro2) 57 1 false true
  rw[Us rfl,hH3] at sf
  have l1: ∀G,ld1 (some (rG 57 1 (Ta x) 0 false true true)) 1 G=.val (nI .i64 s) G:=λG=>by
   rw[Yf (by rw[xl];decide)];show OR.val (.int .i64 x.size) G=_;rw[hsz];rfl
  have l3: ∀G,wh 32 (some (rG 57 1 (Ta x) 0 false true true)) 3 G=.val (.agg (x.sum.map XP)) G:=λG=>by
   rw[Xo (by rw[xl];decide)]
   show OR.val (.agg ((x.sum.map XP).take 32)) G=_
   rw[Xq (by rw[Zp,xe];decide)]
  have et: ∀{j},ZU (LK Zr fs fuel 15) fs fuel (j+1) 12 [.int .i64 e.size] H3=.ret (nI .i64 (QJ w)) H3:=λ{j}=>by
   rw[hw];exact ZnI E (k:=15) (n:=j) (by decide) (by omega)
  have sb: ∀G,Di (nI .i64 e.chunks.length) (nI .i64 1) G=.val (nI .i64 (e.chunks.length - 1)) G:=λG=>Vp (by omega) (by have:=hs.chunks;omega) G
  have lv:=hv.len
  have hpz:QJ w<512:=Vy _ (by decide)
  rw[hkI]
  by_cases hp:kn=e.chunks.length - 1
  ·have dp:decide (kn=e.chunks.length - 1)=true:=Zd hp
   rw[if_pos hp] at QI
   by_cases h5:l.length=s+QJ w
   ·have d5:decide (¬l.length=s+QJ w)=false:=Zb (λh=>h h5)
    rw[if_neg (λh=>h h5)] at QI
    have hsl:s<=l.length:=by omega
    have hne:l≠[]:=λh=>by rw[h] at hsl;have:s<=0:=hsl;omega
    obtain⟨vb,vo,vc,vr,ev,hB,hlt⟩: ∃vb vo vc vr,v=.slice vb vo l.length vc∧Bytes H vb vo vc l vr∧vb<H.nx:=by
     rcases hv with⟨h,_⟩|⟨_,vb,vo,vc,vr,ev,hB,hlt⟩
     ·exact absurd h hne
     ·exact⟨vb,vo,vc,vr,ev,hB,hlt⟩
    have hB3:=hB.keep k3 hlt (by simp)
    obtain⟨v2,H4,e2,bv2,fh,wR⟩:=Jn (n:=s) hB3 (ZF hlt k3.nx) hsl .i64
    rw[<-ev] at e2
    have k4:Zw H H4 []:=k3.trans' fh
    have n34:=fh.nx
    have hB4:=hB.keep k4 hlt (by simp)
    have g14:H4.t.get H.nx=some (rG 31 1 [.str e.mem.path,.int .i64 e.mem.kind,nI .u32 e.mem.mode,nI .u32 e.mem.uid,nI .u32 e.mem.gid,.int .i64 e.mem.time,av,dv,.str e.mem.link,.int .i64 e.size,.int .i64 e.head,cv] 0 false true true):=by rw[fh.get _ (by omega) (by simp)];exact g13
    have g4:H4.t.get H2.nx=some (rG 57 1 (Ta x) 0 false true true):=by rw[fh.get _ (by omega) (by simp)];exact g3
    have cB:=λ{j}=>ZhH E (k:=15) (n:=j) (by decide) (l:=l.drop s) (H:=H4) (by rw[Ya];omega) (Rd.of_bv bv2)
    cases ha:(l.drop s).any (λc=>!decide (c.toNat=0)) with
    |true=>
     rw[ha] at cB QI
     rw[if_pos rfl] at QI
     rw[if_neg (by rw[QI];decide)] at KZ
     rw[QI,KZ]
     simp(disch:=first|assumption|omega|(simp -implicitDefEqProofs only[Y3,Y4]<;>first|assumption|omega)|decide) only[hH1,hH2,g1,g12,g13,g3,bx,bs,bd,em,lc,d1',nr,eI,gb,eL,sf,sb,l1,et,lv,X4,Yf,Xo,Z9,Zy,ZH,dp,d5,e2,cB,Wh,Zv,YW,VQ,YU,Zf,Zf,Zz,ZA,ZJ,Zn,Zq,Z9,Zy,ZH,Zv,Vl,c6,ZI,Yw,ZG,Yl,Yt,Vf]
     exact⟨_,_,rfl,k4,bnil _,λb o n c h=>by cases h⟩
    |false=>
     rw[ha] at cB QI
     rw[if_neg (by simp)] at QI
     have e3:=Qv (n:=s) hB4 (by omega) hsl .i64
     rw[<-ev] at e3
     have ZeV:Bytes ⟨H4.nx,H4.t,H4.nx⟩ vb vo vc l vr:=⟨hB4.at_,hB4.sz,hB4.fits,hB4.get,hB4.cap⟩
     have e3b:=Qv (n:=s) ZeV (by omega) hsl .i64
     rw[<-ev] at e3b
     have htl:(l.take s).length=s:=by rw[ZW];omega
     have sI:l.take s≠[]:=λh=>by rw[h] at htl;have:0=s:=htl;omega
     have qQ:BV H4 (.slice vb vo s (VJ vc 0)) (l.take s):=.inr ⟨sI,vb,vo,VJ vc 0,vr,by rw[htl],hB4.take hsl,ZF hlt k4.nx⟩
     have lt4:vb<H4.nx:=ZF hlt k4.nx
     have es: ∀{j},ZU (LK Zr fs fuel 15) fs fuel (j+1) 15 [.slice vb vo s (VJ vc 0)] H4=.ret (.agg ((Sx (l.take s)).map XP)) H4:=λ{j}=>KL rfl (hsum H4 _ _ k4 qQ (by omega) λb o n c h=>by cases h;exact lt4)
     have yY:=λG=>jM (l:=Sx (l.take s)) (m:=x.sum) (LH _) xe G
     have sm:=RZ (OD (Sx (l.take s)))
     have dL:=RZ (OD x.sum)
     have ri:=QR H4.nx (Sx (l.take s))
     have fK:=QR H4.nx x.sum
     have lw3:Wl H4.nx (.slice vb vo s (VJ vc 0))=true:=TO lt4 _ _ _
     have mJ:=λo=>Wj (n:=H4.nx) (b:=H2.nx) (by omega) o
     have lwv:=jp (λb o n c h=>ZF (hvl b o n c h) k4.nx) (hv.keep k4 λ_ _ _ _ _=>by simp)
     have smv: ∀n T,VS (.val v ⟨n,T,n⟩) v n=true:=λn T=>by rw[ev];exact Ua ..
     have sms: ∀n T,VS (.val (.slice vb vo s (VJ vc 0)) ⟨n,T,n⟩) (.slice vb vo s (VJ vc 0)) n=true:=λn T=>Ua ..
     cases hd:decide (Sx (l.take s)=x.sum) with
     |false=>
      rw[hd] at yY
      rw[if_neg (of_decide_eq_false hd)] at QI
      rw[if_neg (by rw[QI];decide)] at KZ
      rw[QI,KZ]
      simp(disch:=first|assumption|omega|(simp -implicitDefEqProofs only[Y3,Y4]<;>first|assumption|omega)|decide) only[hH1,hH2,g1,g12,g13,g3,bx,bs,bd,em,lc,d1',nr,eI,gb,eL,sf,sb,l1,et,lv,X4,Yf,Xo,Z9,Zy,ZH,l3,dp,d5,e2,cB,g4,e3b,es,yY,dL,sms,ri,fK,mJ,lwv,Wh,Zv,YW,VQ,YU,decide_true,decide_false,Zf,Zf,Zz,ZA,ZJ,Zn,Zq,Y7,Z9,Zy,ZH,Zv,Px,Vl,c6,ZI,Yw,ZG,Yl,Xm,XX,Nat.reducePow,Nat.reduceDiv,Nat.reduceMod,reduceCtorEq,Yt,Vf]
      exact⟨_,_,rfl,k4,bnil _,λb o n c h=>by cases h⟩
     |true=>
      rw[hd] at yY
      rw[if_pos (Zm hd)] at QI
      rw[if_pos QI] at KZ
      rw[QI,KZ]
      obtain⟨w',H5,e5,bv5,k45,nD⟩:=yK E (k:=15) (n:=n+3) (Hj qQ λb o n c h=>by cases h;exact lt4) (by omega)
      simp(disch:=first|assumption|omega|(simp -implicitDefEqProofs only[Y3,Y4]<;>first|assumption|omega)|decide) only[hH1,hH2,g1,g12,g13,g3,bx,bs,bd,em,lc,d1',nr,eI,gb,eL,sf,sb,l1,et,lv,X4,Yf,Xo,Z9,Zy,ZH,l3,dp,d5,e2,cB,g4,e3,e3b,es,yY,dL,sms,ri,fK,mJ,lwv,e5,Wh,Zv,YW,VQ,YU,decide_true,decide_false,Zf,Zf,Zz,ZA,ZJ,Zn,Zq,YJ,Z9,Zy,ZH,Zv,Px,Vl,c6,ZI,Yw,ZG,Yl,Xm,XX,Nat.reducePow,Nat.reduceDiv,Nat.reduceMod,reduceCtorEq,Yt,Vf,PE]
      exact⟨_,_,rfl,k4.trans' k45,bv5,λb o n c h=>(nD b o n c h).2⟩
   ·have d5:decide (¬l.length=s+QJ w)=true:=Zd h5
    rw[if_pos h5] at QI
    rw[if_neg (by rw[QI];decide)] at KZ
    rw[QI,KZ]
    simp(disch:=first|assumption|omega|(simp -implicitDefEqProofs only[Y3,Y4]<;>first|assumption|omega)|decide) only[hH1,hH2,g1,g12,g13,g3,bx,bs,bd,em,lc,d1',nr,eI,gb,eL,sf,sb,l1,et,lv,X4,Yf,Xo,Z9,Zy,ZH,dp,d5,Wh,Zv,YW,VQ,YU,Zf,Zf,Zz,ZA,ZJ,Zn,Zq,Z9,Zy,ZH,Zv,Vl,c6,ZI,Yw,ZG,Yl,Yt,Vf]
    exact⟨_,_,rfl,k3,bnil _,λb o n c h=>by cases h⟩
  ·have dp:decide (kn=e.chunks.length - 1)=false:=Zb hp
   rw[if_neg hp,Zj] at QI
   by_cases h5:l.length=s
   ·have d5:decide (¬l.length=s)=false:=Zb (λh=>h h5)
    rw[if_neg (λh=>h h5)] at QI
    have hsl:s<=l.length:=by omega
    have hne:l≠[]:=λh=>by rw[h] at hsl;have:s<=0:=hsl;omega
    obtain⟨vb,vo,vc,vr,ev,hB,hlt⟩: ∃vb vo vc vr,v=.slice vb vo l.length vc∧Bytes H vb vo vc l vr∧vb<H.nx:=by
     rcases hv with⟨h,_⟩|⟨_,vb,vo,vc,vr,ev,hB,hlt⟩
     ·exact absurd h hne
     ·exact⟨vb,vo,vc,vr,ev,hB,hlt⟩
    have hB3:=hB.keep k3 hlt (by simp)
    obtain⟨v2,H4,e2,bv2,fh,wR⟩:=Jn (n:=s) hB3 (ZF hlt k3.nx) hsl .i64
    rw[<-ev] at e2
    have k4:Zw H H4 []:=k3.trans' fh
    have n34:=fh.nx
    have hB4:=hB.keep k4 hlt (by simp)
    have g4:H4.t.get H2.nx=some (rG 57 1 (Ta x) 0 false true true):=by rw[fh.get _ (by omega) (by simp)];exact g3
    have cB:=λ{j}=>ZhH E (k:=15) (n:=j) (by decide) (l:=l.drop s) (H:=H4) (by rw[Ya];omega) (Rd.of_bv bv2)
    cases ha:(l.drop s).any (λc=>!decide (c.toNat=0)) with
    |true=>
     rw[ha] at cB QI
     rw[if_pos rfl] at QI
     rw[if_neg (by rw[QI];decide)] at KZ
     rw[QI,KZ]
     simp(disch:=first|assumption|omega|(simp -implicitDefEqProofs only[Y3,Y4]<;>first|assumption|omega)|decide) only[hH1,hH2,g1,g12,g13,g3,bx,bs,bd,em,lc,d1',nr,eI,gb,eL,sf,sb,l1,lv,X4,Yf,Xo,Z9,Zy,ZH,dp,d5,e2,cB,Wh,Zv,YW,VQ,YU,Zj,Zf,Zf,Zj,Zz,ZA,ZJ,Zn,Zq,Z9,Zy,ZH,Zv,Vl,c6,ZI,Yw,ZG,Yl,Yt,Vf]
     exact⟨_,_,rfl,k4,bnil _,λb o n c h=>by cases h⟩
    |false=>
     rw[ha] at cB QI
     rw[if_neg (by simp)] at QI
     have e3:=Qv (n:=s) hB4 (by omega) hsl .i64
     rw[<-ev] at e3
     have ZeV:Bytes ⟨H4.nx,H4.t,H4.nx⟩ vb vo vc l vr:=⟨hB4.at_,hB4.sz,hB4.fits,hB4.get,hB4.cap⟩
     have e3b:=Qv (n:=s) ZeV (by omega) hsl .i64
     rw[<-ev] at e3b
     have htl:(l.take s).length=s:=by rw[ZW];omega
     have sI:l.take s≠[]:=λh=>by rw[h] at htl;have:0=s:=htl;omega
     have qQ:BV H4 (.slice vb vo s (VJ vc 0)) (l.take s):=.inr ⟨sI,vb,vo,VJ vc 0,vr,by rw[htl],hB4.take hsl,ZF hlt k4.nx⟩
     have lt4:vb<H4.nx:=ZF hlt k4.nx
     have es: ∀{j},ZU (LK Zr fs fuel 15) fs fuel (j+1) 15 [.slice vb vo s (VJ vc 0)] H4=.ret (.agg ((Sx (l.take s)).map XP)) H4:=λ{j}=>KL rfl (hsum H4 _ _ k4 qQ (by omega) λb o n c h=>by cases h;exact lt4)
     have yY:=λG=>jM (l:=Sx (l.take s)) (m:=x.sum) (LH _) xe G
     have dL:=RZ (OD x.sum)
     have ri:=QR H4.nx (Sx (l.take s))
     have fK:=QR H4.nx x.sum
     have mJ:=λo=>Wj (n:=H4.nx) (b:=H2.nx) (by omega) o
     have lwv:=jp (λb o n c h=>ZF (hvl b o n c h) k4.nx) (hv.keep k4 λ_ _ _ _ _=>by simp)
     have sms: ∀n T,VS (.val (.slice vb vo s (VJ vc 0)) ⟨n,T,n⟩) (.slice vb vo s (VJ vc 0)) n=true:=λn T=>Ua ..
     cases hd:decide (Sx (l.take s)=x.sum) with
     |false=>
      rw[hd] at yY
      rw[if_neg (of_decide_eq_false hd)] at QI
      rw[if_neg (by rw[QI];decide)] at KZ
      rw[QI,KZ]
      simp(disch:=first|assumption|omega|(simp -implicitDefEqProofs only[Y3,Y4]<;>first|assumption|omega)|decide) only[hH1,hH2,g1,g12,g13,g3,bx,bs,bd,em,lc,d1',nr,eI,gb,eL,sf,sb,l1,lv,X4,Yf,Xo,Z9,Zy,ZH,l3,dp,d5,e2,cB,g4,e3b,es,yY,dL,sms,ri,fK,mJ,lwv,Wh,Zv,YW,VQ,YU,decide_true,decide_false,Zj,Zf,Zf,Zj,Zz,ZA,ZJ,Zn,Zq,Y7,Z9,Zy,ZH,Zv,Px,Vl,c6,ZI,Yw,ZG,Yl,Xm,XX,Nat.reducePow,Nat.reduceDiv,Nat.reduceMod,reduceCtorEq,Yt,Vf]
      exact⟨_,_,rfl,k4,bnil _,λb o n c h=>by cases h⟩
     |true=>
      rw[hd] at yY
      rw[if_pos (Zm hd)] at QI
      rw[if_pos QI] at KZ
      rw[QI,KZ]
      obtain⟨w',H5,e5,bv5,k45,nD⟩:=yK E (k:=15) (n:=n+3) (Hj qQ λb o n c h=>by cases h;exact lt4) (by omega)
      simp(disch:=first|assumption|omega|(simp -implicitDefEqProofs only[Y3,Y4]<;>first|assumption|omega)|decide) only[hH1,hH2,g1,g12,g13,g3,bx,bs,bd,em,lc,d1',nr,eI,gb,eL,sf,sb,l1,lv,X4,Yf,Xo,Z9,Zy,ZH,l3,dp,d5,e2,cB,g4,e3,e3b,es,yY,dL,sms,ri,fK,mJ,lwv,e5,Wh,Zv,YW,VQ,YU,decide_true,decide_false,Zj,Zf,Zf,Zj,Zz,ZA,ZJ,Zn,Zq,YJ,Z9,Zy,ZH,Zv,Px,Vl,c6,ZI,Yw,ZG,Yl,Xm,XX,Nat.reducePow,Nat.reduceDiv,Nat.reduceMod,reduceCtorEq,Yt,Vf,PE]
      exact⟨_,_,rfl,k4.trans' k45,bv5,λb o n c h=>(nD b o n c h).2⟩
   ·have d5:decide (¬l.length=s)=true:=Zd h5
    rw[if_pos h5] at QI
    rw[if_neg (by rw[QI];decide)] at KZ
    rw[QI,KZ]
    simp(disch:=first|assumption|omega|(simp -implicitDefEqProofs only[Y3,Y4]<;>first|assumption|omega)|decide) only[hH1,hH2,g1,g12,g13,g3,bx,bs,bd,em,lc,d1',nr,eI,gb,eL,sf,sb,l1,lv,X4,Yf,Xo,Z9,Zy,ZH,dp,d5,Wh,Zv,YW,VQ,YU,Zj,Zf,Zf,Zj,Zz,ZA,ZJ,Zn,Zq,Z9,Zy,ZH,Zv,Vl,c6,ZI,Yw,ZG,Yl,Yt,Vf]
    exact⟨_,_,rfl,k3,bnil _,λb o n c h=>by cases h⟩
theorem qV{l m:List UInt8}(hl:l.length=32)(hm:m.length=32)(H:Heap):Iz (Ag Go.Proofs.Tryz.prog 10 54) true (.agg (l.map XP)) (.agg (m.map XP)) H=.val (.bool (!decide (l=m))) H:=by
 obtain⟨i,h1,h2⟩:=tE
 have:=AM (d:=8) (P:=Go.Proofs.Tryz.prog) Go.Proofs.Tryz.underlying54 Go.Proofs.Tryz.underlying5 h1 h2 l m hl hm H
 have h3: ∀o:Option Bool,UU o (λb=>So b H)=.val (.bool (decide (l=m))) H->UU o (λb=>So (cond b false true) H)=.val (.bool (!decide (l=m))) H:=by
  intro o h
  cases o with
  |none=>cases h
  |some b=>cases b<;>cases hd:decide (l=m)<;>rw[hd] at h<;>first|rfl|(cases h)
 exact h3 _ this
theorem Rd.keep{H H':Heap}{v:AV}{l:List UInt8}(h:Rd H v l)(k:Zw H H' []):Rd H' v l:=
 ⟨h.len,λi hi=>by
  obtain⟨b,o,r,e1,e2,e3,e4⟩:=h.at_ i hi
  exact⟨b,o,r,e1,ZF e2 k.nx,by rw[k.get _ e2 (by simp)];exact e3,e4⟩⟩
structure RLI(v:AV)(l:List UInt8)(s:Nat)(p:AV)(H0:Heap)(m:Nat)(tm:TM)(H:Heap):Prop where
 heap:H=H0
 t2:Vt tm=v
 t8:Xt tm=p
 i: ∃i,YB tm=nI .i64 i∧i+m=l.length∧s<=i∧ ∀j,s<=j->j<i->(l.getD j 0).toNat=0
def RLQ(v:AV)(l:List UInt8)(s:Nat)(p:AV)(H0:Heap)(o:Out)(tm:TM)(H:Heap):Prop:=H=H0∧((o=.ret∧Wm tm=.nils∧XY tm=nI .i64 5∧(l.drop s).any (λc=>!decide (c.toNat=0))=true)∨(o=.exit 0∧Vt tm=v∧Xt tm=p∧(l.drop s).any (λc=>!decide (c.toNat=0))=false))
theorem qX{l:List UInt8}{s j:Nat}:(l.drop s).getD j 0=l.getD (s+j) 0:=by
 rw[Ze,Xl,<-Ze]
theorem oo{v:AV}{l:List UInt8}{s:Nat}{p:AV}(hl:l.length<=90000){H0:Heap}(hN:Rd H0 v l)(cx:Ctx)(X0:X)(m:Nat)(tm:TM)(H:Heap)(hI:RLI v l s p H0 m tm H):
  ∃o tm' H',Cb cx tm H X0=.ok o tm' H' X0∧((o=.normal∧ ∃k,k<m∧RLI v l s p H0 k tm' H')∨(o≠.normal∧RLQ v l s p H0 o tm' H')):=by
 obtain⟨rfl,t2,t8,i,t10,him,hsi,hn⟩:=hI
 have t2':=t2;have kr:=t8
 simp only[Sk] at t2
 simp only[Mm] at t10
 have ln:=hN.len
 cases m with
 |zero=>
  have d1:decide (i<l.length)=false:=Zb (by omega)
  simp only[t2,t10,ln,d1,Zv,Zv,Cb,ZI,Yw,Yt,Vf]
  exact⟨_,_,_,rfl,.inr ⟨by simp,rfl,.inr ⟨rfl,t2',kr,Do λj hj=>by
   rw[Ya] at hj
   rw[qX,Zd (hn (s+j) (by omega) (by omega))];rfl⟩⟩⟩
 |succ m=>
  have d1:decide (i<l.length)=true:=Zd (by omega)
  have hi:i<l.length:=by omega
  obtain⟨b,o,r,eI,hb,gb,e0⟩:=hN.at_ i hi
  have e1: ∀G,Iz Uk true (XP (l.getD i 0)) (nI .u8 0) G=.val (.bool (!decide ((l.getD i 0).toNat=0))) G:=λG=>by
   rw[show XP (l.getD i 0)=nI .u8 (l.getD i 0).toNat from rfl,VQ]
   cases hx:decide ((l.getD i 0).toNat=0) with
   |true=>rw[Zb (λh=>h (Zm hx))];rfl
   |false=>rw[Zd (of_decide_eq_false hx)];rfl
  cases hm:decide ((l.getD i 0).toNat=0) with
  |true=>
   rw[hm] at e1
   simp(disch:=omega) only[t2,t10,ln,d1,eI,gb,e0,e1,Zv,YU,YJ,Zv,Cb,ZI,Yw,Yt,Vf]
   refine⟨_,_,_,rfl,.inl ⟨rfl,m,by omega,rfl,t2',kr,i+1,rfl,by omega,by omega,λj h1 h2=>?_⟩⟩
   by_cases h:j=i
   ·rw[h];exact Zm hm
   ·exact hn j h1 (by omega)
  |false=>
   rw[hm] at e1
   simp only[t2,t10,ln,d1,eI,gb,e0,e1,Zv,Y7,Zv,Cb,ZI,Yw,Yt,Vf]
   refine⟨_,_,_,rfl,.inr ⟨by simp,rfl,.inl ⟨rfl,rfl,rfl,KI (i:=i - s) (by rw[Ya];omega) ?_⟩⟩⟩
   rw[qX,show s+(i - s)=i by omega,hm];rfl
theorem rX{Zr:Lib}{fs:T CF}{fuel:Nat}(E:Env Zr fs fuel){n:Nat}{cs:List AV}{e:V0}{kk:Int}{v:AV}{l:List UInt8}{H:Heap}(hs:Oi e)(gP:PM H)(hk9:e.mem.link.length<=90000)(hE:JR H cs e)(hv:(l=[]∧v=.slice0)∨BV H v l)(hvl: ∀b o n c,v=.slice b o n c->b<H.nx)(hl:l.length<=1200):
  ∃w H',ZU (LK Zr fs fuel 15) fs fuel (n+5) 7 [.agg cs,.int .i64 kk,v] H=.ret (.tup [w,nI .i64 (ME e kk l)]) H'∧Zw H H' []∧BV H' w (Oe e kk l)∧(∀b o n c,w=.slice b o n c->b<H'.nx):=by
 rw[Z4 (Z3 E.n7 (.inr rfl) _ _) E.f7]
 have hf:=E.big
 have hro:=gP.ro
 have hE':=hE
 obtain⟨av,dv,cv,rfl,hA,hD,hC⟩:=hE
 obtain⟨H1,hH1⟩: ∃G,H.new (rG 42 1 [.str e.mem.path,.int .i64 e.mem.kind,nI .u32 e.mem.mode,nI .u32 e.mem.uid,nI .u32 e.mem.gid,.int .i64 e.mem.time,av,dv,.str e.mem.link,.int .i64 e.size,.int .i64 e.head,cv] 0 false true true)=G:=⟨_,rfl⟩
 have bx: ∀G,Ac 42 (.agg [.str e.mem.path,.int .i64 e.mem.kind,nI .u32 e.mem.mode,nI .u32 e.mem.uid,nI .u32 e.mem.gid,.int .i64 e.mem.time,av,dv,.str e.mem.link,.int .i64 e.size,.int .i64 e.head,cv]) G=.val (.ptr G.nx 0) (G.new (rG 42 1 [.str e.mem.path,.int .i64 e.mem.kind,nI .u32 e.mem.mode,nI .u32 e.mem.uid,nI .u32 e.mem.gid,.int .i64 e.mem.time,av,dv,.str e.mem.link,.int .i64 e.size,.int .i64 e.head,cv] 0 false true true)):=λG=>XU (l:=[.str e.mem.path,.int .i64 e.mem.kind,nI .u32 e.mem.mode,nI .u32 e.mem.uid,nI .u32 e.mem.gid,.int .i64 e.mem.time,av,dv,.str e.mem.link,.int .i64 e.size,.int .i64 e.head,cv]) (show 1<=12 by decide) 42 G
 have k1:Zw H H1 []:=by rw[<-hH1];exact Zw.new _ _ _
 have Lb:H1.nx=H.nx+1:=by rw[<-hH1];rfl
 have g1:H1.t.get H.nx=some (rG 42 1 [.str e.mem.path,.int .i64 e.mem.kind,nI .u32 e.mem.mode,nI .u32 e.mem.uid,nI .u32 e.mem.gid,.int .i64 e.mem.time,av,dv,.str e.mem.link,.int .i64 e.size,.int .i64 e.head,cv] 0 false true true):=by rw[<-hH1];exact Yi rfl _
 have lc:=hC.len
 rw[TG] at lc
 have bnil: ∀G:Heap,BV G .nils []:=λG=>.inl ⟨rfl,.inl rfl⟩
 by_cases h1:kk<((0:Nat):Int)
 ·have d1:decide (kk<((0:Nat):Int))=true:=Zd h1
  have hc:ME e kk l=1:=by unfold ME;rw[if_pos (show kk<0 from h1)]
  have h9:Oe e kk l=[]:=by unfold Oe;rw[hc];rfl
  rw[hc,h9]
  simp only[hH1,bx,d1,Up,c7,ZI,Yw,ZG,Yt,]
  exact⟨_,_,rfl,k1,bnil _,λb o n c h=>by cases h⟩
 have d1:decide (kk<((0:Nat):Int))=false:=Zb h1
 by_cases h2:(e.chunks.length:Int)<=kk
 ·have d2:decide ((e.chunks.length:Int)<=kk)=true:=Zd h2
  have hc:ME e kk l=1:=by unfold ME;rw[if_neg (show ¬kk<0 from h1),if_pos h2]
  have h9:Oe e kk l=[]:=by unfold Oe;rw[hc];rfl
  rw[hc,h9]
  simp(disch:=first|assumption|omega|(simp -implicitDefEqProofs only[Y3,Y4]<;>first|assumption|omega)|decide) only[hH1,g1,bx,lc,d1,d2,Yf,Zf,Zf,Zn,Zq,Up,y6,c7,ZI,Yw,ZG,Yt,]
  exact⟨_,_,rfl,k1,bnil _,λb o n c h=>by cases h⟩
 have d2:decide ((e.chunks.length:Int)<=kk)=false:=Zb h2
 obtain⟨H2,hH2⟩: ∃G,H1.new (rG 42 12 [.str e.mem.path,.int .i64 e.mem.kind,nI .u32 e.mem.mode,nI .u32 e.mem.uid,nI .u32 e.mem.gid,.int .i64 e.mem.time,av,dv,.str e.mem.link,.int .i64 e.size,.int .i64 e.head,cv] 0 false true true)=G:=⟨_,rfl⟩
 have k12:Zw H1 H2 []:=by rw[<-hH2];exact Zw.new _ _ _
 have k2:Zw H H2 []:=k1.trans' k12
 have nx2:H2.nx=H1.nx+1:=by rw[<-hH2];rfl
 have g12:H2.t.get H.nx=some (rG 42 1 [.str e.mem.path,.int .i64 e.mem.kind,nI .u32 e.mem.mode,nI .u32 e.mem.uid,nI .u32 e.mem.gid,.int .i64 e.mem.time,av,dv,.str e.mem.link,.int .i64 e.size,.int .i64 e.head,cv] 0 false true true):=by rw[k12.get _ (by omega) (by simp)];exact g1
 have g2:H2.t.get H1.nx=some (rG 42 12 [.str e.mem.path,.int .i64 e.mem.kind,nI .u32 e.mem.mode,nI .u32 e.mem.uid,nI .u32 e.mem.gid,.int .i64 e.mem.time,av,dv,.str e.mem.link,.int .i64 e.size,.int .i64 e.head,cv] 0 false true true):=by rw[<-hH2];exact Yi rfl _
 have bs:=λ(G:Heap)=>jo (e:=42) (sz:=12) (zs:=[.str [],nI .i64 0,nI .u32 0,nI .u32 0,nI .u32 0,nI .i64 0,.nils,.nils,.str [],nI .i64 0,nI .i64 0,.nils]) (x:=[.str e.mem.path,.int .i64 e.mem.kind,nI .u32 e.mem.mode,nI .u32 e.mem.uid,nI .u32 e.mem.gid,.int .i64 e.mem.time,av,dv,.str e.mem.link,.int .i64 e.size,.int .i64 e.head,cv]) (by decide) rfl rfl G
 have hS2:Sl H2 12 (.slice H1.nx 0 1 none) [[.str e.mem.path,.int .i64 e.mem.kind,nI .u32 e.mem.mode,nI .u32 e.mem.uid,nI .u32 e.mem.gid,.int .i64 e.mem.time,av,dv,.str e.mem.link,.int .i64 e.size,.int .i64 e.head,cv]]:=Sl.of_rG (ls:=[[.str e.mem.path,.int .i64 e.mem.kind,nI .u32 e.mem.mode,nI .u32 e.mem.uid,nI .u32 e.mem.gid,.int .i64 e.mem.time,av,dv,.str e.mem.link,.int .i64 e.size,.int .i64 e.head,cv]]) g2 (by omega) (λl hl=>by rw[ZD.1 hl];rfl)
 have em:=λ{j}=>Zac E (k:=15) (n:=j) (by decide) (ev:=.slice H1.nx 0 1 none) (cs:=[.str e.mem.path,.int .i64 e.mem.kind,nI .u32 e.mem.mode,nI .u32 e.mem.uid,nI .u32 e.mem.gid,.int .i64 e.mem.time,av,dv,.str e.mem.link,.int .i64 e.size,.int .i64 e.head,cv]) (e:=e) (H:=H2) hs hk9 (by rw[k2.ro];exact ZX hro k2.nx) hS2 (hE'.keep k2)
 cases hm:P0 [e] with
 |false=>
  rw[hm] at em
  have hc:ME e kk l=1:=by unfold ME;rw[if_neg (show ¬kk<0 from h1),if_neg h2,if_pos hm]
  have h9:Oe e kk l=[]:=by unfold Oe;rw[hc];rfl
  rw[hc,h9]
  simp(disch:=first|assumption|omega|(simp -implicitDefEqProofs only[Y3,Y4]<;>first|assumption|omega)|decide) only[hH1,hH2,g1,bx,bs,em,lc,d1,d2,Yf,Xo,Z9,Zy,ZH,Zf,Zf,Zz,ZA,ZJ,Zn,Zq,Up,Z9,Zy,ZH,y6,c7,ZI,Yw,ZG,Yl,Yt,]
  exact⟨_,_,rfl,k2,bnil _,λb o n c h=>by cases h⟩
 |true=>
  rw[hm] at em
  obtain⟨f1,f2,f3⟩:=zy hm
  obtain⟨w,hw⟩: ∃w:Nat,e.size=(w:Int):=⟨e.size.toNat,by omega⟩
  obtain⟨kn,hkn⟩: ∃kn:Nat,kk=(kn:Int):=⟨kk.toNat,by omega⟩
  subst hkn
  have hkI:AV.int .i64 (kn:Int)=nI .i64 kn:=rfl
  have d1':decide (kn<0)=false:=rfl
  have hki:kn<e.chunks.length:=by omega
  have hcl9:=hs.chunks
  have nr:decide (e.chunks.length<=kn)=false:=Zb (by omega)
  obtain⟨bb,o,r,eI,hb,gb,eL,_⟩:=(hC.keep0 k2).at_ (i:=kn) (by rw[TG];omega)
  rw[Jy hki] at eL
  have hmem:e.chunks.getD kn default∈e.chunks:=by rw[Ze,Zk hki];exact Xp hki
  have xe:=hs.sums _ hmem
  obtain⟨z1,z2⟩:=f3 _ hmem
  have hkt:((kn:Nat):Int).toNat=kn:=WD kn
  have QI:ME e (kn:Int) l=(if l.length≠(e.chunks.getD kn default).size.toNat+(if kn=e.chunks.length - 1 then QJ e.size.toNat else 0) then 5 else if (l.drop (e.chunks.getD kn default).size.toNat).any (λc=>!decide (c.toNat=0))=true then 5 else if Sx (l.take (e.chunks.getD kn default).size.toNat)=(e.chunks.getD kn default).sum then 0 else 21):=by
   unfold ME
   rw[if_neg (show ¬((kn:Int)<0) from h1),if_neg h2,if_neg (by rw[hm];simp),hkt]
  have KZ:Oe e (kn:Int) l=if ME e (kn:Int) l=0 then l.take (e.chunks.getD kn default).size.toNat else []:=by
   unfold Oe;rw[hkt]
  generalize hx:e.chunks.getD kn default=x at*
  obtain⟨s,hsz⟩: ∃s:Nat,x.size=(s:Int):=⟨x.size.toNat,by omega⟩
  have hst:x.size.toNat=s:=by rw[hsz];rfl
  have hwt:e.size.toNat=w:=by rw[hw];rfl
  rw[hst,hwt] at QI
  rw[hst] at KZ
  have xl:(Ta x).length=35:=by unfold Ta;simp[xe]
  obtain⟨H3,hH3⟩: ∃G,H2.new (rG 63 1 (Ta x) 0 false true true)=G:=⟨_,rfl⟩
  have k23:Zw H2 H3 []:=by rw[<-hH3];exact Zw.new _ _ _
  have k3:Zw H H3 []:=k2.trans' k23
  have nx3:H3.nx=H2.nx+1:=by rw[<-hH3];rfl
  have g3:H3.t.get H2.nx=some (rG 63 1 (Ta x) 0 false true true):=by rw[<-hH3];exact Yi rfl _
  have g13:H3.t.get H.nx=some (rG 42 1 [.str e.mem.path,.int .i64 e.mem.kind,nI .u32 e.mem.mode,nI .u32 e.mem.uid,nI .u32 e.mem.gid,.int .i64 e.mem.time,av,dv,.str e.mem.link,.int .i64 e.size,.int .i64 e.head,cv] 0 false true true):=by rw[k23.get _ (by omega) (by simp)];exact g12
  have ro2:H2.ro<=H2.nx:=by rw[k2.ro];exact ZX hro k2.nx
  have sf:=U4 (n:=35) (b:=H2.nx) (l:=z35) (vs:=Ta x) (H:=H2.new (rG 63 1 z35 0 false true true)) Kh xl (by decide) (by show H2.ro<=_;exact ro2) 63 1 false true
  rw[Us rfl,hH3] at sf
  have l1: ∀G,ld1 (some (rG 63 1 (Ta x) 0 false true true)) 1 G=.val (nI .i64 s) G:=λG=>by
   rw[Yf (by rw[xl];decide)];show OR.val (.int .i64 x.size) G=_;rw[hsz];rfl
  have l3: ∀G,wh 32 (some (rG 63 1 (Ta x) 0 false true true)) 3 G=.val (.agg (x.sum.map XP)) G:=λG=>by
   rw[Xo (by rw[xl];decide)]
   show OR.val (.agg ((x.sum.map XP).take 32)) G=_
   rw[Xq (by rw[Zp,xe];decide)]
  have et: ∀{j},ZU (LK Zr fs fuel 15) fs fuel (j+1) 17 [.int .i64 e.size] H3=.ret (nI .i64 (QJ w)) H3:=λ{j}=>by
   rw[hw];exact Zng E (k:=15) (n:=j) (by decide) (by omega)
  have hRd:Rd H v l:=by
   rcases hv with⟨h,h'⟩|h
   ·subst h;subst h';exact⟨λG=>ER G,λi hi=>by cases hi⟩
   ·exact Rd.of_bv h
  have lv:=hRd.len
  have hpz:QJ w<512:=Vy _ (by decide)
  rw[hkI]
  by_cases hp:kn=e.chunks.length - 1
  ·have dp:decide (kn+1=e.chunks.length)=true:=Zd (by omega)
   rw[if_pos hp] at QI
   by_cases h5:l.length=s+QJ w
   ·have d5:decide (¬l.length=s+QJ w)=false:=Zb (λh=>h h5)
    rw[if_neg (λh=>h h5)] at QI
    have hsl:s<=l.length:=by omega
    have hne:l≠[]:=λh=>by rw[h] at hsl;have:s<=0:=hsl;omega
    obtain⟨vb,vo,vc,vr,ev,hB,hlt⟩: ∃vb vo vc vr,v=.slice vb vo l.length vc∧Bytes H vb vo vc l vr∧vb<H.nx:=by
     rcases hv with⟨h,_⟩|⟨h,_⟩|⟨_,vb,vo,vc,vr,ev,hB,hlt⟩
     ·exact absurd h hne
     ·exact absurd h hne
     ·exact⟨vb,vo,vc,vr,ev,hB,hlt⟩
    have hB3:=hB.keep k3 hlt (by simp)
    have ZeW:=hRd.keep k3
    have ro3:H3.ro<=H3.nx:=by rw[k3.ro];exact ZX hro k3.nx
    simp(disch:=first|assumption|omega|(simp -implicitDefEqProofs only[Y3,Y4]<;>first|assumption|omega)|decide) only[hH1,hH2,g1,g12,g13,g3,bx,bs,em,lc,d1',nr,eI,gb,eL,sf,l1,et,lv,X4,Yf,Xo,Z9,Zy,ZH,dp,d5,Wh,Zv,YW,VQ,YU,Zf,Zf,Zz,ZA,ZJ,Zn,Zq,Z9,Zy,ZH,Zv,c7,ZI,Yw,ZG,Yl,Yt,Vf]
    generalize hL:XD (Cb _) fuel _ _ _=Lp
    obtain⟨oc,Nb,H4,rfl,_,e4,z⟩:=YG (P:=λT=>RLI v l s (.ptr H2.nx 0) H3 (l.length - s) T H3) (Q:=RLQ v l s (.ptr H2.nx 0) H3)
     (λT hi=>YX (RLI v l s (.ptr H2.nx 0) H3) (RLQ v l s (.ptr H2.nx 0) H3) (λm tm H4 h=>oo (by omega) ZeW _ _ m tm H4 h) fuel (l.length - s) T H3 (by omega) hi) hL
     (by exact⟨rfl,rfl,rfl,s,rfl,by omega,Zo _,λj h1 h2=>by omega⟩)
    have e4':H3=H4:=e4.symm
    subst e4'
    rcases z with⟨rfl,t6,t7,ha⟩|⟨rfl,t2,t8,ha⟩
    ·simp only[NA] at t6
     simp only[LN] at t7
     rw[if_pos ha] at QI
     rw[if_neg (by rw[QI];decide)] at KZ
     rw[QI,KZ]
     simp only[t6,t7,ZI,ZG,Yt,]
     exact⟨_,_,rfl,k3,bnil _,λb o n c h=>by cases h⟩
    ·simp only[Sk] at t2
     simp only[MI] at t8
     rw[if_neg (by rw[ha];simp)] at QI
     have e3:=Qv (n:=s) hB3 (by omega) hsl .i64
     rw[<-ev] at e3
     have ZeU:Bytes ⟨H3.nx,H3.t,H3.nx⟩ vb vo vc l vr:=⟨hB3.at_,hB3.sz,hB3.fits,hB3.get,hB3.cap⟩
     have e3b:=Qv (n:=s) ZeU (by omega) hsl .i64
     rw[<-ev] at e3b
     have htl:(l.take s).length=s:=by rw[ZW];omega
     have sI:l.take s≠[]:=λh=>by rw[h] at htl;have:0=s:=htl;omega
     have lt3:vb<H3.nx:=ZF hlt k3.nx
     have qQ:BV H3 (.slice vb vo s (VJ vc 0)) (l.take s):=.inr ⟨sI,vb,vo,VJ vc 0,vr,by rw[htl],hB3.take hsl,lt3⟩
     have es:=λ{j}=>ZhO E (k:=15) (n:=j) (by decide) ro3 qQ (by omega)
     have yY:=λG=>qV (l:=Sx (l.take s)) (m:=x.sum) (LH _) xe G
     have sm:=RZ (OD (Sx (l.take s)))
     have dL:=RZ (OD x.sum)
     have ri:=QR H3.nx (Sx (l.take s))
     have fK:=QR H3.nx x.sum
     have lw3:Wl H3.nx (.slice vb vo s (VJ vc 0))=true:=TO lt3 _ _ _
     have mJ:=λo=>Wj (n:=H3.nx) (b:=H2.nx) (by omega) o
     have lwv:Wl H3.nx v=true:=by rw[ev];exact TO lt3 _ _ _
     have smv: ∀n T,VS (.val v ⟨n,T,n⟩) v n=true:=λn T=>by rw[ev];exact Ua ..
     have sms: ∀n T,VS (.val (.slice vb vo s (VJ vc 0)) ⟨n,T,n⟩) (.slice vb vo s (VJ vc 0)) n=true:=λn T=>Ua ..
     cases hd:decide (Sx (l.take s)=x.sum) with
     |false=>
      rw[hd] at yY
      rw[if_neg (of_decide_eq_false hd)] at QI
      rw[if_neg (by rw[QI];decide)] at KZ
      rw[QI,KZ]
      simp only[t2,t8,g3,l1,l3,e3b,es,yY,dL,sms,ri,fK,mJ,lwv,decide_true,decide_false,Zf,Zf,Y7,Zy,ZH,Px,ZI,Yw,ZG,Yl,Xm,XX,Nat.reducePow,Nat.reduceDiv,Nat.reduceMod,reduceCtorEq,Yt,Vf,PE]
      exact⟨_,_,rfl,k3,bnil _,λb o n c h=>by cases h⟩
     |true=>
      rw[hd] at yY
      rw[if_pos (Zm hd)] at QI
      rw[if_pos QI] at KZ
      rw[QI,KZ]
      simp only[t2,t8,g3,l1,l3,e3,e3b,es,yY,dL,sms,ri,fK,mJ,lwv,decide_true,decide_false,Zf,Zf,YJ,Zy,ZH,Px,ZI,Yw,ZG,Yl,Xm,XX,Nat.reducePow,Nat.reduceDiv,Nat.reduceMod,reduceCtorEq,Yt,Vf,PE]
      exact⟨_,_,rfl,k3,qQ,λb o n c h=>by cases h;exact lt3⟩
   ·have d5:decide (¬l.length=s+QJ w)=true:=Zd h5
    rw[if_pos h5] at QI
    rw[if_neg (by rw[QI];decide)] at KZ
    rw[QI,KZ]
    simp(disch:=first|assumption|omega|(simp -implicitDefEqProofs only[Y3,Y4]<;>first|assumption|omega)|decide) only[hH1,hH2,g1,g12,g13,g3,bx,bs,em,lc,d1',nr,eI,gb,eL,sf,l1,et,lv,X4,Yf,Xo,Z9,Zy,ZH,dp,d5,Wh,Zv,YW,VQ,YU,Zf,Zf,Zz,ZA,ZJ,Zn,Zq,Z9,Zy,ZH,Zv,c7,ZI,Yw,ZG,Yl,Yt,Vf]
    exact⟨_,_,rfl,k3,bnil _,λb o n c h=>by cases h⟩
  ·have dp:decide (kn+1=e.chunks.length)=false:=Zb (by omega)
   rw[if_neg hp,Zj] at QI
   by_cases h5:l.length=s
   ·have d5:decide (¬l.length=s)=false:=Zb (λh=>h h5)
    rw[if_neg (λh=>h h5)] at QI
    have hsl:s<=l.length:=by omega
    have hne:l≠[]:=λh=>by rw[h] at hsl;have:s<=0:=hsl;omega
    obtain⟨vb,vo,vc,vr,ev,hB,hlt⟩: ∃vb vo vc vr,v=.slice vb vo l.length vc∧Bytes H vb vo vc l vr∧vb<H.nx:=by
     rcases hv with⟨h,_⟩|⟨h,_⟩|⟨_,vb,vo,vc,vr,ev,hB,hlt⟩
     ·exact absurd h hne
     ·exact absurd h hne
     ·exact⟨vb,vo,vc,vr,ev,hB,hlt⟩
    have hB3:=hB.keep k3 hlt (by simp)
    have ZeW:=hRd.keep k3
    have ro3:H3.ro<=H3.nx:=by rw[k3.ro];exact ZX hro k3.nx
    simp(disch:=first|assumption|omega|(simp -implicitDefEqProofs only[Y3,Y4]<;>first|assumption|omega)|decide) only[hH1,hH2,g1,g12,g13,g3,bx,bs,em,lc,d1',nr,eI,gb,eL,sf,l1,lv,X4,Yf,Xo,Z9,Zy,ZH,dp,d5,Wh,Zv,YW,VQ,YU,Zj,Zf,Zf,Zj,Zz,ZA,ZJ,Zn,Zq,Z9,Zy,ZH,Zv,c7,ZI,Yw,ZG,Yl,Yt,Vf]
    generalize hL:XD (Cb _) fuel _ _ _=Lp
    obtain⟨oc,Nb,H4,rfl,_,e4,z⟩:=YG (P:=λT=>RLI v l s (.ptr H2.nx 0) H3 (l.length - s) T H3) (Q:=RLQ v l s (.ptr H2.nx 0) H3)
     (λT hi=>YX (RLI v l s (.ptr H2.nx 0) H3) (RLQ v l s (.ptr H2.nx 0) H3) (λm tm H4 h=>oo (by omega) ZeW _ _ m tm H4 h) fuel (l.length - s) T H3 (by omega) hi) hL
     (by exact⟨rfl,rfl,rfl,s,rfl,by omega,Zo _,λj h1 h2=>by omega⟩)
    have e4':H3=H4:=e4.symm
    subst e4'
    rcases z with⟨rfl,t6,t7,ha⟩|⟨rfl,t2,t8,ha⟩
    ·simp only[NA] at t6
     simp only[LN] at t7
     rw[if_pos ha] at QI
     rw[if_neg (by rw[QI];decide)] at KZ
     rw[QI,KZ]
     simp only[t6,t7,ZI,ZG,Yt,]
     exact⟨_,_,rfl,k3,bnil _,λb o n c h=>by cases h⟩
    ·simp only[Sk] at t2
     simp only[MI] at t8
     rw[if_neg (by rw[ha];simp)] at QI
     have e3:=Qv (n:=s) hB3 (by omega) hsl .i64
     rw[<-ev] at e3
     have ZeU:Bytes ⟨H3.nx,H3.t,H3.nx⟩ vb vo vc l vr:=⟨hB3.at_,hB3.sz,hB3.fits,hB3.get,hB3.cap⟩
     have e3b:=Qv (n:=s) ZeU (by omega) hsl .i64
     rw[<-ev] at e3b
     have htl:(l.take s).length=s:=by rw[ZW];omega
     have sI:l.take s≠[]:=λh=>by rw[h] at htl;have:0=s:=htl;omega
     have lt3:vb<H3.nx:=ZF hlt k3.nx
     have qQ:BV H3 (.slice vb vo s (VJ vc 0)) (l.take s):=.inr ⟨sI,vb,vo,VJ vc 0,vr,by rw[htl],hB3.take hsl,lt3⟩
     have es:=λ{j}=>ZhO E (k:=15) (n:=j) (by decide) ro3 qQ (by omega)
     have yY:=λG=>qV (l:=Sx (l.take s)) (m:=x.sum) (LH _) xe G
     have dL:=RZ (OD x.sum)
     have ri:=QR H3.nx (Sx (l.take s))
     have fK:=QR H3.nx x.sum
     have mJ:=λo=>Wj (n:=H3.nx) (b:=H2.nx) (by omega) o
     have lwv:Wl H3.nx v=true:=by rw[ev];exact TO lt3 _ _ _
     have sms: ∀n T,VS (.val (.slice vb vo s (VJ vc 0)) ⟨n,T,n⟩) (.slice vb vo s (VJ vc 0)) n=true:=λn T=>Ua ..
     cases hd:decide (Sx (l.take s)=x.sum) with
     |false=>
      rw[hd] at yY
      rw[if_neg (of_decide_eq_false hd)] at QI
      rw[if_neg (by rw[QI];decide)] at KZ
      rw[QI,KZ]
      simp only[t2,t8,g3,l1,l3,e3b,es,yY,dL,sms,ri,fK,mJ,lwv,decide_true,decide_false,Zf,Zf,Y7,Zy,ZH,Px,ZI,Yw,ZG,Yl,Xm,XX,Nat.reducePow,Nat.reduceDiv,Nat.reduceMod,reduceCtorEq,Yt,Vf,PE]
      exact⟨_,_,rfl,k3,bnil _,λb o n c h=>by cases h⟩
     |true=>
      rw[hd] at yY
      rw[if_pos (Zm hd)] at QI
      rw[if_pos QI] at KZ
      rw[QI,KZ]
      simp only[t2,t8,g3,l1,l3,e3,e3b,es,yY,dL,sms,ri,fK,mJ,lwv,decide_true,decide_false,Zf,Zf,YJ,Zy,ZH,Px,ZI,Yw,ZG,Yl,Xm,XX,Nat.reducePow,Nat.reduceDiv,Nat.reduceMod,reduceCtorEq,Yt,Vf,PE]
      exact⟨_,_,rfl,k3,qQ,λb o n c h=>by cases h;exact lt3⟩
   ·have d5:decide (¬l.length=s)=true:=Zd h5
    rw[if_pos h5] at QI
    rw[if_neg (by rw[QI];decide)] at KZ
    rw[QI,KZ]
    simp(disch:=first|assumption|omega|(simp -implicitDefEqProofs only[Y3,Y4]<;>first|assumption|omega)|decide) only[hH1,hH2,g1,g12,g13,g3,bx,bs,em,lc,d1',nr,eI,gb,eL,sf,l1,lv,X4,Yf,Xo,Z9,Zy,ZH,dp,d5,Wh,Zv,YW,VQ,YU,Zj,Zf,Zf,Zj,Zz,ZA,ZJ,Zn,Zq,Z9,Zy,ZH,Zv,c7,ZI,Yw,ZG,Yl,Yt,Vf]
    exact⟨_,_,rfl,k3,bnil _,λb o n c h=>by cases h⟩
end
end Go.AI
