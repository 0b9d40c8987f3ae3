/- UTF-8, building, joining, quoting, walked: proved, as each says. -/
import Derived.Test.YtmnmknjlgpjcbaaGreatDoorP9
import Derived.Test.YtmnmknjlgpjcbaaGreatDoorPA
set_option maxRecDepth 1000000
set_option maxHeartbeats 0
set_option linter.unusedVariables false
set_option linter.unusedSimpArgs false
namespace Go.AI
open Go
noncomputable section
section
variable {Zo:NJ} {fs:T CF} {fuel k n i h b:Nat} {H H0:Zc} {s:List UInt8} {cs:List AV}
theorem G8{a:Nat}(ha:a<18446744073709551616)(hb:b<18446744073709551616)(H:Zc):Nq Sf (nI .u64 a) (nI .u64 b) H=.val (nI .u64 (a&&&b)) H:=by
 show ZL (Qd .u64 .u64) (Vm .u64 (.ofNat (Nat.land (a % 18446744073709551616) (b % 18446744073709551616))) H)=_
 rw[Y4,YY,R5,ZV ha,ZV hb]
 show OR.val _ H=_
 rw[show Nat.land a b=a&&&b from rfl,ZV (VJ Nat.and_le_left ha)];rfl
theorem Kp{a:Nat}(ha:a<18446744073709551616)(hb:b<18446744073709551616)(H:Zc):Nq Re (nI .u64 a) (nI .u64 b) H=.val (nI .u64 (a|||b)) H:=by
 show ZL (Qd .u64 .u64) (Vm .u64 (.ofNat (Nat.lor (a % 18446744073709551616) (b % 18446744073709551616))) H)=_
 rw[Y4,YY,R5,ZV ha,ZV hb]
 show OR.val _ H=_
 rw[show Nat.lor a b=a|||b from rfl,ZV (Sw (n:=64) ha hb)];rfl
theorem nv{a:Nat}(ha:a<256)(H:Zc):Nq Sf (nI .u8 a) (nI .u8 7) H=.val (nI .u8 (a % 8)) H:=by
 show ZL (Qd .u8 .u8) (Vm .u8 (.ofNat (Nat.land (a % 256) (7 % 256))) H)=_
 rw[Y4,YY,OI,ZV ha]
 show OR.val _ H=_
 rw[show Nat.land a (7 % 256)=a&&&(2^3 - 1) from rfl,Nat.and_two_pow_sub_one_eq_mod,ZV (show a % 2^3<256 by omega)];rfl
theorem rX{a:Nat}(ha:a<256)(H:Zc):MW .u64 (nI .u8 a) H=.val (nI .u64 a) H:=by
 unfold nI;rw[Mb,YY]
 show OR.val (.int .u64 (IntKind.u64.wrap (.ofNat a))) H=_
 rw[R5,ZV (by omega)]
theorem Ek{a:Nat}(ha:a<256)(H:Zc):MW .i64 (nI .u8 a) H=.val (nI .i64 a) H:=by
 unfold nI;rw[Mb,YY]
 show OR.val (.int .i64 (IntKind.i64.wrap (.ofNat a))) H=_
 rw[Mu (by omega)]
theorem Yz(h:i<s.length)(k:IntKind)(H:Zc):MV (.str s) (nI k i) H=.val (nI .u8 (Z3 s i)) H:=WB h k H
theorem Kq{a:Nat}(ha:a<18446744073709551616)(hb:b<18446744073709551616):a|||b<18446744073709551616:=Sw (n:=64) ha hb
theorem oA(s:List UInt8)(i:Nat):Z3 s i<18446744073709551616:=Nat.lt_trans (N0 s i) (by decide)
theorem P0(s:List UInt8):w8 s<18446744073709551616:=by
 unfold w8
 repeat' first|exact W1 _ (by decide)|exact oA _ _|apply Kq
theorem Zhb{a:Nat}(H:Zc):pH (nI .u8 a) (nI .u64 4) H=.val (nI .u8 (a/16)) H:=aw (by decide) H
def V8(H:Zc):Prop:=100<=H.nx∧(∃r,H.t.get 1=some (.row r)∧V7 r (fQ.map (nI .u8)))∧ ∃r,H.t.get 2=some (.row r)∧V7 r (QZ.map (nI .u8))
theorem V8.keep{H H':Zc}(g:V8 H){S:List Nat}(k:Zp H H' S)(hS: ∀x∈S,100<=x):V8 H':=by
 obtain⟨h,⟨r,h1,h2⟩,e,h3,h4⟩:=g
 exact⟨Yt h k.nx,⟨r,by rw[k.get _ (by omega) (λh=>by have:=hS _ h;omega)];exact h1,h2⟩,e,by rw[k.get _ (by omega) (λh=>by have:=hS _ h;omega)];exact h3,h4⟩
theorem V8.keep0{H H':Zc}(g:V8 H)(k:Zp H H' []):V8 H':=g.keep k (by simp)
theorem V8.fst(g:V8 H): ∃r,H.t.get 1=some (.row r)∧ ∀(b:Nat) (G:Zc),b<256->ld1 (some (.row r)) b G=.val (nI .u8 (V4 b)) G:=by
 obtain⟨_,⟨r,h1,h2⟩,_⟩:=g
 refine⟨r,h1,λb G hb=>?_⟩
 have hl:(fQ.map (nI .u8)).length=256:=by rw[Zr];unfold fQ;simp
 rw[Dt (by rw[h2.size,hl];exact hb),h2.get b (by rw[hl];exact hb)]
 congr 1
 rw[Zf,YR];unfold fQ
 rw[YR,Vf hb];rfl
theorem V8.acc(g:V8 H): ∃r,H.t.get 2=some (.row r)∧ ∀(k:Nat) (G:Zc),k<16->ldN 2 (some (.row r)) (k*2) G=.val (.agg [nI .u8 (QZ.getD (k*2) 0),nI .u8 (QZ.getD (k*2+1) 0)]) G:=by
 obtain⟨_,_,r,h1,h2⟩:=g
 refine⟨r,h1,λk G hk=>?_⟩
 have hl:(QZ.map (nI .u8)).length=32:=rfl
 show ZL (Nat.ble (k*2+2) r.size) (OR.val (.agg (loadN r (k*2) 2)) G)=_
 rw[h2.size,hl,Zg (show k*2+2<=32 by omega),h2.load (by rw[hl];omega)]
 show OR.val _ G=_
 congr 2
 have:k=0∨k=1∨k=2∨k=3∨k=4∨k=5∨k=6∨k=7∨k=8∨k=9∨k=10∨k=11∨k=12∨k=13∨k=14∨k=15:=by omega
 rcases this with rfl|rfl|rfl|rfl|rfl|rfl|rfl|rfl|rfl|rfl|rfl|rfl|rfl|rfl|rfl|rfl<;>rfl
theorem oP(b:Nat):V4 b<256:=by
 have: ∀(p:Prop) [Decidable p] (x y:Nat),x<256->y<256->(if p then x else y)<256:=λp _ x y h1 h2=>by split<;>assumption
 unfold V4
 repeat' first|apply this|decide
theorem Zb5{sz:Nat}(h:i<n)(b o:Nat)(k:IntKind)(H:Zc):zy n sz (.ptr b o) (nI k i) H=.val (.ptr b (o+i*sz)) H:=by
 show ZL (Nat.ble (Nat.succ i) n) (OR.val (.ptr b (Nat.add o (Nat.mul i sz))) H)=_
 rw[Zg (show Nat.succ i<=n from h)];rfl
theorem iM(E:Env Zo fs fuel)(h:8<=s.length):
  ∃H',ZG (LK Zo fs fuel 0) fs fuel (n+2) 170 [.str s] H=.ret (nI .u64 (w8 s)) H'∧Zp H H' []:=by
 rw[ZF (ZB E.n170 (.inl (by decide)) _ _) E.f170]
 unfold w8
 simp(disch:=first|assumption|exact N0 _ _|((repeat' first|exact W1 _ (by decide)|exact oA _ _|apply Kq);done)|omega|(simp -implicitDefEqProofs only[ZY,ZZ]<;>first|assumption|omega)|decide) only[Yz,rX,SK,Kp,Zff,Zu,ZX,Zw,Zz,ZQ,Nat.reducePow,Yf,WL]
 refine⟨_,rfl,?_⟩
 exact Zp.refl _ _
theorem BV(E:Env Zo fs fuel)(hk:1<=k)(h:8<=s.length):
  ZG (LK Zo fs fuel k) fs fuel (n+1) 170 [.str s] H=.ret (nI .u64 (w8 s)) H:=by
 obtain⟨H',e,g⟩:=iM E (n:=898) (H:=H) h
 exact Xd (r:=0) rfl rfl e g (rfl) hk
structure VI(H0:Zc)(s:List UInt8)(m:Nat)(tm:TM)(H:Zc):Prop where
 t: ∃t,Z4 tm=.str t∧vu t=vu s∧t.length<=s.length∧m=t.length
 k:Zp H0 H []
theorem ZlE(E:Env Zo fs fuel)(y f d r)(x:X)(m:Nat)(tm:TM)(H:Zc)(h:VI H0 s m tm H):
  ∃o Yp H',MD ⟨ZG (LK Zo fs fuel 1) fs fuel (n+1),y,f,d,r⟩ tm H x=.ok o Yp H' x∧((o=.normal∧ ∃k,k<m∧VI H0 s k Yp H')∨(o≠.normal∧o=.exit 2∧VI H0 s m Yp H')):=by
 obtain⟨⟨t,t0,hv,hl,rfl⟩,k⟩:=h
 simp only[Pi] at t0
 by_cases h32:32<t.length
 ·have d32:decide (32<t.length)=true:=Ze h32
  have ew0:=λ{j}=>BV E (k:=1) (n:=j) (by decide) (s:=t) (H:=H) (by omega)
  have ew8:=λ{j}=>BV E (k:=1) (n:=j) (by decide) (s:=t.drop 8) (H:=H) (by rw[Z7];omega)
  have Ziq:=λ{j}=>BV E (k:=1) (n:=j) (by decide) (s:=t.drop 16) (H:=H) (by rw[Z7];omega)
  have Zir:=λ{j}=>BV E (k:=1) (n:=j) (by decide) (s:=t.drop 24) (H:=H) (by rw[Z7];omega)
  have b1:=λ(G:Zc)=>Kp (a:=w8 t) (b:=w8 (t.drop 8)) (P0 _) (P0 _) G
  have b2:=λ(G:Zc)=>Kp (a:=w8 (t.drop 16)) (b:=w8 (t.drop 24)) (P0 _) (P0 _) G
  have b3:=λ(G:Zc)=>Kp (a:=w8 t|||w8 (t.drop 8)) (b:=w8 (t.drop 16)|||w8 (t.drop 24)) (Kq (P0 _) (P0 _)) (Kq (P0 _) (P0 _)) G
  have bm:=λ(G:Zc)=>G8 (a:=w8 t|||w8 (t.drop 8)|||(w8 (t.drop 16)|||w8 (t.drop 24))) (b:=9259542123273814144) (Kq (Kq (P0 _) (P0 _)) (Kq (P0 _) (P0 _))) (by decide) G
  by_cases hm:(w8 t|||w8 (t.drop 8)|||(w8 (t.drop 16)|||w8 (t.drop 24)))&&&9259542123273814144=0
  ·have dm:decide ((w8 t|||w8 (t.drop 8)|||(w8 (t.drop 16)|||w8 (t.drop 24)))&&&9259542123273814144=0)=true:=Ze hm
   simp(disch:=omega) only[t0,d32,dm,ew0,ew8,Ziq,Zir,b1,b2,b3,bm,XO,Yv,YK,Z2,MD,Zu,ZX,Zz,ZQ,Yf,WL,RA]
   refine⟨_,_,_,rfl,?_⟩
   exact .inl ⟨rfl,(t.drop 32).length,by rw[Z7];omega,⟨t.drop 32,rfl,by rw[<-Gm 32 (by omega) (ZaS hm)];exact hv,by rw[Z7];omega,rfl⟩,k⟩
  ·have dm:decide ((w8 t|||w8 (t.drop 8)|||(w8 (t.drop 16)|||w8 (t.drop 24)))&&&9259542123273814144=0)=false:=Za hm
   simp(disch:=omega) only[t0,d32,dm,ew0,ew8,Ziq,Zir,b1,b2,b3,bm,XO,Yv,YK,Z2,MD,Zu,ZX,Zz,ZQ,Yf,WL]
   refine⟨_,_,_,rfl,?_⟩
   exact .inr ⟨by simp,rfl,⟨t,t0,hv,hl,rfl⟩,k⟩
 ·have d32:decide (32<t.length)=false:=Za h32
  simp only[t0,d32,Yv,YK,MD,Zu,ZX,Zz,ZQ,Yf,WL]
  refine⟨_,_,_,rfl,?_⟩
  exact .inr ⟨by simp,rfl,⟨t,t0,hv,hl,rfl⟩,k⟩
theorem Zhq(E:Env Zo fs fuel){z:List UInt8}{y d r}{x:X}{tm:TM}{L:X6}(hL:WR (MD ⟨ZG (LK Zo fs fuel 1) fs fuel (n+1),y,d,fuel,r⟩) fuel tm H x=L)(h0:Z4 tm=.str z)(k:Zp H0 H [])(hz:z.length<fuel):
  ∃Yp H',L=.ok (.exit 2) Yp H' x∧ ∃t,Z4 Yp=.str t∧vu t=vu z∧t.length<=z.length∧Zp H0 H' []:=by
 obtain⟨o,SY,H1,e,_,rfl,m,⟨t,e1,e2,e3,_⟩,k1⟩:=Xk (VI H0 z) (λo tm H'=>o=.exit 2∧ ∃m,VI H0 z m tm H') (λm tm H' h=>by
  obtain⟨o,Yp,H2,e,h2⟩:=ZlE E (n:=n) y d fuel r x m tm H' h
  refine⟨o,Yp,H2,e,?_⟩
  rcases h2 with h2|⟨h2,h3,h4⟩
  ·exact .inl h2
  ·exact .inr ⟨h2,h3,m,h4⟩) fuel z.length tm H hz ⟨⟨z,h0,rfl,Zj _,rfl⟩,k⟩
 exact⟨SY,H1,hL.symm.trans e,t,e1,e2,e3,k1⟩
theorem wv(hb: ¬Z3 s 0<128)(hx:V4 (Z3 s 0) % 8=2):Xc s=if s.length<2∨Z3 s 1<QZ.getD (V4 (Z3 s 0)/16*2) 0∨QZ.getD (V4 (Z3 s 0)/16*2+1) 0<Z3 s 1 then 0 else 2:=by
 unfold Xc;simp only;rw[if_neg hb,if_pos hx]
theorem ww(hb: ¬Z3 s 0<128)(hx:V4 (Z3 s 0) % 8=3):Xc s=if s.length<3∨Z3 s 1<QZ.getD (V4 (Z3 s 0)/16*2) 0∨QZ.getD (V4 (Z3 s 0)/16*2+1) 0<Z3 s 1∨Z3 s 2<128∨191<Z3 s 2 then 0 else 3:=by
 unfold Xc;simp only;rw[if_neg hb,if_neg (by omega),if_pos hx]
theorem wx(hb: ¬Z3 s 0<128)(hx:V4 (Z3 s 0) % 8=4):Xc s=if s.length<4∨Z3 s 1<QZ.getD (V4 (Z3 s 0)/16*2) 0∨QZ.getD (V4 (Z3 s 0)/16*2+1) 0<Z3 s 1∨Z3 s 2<128∨191<Z3 s 2∨Z3 s 3<128∨191<Z3 s 3 then 0 else 4:=by
 unfold Xc;simp only;rw[if_neg hb,if_neg (by omega),if_neg (by omega),if_pos hx]
theorem nX(hb: ¬Z3 s 0<128)(h2: ¬V4 (Z3 s 0) % 8=2)(h3: ¬V4 (Z3 s 0) % 8=3)(h4: ¬V4 (Z3 s 0) % 8=4):Xc s=0:=by
 unfold Xc;simp only;rw[if_neg hb,if_neg h2,if_neg h3,if_neg h4]
theorem aX{t:List UInt8}{lo hi b6:Nat}{tm:TM}{x:X}{cl y d fuel r}(t0:Z4 tm=.str t)(t6:Wi tm=.ptr b6 0)(g6:H.t.get b6=some (rH 241 [nI .u8 lo,nI .u8 hi]))(lob:b6<H.nx):
  ∃o Yp,IA ⟨cl,y,d,fuel,r⟩ tm H x=.ok o Yp H x∧((o=.ret∧Wc Yp=.bool false∧(t.length<2∨Z3 t 1<lo∨hi<Z3 t 1))∨(o=.normal∧Z4 Yp=.str (t.drop 2)∧ ¬(t.length<2∨Z3 t 1<lo∨hi<Z3 t 1))):=by
 simp only[Pi,GV] at t0 t6
 by_cases p0:t.length<2
 ·have d_p0:decide (t.length<2)=true:=Ze p0
  simp only[t0,Yv,ZO,d_p0,IA,Zu,ZX,Zz,ZQ,Yf,RA]
  exact⟨_,_,rfl,.inl ⟨rfl,(by simp only[ZX]),(Or.inl p0)⟩⟩
 have d_p0:decide (t.length<2)=false:=Za p0
 simp(disch:=first|omega|simp only[ZY,ZZ]<;>omega) only[t0,t6,g6,Zv,Zt,Yq,Yv,ZO,Yz,ZJ,d_p0,IA,Zu,ZX,Zz,ZQ,Yk,Yf,RA]
 by_cases p1:Z3 t 1<lo
 ·have d_p1:decide (Z3 t 1<lo)=true:=Ze p1
  simp(disch:=first|omega|simp only[ZY,ZZ]<;>omega) only[g6,ZJ,d_p1,Zu,ZX,Zz,ZQ,Yf,RA]
  exact⟨_,_,rfl,.inl ⟨rfl,(by simp only[ZX]),(Or.inr (Or.inl p1))⟩⟩
 have d_p1:decide (Z3 t 1<lo)=false:=Za p1
 simp(disch:=first|omega|simp only[ZY,ZZ]<;>omega) only[g6,ZJ,d_p1,Zu,ZX,Zz,ZQ,RA]
 by_cases p2:hi<Z3 t 1
 ·have d_p2:decide (hi<Z3 t 1)=true:=Ze p2
  simp only[d_p2,Zu,Yf,]
  exact⟨_,_,rfl,.inl ⟨rfl,(by simp only[ZX]),(Or.inr (Or.inr p2))⟩⟩
 have d_p2:decide (hi<Z3 t 1)=false:=Za p2
 simp(disch:=omega) only[t0,XO,d_p2,Zu,ZX,Zz,Yf,RA,NK]
 exact⟨_,_,rfl,.inr ⟨rfl,(by simp only[ZX]),by rintro (h|h|h)<;>contradiction⟩⟩
theorem aY{t:List UInt8}{lo hi b6:Nat}{tm:TM}{x:X}{cl y d fuel r}(t0:Z4 tm=.str t)(t6:Wi tm=.ptr b6 0)(g6:H.t.get b6=some (rH 241 [nI .u8 lo,nI .u8 hi]))(lob:b6<H.nx):
  ∃o Yp,IB ⟨cl,y,d,fuel,r⟩ tm H x=.ok o Yp H x∧((o=.ret∧Wc Yp=.bool false∧(t.length<3∨Z3 t 1<lo∨hi<Z3 t 1∨Z3 t 2<128∨191<Z3 t 2))∨(o=.normal∧Z4 Yp=.str (t.drop 3)∧ ¬(t.length<3∨Z3 t 1<lo∨hi<Z3 t 1∨Z3 t 2<128∨191<Z3 t 2))):=by
 simp only[Pi,GV] at t0 t6
 by_cases p0:t.length<3
 ·have d_p0:decide (t.length<3)=true:=Ze p0
  simp only[t0,Yv,ZO,d_p0,IB,Zu,ZX,Zz,ZQ,Yf,NK]
  exact⟨_,_,rfl,.inl ⟨rfl,(by simp only[ZX]),(Or.inl p0)⟩⟩
 have d_p0:decide (t.length<3)=false:=Za p0
 simp(disch:=first|omega|simp only[ZY,ZZ]<;>omega) only[t0,t6,g6,Zv,Zt,Yq,Yv,ZO,Yz,ZJ,d_p0,IB,Zu,ZX,Zz,ZQ,Yk,Yf,NK]
 by_cases p1:Z3 t 1<lo
 ·have d_p1:decide (Z3 t 1<lo)=true:=Ze p1
  simp(disch:=first|omega|simp only[ZY,ZZ]<;>omega) only[g6,ZJ,d_p1,Zu,ZX,Zz,ZQ,Yf,NK]
  exact⟨_,_,rfl,.inl ⟨rfl,(by simp only[ZX]),(Or.inr (Or.inl p1))⟩⟩
 have d_p1:decide (Z3 t 1<lo)=false:=Za p1
 simp only[t0,d_p1,Zu,ZX,Zz,ZQ,Yf,NK]
 by_cases p2:hi<Z3 t 1
 ·have d_p2:decide (hi<Z3 t 1)=true:=Ze p2
  simp(disch:=first|omega|simp only[ZY,ZZ]<;>omega) only[g6,ZJ,d_p2,Zu,ZX,Zz,ZQ,Yf,NK]
  exact⟨_,_,rfl,.inl ⟨rfl,(by simp only[ZX]),(Or.inr (Or.inr (Or.inl p2)))⟩⟩
 have d_p2:decide (hi<Z3 t 1)=false:=Za p2
 simp(disch:=omega) only[t0,ZO,Yz,d_p2,Zu,ZX,Zz,ZQ,Yf,NK]
 by_cases p3:Z3 t 2<128
 ·have d_p3:decide (Z3 t 2<128)=true:=Ze p3
  simp(disch:=first|omega|simp only[ZY,ZZ]<;>omega) only[g6,ZJ,d_p3,Zu,ZX,Zz,ZQ,Yf,NK]
  exact⟨_,_,rfl,.inl ⟨rfl,(by simp only[ZX]),(Or.inr (Or.inr (Or.inr (Or.inl p3))))⟩⟩
 have d_p3:decide (Z3 t 2<128)=false:=Za p3
 simp(disch:=first|omega|simp only[ZY,ZZ]<;>omega) only[g6,ZJ,d_p3,Zu,ZX,Zz,ZQ,NK]
 by_cases p4:191<Z3 t 2
 ·have d_p4:decide (191<Z3 t 2)=true:=Ze p4
  simp only[d_p4,Zu,Yf]
  exact⟨_,_,rfl,.inl ⟨rfl,(by simp only[ZX]),(Or.inr (Or.inr (Or.inr (Or.inr p4))))⟩⟩
 have d_p4:decide (191<Z3 t 2)=false:=Za p4
 simp(disch:=omega) only[t0,XO,d_p4,Zu,ZX,Zz,Yf,NK]
 exact⟨_,_,rfl,.inr ⟨rfl,(by simp only[ZX]),by rintro (h|h|h|h|h)<;>contradiction⟩⟩
theorem aZ{t:List UInt8}{lo hi b6:Nat}{tm:TM}{x:X}{cl y d fuel r}(t0:Z4 tm=.str t)(t6:Wi tm=.ptr b6 0)(g6:H.t.get b6=some (rH 241 [nI .u8 lo,nI .u8 hi]))(lob:b6<H.nx):
  ∃o Yp,IC ⟨cl,y,d,fuel,r⟩ tm H x=.ok o Yp H x∧((o=.ret∧Wc Yp=.bool false∧(t.length<4∨Z3 t 1<lo∨hi<Z3 t 1∨Z3 t 2<128∨191<Z3 t 2∨Z3 t 3<128∨191<Z3 t 3))∨(o=.normal∧Z4 Yp=.str (t.drop 4)∧ ¬(t.length<4∨Z3 t 1<lo∨hi<Z3 t 1∨Z3 t 2<128∨191<Z3 t 2∨Z3 t 3<128∨191<Z3 t 3))):=by
 simp only[Pi,GV] at t0 t6
 by_cases p0:t.length<4
 ·have d_p0:decide (t.length<4)=true:=Ze p0
  simp only[t0,Yv,ZO,d_p0,IC,Zu,ZX,Zz,ZQ,Yf,LG,B6]
  exact⟨_,_,rfl,.inl ⟨rfl,(by simp only[ZX]),(Or.inl p0)⟩⟩
 have d_p0:decide (t.length<4)=false:=Za p0
 simp(disch:=first|omega|simp only[ZY,ZZ]<;>omega) only[t0,t6,g6,Zv,Zt,Yq,Yv,ZO,Yz,ZJ,d_p0,IC,Zu,ZX,Zz,ZQ,Yk,Yf,LG]
 by_cases p1:Z3 t 1<lo
 ·have d_p1:decide (Z3 t 1<lo)=true:=Ze p1
  simp(disch:=first|omega|simp only[ZY,ZZ]<;>omega) only[g6,ZJ,d_p1,Zu,ZX,Zz,ZQ,Yf,LG,B6]
  exact⟨_,_,rfl,.inl ⟨rfl,(by simp only[ZX]),(Or.inr (Or.inl p1))⟩⟩
 have d_p1:decide (Z3 t 1<lo)=false:=Za p1
 simp only[t0,d_p1,Zu,ZX,Zz,ZQ,Yf,LG]
 by_cases p2:hi<Z3 t 1
 ·have d_p2:decide (hi<Z3 t 1)=true:=Ze p2
  simp(disch:=first|omega|simp only[ZY,ZZ]<;>omega) only[g6,ZJ,d_p2,Zu,ZX,Zz,ZQ,Yf,LG,B6]
  exact⟨_,_,rfl,.inl ⟨rfl,(by simp only[ZX]),(Or.inr (Or.inr (Or.inl p2)))⟩⟩
 have d_p2:decide (hi<Z3 t 1)=false:=Za p2
 simp(disch:=omega) only[t0,ZO,Yz,d_p2,Zu,ZX,Zz,ZQ,Yf,LG]
 by_cases p3:Z3 t 2<128
 ·have d_p3:decide (Z3 t 2<128)=true:=Ze p3
  simp(disch:=first|omega|simp only[ZY,ZZ]<;>omega) only[g6,ZJ,d_p3,Zu,ZX,Zz,ZQ,Yf,LG,B6]
  exact⟨_,_,rfl,.inl ⟨rfl,(by simp only[ZX]),(Or.inr (Or.inr (Or.inr (Or.inl p3))))⟩⟩
 have d_p3:decide (Z3 t 2<128)=false:=Za p3
 simp(disch:=omega) only[t0,ZO,Yz,d_p3,Zu,ZX,Zz,ZQ,Yf,LG,B6]
 by_cases p4:191<Z3 t 2
 ·have d_p4:decide (191<Z3 t 2)=true:=Ze p4
  simp(disch:=first|omega|simp only[ZY,ZZ]<;>omega) only[g6,ZJ,d_p4,Zu,ZX,Zz,ZQ,Yf,LG,B6]
  exact⟨_,_,rfl,.inl ⟨rfl,(by simp only[ZX]),(Or.inr (Or.inr (Or.inr (Or.inr (Or.inl p4)))))⟩⟩
 have d_p4:decide (191<Z3 t 2)=false:=Za p4
 simp(disch:=omega) only[t0,ZO,Yz,d_p4,Zu,ZX,Zz,ZQ,Yf,B6]
 by_cases p5:Z3 t 3<128
 ·have d_p5:decide (Z3 t 3<128)=true:=Ze p5
  simp(disch:=first|omega|simp only[ZY,ZZ]<;>omega) only[g6,ZJ,d_p5,Zu,ZX,Zz,ZQ,Yf,LG,B6]
  exact⟨_,_,rfl,.inl ⟨rfl,(by simp only[ZX]),(Or.inr (Or.inr (Or.inr (Or.inr (Or.inr (Or.inl p5))))))⟩⟩
 have d_p5:decide (Z3 t 3<128)=false:=Za p5
 simp(disch:=first|omega|simp only[ZY,ZZ]<;>omega) only[g6,ZJ,d_p5,Zu,ZX,Zz,ZQ,LG,B6]
 by_cases p6:191<Z3 t 3
 ·have d_p6:decide (191<Z3 t 3)=true:=Ze p6
  simp(disch:=omega) only[d_p6,Zu,Yf,]
  exact⟨_,_,rfl,.inl ⟨rfl,(by simp only[ZX]),(Or.inr (Or.inr (Or.inr (Or.inr (Or.inr (Or.inr p6))))))⟩⟩
 have d_p6:decide (191<Z3 t 3)=false:=Za p6
 simp(disch:=omega) only[t0,XO,d_p6,Zu,ZX,Zz,Yf,B6]
 exact⟨_,_,rfl,.inr ⟨rfl,(by simp only[ZX]),by rintro (h|h|h|h|h|h|h)<;>contradiction⟩⟩
theorem Zhr(E:Env Zo fs fuel)(g:V8 H0)(YL:H0.ro<=H0.nx)(hs:s.length<99998)(y d r)(x:X)(m:Nat)(tm:TM)(H:Zc)(h:VI H0 s m tm H):
  ∃o Yp H',PB ⟨ZG (LK Zo fs fuel 1) fs fuel (n+1),y,d,fuel,r⟩ tm H x=.ok o Yp H' x∧((o=.normal∧ ∃k,k<m∧VI H0 s k Yp H')∨(o≠.normal∧((o=.ret∧Wc Yp=.bool (vu s)∧Zp H0 H' [])∨(o=.exit 0∧vu s=true∧Zp H0 H' [])))):=by
 obtain⟨⟨t,t0,hv,hl,rfl⟩,k⟩:=h
 simp only[Pi] at t0
 by_cases h0:0<t.length
 ·have d_h0:decide (0<t.length)=true:=Ze h0
  by_cases ha:Z3 t 0<128
  ·have d_ha:decide (Z3 t 0<128)=true:=Ze ha
   have hv1:vu (t.drop 1)=vu s:=by rw[<-hv,DI (s:=t) (by omega),PX ha,if_neg (by decide)]
   have NX:(t.drop 1).length<t.length:=by rw[Z7];omega
   have hu:=λ(G:Zc)=>XO (s:=t) (p:=1) (by omega) .i64 G
   generalize t.drop 1=u at hv1 NX hu
   by_cases u8:8<u.length
   ·have d_u8:decide (8<u.length)=true:=Ze u8
    have ew0:=λ{j}=>BV E (k:=1) (n:=j) (by decide) (s:=u) (H:=H) (by omega)
    have bm0:=λ(G:Zc)=>G8 (a:=w8 u) (b:=9259542123273814144) (P0 _) (by decide) G
    by_cases m8:w8 u&&&9259542123273814144=0
    ·have d_m8:decide (w8 u&&&9259542123273814144=0)=true:=Ze m8
     have hv8:vu (u.drop 8)=vu s:=by rw[<-Gm 8 (by omega) (ZeP m8)];exact hv1
     have hl8:(u.drop 8).length<u.length:=by rw[Z7];omega
     have hu8:=λ(G:Zc)=>XO (s:=u) (p:=8) (by omega) .i64 G
     generalize u.drop 8=w at hv8 hl8 hu8
     by_cases w16:16<w.length
     ·have d_w16:decide (16<w.length)=true:=Ze w16
      have ev0:=λ{j}=>BV E (k:=1) (n:=j) (by decide) (s:=w) (H:=H) (by omega)
      have ev8:=λ{j}=>BV E (k:=1) (n:=j) (by decide) (s:=w.drop 8) (H:=H) (by rw[Z7];omega)
      have hw8:=λ(G:Zc)=>XO (s:=w) (p:=8) (by omega) .i64 G
      have b1:=λ(G:Zc)=>Kp (a:=w8 w) (b:=w8 (w.drop 8)) (P0 _) (P0 _) G
      have bm1:=λ(G:Zc)=>G8 (a:=w8 w|||w8 (w.drop 8)) (b:=9259542123273814144) (Kq (P0 _) (P0 _)) (by decide) G
      by_cases m16:(w8 w|||w8 (w.drop 8))&&&9259542123273814144=0
      ·have d_m16:decide ((w8 w|||w8 (w.drop 8))&&&9259542123273814144=0)=true:=Ze m16
       have Zkg:vu (w.drop 16)=vu s:=by rw[<-Gm 16 (by omega) (ZaR m16)];exact hv8
       have ZnX:(w.drop 16).length<w.length:=by rw[Z7];omega
       have Zkf:=λ(G:Zc)=>XO (s:=w) (p:=16) (by omega) .i64 G
       generalize w.drop 16=z at Zkg ZnX Zkf
       simp(disch:=omega) only[t0,d_h0,d_ha,Yv,YK,ZO,Z2,Yz,hu,d_u8,ew0,bm0,d_m8,hu8,d_w16,ev0,ev8,hw8,b1,bm1,d_m16,Zkf,PB,Zu,ZX,Zz,ZQ,Yf,WL,]
       generalize hL:WR (MD _) fuel _ _ _=L
       obtain⟨SY,H1,rfl,t1,e1,xz,Nl,k1⟩:=Zhq E (z:=z) hL rfl k (by have:=E.big;omega)
       simp only[Zu,]
       refine⟨_,_,_,rfl,?_⟩
       exact .inl ⟨rfl,t1.length,by omega,⟨t1,e1,xz.trans Zkg,by omega,rfl⟩,k1⟩
      ·have d_m16:decide ((w8 w|||w8 (w.drop 8))&&&9259542123273814144=0)=false:=Za m16
       simp(disch:=omega) only[t0,d_h0,d_ha,Yv,YK,ZO,Z2,Yz,hu,d_u8,ew0,bm0,d_m8,hu8,d_w16,ev0,ev8,hw8,b1,bm1,d_m16,PB,Zu,ZX,Zz,ZQ,Yf,WL,]
       refine⟨_,_,_,rfl,?_⟩
       exact .inl ⟨rfl,w.length,by omega,⟨w,rfl,hv8,by omega,rfl⟩,k⟩
     ·have d_w16:decide (16<w.length)=false:=Za w16
      simp(disch:=omega) only[t0,d_h0,d_ha,Yv,YK,ZO,Z2,Yz,hu,d_u8,ew0,bm0,d_m8,hu8,d_w16,PB,Zu,ZX,Zz,ZQ,Yf,WL,]
      refine⟨_,_,_,rfl,?_⟩
      exact .inl ⟨rfl,w.length,by omega,⟨w,rfl,hv8,by omega,rfl⟩,k⟩
    ·have d_m8:decide (w8 u&&&9259542123273814144=0)=false:=Za m8
     simp(disch:=omega) only[t0,d_h0,d_ha,Yv,YK,ZO,Z2,Yz,hu,d_u8,ew0,bm0,d_m8,PB,Zu,ZX,Zz,Yf,]
     refine⟨_,_,_,rfl,?_⟩
     exact .inl ⟨rfl,u.length,NX,⟨u,rfl,hv1,by omega,rfl⟩,k⟩
   ·have d_u8:decide (8<u.length)=false:=Za u8
    simp(disch:=omega) only[t0,d_h0,d_ha,Yv,YK,ZO,Yz,hu,d_u8,PB,Zu,ZX,Zz,Yf,]
    refine⟨_,_,_,rfl,?_⟩
    exact .inl ⟨rfl,u.length,NX,⟨u,rfl,hv1,by omega,rfl⟩,k⟩
  ·have d_ha:decide (Z3 t 0<128)=false:=Za ha
   have Zjp:=N0 t 0
   have ZjC:=oP (Z3 t 0)
   have hroH:H.ro<=H.nx:=by rw[k.ro];exact Yt YL k.nx
   have Zkl:V4 (Z3 t 0)/16<16:=by have:=oP (Z3 t 0);omega
   obtain⟨rF,gF,lF⟩:=(g.keep0 k).fst
   obtain⟨rA,gA,lA⟩:=(g.keep0 k).acc
   have lF:=λ(G:Zc)=>lF (Z3 t 0) G Zjp
   have lA:=λ(G:Zc)=>lA (V4 (Z3 t 0)/16) G Zkl
   generalize hfx:V4 (Z3 t 0)=fx at lF lA Zkl ZjC
   generalize Pj:QZ.getD (fx/16*2) 0=lo at lA
   generalize hhi:QZ.getD (fx/16*2+1) 0=hi at lA
   have kk:Zp H0 (H.new (rH 241 [nI .u8 lo,nI .u8 hi])) []:=k.then_new _
   simp(disch:=first|assumption|omega|(simp -implicitDefEqProofs only[ZY,ZZ]<;>first|assumption|omega)|decide) only[t0,d_h0,Yv,YK,ZO,Z2,Yz,d_ha,Xr,gF,lF,gA,lA,nv,Ek,Zhb,Zb5,Il,Kn,Hc,PB,Zu,ZX,Zw,Zz,Yf,RA,]
   by_cases q2:fx % 8=2
   ·have d_q2:decide (fx % 8=2)=true:=Ze q2
    simp only[d_q2,Zu,]
    generalize hS:IA _ _ _ _=L
    obtain⟨o,SY,rfl,hq⟩: ∃o SY,L=.ok o SY (H.new (rH 241 [nI .u8 lo,nI .u8 hi])) x∧((o=.ret∧Wc SY=.bool false∧(t.length<2∨Z3 t 1<lo∨hi<Z3 t 1))∨(o=.normal∧Z4 SY=.str (t.drop 2)∧ ¬(t.length<2∨Z3 t 1<lo∨hi<Z3 t 1))):=by
     rw[<-hS]
     exact aX (t:=t) (lo:=lo) (hi:=hi) (b6:=H.nx) (t0) rfl (ZC rfl _) (YZ _)
    rcases hq with⟨rfl,h2,hb⟩|⟨rfl,eA,hb⟩
    ·simp only[N6] at h2
     simp only[Zu,]
     refine⟨_,_,_,rfl,?_⟩
     exact .inr ⟨by simp,.inl ⟨rfl,by rw[<-hv,BT h0 (by rw[wv ha (by rw[hfx];exact q2),hfx,Pj,hhi];exact if_pos hb)];exact h2,kk⟩⟩
    ·have h00:=eA
     simp only[Pi] at eA
     simp only[Zu,]
     refine⟨_,_,_,rfl,?_⟩
     exact .inl ⟨rfl,(t.drop 2).length,by rw[Z7];omega,⟨t.drop 2,h00,by rw[<-hv,Gn h0 (n:=2) (by rw[wv ha (by rw[hfx];exact q2),hfx,Pj,hhi];exact if_neg hb) (by decide)],by rw[Z7];omega,rfl⟩,kk⟩
   have d_q2:decide (fx % 8=2)=false:=Za q2
   simp only[Z2,d_q2,Zu,ZX,RA,NK]
   by_cases q3:fx % 8=3
   ·have d_q3:decide (fx % 8=3)=true:=Ze q3
    simp only[d_q3,Zu,]
    generalize hS:IB _ _ _ _=L
    obtain⟨o,SY,rfl,hq⟩: ∃o SY,L=.ok o SY (H.new (rH 241 [nI .u8 lo,nI .u8 hi])) x∧((o=.ret∧Wc SY=.bool false∧(t.length<3∨Z3 t 1<lo∨hi<Z3 t 1∨Z3 t 2<128∨191<Z3 t 2))∨(o=.normal∧Z4 SY=.str (t.drop 3)∧ ¬(t.length<3∨Z3 t 1<lo∨hi<Z3 t 1∨Z3 t 2<128∨191<Z3 t 2))):=by
     rw[<-hS]
     exact aY (t:=t) (lo:=lo) (hi:=hi) (b6:=H.nx) (t0) rfl (ZC rfl _) (YZ _)
    rcases hq with⟨rfl,h2,hb⟩|⟨rfl,eA,hb⟩
    ·simp only[N6] at h2
     simp only[Zu,]
     refine⟨_,_,_,rfl,?_⟩
     exact .inr ⟨by simp,.inl ⟨rfl,by rw[<-hv,BT h0 (by rw[ww ha (by rw[hfx];exact q3),hfx,Pj,hhi];exact if_pos hb)];exact h2,kk⟩⟩
    ·have h00:=eA
     simp only[Pi] at eA
     simp only[Zu,]
     refine⟨_,_,_,rfl,?_⟩
     exact .inl ⟨rfl,(t.drop 3).length,by rw[Z7];omega,⟨t.drop 3,h00,by rw[<-hv,Gn h0 (n:=3) (by rw[ww ha (by rw[hfx];exact q3),hfx,Pj,hhi];exact if_neg hb) (by decide)],by rw[Z7];omega,rfl⟩,kk⟩
   have d_q3:decide (fx % 8=3)=false:=Za q3
   simp only[Z2,d_q3,Zu,ZX,RA,LG]
   by_cases q4:fx % 8=4
   ·have d_q4:decide (fx % 8=4)=true:=Ze q4
    simp only[d_q4,Zu,]
    generalize hS:IC _ _ _ _=L
    obtain⟨o,SY,rfl,hq⟩: ∃o SY,L=.ok o SY (H.new (rH 241 [nI .u8 lo,nI .u8 hi])) x∧((o=.ret∧Wc SY=.bool false∧(t.length<4∨Z3 t 1<lo∨hi<Z3 t 1∨Z3 t 2<128∨191<Z3 t 2∨Z3 t 3<128∨191<Z3 t 3))∨(o=.normal∧Z4 SY=.str (t.drop 4)∧ ¬(t.length<4∨Z3 t 1<lo∨hi<Z3 t 1∨Z3 t 2<128∨191<Z3 t 2∨Z3 t 3<128∨191<Z3 t 3))):=by
     rw[<-hS]
     exact aZ (t:=t) (lo:=lo) (hi:=hi) (b6:=H.nx) (t0) rfl (ZC rfl _) (YZ _)
    rcases hq with⟨rfl,h2,hb⟩|⟨rfl,eA,hb⟩
    ·simp only[N6] at h2
     simp only[Zu,]
     refine⟨_,_,_,rfl,?_⟩
     exact .inr ⟨by simp,.inl ⟨rfl,by rw[<-hv,BT h0 (by rw[wx ha (by rw[hfx];exact q4),hfx,Pj,hhi];exact if_pos hb)];exact h2,kk⟩⟩
    ·have h00:=eA
     simp only[Pi] at eA
     simp only[Zu,]
     refine⟨_,_,_,rfl,?_⟩
     exact .inl ⟨rfl,(t.drop 4).length,by rw[Z7];omega,⟨t.drop 4,h00,by rw[<-hv,Gn h0 (n:=4) (by rw[wx ha (by rw[hfx];exact q4),hfx,Pj,hhi];exact if_neg hb) (by decide)],by rw[Z7];omega,rfl⟩,kk⟩
   have d_q4:decide (fx % 8=4)=false:=Za q4
   simp only[d_q4,Zu,Yf,]
   refine⟨_,_,_,rfl,?_⟩
   exact .inr ⟨by simp,.inl ⟨rfl,by rw[<-hv,BT h0 (nX ha (by rw[hfx];exact q2) (by rw[hfx];exact q3) (by rw[hfx];exact q4))];simp only[ZX],kk⟩⟩
 ·have d_h0:decide (0<t.length)=false:=Za h0
  simp only[t0,d_h0,Yv,YK,PB,Zu,ZX,Yf,]
  have:t=[]:=Yj.1 (by omega)
  subst this
  refine⟨_,_,_,rfl,?_⟩
  exact .inr ⟨by simp,.inr ⟨rfl,hv.symm.trans Zhs|>.symm▸rfl,k⟩⟩
theorem aU(E:Env Zo fs fuel)(g:V8 H)(YL:H.ro<=H.nx)(hs:s.length<99998):
  ∃H',ZG (LK Zo fs fuel 1) fs fuel (n+2) 126 [.str s] H=.ret (.bool (vu s)) H'∧Zp H H' []:=by
 rw[ZF (ZB E.n126 (.inl (by decide)) _ _) E.f126]
 simp only[Ze5,Zu,Yf]
 generalize hL:WR (PB _) fuel _ _ _=L
 obtain⟨o,SY,H1,rfl,_,hq⟩:=Y9 (P:=λT=>VI H s s.length T H) (Q:=λo tm H'=>(o=.ret∧Wc tm=.bool (vu s)∧Zp H H' [])∨(o=.exit 0∧vu s=true∧Zp H H' []))
  (λT R0=>Xk (VI H s) (λo tm H'=>(o=.ret∧Wc tm=.bool (vu s)∧Zp H H' [])∨(o=.exit 0∧vu s=true∧Zp H H' [])) (λm tm H' h=>Zhr E g YL hs _ _ _ _ m tm H' h) fuel s.length T H (by have:=E.big;omega) R0) hL
  ⟨⟨s,rfl,rfl,Zj _,rfl⟩,Zp.refl _ _⟩
 rcases hq with⟨rfl,h2,k⟩|⟨rfl,h2,k⟩
 ·simp only[N6] at h2
  simp only[h2,Zu,Zw,Yf]
  refine⟨_,rfl,?_⟩
  exact k
 ·rw[h2]
  simp only[Zu,ZX,Zw,Yf]
  refine⟨_,rfl,?_⟩
  exact k
theorem ZlC(E:Env Zo fs fuel)(hk:2<=k)(g:V8 H)(YL:H.ro<=H.nx)(hs:s.length<99998):
  ZG (LK Zo fs fuel k) fs fuel (n+1) 126 [.str s] H=.ret (.bool (vu s)) H:=by
 obtain⟨H',e,g⟩:=aU E (n:=898) (H:=H) g YL hs
 exact Xd (r:=1) rfl rfl e g (rfl) hk
theorem mu(H:Zc)(m:List UInt8):Src H (.str m) (m.map UZ):=by
 intro k
 show Wt H 1 (.str m) (YH m) (λnew=>k (YH m) new)=_
 rw[YC,Zr]
 have e:Kr m=m.map UZ:=by rw[He];rfl
 unfold Wt
 cases m with
 |nil=>rfl
 |cons x m=>
  rw[Zl,Ym,Za (by omega)]
  show ZL (Nat.beq 1 1) (k (m.length+1) (Kr (Ng (m.length+1) (x::m))))=_
  rw[PZ,ZM (by simp),e];rfl
theorem Zhn{c:Nat}(h:c<256):UZ (UInt8.ofNat c)=nI .u8 c:=by
 unfold UZ nI
 rw[UInt8.toNat_ofNat',ZV h]
theorem Za0{v:AV}{l m:List UInt8}{lo:Nat}(h:Buf H v l lo)(hl:l.length+m.length<=140737488355328)(YL:H.ro<=H.nx)(Pj:lo<=H.nx):
  ∃v' H',Uw 5 1 1 v (.str m) H=.val v' H'∧Buf H' v' (l++m) lo∧Below lo H H':=by
 rw[LJ (Zj 1) (mu H m),Zr]
 by_cases hm:m=[]
 ·subst hm
  rw[Xu]
  rcases h with⟨rfl,rfl⟩|⟨VY,b,r,rfl,g,hb⟩
  ·exact⟨_,_,rfl,.inl ⟨rfl,rfl⟩,Below.refl _ _⟩
  ·refine⟨.slice b 0 l.length none,H,?_,.inr ⟨VY,b,r,rfl,g,hb⟩,Below.refl _ _⟩
   have hs:r.size=l.length:=by rw[g.cells.size,Zr]
   show Y3 H b _=_
   unfold Y3
   simp only[g.at_]
   have h1:Jx r 1 none=true:=by show Nat.beq r.sz 1=true;rw[g.sz];rfl
   have h2:Uo r 0 none=l.length:=by show cond (Nat.beq r.sz 1) (r.size - 0) _=_;rw[g.sz,hs];rfl
   rw[h1]
   show cond (Nat.ble (l.length+0) (Uo r 0 none)) _ _=_
   rw[h2,Zg (by omega)];rfl
 ·have hm0:0<m.length:=XU.2 hm
  rcases h with⟨rfl,rfl⟩|⟨VY,b,r,rfl,g,hb⟩
  ·have g:=vR (H:=H) (e:=5) (l:=m.map UZ) YL
   have e:=ve (e:=5) (H:=H) (l:=m.map UZ) (by rw[Zr];exact hm0) (by rw[Zr];simpa using hl)
   rw[Zr] at e
   exact⟨_,_,e,.inr ⟨by simpa using hm,_,_,by rw[Xp],by rw[Xp];exact g,Pj⟩,Below.new lo H _⟩
  ·obtain⟨H',r',e,g',k',nx'⟩:=AC (m:=m.map UZ) g (by rw[Zr];exact hm0) (by rw[Zr,Zr];exact hl)
   rw[Zr,Zr] at e
   refine⟨_,H',e,.inr ⟨by simp[hm],H.nx,r',by rw[Zm],by rw[Xo];exact g',Pj⟩,⟨by omega,k'.ro,λc h1 h2=>k'.get c h2 (by simp;omega)⟩⟩
structure JQ(H:Zc)(sb:Nat)(l:List UInt8):Prop where
 low:sb<H.nx
 ro:H.ro<=sb
 ok: ∃a buf,H.t.get sb=some (rH 35 [a,buf])∧Buf H buf l (sb+1)∧(a=.nilp∨a=.ptr sb 0)
theorem JQ.new(YL:H.ro<=H.nx):JQ (H.new (rH 35 [.nilp,.nils])) H.nx []:=⟨YZ _,YL,.nilp,.nils,ZC rfl _,.inl ⟨rfl,rfl⟩,.inl rfl⟩
theorem JQ.keep{H H':Zc}{sb:Nat}{l:List UInt8}(b:JQ H sb l)(k:Zp H H' []):JQ H' sb l:=by
 obtain⟨a,buf,g,h,ha⟩:=b.ok
 exact⟨ZH b.low k.nx,by rw[k.ro];exact b.ro,a,buf,by rw[k.get _ b.low (by simp)];exact g,h.below (λc _ hc=>k.get c hc (by simp)) k.ro k.nx,ha⟩
theorem Below.keep{H0 H H':Zc}(k:Zp H0 H [])(b:Below n H H')(h:H0.nx<=n):Zp H0 H' []:=Zp.below k b h
theorem AG{v:AV}{l:List UInt8}{lo:Nat}(h:Buf H v l lo):v.cells=[v]:=by
 rcases h with⟨_,rfl⟩|⟨_,_,_,rfl,_⟩<;>rfl
theorem KZ(E:Env Zo fs fuel){sb:Nat}{a buf:AV}(g:H.t.get sb=some (rH 35 [a,buf]))(YL:H.ro<=sb)(ha:a=.nilp∨a=.ptr sb 0):
  ZG (LK Zo fs fuel k) fs fuel (n+2) 57 [.ptr sb 0] H=.ret (.tup []) (H.put sb (rH 35 [.ptr sb 0,buf])):=by
 rw[ZF (ZB E.n57 (.inr rfl) _ _) E.f57]
 have p1:bu (.ptr sb 0) H=.val (.ptr sb 0) H:=by
  show Y3 H sb _=_
  unfold Y3
  rw[g]
  rfl
 have p2:br 35 2 (.ptr sb 0) H=.val (.ptr sb 0) H:=by
  show Y3 H sb _=_
  unfold Y3
  rw[g]
  show ZL (Nat.beq 35 35) _=_
  rw[Yb];rfl
 have en:=λ{j}=>LL (Zo:=Zo) (fs:=fs) (fuel:=fuel) (Ur:=Ur) (Ts:=Ts) (k:=k) (n:=j) (f:=116) rfl (E.nesc (.ptr sb 0) H)
 rcases ha with rfl|rfl
 ·simp(disch:=first|omega|simp only[ZY,ZZ]<;>omega) only[g,s9,zY,p1,en,zW,p2,ZJ,XK,c57,Zu,ZX,Zw,Zz,Yf]
 ·rw[O9 g]
  simp(disch:=first|omega|simp only[ZY,ZZ]<;>omega) only[g,Zbp,fF,ZJ,c57,Zu,ZX,Zw,Zz,Yf]
theorem Jj(E:Env Zo fs fuel){sb:Nat}{x:Nat}{l:List UInt8}(b:JQ H sb l)(hx:x<256)(hl:l.length+[UInt8.ofNat x].length<=140737488355328)(YL:H.ro<=H.nx):
  ∃H',ZG (LK Zo fs fuel k) fs fuel (n+3) 15 [.ptr sb 0,nI .u8 x] H=.ret (.nili) H'∧JQ H' sb (l++[UInt8.ofNat x])∧Below sb H H':=by
 rw[ZF (ZB E.n15 (.inr rfl) _ _) E.f15]
 obtain⟨a,buf,g,hb,ha⟩:=b.ok
 have Oz:=b.low
 have rQ:=b.ro
 have ec:=λ{j}=>KZ E (k:=k) (n:=j) g b.ro ha
 obtain⟨H1,Yo⟩:=WQ (H.put sb (rH 35 [.ptr sb 0,buf]))
 rw[Yo] at ec
 have VH:H1.nx=H.nx:=by rw[<-Yo];rfl
 have Nn:H1.ro=H.ro:=by rw[<-Yo];rfl
 have g1:H1.t.get sb=some (rH 35 [.ptr sb 0,buf]):=by rw[<-Yo,ZS]
 have b1:Below sb H H1:=by rw[<-Yo];exact Below.put (Zj _)
 have Q3:Buf H1 buf l (sb+1):=hb.below (λc h _=>by rw[<-Yo,ZD (by omega)]) Nn (by omega)
 obtain⟨v',H3,ea,iW,b3⟩:=gG Q3 (by simp at hl;omega) (by rw[Nn,VH];exact YL) (by omega) (UInt8.ofNat x)
 have g3:H3.t.get sb=some (rH 35 [.ptr sb 0,buf]):=by rw[b3.get sb (by omega) (by omega)];exact g1
 have hv:=AG iW
 have r3:H3.ro<=sb:=by rw[b3.ro,Nn];exact rQ
 have st: ∀(e:Nat),FG 1 (some (rH 35 [.ptr sb 0,buf])) sb 1 v' H3=.val YS (H3.put sb (rH 35 [.ptr sb 0,v'])):=λe=>XK hv (by simp) r3 (by omega) _ _ _ _
 have st:=st 0
 rw[Zhn hx,Uy,VH] at ea
 simp(disch:=first|omega|simp only[ZY,ZZ]<;>omega) only[ec,g1,ea,g3,st,VH,ZJ,Ny,LN,Uy,Er,c15,Zu,ZX,Zw,Zz,Yf]
 refine⟨_,rfl,⟨?_,r3,.ptr sb 0,v',ZS ..,?_,.inr rfl⟩,b1.trans ((b3.mono (XZ _)).trans (Below.put (Zj _)))⟩
 ·have:=b3.nx;show sb<H3.nx;omega
 ·exact iW.below (λc h _=>by rw[ZD (by omega)]) rfl (Zj _)
theorem Qs(E:Env Zo fs fuel){sb:Nat}{m:List UInt8}{l:List UInt8}(b:JQ H sb l)(hl:l.length+m.length<=140737488355328)(YL:H.ro<=H.nx):
  ∃H',ZG (LK Zo fs fuel k) fs fuel (n+3) 14 [.ptr sb 0,.str m] H=.ret (.tup [nI .i64 m.length,.nili]) H'∧JQ H' sb (l++m)∧Below sb H H':=by
 rw[ZF (ZB E.n14 (.inr rfl) _ _) E.f14]
 obtain⟨a,buf,g,hb,ha⟩:=b.ok
 have Oz:=b.low
 have rQ:=b.ro
 have ec:=λ{j}=>KZ E (k:=k) (n:=j) g b.ro ha
 obtain⟨H1,Yo⟩:=WQ (H.put sb (rH 35 [.ptr sb 0,buf]))
 rw[Yo] at ec
 have VH:H1.nx=H.nx:=by rw[<-Yo];rfl
 have Nn:H1.ro=H.ro:=by rw[<-Yo];rfl
 have g1:H1.t.get sb=some (rH 35 [.ptr sb 0,buf]):=by rw[<-Yo,ZS]
 have b1:Below sb H H1:=by rw[<-Yo];exact Below.put (Zj _)
 have Q3:Buf H1 buf l (sb+1):=hb.below (λc h _=>by rw[<-Yo,ZD (by omega)]) Nn (by omega)
 obtain⟨v',H3,ea,iW,b3⟩:=Za0 (m:=m) Q3 (by simpa using hl) (by rw[Nn,VH];exact YL) (by omega)
 have g3:H3.t.get sb=some (rH 35 [.ptr sb 0,buf]):=by rw[b3.get sb (by omega) (by omega)];exact g1
 have hv:=AG iW
 have r3:H3.ro<=sb:=by rw[b3.ro,Nn];exact rQ
 have st: ∀(e:Nat),FG 1 (some (rH 35 [.ptr sb 0,buf])) sb 1 v' H3=.val YS (H3.put sb (rH 35 [.ptr sb 0,v'])):=λe=>XK hv (by simp) r3 (by omega) _ _ _ _
 have st:=st 0
 simp(disch:=first|omega|simp only[ZY,ZZ]<;>omega) only[ec,g1,ea,g3,st,ZJ,Ny,Yv,c14,Zu,ZX,Zw,Zz,Yf]
 refine⟨_,rfl,⟨?_,r3,.ptr sb 0,v',ZS ..,?_,.inr rfl⟩,b1.trans ((b3.mono (XZ _)).trans (Below.put (Zj _)))⟩
 ·have:=b3.nx;show sb<H3.nx;omega
 ·exact iW.below (λc h _=>by rw[ZD (by omega)]) rfl (Zj _)
theorem yX(E:Env Zo fs fuel){sb:Nat}{l:List UInt8}(b:JQ H sb l)(hlen:l.length<=140737488355328):
  ∃H',ZG (LK Zo fs fuel k) fs fuel (n+1) 18 [.ptr sb 0] H=.ret (.str l) H'∧Below sb H H':=by
 rw[ZF (ZB E.n18 (.inr rfl) _ _) E.f18]
 obtain⟨a,buf,g,hb,ha⟩:=b.ok
 obtain⟨p,u1,⟨H',u2,u3⟩,u4,u5,u6,u7,u8⟩:=od hb hlen
 have u1:=u1 ⟨H.nx,H.t,H.nx⟩ rfl
 have u5:=u5 H.nx H.t
 have u6:=u6 H.nx (Zj _)
 have u7:=u7 H.nx H.t
 have lp:Xt H.nx (.ptr sb 0)=true:=Yq b.low 0
 simp(disch:=first|omega|simp only[ZY,ZZ]<;>omega) only[lp,g,ZJ,KA,u1,Fi,u2,u5,u6,u7,u8,c18,Zu,ZX,Zw,Zz,ZQ,Yk,Nat.reducePow,Nat.reduceDiv,Nat.reduceMod,Yf]
 refine⟨_,rfl,?_⟩
 exact u3.mono (XZ _)
def wT(H:Zc)(v:AV)(N:Nat)(l:List UInt8)(lo:Nat):Prop:=
 ∃b r,v=.slice b 0 l.length none∧lo<=b∧b<H.nx∧H.ro<=b∧H.t.get b=some (.row r)∧r.elem=5∧r.sz=1∧r.size=N∧r.own=true∧r.sm=false∧r.fz=0∧ ∀i,i<l.length->r.get i=(l.map UZ).getD i .unk
theorem wT.below{H H':Zc}{v:AV}{N:Nat}{l:List UInt8}{lo:Nat}(h:wT H v N l lo)(hg: ∀c,lo<=c->c<H.nx->H'.t.get c=H.t.get c)(hr:H'.ro=H.ro)(hn:H.nx<=H'.nx):wT H' v N l lo:=by
 obtain⟨b,r,e,h1,h2,h3,h4,h5⟩:=h
 exact⟨b,r,e,h1,ZH h2 hn,by rw[hr];exact h3,by rw[hg b h1 h2];exact h4,h5⟩
theorem q8{v:AV}{N:Nat}{l:List UInt8}{lo:Nat}(h:wT H v N l lo):v.cells=[v]:=by
 obtain⟨b,r,rfl,_⟩:=h;rfl
theorem bq{v:AV}{N:Nat}{l m:List UInt8}{lo:Nat}(h:wT H v N l lo)(hl:l.length+m.length<=N):
  ∃v' H',Uw 5 1 1 v (.str m) H=.val v' H'∧wT H' v' N (l++m) lo∧Below lo H H':=by
 rw[LJ (Zj 1) (mu H m),Zr]
 obtain⟨b,r,rfl,h1,h2,h3,h4,h5,h6,h7,h8,h9,h10,h11⟩:=h
 have Rb:H.may r b=true:=by unfold Zc.may;rw[h8,Zg h3];rfl
 have hs:Jx r 1 none=true:=by show Nat.beq r.sz 1=true;rw[h6];rfl
 have hc:Uo r 0 none=N:=by show cond (Nat.beq r.sz 1) (r.size - 0) _=_;rw[h6,h7];rfl
 have e1:Q8 (.slice b 0 l.length none) 5 1 1 H m.length (m.map UZ)=DO H (.slice b 0 l.length none) b 0 l.length m.length 1 none r (m.map UZ):=by
  show Y3 H b _=_
  unfold Y3
  rw[h4]
  show ZL (Jx r 1 none) (cond (Nat.ble (l.length+m.length) (Uo r 0 none)) _ _)=_
  rw[hs,hc,Zg hl];rfl
 rw[e1]
 by_cases hm:m.length=0
 ·have:m=[]:=Yj.1 hm
  subst this
  rw[Xu]
  exact⟨_,_,rfl,⟨b,r,rfl,h1,h2,h3,h4,h5,h6,h7,h8,h9,h10,h11⟩,Below.refl _ _⟩
 ·refine⟨.slice b 0 (l.length+m.length) none,H.put b (.row (r.setCells (XM r.cells l.length (m.map UZ)))),?_,⟨b,_,by rw[Zm],h1,h2,h3,ZS ..,h5,h6,h7,h8,h9,h10,λi hi=>?_⟩,Below.put h1⟩
  ·show cond (Nat.beq m.length 0) _ (ZL (H.may r b) (ZL (Nat.ble (0+(l.length+m.length)*1) r.size) (ZL (Nat.ble r.fz (0+l.length*1)) (.val (.slice b 0 (l.length+m.length) none) (H.put b (.row (r.setCells (XM r.cells (0+l.length*1) (m.map UZ)))))))))=_
   rw[Ym,Za hm,Rb,h7,h10,Zg (by omega),Zg (by omega),Xr,Zt];rfl
  ·show(Option.rec r.dflt (λv=>v) ((XM r.cells l.length (m.map UZ)).get i):AV)=_
   rw[Ss,Xo,Zf]
   rw[Zm] at hi
   by_cases hil:i<l.length
   ·rw[if_neg (by omega),Yr (by rw[Zr];exact hil)]
    have:=h11 i hil
    rw[Zf] at this
    exact this
   ·rw[if_pos (by rw[Zr];omega),YI (by rw[Zr];omega),Zr]
    rw[Zi (by rw[Zr];omega)];rfl
theorem sw{v:AV}{l:List UInt8}{lo:Nat}(h:wT H v l.length l lo)(hp:0<l.length)(hl:l.length<=140737488355328): ∃p,(∀G:Zc,G.t=H.t->DH v G=.val p G)∧(∃H',so 5 p (nI .i64 l.length) H=.val (.str l) H'∧Below lo H H')∧(∀n,H.nx<=n->Xt n p=true)∧(∀n t,VP (.val p ⟨n,t,n⟩) p n=true)∧(∀n,H.nx<=n->Xt n v=true)∧(∀n t,VP (.val v ⟨n,t,n⟩) v n=true)∧ ∀G,QK v G=.val (nI .i64 l.length) G:=by
 obtain⟨b,r,rfl,h1,h2,h3,h4,h5,h6,h7,h8,h9,h10,h11⟩:=h
 refine⟨.ptr b 0,λG e=>?_,?_,λn hn=>Yq (ZH h2 hn) 0,λn t=>UC _ _ _ (by unfold same;rw[Yb,Yb];rfl),λn hn=>We (ZH h2 hn) _ _ _,λn t=>UU _ _ _ _ _ _,λG=>Vl ..⟩
 ·show Y3 G b _=_
  unfold Y3
  rw[e,h4]
  show ZL (Nat.ble 1 r.size) _=_
  rw[Zg (by omega)];rfl
 ·refine⟨H.put b (.row ⟨r.elem,r.sz,r.size,r.cells,r.dflt,cond (Nat.ble r.fz (Nat.add 0 l.length)) (Nat.add 0 l.length) r.fz,r.sm,r.own,r.exact⟩),?_,Below.put h1⟩
  show cond (Nat.beq l.length 0) _ (ZL (Nat.ble l.length 140737488355328) (Y3 H b _))=_
  rw[Ym,Za (by omega),Zg hl]
  unfold Y3
  rw[h4]
  show ZL (Nat.beq r.elem 5) (ZL (cond r.sm false (H.may r b)) (ZL (Nat.ble (0+l.length) r.size) (Rz _ (loadN r 0 l.length))))=_
  have Rb:H.may r b=true:=by unfold Zc.may;rw[h8,Zg h3];rfl
  have hld:loadN r 0 l.length=l.map UZ:=by
   apply Wl
   intro j
   by_cases hj:j<l.length
   ·rw[SJ _ _ _ _ hj,Zt,h11 j hj,Zf,Zi (by rw[Zr];exact hj)];rfl
   ·rw[YF (by rw[So];omega),YF (by rw[Zr];omega)]
  rw[h5,h9,Rb,Zg (by omega),hld,Nh]
  rfl
structure DJ(H:Zc)(sb N:Nat)(l:List UInt8):Prop where
 low:sb<H.nx
 ro:H.ro<=sb
 ok: ∃buf,H.t.get sb=some (rH 35 [.ptr sb 0,buf])∧wT H buf N l (sb+1)
theorem DJ.keep{H H':Zc}{sb N:Nat}{l:List UInt8}(b:DJ H sb N l)(k:Zp H H' []):DJ H' sb N l:=by
 obtain⟨buf,g,h⟩:=b.ok
 exact⟨ZH b.low k.nx,by rw[k.ro];exact b.ro,buf,by rw[k.get _ b.low (by simp)];exact g,h.below (λc _ hc=>k.get c hc (by simp)) k.ro k.nx⟩
theorem Lg(E:Env Zo fs fuel){sb N:Nat}{m:List UInt8}{l:List UInt8}(b:DJ H sb N l)(hl:l.length+m.length<=N):
  ∃H',ZG (LK Zo fs fuel k) fs fuel (n+3) 14 [.ptr sb 0,.str m] H=.ret (.tup [nI .i64 m.length,.nili]) H'∧DJ H' sb N (l++m)∧Below sb H H':=by
 rw[ZF (ZB E.n14 (.inr rfl) _ _) E.f14]
 obtain⟨buf,g,hb⟩:=b.ok
 have Oz:=b.low
 have rQ:=b.ro
 have ec:=λ{j}=>KZ E (k:=k) (n:=j) g b.ro (.inr rfl)
 rw[O9 g] at ec
 obtain⟨v',H3,ea,iW,b3⟩:=bq (m:=m) hb hl
 have g3:H3.t.get sb=some (rH 35 [.ptr sb 0,buf]):=by rw[b3.get sb (by omega) (by omega)];exact g
 have hv:=q8 iW
 have r3:H3.ro<=sb:=by rw[b3.ro];exact rQ
 have st:=XK (fz:=0) (b:=sb) (H:=H3) (l:=[.ptr sb 0,buf]) (o:=1) hv (by simp) r3 (by omega) 35 1 false true
 simp(disch:=first|omega|simp only[ZY,ZZ]<;>omega) only[ec,g,ea,g3,st,ZJ,Ny,Yv,Zt,W4,List.set_cons_zero,c14,Zu,ZX,Zw,Zz,Yf]
 refine⟨_,rfl,⟨?_,r3,v',ZS ..,?_⟩,(b3.mono (XZ _)).trans (Below.put (Zj _))⟩
 ·have:=b3.nx;show sb<H3.nx;omega
 ·exact iW.below (λc h _=>by rw[ZD (by omega)]) rfl (Zj _)
theorem gw(E:Env Zo fs fuel){sb:Nat}{l:List UInt8}(b:DJ H sb l.length l)(hp:0<l.length)(hlen:l.length<=140737488355328):
  ∃H',ZG (LK Zo fs fuel k) fs fuel (n+1) 18 [.ptr sb 0] H=.ret (.str l) H'∧Below sb H H':=by
 rw[ZF (ZB E.n18 (.inr rfl) _ _) E.f18]
 obtain⟨buf,g,hb⟩:=b.ok
 obtain⟨p,u1,⟨H',u2,u3⟩,u4,u5,u6,u7,u8⟩:=sw hb hp hlen
 have u1:=u1 ⟨H.nx,H.t,H.nx⟩ rfl
 have u5:=u5 H.nx H.t
 have u6:=u6 H.nx (Zj _)
 have u7:=u7 H.nx H.t
 have lp:Xt H.nx (.ptr sb 0)=true:=Yq b.low 0
 simp(disch:=first|omega|simp only[ZY,ZZ]<;>omega) only[lp,g,ZJ,KA,u1,Fi,u2,u5,u6,u7,u8,c18,Zu,ZX,Zw,Zz,ZQ,Yk,Nat.reducePow,Nat.reduceDiv,Nat.reduceMod,Yf]
 refine⟨_,rfl,?_⟩
 exact u3.mono (XZ _)
def Zid(v:AV)(H:Zc):OR:=Tk v (.val (.int .i64 0) H) λb o _ cap=>Option.rec (Y3 H b λr=>ZL r.exact (ZL (Nat.beq (Nat.mod o r.sz) 0) (.val (.int .i64 (.ofNat (Uo r o none))) H))) (λc=>.val (.int .i64 (.ofNat c)) H) cap
theorem nK(x:Yc)(tm:TM)(H:Zc):ZcF x tm H=Zid (x tm) H:=rfl
theorem AJ(H:Zc):Zid .nils H=.val (nI .i64 0) H:=rfl
def bW(e N:Nat):Obj:=.row ⟨e,1,N,.leaf,.unk,0,false,true,false⟩
theorem az{N:Nat}(g:H.t.get b=some (bW 5 N))(hN:0<N)(k:IntKind):Fw 1 (.slice b 0 N none) none (some (nI k 0)) H=.val (.slice b 0 0 none) H:=by
 show Y3 H b _=_
 unfold Y3
 rw[g]
 show cond (Nat.beq 0 N) _ _=_
 rw[Ym,Za (by omega)];rfl
theorem sZ(b o:Nat)(c:Option Nat)(H:Zc):oD 1 (.slice b o 0 c) .nils H=.val (.int .i64 0) H:=rfl
theorem ka(b o n:Nat)(c:Option Nat)(q:Nat)(t:T Obj):VP (.val (.slice b o n c) ⟨q,t,q⟩) (.slice b o n c) q=true:=UU ..
def MNZ(Zo:NJ):Prop:= ∀(n:Nat) (H:Zc),n<=281474976710656->Zo 231 [nI .i64 n] H=some (.ret (.slice H.nx 0 n none) (H.new (bW 5 n)))
theorem ZiA(E:Env Zo fs fuel)(M:MNZ Zo){sb N:Nat}(g:H.t.get sb=some (rH 35 [.ptr sb 0,.nils]))(Oz:sb<H.nx)(YL:H.ro<=sb)(h0:0<N)(hN:N<=281474976710656)(hnn:Ur 231=0):
  ∃H',ZG (LK Zo fs fuel k) fs fuel (n+2) 196 [.ptr sb 0,nI .i64 N] H=.ret (.tup []) H'∧DJ H' sb N []∧Below sb H H':=by
 rw[ZF (ZB E.n196 (.inr rfl) _ _) E.f196]
 have em:=λ{j}=>LL (Zo:=Zo) (fs:=fs) (fuel:=fuel) (Ur:=Ur) (Ts:=Ts) (k:=k) (n:=j) (f:=231) rfl (M N H hN)
 obtain⟨H1,Yo⟩:=WQ (H.new (bW 5 N))
 rw[Yo] at em
 have VH:H1.nx=H.nx+1:=by rw[<-Yo];rfl
 have Nn:H1.ro=H.ro:=by rw[<-Yo];rfl
 have g1:H1.t.get H.nx=some (bW 5 N):=by rw[<-Yo,ZC rfl]
 have gs:H1.t.get sb=some (rH 35 [.ptr sb 0,.nils]):=by rw[<-Yo,ZK (by omega)];exact g
 have r1:H1.ro<=sb:=by omega
 have st:=XK (fz:=0) (b:=sb) (H:=H1) (l:=[.ptr sb 0,.nils]) (o:=1) (v:=.slice H.nx 0 0 none) rfl (by simp) r1 (by omega) 35 1 false true
 have lp:Xt H.nx (.ptr sb 0)=true:=Yq Oz 0
 have lp':Xt H1.nx (.ptr sb 0)=true:=Yq (by omega) 0
 have ZoS:Xt H1.nx (.ptr sb 1)=true:=Yq (by omega) 1
 have ls:=We (show H.nx<H1.nx by omega) 0 N none
 have sl:=az (H:=⟨H1.nx,H1.t,H1.nx⟩) g1 h0 .i64
 rw[VH] at sl lp' ZoS ls
 simp(disch:=first|omega|simp only[ZY,ZZ]<;>omega) only[lp,g,gs,VH,em,sl,st,ZJ,nK,AJ,xS,YQ,Nat.mul_zero,O3,sZ,ka,zF,W4,List.set_cons_zero,Zfl,Zu,ZX,Zw,Zz,ZQ,Yk,Nat.reducePow,Nat.reduceDiv,Nat.reduceMod,reduceCtorEq,Yf]
 refine⟨_,rfl,?_⟩
 exact⟨⟨by show sb<H1.nx;omega,r1,_,ZS ..,H.nx,_,rfl,Oz,by show H.nx<H1.nx;omega,by show H1.ro<=H.nx;omega,by rw[ZD (by omega)];exact g1,rfl,rfl,rfl,rfl,rfl,rfl,λi hi=>by cases hi⟩,⟨by show H.nx<=H1.nx;omega,Nn,λc h1 h2=>by rw[ZD (by omega),<-Yo,ZK (by omega)]⟩⟩
def yQ(H:Zc)(b:Nat)(ss:List (List UInt8)):Prop:= ∃r,H.t.get b=some (.row r)∧r.sz=1∧r.size=ss.length∧(∀i (G:Zc),i<ss.length->ld1 (some (.row r)) i G=.val (.str (ss.getD i [])) G)
theorem yQ.keep{H H':Zc}{ss:List (List UInt8)}(h:yQ H b ss)(hb:b<H.nx)(k:Zp H H' []):yQ H' b ss:=by
 obtain⟨r,h1,h2⟩:=h
 exact⟨r,by rw[k.get b hb (by simp)];exact h1,h2⟩
theorem rt(ss:List (List UInt8))(i:Nat)(h:i<ss.length):(ss.map λs=>AV.str s).getD i .unk=.str (ss.getD i []):=by
 rw[Zf,YR,Zf,Zi h];rfl
theorem Ca(ss:List (List UInt8)):(ss.map λs=>[AV.str s]).flatten=ss.map λs=>AV.str s:=by
 induction ss with
 |nil=>rfl
 |cons s ss ih=>rw[Y8,Vy,ih];rfl
theorem yQ.of{ss:List (List UInt8)}{r:Row}(h:Lr H b 9 1 (ss.map λs=>[AV.str s]) r):yQ H b ss:=by
 have hs:=h.size
 rw[Zr,Xr] at hs
 refine⟨r,h.at_,h.szr,hs,λi G hi=>?_⟩
 rw[Dt (by omega),h.cells.get i (by rw[Ca,Zr];exact hi),Ca,rt _ _ hi]
theorem tF{r:Row}(g:H.t.get b=some (.row r))(hz:r.sz=1)(hs:r.size=n)(hn:1<n)(k:IntKind):Fw 1 (.slice b 0 n none) (some (nI k 1)) none H=.val (.slice b 1 (n - 1) none) H:=by
 show Y3 H b _=_
 unfold Y3
 rw[g]
 have e1:Jx r 1 none=true:=by show Nat.beq r.sz 1=true;rw[hz];rfl
 have e2:Uo r 0 none=n:=by show cond (Nat.beq r.sz 1) (r.size - 0) _=_;rw[hz,hs];rfl
 show ZL (Jx r 1 none) (ZL (Nat.ble 1 n) (ZL (Nat.ble 1 (Uo r 0 none)) (cond (Nat.beq 1 (Uo r 0 none)) _ _)))=_
 rw[e1,e2,Zg (by omega),Ym,Za (by omega)];rfl
structure J0(b:Nat)(ss:List (List UInt8))(m:Nat)(tm:TM):Prop where
 i: ∃i,Sc tm=nI .i64 i∧i<=ss.length∧m=ss.length - i∧Wp tm=nI .i64 ((ss.length - 1)+M9 (ss.take i))
 t0:Z4 tm=.slice b 0 ss.length none
 t1:Xz tm=.str [44]
 t39:Ra tm=.slice b 0 ss.length none
 t40:Sz tm=nI .i64 ss.length
theorem Zcd{cl:Nat->List AV->Zc->CR}{ss:List (List UInt8)}(hT:yQ H b ss)(hc:ss.length<=9000)(hs:M9 ss<=1000000000)(y f d r)(x:X)(m:Nat)(tm:TM)(h:J0 b ss m tm):
  ∃o Yp,KU ⟨cl,y,f,d,r⟩ tm H x=.ok o Yp H x∧((o=.normal∧ ∃k,k<m∧J0 b ss k Yp)∨(o≠.normal∧(o=.exit 1∧J0 b ss 0 Yp))):=by
 obtain⟨⟨i,t41,hi,rfl,t5⟩,t0,t1,t39,t40⟩:=h
 have KQ:=t0;have Px:=t1;have Zlv:=t39;have Zlx:=t40;have Dj:=t5;have Zpc:=t41
 simp only[GU,Zi2,Zi0,Zi1] at t5 t41 t39 t40
 obtain⟨rw_,g,_,_,ld⟩:=hT
 by_cases Y6:i<ss.length
 ·have d1:decide (i<ss.length)=true:=Ze Y6
  have ld:=λ(G:Zc)=>ld i G Y6
  have Ut:=ir Y6
  have QY:=Zdt ss (i+1)
  have ix:=λ(G:Zc)=>Xw Y6 b 0 none .i64 G
  rw[Zt] at ix
  generalize(ss.getD i [])=e at ld Ut
  generalize hA:(ss.length - 1)+M9 (ss.take i)=A at t5
  have dn:decide (9223372036854775807 - A<e.length)=false:=Za (by omega)
  simp(disch:=omega) only[t5,t41,t39,t40,d1,dn,g,ld,ix,ZO,YK,Yv,Wy,YQ,KU,Zu,ZX,Yf,WL]
  exact⟨_,_,rfl,.inl ⟨rfl,ss.length - (i+1),by omega,⟨⟨i+1,rfl,by omega,rfl,by rw[Ut,<-XC,hA];simp only[Yf,ZX]⟩,KQ,Px,Zlv,Zlx⟩⟩⟩
 ·have d1:decide (i<ss.length)=false:=Za Y6
  simp only[t41,t40,d1,ZO,KU,Zu,ZX,WL]
  exact⟨_,_,rfl,.inr ⟨by simp,rfl,⟨⟨i,Zpc,hi,by omega,Dj⟩,KQ,Px,Zlv,Zlx⟩⟩⟩
theorem dz{cl:Nat->List AV->Zc->CR}{ss:List (List UInt8)}(hT:yQ H0 b ss)(hc:ss.length<=9000)(hs:M9 ss<=1000000000)(y f d r)(x:X)(m:Nat)(tm:TM)(H:Zc)(h:H=H0∧J0 b ss m tm):
  ∃o Yp H',KU ⟨cl,y,f,d,r⟩ tm H x=.ok o Yp H' x∧((o=.normal∧ ∃k,k<m∧(H'=H0∧J0 b ss k Yp))∨(o≠.normal∧(o=.exit 1∧H'=H0∧J0 b ss 0 Yp))):=by
 obtain⟨rfl,h⟩:=h
 obtain⟨o,Yp,e,h3⟩:=Zcd (cl:=cl) hT hc hs y f d r x m tm h
 refine⟨o,Yp,H,e,?_⟩
 rcases h3 with⟨h4,k,h5,h6⟩|⟨h4,h5,h6⟩
 ·exact .inl ⟨h4,k,h5,rfl,h6⟩
 ·exact .inr ⟨h4,h5,rfl,h6⟩
structure J1I(H0:Zc)(b N:Nat)(ss:List (List UInt8))(m:Nat)(tm:TM)(H:Zc):Prop where
 i: ∃i,NM tm=nI .i64 i∧i<=ss.length - 1∧m=ss.length - 1 - i∧DJ H H0.nx N (Vq (ss.take (i+1)))
 t1:Xz tm=.str [44]
 t8:Wk tm=.ptr H0.nx 0
 t63:P8 tm=.slice b 1 (ss.length - 1) none
 t64:O2 tm=nI .i64 (ss.length - 1)
 k:Zp H0 H []
theorem Zce(E:Env Zo fs fuel){N:Nat}{ss:List (List UInt8)}(hT:yQ H0 b ss)(hb:b<H0.nx)(hc:ss.length<=9000)(h2:2<=ss.length)(hN:(Vq ss).length=N)(y f d r)(x:X)(m:Nat)(tm:TM)(H:Zc)(h:J1I H0 b N ss m tm H):
  ∃o Yp H',Iz ⟨ZG (LK Zo fs fuel k) fs fuel (n+3),y,f,d,r⟩ tm H x=.ok o Yp H' x∧((o=.normal∧ ∃k,k<m∧J1I H0 b N ss k Yp H')∨(o≠.normal∧(o=.exit 3∧Wk Yp=.ptr H0.nx 0∧DJ H' H0.nx N (Vq ss)∧Zp H0 H' []))):=by
 obtain⟨⟨i,t65,hi,rfl,bl⟩,t1,t8,t63,t64,k0⟩:=h
 have Px:=t1;have EQ:=t8;have Zpg:=t63;have Zph:=t64
 simp only[PO,Ct,Zi9,Zja,Zjb] at t1 t8 t63 t64 t65
 obtain⟨rw_,g,_,_,ld⟩:=hT.keep hb k0
 have VY:ss≠[]:=by intro e;subst e;simp at h2
 by_cases Y6:i<ss.length - 1
 ·have d1:decide (i<ss.length - 1)=true:=Ze Y6
  have ld:=λ(G:Zc)=>ld (1+i) G (by omega)
  rw[show 1+i=i+1 by omega] at ld
  have ix:=λ(G:Zc)=>Xw Y6 b 1 none .i64 G
  rw[show 1+i=i+1 by omega] at ix
  have hj:=qd (l:=ss) (i:=i) (by omega)
  have Tn:=ui (k:=i+2) (by omega) VY
  rw[hj,Zm,Zm,Zl,ZA] at Tn
  obtain⟨H2,e2,b2,w2⟩:=Lg E (k:=k) (n:=n) bl (m:=[44]) (by rw[Zl,ZA];omega)
  have ZnZ:(Vq (ss.take (i+1))++[44]).length+(ss.getD (i+1) []).length<=N:=by rw[Zm,Zl,ZA];omega
  obtain⟨H3,e3,b3,w3⟩:=Lg E (k:=k) (n:=n) b2 (m:=ss.getD (i+1) []) ZnZ
  have k3:=Below.keep (Below.keep k0 w2 (Zj _)) w3 (Zj _)
  rw[<-hj] at b3
  generalize ss.getD (i+1) []=e at ld e3
  simp(disch:=omega) only[t1,t8,t63,t64,t65,d1,g,ld,ix,e2,e3,ZO,YQ,Iz,Zu,ZX,Yf,WL,RA]
  refine⟨_,_,_,rfl,?_⟩
  exact .inl ⟨rfl,ss.length - 1 - (i+1),by omega,⟨⟨i+1,rfl,by omega,rfl,b3⟩,Px,EQ,Zpg,Zph,k3⟩⟩
 ·have d1:decide (i<ss.length - 1)=false:=Za Y6
  rw[ZM (by omega)] at bl
  simp only[t64,t65,d1,ZO,Iz,Zu,ZX,Yf,RA]
  refine⟨_,_,_,rfl,?_⟩
  exact .inr ⟨by simp,rfl,(by simp only[ZX];exact EQ),bl,k0⟩
theorem ZiB(E:Env Zo fs fuel)(M:MNZ Zo){sb N:Nat}(g:H.t.get sb=some (rH 35 [.nilp,.nils]))(Oz:sb<H.nx)(YL:H.ro<=sb)(h0:0<N)(hN:N<=281474976710656):
  ∃H',ZG (LK Zo fs fuel k) fs fuel (n+3) 156 [.ptr sb 0,nI .i64 N] H=.ret (.tup []) H'∧DJ H' sb N []∧Below sb H H':=by
 rw[ZF (ZB E.n156 (.inr rfl) _ _) E.f156]
 have ec:=λ{j}=>KZ E (k:=k) (n:=j) g YL (.inl rfl)
 obtain⟨H1,Yo⟩:=WQ (H.put sb (rH 35 [.ptr sb 0,.nils]))
 rw[Yo] at ec
 have VH:H1.nx=H.nx:=by rw[<-Yo];rfl
 have Nn:H1.ro=H.ro:=by rw[<-Yo];rfl
 have g1:H1.t.get sb=some (rH 35 [.ptr sb 0,.nils]):=by rw[<-Yo,ZS]
 obtain⟨H2,e2,b2,w2⟩:=ZiA E M (k:=k) (n:=n) g1 (by omega) (by omega) h0 hN rfl
 have lp:Xt H.nx (.ptr sb 0)=true:=Yq Oz 0
 have d1:decide (N<0)=false:=Za (by omega)
 have d2:decide (0<N)=true:=Ze h0
 simp(disch:=first|omega|simp only[ZY,ZZ]<;>omega) only[ec,lp,g1,VH,d1,d2,e2,ZJ,nK,AJ,O3,Wy,ZO,Zfb,Zu,ZX,Zw,Zz,ZQ,Yk,Yf]
 refine⟨_,rfl,?_⟩
 exact⟨b2,(Below.trans (by rw[<-Yo];exact Below.put (Zj _)) w2)⟩
theorem dA(E:Env Zo fs fuel){ss:List (List UInt8)}{v:AV}{lo:Nat}(M:MNZ Zo)(h:V0 H v 9 1 (ss.map λs=>[AV.str s]) lo)(hc:ss.length<=9000)(hs:(Vq ss).length<=900000000)(YL:H.ro<=H.nx):
  ∃H',ZG (LK Zo fs fuel 1) fs fuel (n+4) 111 [v,.str [44]] H=.ret (.str (Vq ss)) H'∧Zp H H' []:=by
 rw[ZF (ZB E.n111 (.inl (by decide)) _ _) E.f111]
 rcases h with⟨hn,rfl⟩|⟨hn,b,r,rfl,hr,Pj⟩
 ·have:ss=[]:=by cases ss with|nil=>rfl|cons a l=>simp at hn
  subst this
  have d0:decide (0=0)=true:=rfl
  simp only[Z2,O3,gI,Zu,ZX,Zw,Zz,Yf,]
  refine⟨_,rfl,?_⟩
  exact Zp.refl _ _
 ·have hT:=yQ.of hr
  have hb:=hr.low
  rw[Zr]
  have VY:ss≠[]:=by rintro rfl;exact hn rfl
  have hp:=XU.2 VY
  have d0:decide (ss.length=0)=false:=Za (by omega)
  by_cases h1:ss.length=1
  ·have d1:decide (ss.length=1)=true:=Ze h1
   obtain⟨rw_,g,_,_,ld⟩:=hT
   have ld:=λ(G:Zc)=>ld 0 G (by omega)
   have ix:=λ(G:Zc)=>Xw hp b 0 none .i64 G
   have ej:Vq ss=ss.getD 0 []:=by
    cases ss with
    |nil=>simp at h1
    |cons s l=>
     have:l=[]:=Yj.1 (by simpa using h1)
     subst this;show s++[]=s;simp
   rw[ej]
   simp only[d0,d1,Z2,Vl,g,ld,ix,Zv,gI,Zu,ZX,Zw,Yf,]
   refine⟨_,rfl,?_⟩
   exact Zp.refl _ _
  ·have d1:decide (ss.length=1)=false:=Za h1
   have h2:2<=ss.length:=by omega
   have dl:decide (0<1)=true:=rfl
   have l44:([44]:List UInt8).length=1:=rfl
   have hN:=zH VY
   have dq:decide (9223372036854775807/(ss.length - 1)<=1)=false:=Za (by
    intro hq
    have:=(Nat.div_le_iff_le_mul_add_pred (show 0<ss.length - 1 by omega)).1 hq
    omega)
   simp(disch:=omega) only[l44,d0,d1,dl,dq,Z2,YK,Yu,Vl,Yv,Wy,Zg0,xS,YQ,U0,Zt,gI,Zu,ZX,Yf,WL]
   generalize hL:WR (KU _) fuel _ _ _=L
   obtain⟨SY,rfl,ji⟩: ∃SY,L=.ok (.exit 1) SY H ⟨[],none⟩∧J0 b ss 0 SY:=by
    obtain⟨o,SY,H1,e,_,rfl,rfl,ji⟩:=Y9 (P:=λT=>J0 b ss ss.length T) (Q:=λo Yp H'=>o=.exit 1∧H'=H∧J0 b ss 0 Yp)
     (λT R0=>Xk (λm tm H'=>H'=H∧J0 b ss m tm) _ (λm tm H' h'=>dz hT hc (by omega) _ _ _ _ _ m tm H' h') fuel ss.length T H (by have:=E.big;omega) ⟨rfl,R0⟩) hL ⟨⟨0,rfl,Z1 _,rfl,rfl⟩,rfl,rfl,rfl,rfl⟩
    exact⟨SY,e,ji⟩
   obtain⟨⟨i,t41,hi,hm,t5⟩,t0,t1,_,_⟩:=ji
   rw[ZM (by omega),<-hN] at t5
   simp only[Pi,PO,GU] at t0 t1 t5
   have t1'':=t1
   obtain⟨H1,Yo⟩:=WQ (H.new (rH 35 [.nilp,.nils]))
   have k1:Zp H H1 []:=by rw[<-Yo];exact Zp.new H _ _
   have VH:H1.nx=H.nx+1:=by rw[<-Yo];rfl
   have g1:H1.t.get H.nx=some (rH 35 [.nilp,.nils]):=by rw[<-Yo,ZC rfl]
   obtain⟨H2,e2,b2,w2⟩:=ZiB E M (k:=1) (n:=n) (N:=(Vq ss).length) g1 (by omega) (by rw[k1.ro];exact YL) (by omega) (by omega)
   have k2:=Below.keep k1 w2 (Zj _)
   obtain⟨rw2,g2,Ej,LD,ld2⟩:=hT.keep hb k2
   have ldA:=λ(G:Zc)=>ld2 0 G (by omega)
   have ixA:=λ(G:Zc)=>Xw hp b 0 none .i64 G
   have Tn:=ui (k:=1) (by omega) VY
   have ej:Vq (ss.take 1)=ss.getD 0 []:=by
    cases ss with
    |nil=>simp at hp
    |cons s l=>show s++[]=s;simp
   rw[ej] at Tn
   obtain⟨H3,e3,b3,w3⟩:=Lg E (k:=1) (n:=n) b2 (m:=ss.getD 0 []) (by rw[ZA];omega)
   have k3:=Below.keep k2 w3 (Zj _)
   obtain⟨rw3,g3,hz3,hs3,ld3⟩:=hT.keep hb k3
   have sl:=tF g3 hz3 hs3 (by omega) .i64
   have lS:=λ(G:Zc)=>Vl b 1 (ss.length - 1) none G
   simp only[t0,t5,Yo,e2,g2,ldA,ixA,e3,sl,lS,Zv,Zu,ZX,Zz,Yf,WL,RA]
   generalize hL:WR (Iz _) fuel _ _ _=L
   obtain⟨o,Dl,H4,rfl,_,rfl,t8,b4,k4⟩:=Y9 (P:=λT=>J1I H b (Vq ss).length ss (ss.length - 1) T H3) (Q:=λo Yp H'=>o=.exit 3∧Wk Yp=.ptr H.nx 0∧DJ H' H.nx (Vq ss).length (Vq ss)∧Zp H H' [])
    (λT R0=>Xk (J1I H b (Vq ss).length ss) _ (λm tm H' h'=>Zce E (k:=1) (n:=n) hT hb hc h2 rfl _ _ _ _ _ m tm H' h') fuel (ss.length - 1) T H3 (by have:=E.big;omega) R0) hL
    ⟨⟨0,rfl,Z1 _,rfl,by rw[Zt,ej];exact b3⟩,by simp only[Yf,ZX];exact t1'',rfl,rfl,rfl,k3⟩
   simp only[Ct] at t8
   obtain⟨H5,e5,w5⟩:=gw E (k:=1) (n:=n+2) b4 (by omega) (by omega)
   simp only[t8,e5,Zu,ZX,Zw,Yf,RA]
   refine⟨_,rfl,?_⟩
   exact Below.keep k4 w5 (Zj _)
theorem Zkt(E:Env Zo fs fuel)(hk:2<=k){ss:List (List UInt8)}{v:AV}{lo:Nat}(M:MNZ Zo)(h:V0 H v 9 1 (ss.map λs=>[AV.str s]) lo)(hc:ss.length<=9000)(hs:(Vq ss).length<=900000000)(YL:H.ro<=H.nx):
  ZG (LK Zo fs fuel k) fs fuel (n+1) 111 [v,.str [44]] H=.ret (.str (Vq ss)) H:=by
 obtain⟨H',e,g⟩:=dA E (n:=896) (H:=H) M h hc hs YL
 exact Xd (r:=1) rfl rfl e g (rfl) hk
theorem xi(h:n<128):(Utf8.encode (n:Int)).data.toList=[UInt8.ofNat n]:=by
 have: ∀n:Fin 128,(Utf8.encode ((n.val:Nat):Int)).data.toList=[UInt8.ofNat n.val]:=by decide
 exact this ⟨n,h⟩
def nY(a:AV)(H:Zc):OR:=RC a λ_ n=>.val (.str (Utf8.encode n).data.toList) H
theorem Hm(x:Yc)(tm:TM)(H:Zc):uL x tm H=nY (x tm) H:=rfl
theorem Ex{k:IntKind}(h:n<128)(H:Zc):nY (nI k n) H=.val (.str [UInt8.ofNat n]) H:=by
 show OR.val (.str (Utf8.encode (n:Int)).data.toList) H=_
 rw[xi h]
theorem ki{a:Nat}(ha:a<256)(H:Zc):Nq Sf (nI .u8 a) (nI .u8 15) H=.val (nI .u8 (a % 16)) H:=by
 show ZL (Qd .u8 .u8) (Vm .u8 (.ofNat (Nat.land (a % 256) (15 % 256))) H)=_
 rw[Y4,YY,OI,ZV ha]
 show OR.val _ H=_
 rw[show Nat.land a (15 % 256)=a&&&(2^4 - 1) from rfl,Nat.and_two_pow_sub_one_eq_mod,ZV (show a % 2^4<256 by omega)];rfl
theorem cI(s:List UInt8)(i:Nat):UInt8.ofNat (Z3 s i)=s.getD i 0:=by unfold Z3;exact TC
structure QI(H0:Zc)(s:List UInt8)(m:Nat)(tm:TM)(H:Zc):Prop where
 i: ∃i,Vn tm=nI .i64 i∧i<=s.length∧m=s.length - i∧JQ H H0.nx ([34]++(s.take i).flatMap qB)
 t0:Z4 tm=.str s
 t3:W6 tm=.ptr H0.nx 0
 t8:Wk tm=nI .i64 s.length
 k:Zp H0 H []
 ro:H.ro<=H.nx
theorem ZgZ(E:Env Zo fs fuel)(hs:s.length<=9000)(y f d r)(x:X)(m:Nat)(tm:TM)(H:Zc)(h:QI H0 s m tm H):
  ∃o Yp H',Ns ⟨ZG (LK Zo fs fuel 1) fs fuel (n+3),y,f,d,r⟩ tm H x=.ok o Yp H' x∧((o=.normal∧ ∃k,k<m∧QI H0 s k Yp H')∨(o≠.normal∧(o=.exit 0∧W6 Yp=.ptr H0.nx 0∧JQ H' H0.nx ([34]++s.flatMap qB)∧Zp H0 H' []∧H'.ro<=H'.nx))):=by
 obtain⟨⟨i,t9,hi,rfl,b⟩,t0,t3,t8,k0,YL⟩:=h
 have KQ:=t0;have Di:=t3;have EQ:=t8
 simp only[Pi,J7,Ct,ZbA] at t0 t3 t8 t9
 by_cases Y6:i<s.length
 ·have d1:decide (i<s.length)=true:=Ze Y6
  have hq:=nP (s.take i)
  rw[Z9] at hq
  have hb:=N0 s i
  have Zn8:=Zcv Y6
  have done: ∀{H2:Zc} {m:List UInt8} {Dl:TM},m=qB (s.getD i 0)->JQ H2 H0.nx ([34]++(s.take i).flatMap qB++m)->Below H0.nx H H2->Vn Dl=nI .i64 (i+1)->Z4 Dl=.str s->W6 Dl=.ptr H0.nx 0->Wk Dl=nI .i64 s.length->QI H0 s (s.length - (i+1)) Dl H2:=λhm b2 w2 a1 a2 a3 a4=>
   ⟨⟨i+1,a1,by omega,rfl,by rw[Zhk Y6,<-hm,<-Yl];exact b2⟩,a2,a3,a4,Below.keep k0 w2 (Zj _),by rw[w2.ro];have:=w2.nx;omega⟩
  have slm:=λ(G:Zc)=>Ps (s:=s) (p:=i) (q:=i+1) (by omega) (by omega) .i64 .i64 G
  rw[Zn8] at slm
  generalize hc:Z3 s i=cc at hb
  have hcc:(s.getD i 0).toNat=cc:=hc
  have ofc:UInt8.ofNat cc=s.getD i 0:=by rw[<-hc,cI]
  have ibs:=λ(G:Zc)=>Yz Y6 .i64 G
  rw[hc] at ibs
  by_cases h34:cc=34
  ·have IJ:decide (cc=34)=true:=Ze h34
   obtain⟨H2,e2,b2,w2⟩:=Qs E (k:=1) (n:=n) b (m:=[92,s.getD i 0]) (by simp only[Zm,Zl,ZA];omega) YL
   simp(disch:=first|assumption|(simp only[Zl,ZA];omega)|omega|(simp -implicitDefEqProofs only[ZY,ZZ]<;>first|assumption|omega)|decide) only[t0,t3,t8,t9,d1,IJ,ibs,slm,ZO,Z2,YQ,Qw,Xj,e2,Ns,Zu,ZX,Zz,Yf,WL]
   refine⟨_,_,_,rfl,?_⟩
   exact .inl ⟨rfl,_,by omega,done (by unfold qB;rw[hcc,if_pos (.inl h34)]) b2 w2 rfl KQ Di EQ⟩
  have IJ:decide (cc=34)=false:=Za h34
  by_cases h92:cc=92
  ·have wN:decide (cc=92)=true:=Ze h92
   obtain⟨H2,e2,b2,w2⟩:=Qs E (k:=1) (n:=n) b (m:=[92,s.getD i 0]) (by simp only[Zm,Zl,ZA];omega) YL
   simp(disch:=first|assumption|(simp only[Zl,ZA];omega)|omega|(simp -implicitDefEqProofs only[ZY,ZZ]<;>first|assumption|omega)|decide) only[t0,t3,t8,t9,d1,IJ,wN,ibs,slm,ZO,Z2,YQ,Qw,Xj,e2,Ns,Zu,ZX,Zz,Yf,WL]
   refine⟨_,_,_,rfl,?_⟩
   exact .inl ⟨rfl,_,by omega,done (by unfold qB;rw[hcc,if_pos (.inr h92)]) b2 w2 rfl KQ Di EQ⟩
  have wN:decide (cc=92)=false:=Za h92
  by_cases h32:cc<32
  ·have d32:decide (cc<32)=true:=Ze h32
   have hd1:cc/16<2:=by omega
   have iX:cc % 16<16:=by omega
   obtain⟨H2,e2,b2,w2⟩:=Qs E (k:=1) (n:=n) b (m:=[92,117,48,48,N7 (cc/16),N7 (cc % 16)]) (by simp only[Zm,Zl,ZA];omega) YL
   have x1:=λ(G:Zc)=>Yz (s:=[48,49]) (i:=cc/16) hd1 .u8 G
   have x2:=λ(G:Zc)=>Yz (s:=[48,49,50,51,52,53,54,55,56,57,97,98,99,100,101,102]) (i:=cc % 16) iX .u8 G
   rw[ZeT hd1] at x1
   rw[ZfZ iX] at x2
   have r1:=λ(G:Zc)=>Ex (k:=.u8) (oV (n:=cc/16) (by omega)) G
   have r2:=λ(G:Zc)=>Ex (k:=.u8) (oV iX) G
   rw[TC] at r1 r2
   simp(disch:=first|assumption|(simp only[Zl,ZA];omega)|omega|(simp -implicitDefEqProofs only[ZY,ZZ]<;>first|assumption|omega)|decide) only[t0,t3,t8,t9,d1,IJ,wN,d32,ibs,ZO,Z2,YQ,Zhb,x1,x2,CJ,r1,r2,Hm,ki,Qw,Xj,CL,e2,Ns,Zu,ZX,Zz,ZQ,Yf,WL]
   refine⟨_,_,_,rfl,?_⟩
   exact .inl ⟨rfl,_,by omega,done (by unfold qB;rw[hcc,if_neg (by omega),if_pos h32]) b2 w2 rfl KQ Di EQ⟩
  have d32:decide (cc<32)=false:=Za h32
  obtain⟨H2,e2,b2,w2⟩:=Jj E (k:=1) (n:=n) b (x:=cc) hb (by simp only[Zm,Zl,ZA];omega) YL
  rw[ofc] at b2
  simp(disch:=omega) only[t0,t3,t8,t9,d1,IJ,wN,d32,ibs,ZO,Z2,YQ,e2,Ns,Zu,ZX,Yf,WL]
  refine⟨_,_,_,rfl,?_⟩
  exact .inl ⟨rfl,_,by omega,done (by unfold qB;rw[hcc,if_neg (by omega),if_neg h32]) b2 w2 rfl KQ Di EQ⟩
 ·have d1:decide (i<s.length)=false:=Za Y6
  simp only[t8,t9,d1,ZO,Ns,Zu,ZX,Yf]
  refine⟨_,_,_,rfl,?_⟩
  exact .inr ⟨by simp,rfl,Di,by rw[ZM (by omega)] at b;exact b,k0,YL⟩
theorem pg(E:Env Zo fs fuel)(hs:s.length<=9000)(YL:H.ro<=H.nx):
  ∃H',ZG (LK Zo fs fuel 1) fs fuel (n+4) 110 [.str s] H=.ret (.str (quo s)) H'∧Zp H H' []:=by
 rw[ZF (ZB E.n110 (.inl (by decide)) _ _) E.f110]
 obtain⟨H1,Yo⟩:=WQ (H.new (rH 35 [.nilp,.nils]))
 have b1:=JQ.new (H:=H) YL
 rw[Yo] at b1
 have k1:Zp H H1 []:=by rw[<-Yo];exact Zp.new H _ _
 have Nn:H1.ro<=H1.nx:=by rw[k1.ro];have:=k1.nx;omega
 obtain⟨H2,e2,b2,w2⟩:=Jj E (k:=1) (n:=n) b1 (x:=34) (by decide) (by simp) Nn
 have k2:=Below.keep k1 w2 (Zj _)
 simp only[Yo,e2,Yv,ZeY,Zu,ZX,Yf]
 generalize hL:WR (Ns _) fuel _ _ _=L
 obtain⟨o,SY,H3,rfl,_,rfl,t3,b3,k3,jZ⟩:=Y9 (P:=λT=>QI H s s.length T H2) (Q:=λo Yp H'=>o=.exit 0∧W6 Yp=.ptr H.nx 0∧JQ H' H.nx ([34]++s.flatMap qB)∧Zp H H' []∧H'.ro<=H'.nx)
  (λT R0=>Xk (QI H s) _ (λm tm H' h'=>ZgZ E hs _ _ _ _ _ m tm H' h') fuel s.length T H2 (by have:=E.big;omega) R0) hL
  ⟨⟨0,rfl,Z1 _,rfl,b2⟩,rfl,rfl,rfl,k2,by rw[w2.ro];have:=w2.nx;omega⟩
 simp only[J7] at t3
 have hq:=nP s
 obtain⟨H4,e4,b4,w4⟩:=Jj E (k:=1) (n:=n) b3 (x:=34) (by decide) (by simp only[Zm,Zl,ZA];omega) jZ
 obtain⟨H5,e5,w5⟩:=yX E (k:=1) (n:=n+2) b4 (by simp only[Zm,Zl,ZA];omega)
 simp only[t3,e4,e5,Zu,ZX,Zw,Yf,WL]
 refine⟨_,rfl,?_⟩
 exact Below.keep (Below.keep k3 w4 (Zj _)) w5 (Zj _)
theorem bA(E:Env Zo fs fuel)(hk:2<=k)(hs:s.length<=9000)(YL:H.ro<=H.nx):
  ZG (LK Zo fs fuel k) fs fuel (n+1) 110 [.str s] H=.ret (.str (quo s)) H:=by
 obtain⟨H',e,g⟩:=pg E (n:=896) (H:=H) hs YL
 exact Xd (r:=1) rfl rfl e g (rfl) hk
end
end
end Go.AI
