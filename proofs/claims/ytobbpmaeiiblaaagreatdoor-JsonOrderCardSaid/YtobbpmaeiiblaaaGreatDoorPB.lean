/- UTF-8, texts built and joined, quoting, walked: proved without conditions but those that each names. -/
import Derived.Test.YtobbpmaeiiblaaaGreatDoorP9
import Derived.Test.YtobbpmaeiiblaaaGreatDoorPA
set_option maxRecDepth 1000000
set_option maxHeartbeats 0
set_option linter.unusedVariables false
set_option linter.unusedSimpArgs false
namespace Go.AI
open Go
noncomputable section
theorem ZiM{a b:Nat}(ha:a<18446744073709551616)(hb:b<18446744073709551616)(H:Heap):ZmH Ux (nI .u64 a) (nI .u64 b) H= .val (nI .u64 (a&&&b)) H:=by
 show ZR (kEq .u64 .u64) (Vv .u64 (.ofNat (Nat.land (a % 18446744073709551616) (b % 18446744073709551616))) H)=_
 rw[YH,YU,Zbz,ZX ha,ZX hb]
 show OR.val _ H=_
 rw[show Nat.land a b=a&&&b from rfl,ZX (Nat.lt_of_le_of_lt Nat.and_le_left ha)];rfl
theorem Zeq{a b:Nat}(ha:a<18446744073709551616)(hb:b<18446744073709551616)(H:Heap):ZmH Qz (nI .u64 a) (nI .u64 b) H= .val (nI .u64 (a|||b)) H:=by
 show ZR (kEq .u64 .u64) (Vv .u64 (.ofNat (Nat.lor (a % 18446744073709551616) (b % 18446744073709551616))) H)=_
 rw[YH,YU,Zbz,ZX ha,ZX hb]
 show OR.val _ H=_
 rw[show Nat.lor a b=a|||b from rfl,ZX (Nat.or_lt_two_pow (n:=64) ha hb)];rfl
theorem Zda{a:Nat}(ha:a<256)(H:Heap):ZmH Ux (nI .u8 a) (nI .u8 7) H= .val (nI .u8 (a % 8)) H:=by
 show ZR (kEq .u8 .u8) (Vv .u8 (.ofNat (Nat.land (a % 256) (7 % 256))) H)=_
 rw[YH,YU,Zj3,ZX ha]
 show OR.val _ H=_
 rw[show Nat.land a (7 % 256)=a&&&(2^3 - 1) from rfl,Nat.and_two_pow_sub_one_eq_mod,ZX (show a % 2^3<256 by omega)];rfl
theorem ZrZ{a:Nat}(ha:a<256)(H:Heap):ZjS .u64 (nI .u8 a) H= .val (nI .u64 a) H:=by
 unfold nI;rw[Zho,YU]
 show OR.val (.int .u64 (IntKind.u64.wrap (.ofNat a))) H=_
 rw[Zbz,ZX (by omega)]
theorem UW{a:Nat}(ha:a<256)(H:Heap):ZjS .i64 (nI .u8 a) H= .val (nI .i64 a) H:=by
 unfold nI;rw[Zho,YU]
 show OR.val (.int .i64 (IntKind.i64.wrap (.ofNat a))) H=_
 rw[Zcu (by omega)]
theorem Yb{s:List UInt8}{i:Nat}(h:i<s.length)(k:IntKind)(H:Heap):ZcU (.str s) (nI k i) H= .val (nI .u8 (by_ s i)) H:=U3 h k H
theorem Zer{a b:Nat}(ha:a<18446744073709551616)(hb:b<18446744073709551616):a|||b<18446744073709551616:=Nat.or_lt_two_pow (n:=64) ha hb
theorem ZsY(s:List UInt8)(i:Nat):by_ s i<18446744073709551616:=Nat.lt_trans (Zm2 s i) (by decide)
theorem ZaR(s:List UInt8):w8 s<18446744073709551616:=by
 unfold w8
 repeat' first|exact Nat.mod_lt _ (by decide)|exact ZsY _ _|apply Zer
theorem Zqk{a:Nat}(H:Heap):Zt4 (nI .u8 a) (nI .u64 4) H= .val (nI .u8 (a/16)) H:=ZxC (by decide) H
def GlobU(H:Heap):Prop:=100≤H.nx∧(∃r,H.t.get 0=some (.row r)∧Cells r (Zyf.map (nI .u8)))∧ ∃r,H.t.get 1=some (.row r)∧Cells r (Zf7.map (nI .u8))
theorem GlobU.keep{H H':Heap}(g:GlobU H){S:List Nat}(k:Keep H H' S)(hS: ∀x∈S,100≤x):GlobU H':=by
 obtain⟨h,⟨r,h1,h2⟩,e,h3,h4⟩:=g
 exact⟨Nat.le_trans h k.nx,⟨r,by rw[k.get _ (by omega) (fun h=>by have:=hS _ h;omega)];exact h1,h2⟩,e,by rw[k.get _ (by omega) (fun h=>by have:=hS _ h;omega)];exact h3,h4⟩
theorem GlobU.keep0{H H':Heap}(g:GlobU H)(k:Keep H H' []):GlobU H':=g.keep k (by simp)
theorem GlobU.fst{H:Heap}(g:GlobU H): ∃r,H.t.get 0=some (.row r)∧ ∀(b:Nat) (G:Heap),b<256→ld1 (some (.row r)) b G= .val (nI .u8 (Zcx b)) G:=by
 obtain⟨_,⟨r,h1,h2⟩,_⟩:=g
 refine⟨r,h1,fun b G hb=>?_⟩
 have hl:(Zyf.map (nI .u8)).length=256:=by rw[Zy];unfold Zyf;simp
 rw[Zn6 (by rw[h2.size,hl];exact hb),h2.get b (by rw[hl];exact hb)]
 congr 1
 rw[Zi,List.getElem?_map];unfold Zyf
 rw[List.getElem?_map,List.getElem?_range hb];rfl
theorem GlobU.acc{H:Heap}(g:GlobU H): ∃r,H.t.get 1=some (.row r)∧ ∀(k:Nat) (G:Heap),k<16→ldN 2 (some (.row r)) (k*2) G= .val (.agg [nI .u8 (Zf7.getD (k*2) 0),nI .u8 (Zf7.getD (k*2+1) 0)]) G:=by
 obtain⟨_,_,r,h1,h2⟩:=g
 refine⟨r,h1,fun k G hk=>?_⟩
 have hl:(Zf7.map (nI .u8)).length=32:=rfl
 show ZR (Nat.ble (k*2+2) r.size) (OR.val (.agg (loadN r (k*2) 2)) G)=_
 rw[h2.size,hl,Zj (show k*2+2≤32 by omega),h2.load (by rw[hl];omega)]
 show OR.val _ G=_
 congr 2
 have:k=0∨k=1∨k=2∨k=3∨k=4∨k=5∨k=6∨k=7∨k=8∨k=9∨k=10∨k=11∨k=12∨k=13∨k=14∨k=15:=by omega
 rcases this with rfl|rfl|rfl|rfl|rfl|rfl|rfl|rfl|rfl|rfl|rfl|rfl|rfl|rfl|rfl|rfl<;>rfl
theorem ZsZ(b:Nat):Zcx b<256:=by
 have: ∀(p:Prop) [Decidable p] (x y:Nat),x<256→y<256→(if p then x else y)<256:=fun p _ x y h1 h2=>by split<;>assumption
 unfold Zcx
 repeat' first|apply this|decide
theorem Zdb{n i sz:Nat}(h:i<n)(b o:Nat)(k:IntKind)(H:Heap):ZsG n sz (.ptr b o) (nI k i) H= .val (.ptr b (o+i*sz)) H:=by
 show ZR (Nat.ble (Nat.succ i) n) (OR.val (.ptr b (Nat.add o (Nat.mul i sz))) H)=_
 rw[Zj (show Nat.succ i≤n from h)];rfl
theorem Zu3{Zk:Lib}{fs:T CF}{fuel:Nat}(E:Env Zk fs fuel){n:Nat}{s:List UInt8}{H:Heap}(h:8≤s.length):
  ∃H',ZQ (LK Zk fs fuel 0) fs fuel (n+2) 151 [.str s] H= .ret (nI .u64 (w8 s)) H'∧Keep H H' []:=by
 rw[ZV (ZL E.n151 (.inl (by decide)) _ _) E.f151]
 unfold w8
 simp(maxSteps:=4000000) (disch:=first|assumption|exact Zm2 _ _|((repeat' first|exact Nat.mod_lt _ (by decide)|exact ZsY _ _|apply Zer);done)|omega|(simp -implicitDefEqProofs only[Zt,Zu]<;>first|assumption|omega)|decide) only[Yb,ZrZ,Zux,Zeq,ZAo,ZG,N8G,Zr,Zs,Zd,Ze,Zf,Nat.reducePow,Nat.reduceDiv,Nat.reduceMod,Nat.reduceEqDiff,reduceCtorEq,TB0,TB1]
 refine⟨_,rfl,?_⟩
 exact Keep.refl _ _
theorem Zlz{Zk:Lib}{fs:T CF}{fuel:Nat}(E:Env Zk fs fuel){k n:Nat}(hk:1≤k){s:List UInt8}{H:Heap}(h:8≤s.length):
  ZQ (LK Zk fs fuel k) fs fuel (n+1) 151 [.str s] H= .ret (nI .u64 (w8 s)) H:=by
 obtain⟨H',e,g⟩:=Zu3 E (n:=898) (H:=H) h
 exact YI (r:=0) rfl rfl e g (rfl) hk
structure VI(H0:Heap)(s:List UInt8)(m:Nat)(tm:TM)(H:Heap):Prop where
 t: ∃t,gt0 tm= .str t∧vu t=vu s∧t.length≤s.length∧m=t.length
 k:Keep H0 H []
theorem ZEk{Zk:Lib}{fs:T CF}{fuel:Nat}(E:Env Zk fs fuel){n:Nat}{H0:Heap}{s:List UInt8}(y f d r)(x:X)(m:Nat)(tm:TM)(H:Heap)(h:VI H0 s m tm H):
  ∃o tm' H',Zc5 ⟨ZQ (LK Zk fs fuel 1) fs fuel (n+1),y,f,d,r⟩ tm H x= .ok o tm' H' x∧((o= .normal∧ ∃k,k<m∧VI H0 s k tm' H')∨(o≠ .normal∧o= .exit 2∧VI H0 s m tm' H')):=by
 obtain⟨⟨t,t0,hv,hl,rfl⟩,k⟩:=h
 have t0':=t0
 simp only[ZbJ] at t0
 by_cases h32:32<t.length
 ·have d32:decide (32<t.length)=true:=Zh h32
  have ew0:=fun{j}=>Zlz (Zk:=Zk) (fs:=fs) (fuel:=fuel) E (k:=1) (n:=j) (by decide) (s:=t) (H:=H) (by omega)
  have ew8:=fun{j}=>Zlz (Zk:=Zk) (fs:=fs) (fuel:=fuel) E (k:=1) (n:=j) (by decide) (s:=t.drop 8) (H:=H) (by rw[List.length_drop];omega)
  have ew16:=fun{j}=>Zlz (Zk:=Zk) (fs:=fs) (fuel:=fuel) E (k:=1) (n:=j) (by decide) (s:=t.drop 16) (H:=H) (by rw[List.length_drop];omega)
  have ew24:=fun{j}=>Zlz (Zk:=Zk) (fs:=fs) (fuel:=fuel) E (k:=1) (n:=j) (by decide) (s:=t.drop 24) (H:=H) (by rw[List.length_drop];omega)
  have b1:=fun(G:Heap)=>Zeq (a:=w8 t) (b:=w8 (t.drop 8)) (ZaR _) (ZaR _) G
  have b2:=fun(G:Heap)=>Zeq (a:=w8 (t.drop 16)) (b:=w8 (t.drop 24)) (ZaR _) (ZaR _) G
  have b3:=fun(G:Heap)=>Zeq (a:=w8 t|||w8 (t.drop 8)) (b:=w8 (t.drop 16)|||w8 (t.drop 24)) (Zer (ZaR _) (ZaR _)) (Zer (ZaR _) (ZaR _)) G
  have bm:=fun(G:Heap)=>ZiM (a:=w8 t|||w8 (t.drop 8)|||(w8 (t.drop 16)|||w8 (t.drop 24))) (b:=9259542123273814144) (Zer (Zer (ZaR _) (ZaR _)) (Zer (ZaR _) (ZaR _))) (by decide) G
  by_cases hm:(w8 t|||w8 (t.drop 8)|||(w8 (t.drop 16)|||w8 (t.drop 24)))&&&9259542123273814144=0
  ·have dm:decide ((w8 t|||w8 (t.drop 8)|||(w8 (t.drop 16)|||w8 (t.drop 24)))&&&9259542123273814144=0)=true:=Zh hm
   simp(maxSteps:=4000000) (disch:=first|assumption|omega|(simp -implicitDefEqProofs only[Zt,Zu]<;>first|assumption|omega)|decide) only[t0,d32,dm,ew0,ew8,ew16,ew24,b1,b2,b3,bm,Z0,Z1,Z4,ZW,Zc5,ZG,N8G,Zr,Zs,Zd,Ze,Zf,Nat.reducePow,Nat.reduceDiv,Nat.reduceMod,Nat.reduceEqDiff,reduceCtorEq,TB0,TB1,TB2]
   refine⟨_,_,_,rfl,?_⟩
   exact .inl ⟨rfl,(t.drop 32).length,by rw[List.length_drop];omega,⟨t.drop 32,(by simp only[TB0,N8G]),by rw[←ZhB 32 (by omega) (ZAD hm)];exact hv,by rw[List.length_drop];omega,rfl⟩,k⟩
  ·have dm:decide ((w8 t|||w8 (t.drop 8)|||(w8 (t.drop 16)|||w8 (t.drop 24)))&&&9259542123273814144=0)=false:=Zc hm
   simp(maxSteps:=4000000) (disch:=first|assumption|omega|(simp -implicitDefEqProofs only[Zt,Zu]<;>first|assumption|omega)|decide) only[t0,d32,dm,ew0,ew8,ew16,ew24,b1,b2,b3,bm,Z0,Z1,Z4,ZW,Zc5,ZG,N8G,Zr,Zs,Zd,Ze,Zf,Nat.reducePow,Nat.reduceDiv,Nat.reduceMod,Nat.reduceEqDiff,reduceCtorEq,TB0,TB1,TB2]
   refine⟨_,_,_,rfl,?_⟩
   exact .inr ⟨by simp,rfl,⟨t,(by simp only[TB0,N8G];exact t0),hv,hl,rfl⟩,k⟩
 ·have d32:decide (32<t.length)=false:=Zc h32
  simp(maxSteps:=4000000) (disch:=first|assumption|omega|(simp -implicitDefEqProofs only[Zt,Zu]<;>first|assumption|omega)|decide) only[t0,d32,Z0,Z1,Z4,ZW,Zc5,ZG,N8G,Zr,Zs,Zd,Ze,Zf,Nat.reducePow,Nat.reduceDiv,Nat.reduceMod,Nat.reduceEqDiff,reduceCtorEq,TB0,TB1,TB2]
  refine⟨_,_,_,rfl,?_⟩
  exact .inr ⟨by simp,rfl,⟨t,(by simp only[TB0,N8G];exact t0),hv,hl,rfl⟩,k⟩
theorem ZCI{Zk:Lib}{fs:T CF}{fuel:Nat}(E:Env Zk fs fuel){n:Nat}{H0:Heap}{z:List UInt8}{y d r}{x:X}{tm:TM}{H:Heap}{L:Res}(hL:WC (Zc5 ⟨ZQ (LK Zk fs fuel 1) fs fuel (n+1),y,d,fuel,r⟩) fuel tm H x=L)(h0:gt0 tm= .str z)(k:Keep H0 H [])(hz:z.length<fuel):
  ∃tm' H',L= .ok (.exit 2) tm' H' x∧ ∃t,gt0 tm'= .str t∧vu t=vu z∧t.length≤z.length∧Keep H0 H' []:=by
 obtain⟨o,tm1,H1,e,_,rfl,m,⟨t,e1,e2,e3,_⟩,k1⟩:=YV (VI H0 z) (fun o tm H'=>o= .exit 2∧ ∃m,VI H0 z m tm H') (fun m tm H' h=>by
  obtain⟨o,tm',H2,e,h2⟩:=ZEk E (n:=n) y d fuel r x m tm H' h
  refine⟨o,tm',H2,e,?_⟩
  rcases h2 with h2|⟨h2,h3,h4⟩
  ·exact .inl h2
  ·exact .inr ⟨h2,h3,m,h4⟩) fuel z.length tm H hz ⟨⟨z,h0,rfl,Zl _,rfl⟩,k⟩
 exact⟨tm1,H1,hL.symm.trans e,t,e1,e2,e3,k1⟩
end
end Go.AI
namespace Go.AI
open Go
noncomputable section
theorem Zs0{s:List UInt8}(hb: ¬by_ s 0<128)(hx:Zcx (by_ s 0) % 8=2):UA s=if s.length<2∨by_ s 1<Zf7.getD (Zcx (by_ s 0)/16*2) 0∨Zf7.getD (Zcx (by_ s 0)/16*2+1) 0<by_ s 1 then 0 else 2:=by
 unfold UA;simp only;rw[if_neg hb,if_pos hx]
theorem Zs1{s:List UInt8}(hb: ¬by_ s 0<128)(hx:Zcx (by_ s 0) % 8=3):UA s=if s.length<3∨by_ s 1<Zf7.getD (Zcx (by_ s 0)/16*2) 0∨Zf7.getD (Zcx (by_ s 0)/16*2+1) 0<by_ s 1∨by_ s 2<128∨191<by_ s 2 then 0 else 3:=by
 unfold UA;simp only;rw[if_neg hb,if_neg (by omega),if_pos hx]
theorem Zs2{s:List UInt8}(hb: ¬by_ s 0<128)(hx:Zcx (by_ s 0) % 8=4):UA s=if s.length<4∨by_ s 1<Zf7.getD (Zcx (by_ s 0)/16*2) 0∨Zf7.getD (Zcx (by_ s 0)/16*2+1) 0<by_ s 1∨by_ s 2<128∨191<by_ s 2∨by_ s 3<128∨191<by_ s 3 then 0 else 4:=by
 unfold UA;simp only;rw[if_neg hb,if_neg (by omega),if_neg (by omega),if_pos hx]
theorem ZAH{s:List UInt8}(hb: ¬by_ s 0<128)(h2: ¬Zcx (by_ s 0) % 8=2)(h3: ¬Zcx (by_ s 0) % 8=3)(h4: ¬Zcx (by_ s 0) % 8=4):UA s=0:=by
 unfold UA;simp only;rw[if_neg hb,if_neg h2,if_neg h3,if_neg h4]
theorem Zyj{t:List UInt8}{lo hi b6:Nat}{tm:TM}{H:Heap}{x:X}{cl y d fuel r}(t0:gt0 tm= .str t)(t6:gt6 tm= .ptr b6 0)(g6:H.t.get b6=some (rG 208 1 [nI .u8 lo,nI .u8 hi] 0 false true true))(lob:b6<H.nx):
  ∃o tm',Zbg ⟨cl,y,d,fuel,r⟩ tm H x= .ok o tm' H x∧((o= .ret∧gt2 tm'= .bool false∧(t.length<2∨by_ t 1<lo∨hi<by_ t 1))∨(o= .normal∧gt0 tm'= .str (t.drop 2)∧ ¬(t.length<2∨by_ t 1<lo∨hi<by_ t 1))):=by
 simp only[ZbJ] at t0
 simp only[Zld] at t6
 by_cases p0:t.length<2
 ·have d_p0:decide (t.length<2)=true:=Zh p0
  simp(maxSteps:=4000000) (disch:=first|assumption|omega|(simp -implicitDefEqProofs only[Zt,Zu]<;>first|assumption|omega)|decide) only[t0,t6,g6,Nat.add_zero,Zo,ZO,Z1,Z4,ZU,ZW,Yb,Z0,ZT,d_p0,Zbg,ZG,N8G,Zr,Zs,Zd,Ze,Zf,Nat.reducePow,Nat.reduceDiv,Nat.reduceMod,Nat.reduceEqDiff,reduceCtorEq,TB0,TB2,TB3]
  exact⟨_,_,rfl, .inl ⟨rfl,(by simp only[TB0,N8G]),(Or.inl p0)⟩⟩
 have d_p0:decide (t.length<2)=false:=Zc p0
 simp(maxSteps:=4000000) (disch:=first|assumption|omega|(simp -implicitDefEqProofs only[Zt,Zu]<;>first|assumption|omega)|decide) only[t0,t6,g6,Nat.add_zero,Zo,ZO,Z1,Z4,ZU,ZW,Yb,Z0,ZT,d_p0,Zbg,ZG,N8G,Zr,Zs,Zd,Ze,Zf,Nat.reducePow,Nat.reduceDiv,Nat.reduceMod,Nat.reduceEqDiff,reduceCtorEq,TB0,TB2,TB3]
 by_cases p1:by_ t 1<lo
 ·have d_p1:decide (by_ t 1<lo)=true:=Zh p1
  simp(maxSteps:=4000000) (disch:=first|assumption|omega|(simp -implicitDefEqProofs only[Zt,Zu]<;>first|assumption|omega)|decide) only[t0,t6,g6,Nat.add_zero,Zo,ZO,Z1,Z4,ZU,ZW,Yb,Z0,ZT,d_p1,Zbg,ZG,N8G,Zr,Zs,Zd,Ze,Zf,Nat.reducePow,Nat.reduceDiv,Nat.reduceMod,Nat.reduceEqDiff,reduceCtorEq,TB0,TB2,TB3]
  exact⟨_,_,rfl, .inl ⟨rfl,(by simp only[TB0,N8G]),(Or.inr (Or.inl p1))⟩⟩
 have d_p1:decide (by_ t 1<lo)=false:=Zc p1
 simp(maxSteps:=4000000) (disch:=first|assumption|omega|(simp -implicitDefEqProofs only[Zt,Zu]<;>first|assumption|omega)|decide) only[t0,t6,g6,Nat.add_zero,Zo,ZO,Z1,Z4,ZU,ZW,Yb,Z0,ZT,d_p1,Zbg,ZG,N8G,Zr,Zs,Zd,Ze,Zf,Nat.reducePow,Nat.reduceDiv,Nat.reduceMod,Nat.reduceEqDiff,reduceCtorEq,TB0,TB2,TB3]
 by_cases p2:hi<by_ t 1
 ·have d_p2:decide (hi<by_ t 1)=true:=Zh p2
  simp(maxSteps:=4000000) (disch:=first|assumption|omega|(simp -implicitDefEqProofs only[Zt,Zu]<;>first|assumption|omega)|decide) only[t0,t6,g6,Nat.add_zero,Zo,ZO,Z1,Z4,ZU,ZW,Yb,Z0,ZT,d_p2,Zbg,ZG,N8G,Zr,Zs,Zd,Ze,Zf,Nat.reducePow,Nat.reduceDiv,Nat.reduceMod,Nat.reduceEqDiff,reduceCtorEq,TB0,TB2,TB3]
  exact⟨_,_,rfl, .inl ⟨rfl,(by simp only[TB0,N8G]),(Or.inr (Or.inr p2))⟩⟩
 have d_p2:decide (hi<by_ t 1)=false:=Zc p2
 simp(maxSteps:=4000000) (disch:=first|assumption|omega|(simp -implicitDefEqProofs only[Zt,Zu]<;>first|assumption|omega)|decide) only[t0,t6,g6,Nat.add_zero,Zo,ZO,Z1,Z4,ZU,ZW,Yb,Z0,ZT,d_p2,Zbg,ZG,N8G,Zr,Zs,Zd,Ze,Zf,Nat.reducePow,Nat.reduceDiv,Nat.reduceMod,Nat.reduceEqDiff,reduceCtorEq,TB0,TB2,TB3]
 exact⟨_,_,rfl, .inr ⟨rfl,(by simp only[TB0,N8G]),by rintro (h|h|h)<;>contradiction⟩⟩
theorem Zyk{t:List UInt8}{lo hi b6:Nat}{tm:TM}{H:Heap}{x:X}{cl y d fuel r}(t0:gt0 tm= .str t)(t6:gt6 tm= .ptr b6 0)(g6:H.t.get b6=some (rG 208 1 [nI .u8 lo,nI .u8 hi] 0 false true true))(lob:b6<H.nx):
  ∃o tm',U5 ⟨cl,y,d,fuel,r⟩ tm H x= .ok o tm' H x∧((o= .ret∧gt2 tm'= .bool false∧(t.length<3∨by_ t 1<lo∨hi<by_ t 1∨by_ t 2<128∨191<by_ t 2))∨(o= .normal∧gt0 tm'= .str (t.drop 3)∧ ¬(t.length<3∨by_ t 1<lo∨hi<by_ t 1∨by_ t 2<128∨191<by_ t 2))):=by
 simp only[ZbJ] at t0
 simp only[Zld] at t6
 by_cases p0:t.length<3
 ·have d_p0:decide (t.length<3)=true:=Zh p0
  simp(maxSteps:=4000000) (disch:=first|assumption|omega|(simp -implicitDefEqProofs only[Zt,Zu]<;>first|assumption|omega)|decide) only[t0,t6,g6,Nat.add_zero,Zo,ZO,Z1,Z4,ZU,ZW,Yb,Z0,ZT,d_p0,U5,ZG,N8G,Zr,Zs,Zd,Ze,Zf,Nat.reducePow,Nat.reduceDiv,Nat.reduceMod,Nat.reduceEqDiff,reduceCtorEq,TB0,TB3]
  exact⟨_,_,rfl, .inl ⟨rfl,(by simp only[TB0,N8G]),(Or.inl p0)⟩⟩
 have d_p0:decide (t.length<3)=false:=Zc p0
 simp(maxSteps:=4000000) (disch:=first|assumption|omega|(simp -implicitDefEqProofs only[Zt,Zu]<;>first|assumption|omega)|decide) only[t0,t6,g6,Nat.add_zero,Zo,ZO,Z1,Z4,ZU,ZW,Yb,Z0,ZT,d_p0,U5,ZG,N8G,Zr,Zs,Zd,Ze,Zf,Nat.reducePow,Nat.reduceDiv,Nat.reduceMod,Nat.reduceEqDiff,reduceCtorEq,TB0,TB3]
 by_cases p1:by_ t 1<lo
 ·have d_p1:decide (by_ t 1<lo)=true:=Zh p1
  simp(maxSteps:=4000000) (disch:=first|assumption|omega|(simp -implicitDefEqProofs only[Zt,Zu]<;>first|assumption|omega)|decide) only[t0,t6,g6,Nat.add_zero,Zo,ZO,Z1,Z4,ZU,ZW,Yb,Z0,ZT,d_p1,U5,ZG,N8G,Zr,Zs,Zd,Ze,Zf,Nat.reducePow,Nat.reduceDiv,Nat.reduceMod,Nat.reduceEqDiff,reduceCtorEq,TB0,TB3]
  exact⟨_,_,rfl, .inl ⟨rfl,(by simp only[TB0,N8G]),(Or.inr (Or.inl p1))⟩⟩
 have d_p1:decide (by_ t 1<lo)=false:=Zc p1
 simp(maxSteps:=4000000) (disch:=first|assumption|omega|(simp -implicitDefEqProofs only[Zt,Zu]<;>first|assumption|omega)|decide) only[t0,t6,g6,Nat.add_zero,Zo,ZO,Z1,Z4,ZU,ZW,Yb,Z0,ZT,d_p1,U5,ZG,N8G,Zr,Zs,Zd,Ze,Zf,Nat.reducePow,Nat.reduceDiv,Nat.reduceMod,Nat.reduceEqDiff,reduceCtorEq,TB0,TB3]
 by_cases p2:hi<by_ t 1
 ·have d_p2:decide (hi<by_ t 1)=true:=Zh p2
  simp(maxSteps:=4000000) (disch:=first|assumption|omega|(simp -implicitDefEqProofs only[Zt,Zu]<;>first|assumption|omega)|decide) only[t0,t6,g6,Nat.add_zero,Zo,ZO,Z1,Z4,ZU,ZW,Yb,Z0,ZT,d_p2,U5,ZG,N8G,Zr,Zs,Zd,Ze,Zf,Nat.reducePow,Nat.reduceDiv,Nat.reduceMod,Nat.reduceEqDiff,reduceCtorEq,TB0,TB3]
  exact⟨_,_,rfl, .inl ⟨rfl,(by simp only[TB0,N8G]),(Or.inr (Or.inr (Or.inl p2)))⟩⟩
 have d_p2:decide (hi<by_ t 1)=false:=Zc p2
 simp(maxSteps:=4000000) (disch:=first|assumption|omega|(simp -implicitDefEqProofs only[Zt,Zu]<;>first|assumption|omega)|decide) only[t0,t6,g6,Nat.add_zero,Zo,ZO,Z1,Z4,ZU,ZW,Yb,Z0,ZT,d_p2,U5,ZG,N8G,Zr,Zs,Zd,Ze,Zf,Nat.reducePow,Nat.reduceDiv,Nat.reduceMod,Nat.reduceEqDiff,reduceCtorEq,TB0,TB3]
 by_cases p3:by_ t 2<128
 ·have d_p3:decide (by_ t 2<128)=true:=Zh p3
  simp(maxSteps:=4000000) (disch:=first|assumption|omega|(simp -implicitDefEqProofs only[Zt,Zu]<;>first|assumption|omega)|decide) only[t0,t6,g6,Nat.add_zero,Zo,ZO,Z1,Z4,ZU,ZW,Yb,Z0,ZT,d_p3,U5,ZG,N8G,Zr,Zs,Zd,Ze,Zf,Nat.reducePow,Nat.reduceDiv,Nat.reduceMod,Nat.reduceEqDiff,reduceCtorEq,TB0,TB3]
  exact⟨_,_,rfl, .inl ⟨rfl,(by simp only[TB0,N8G]),(Or.inr (Or.inr (Or.inr (Or.inl p3))))⟩⟩
 have d_p3:decide (by_ t 2<128)=false:=Zc p3
 simp(maxSteps:=4000000) (disch:=first|assumption|omega|(simp -implicitDefEqProofs only[Zt,Zu]<;>first|assumption|omega)|decide) only[t0,t6,g6,Nat.add_zero,Zo,ZO,Z1,Z4,ZU,ZW,Yb,Z0,ZT,d_p3,U5,ZG,N8G,Zr,Zs,Zd,Ze,Zf,Nat.reducePow,Nat.reduceDiv,Nat.reduceMod,Nat.reduceEqDiff,reduceCtorEq,TB0,TB3]
 by_cases p4:191<by_ t 2
 ·have d_p4:decide (191<by_ t 2)=true:=Zh p4
  simp(maxSteps:=4000000) (disch:=first|assumption|omega|(simp -implicitDefEqProofs only[Zt,Zu]<;>first|assumption|omega)|decide) only[t0,t6,g6,Nat.add_zero,Zo,ZO,Z1,Z4,ZU,ZW,Yb,Z0,ZT,d_p4,U5,ZG,N8G,Zr,Zs,Zd,Ze,Zf,Nat.reducePow,Nat.reduceDiv,Nat.reduceMod,Nat.reduceEqDiff,reduceCtorEq,TB0,TB3]
  exact⟨_,_,rfl, .inl ⟨rfl,(by simp only[TB0,N8G]),(Or.inr (Or.inr (Or.inr (Or.inr p4))))⟩⟩
 have d_p4:decide (191<by_ t 2)=false:=Zc p4
 simp(maxSteps:=4000000) (disch:=first|assumption|omega|(simp -implicitDefEqProofs only[Zt,Zu]<;>first|assumption|omega)|decide) only[t0,t6,g6,Nat.add_zero,Zo,ZO,Z1,Z4,ZU,ZW,Yb,Z0,ZT,d_p4,U5,ZG,N8G,Zr,Zs,Zd,Ze,Zf,Nat.reducePow,Nat.reduceDiv,Nat.reduceMod,Nat.reduceEqDiff,reduceCtorEq,TB0,TB3]
 exact⟨_,_,rfl, .inr ⟨rfl,(by simp only[TB0,N8G]),by rintro (h|h|h|h|h)<;>contradiction⟩⟩
theorem Zyl{t:List UInt8}{lo hi b6:Nat}{tm:TM}{H:Heap}{x:X}{cl y d fuel r}(t0:gt0 tm= .str t)(t6:gt6 tm= .ptr b6 0)(g6:H.t.get b6=some (rG 208 1 [nI .u8 lo,nI .u8 hi] 0 false true true))(lob:b6<H.nx):
  ∃o tm',VO ⟨cl,y,d,fuel,r⟩ tm H x= .ok o tm' H x∧((o= .ret∧gt2 tm'= .bool false∧(t.length<4∨by_ t 1<lo∨hi<by_ t 1∨by_ t 2<128∨191<by_ t 2∨by_ t 3<128∨191<by_ t 3))∨(o= .normal∧gt0 tm'= .str (t.drop 4)∧ ¬(t.length<4∨by_ t 1<lo∨hi<by_ t 1∨by_ t 2<128∨191<by_ t 2∨by_ t 3<128∨191<by_ t 3))):=by
 simp only[ZbJ] at t0
 simp only[Zld] at t6
 by_cases p0:t.length<4
 ·have d_p0:decide (t.length<4)=true:=Zh p0
  simp(maxSteps:=4000000) (disch:=first|assumption|omega|(simp -implicitDefEqProofs only[Zt,Zu]<;>first|assumption|omega)|decide) only[t0,t6,g6,Nat.add_zero,Zo,ZO,Z1,Z4,ZU,ZW,Yb,Z0,ZT,d_p0,VO,ZG,N8G,Zr,Zs,Zd,Ze,Zf,Nat.reducePow,Nat.reduceDiv,Nat.reduceMod,Nat.reduceEqDiff,reduceCtorEq,TB0,TB4,TB5]
  exact⟨_,_,rfl, .inl ⟨rfl,(by simp only[TB0,N8G]),(Or.inl p0)⟩⟩
 have d_p0:decide (t.length<4)=false:=Zc p0
 simp(maxSteps:=4000000) (disch:=first|assumption|omega|(simp -implicitDefEqProofs only[Zt,Zu]<;>first|assumption|omega)|decide) only[t0,t6,g6,Nat.add_zero,Zo,ZO,Z1,Z4,ZU,ZW,Yb,Z0,ZT,d_p0,VO,ZG,N8G,Zr,Zs,Zd,Ze,Zf,Nat.reducePow,Nat.reduceDiv,Nat.reduceMod,Nat.reduceEqDiff,reduceCtorEq,TB0,TB4,TB5]
 by_cases p1:by_ t 1<lo
 ·have d_p1:decide (by_ t 1<lo)=true:=Zh p1
  simp(maxSteps:=4000000) (disch:=first|assumption|omega|(simp -implicitDefEqProofs only[Zt,Zu]<;>first|assumption|omega)|decide) only[t0,t6,g6,Nat.add_zero,Zo,ZO,Z1,Z4,ZU,ZW,Yb,Z0,ZT,d_p1,VO,ZG,N8G,Zr,Zs,Zd,Ze,Zf,Nat.reducePow,Nat.reduceDiv,Nat.reduceMod,Nat.reduceEqDiff,reduceCtorEq,TB0,TB4,TB5]
  exact⟨_,_,rfl, .inl ⟨rfl,(by simp only[TB0,N8G]),(Or.inr (Or.inl p1))⟩⟩
 have d_p1:decide (by_ t 1<lo)=false:=Zc p1
 simp(maxSteps:=4000000) (disch:=first|assumption|omega|(simp -implicitDefEqProofs only[Zt,Zu]<;>first|assumption|omega)|decide) only[t0,t6,g6,Nat.add_zero,Zo,ZO,Z1,Z4,ZU,ZW,Yb,Z0,ZT,d_p1,VO,ZG,N8G,Zr,Zs,Zd,Ze,Zf,Nat.reducePow,Nat.reduceDiv,Nat.reduceMod,Nat.reduceEqDiff,reduceCtorEq,TB0,TB4,TB5]
 by_cases p2:hi<by_ t 1
 ·have d_p2:decide (hi<by_ t 1)=true:=Zh p2
  simp(maxSteps:=4000000) (disch:=first|assumption|omega|(simp -implicitDefEqProofs only[Zt,Zu]<;>first|assumption|omega)|decide) only[t0,t6,g6,Nat.add_zero,Zo,ZO,Z1,Z4,ZU,ZW,Yb,Z0,ZT,d_p2,VO,ZG,N8G,Zr,Zs,Zd,Ze,Zf,Nat.reducePow,Nat.reduceDiv,Nat.reduceMod,Nat.reduceEqDiff,reduceCtorEq,TB0,TB4,TB5]
  exact⟨_,_,rfl, .inl ⟨rfl,(by simp only[TB0,N8G]),(Or.inr (Or.inr (Or.inl p2)))⟩⟩
 have d_p2:decide (hi<by_ t 1)=false:=Zc p2
 simp(maxSteps:=4000000) (disch:=first|assumption|omega|(simp -implicitDefEqProofs only[Zt,Zu]<;>first|assumption|omega)|decide) only[t0,t6,g6,Nat.add_zero,Zo,ZO,Z1,Z4,ZU,ZW,Yb,Z0,ZT,d_p2,VO,ZG,N8G,Zr,Zs,Zd,Ze,Zf,Nat.reducePow,Nat.reduceDiv,Nat.reduceMod,Nat.reduceEqDiff,reduceCtorEq,TB0,TB4,TB5]
 by_cases p3:by_ t 2<128
 ·have d_p3:decide (by_ t 2<128)=true:=Zh p3
  simp(maxSteps:=4000000) (disch:=first|assumption|omega|(simp -implicitDefEqProofs only[Zt,Zu]<;>first|assumption|omega)|decide) only[t0,t6,g6,Nat.add_zero,Zo,ZO,Z1,Z4,ZU,ZW,Yb,Z0,ZT,d_p3,VO,ZG,N8G,Zr,Zs,Zd,Ze,Zf,Nat.reducePow,Nat.reduceDiv,Nat.reduceMod,Nat.reduceEqDiff,reduceCtorEq,TB0,TB4,TB5]
  exact⟨_,_,rfl, .inl ⟨rfl,(by simp only[TB0,N8G]),(Or.inr (Or.inr (Or.inr (Or.inl p3))))⟩⟩
 have d_p3:decide (by_ t 2<128)=false:=Zc p3
 simp(maxSteps:=4000000) (disch:=first|assumption|omega|(simp -implicitDefEqProofs only[Zt,Zu]<;>first|assumption|omega)|decide) only[t0,t6,g6,Nat.add_zero,Zo,ZO,Z1,Z4,ZU,ZW,Yb,Z0,ZT,d_p3,VO,ZG,N8G,Zr,Zs,Zd,Ze,Zf,Nat.reducePow,Nat.reduceDiv,Nat.reduceMod,Nat.reduceEqDiff,reduceCtorEq,TB0,TB4,TB5]
 by_cases p4:191<by_ t 2
 ·have d_p4:decide (191<by_ t 2)=true:=Zh p4
  simp(maxSteps:=4000000) (disch:=first|assumption|omega|(simp -implicitDefEqProofs only[Zt,Zu]<;>first|assumption|omega)|decide) only[t0,t6,g6,Nat.add_zero,Zo,ZO,Z1,Z4,ZU,ZW,Yb,Z0,ZT,d_p4,VO,ZG,N8G,Zr,Zs,Zd,Ze,Zf,Nat.reducePow,Nat.reduceDiv,Nat.reduceMod,Nat.reduceEqDiff,reduceCtorEq,TB0,TB4,TB5]
  exact⟨_,_,rfl, .inl ⟨rfl,(by simp only[TB0,N8G]),(Or.inr (Or.inr (Or.inr (Or.inr (Or.inl p4)))))⟩⟩
 have d_p4:decide (191<by_ t 2)=false:=Zc p4
 simp(maxSteps:=4000000) (disch:=first|assumption|omega|(simp -implicitDefEqProofs only[Zt,Zu]<;>first|assumption|omega)|decide) only[t0,t6,g6,Nat.add_zero,Zo,ZO,Z1,Z4,ZU,ZW,Yb,Z0,ZT,d_p4,VO,ZG,N8G,Zr,Zs,Zd,Ze,Zf,Nat.reducePow,Nat.reduceDiv,Nat.reduceMod,Nat.reduceEqDiff,reduceCtorEq,TB0,TB4,TB5]
 by_cases p5:by_ t 3<128
 ·have d_p5:decide (by_ t 3<128)=true:=Zh p5
  simp(maxSteps:=4000000) (disch:=first|assumption|omega|(simp -implicitDefEqProofs only[Zt,Zu]<;>first|assumption|omega)|decide) only[t0,t6,g6,Nat.add_zero,Zo,ZO,Z1,Z4,ZU,ZW,Yb,Z0,ZT,d_p5,VO,ZG,N8G,Zr,Zs,Zd,Ze,Zf,Nat.reducePow,Nat.reduceDiv,Nat.reduceMod,Nat.reduceEqDiff,reduceCtorEq,TB0,TB4,TB5]
  exact⟨_,_,rfl, .inl ⟨rfl,(by simp only[TB0,N8G]),(Or.inr (Or.inr (Or.inr (Or.inr (Or.inr (Or.inl p5))))))⟩⟩
 have d_p5:decide (by_ t 3<128)=false:=Zc p5
 simp(maxSteps:=4000000) (disch:=first|assumption|omega|(simp -implicitDefEqProofs only[Zt,Zu]<;>first|assumption|omega)|decide) only[t0,t6,g6,Nat.add_zero,Zo,ZO,Z1,Z4,ZU,ZW,Yb,Z0,ZT,d_p5,VO,ZG,N8G,Zr,Zs,Zd,Ze,Zf,Nat.reducePow,Nat.reduceDiv,Nat.reduceMod,Nat.reduceEqDiff,reduceCtorEq,TB0,TB4,TB5]
 by_cases p6:191<by_ t 3
 ·have d_p6:decide (191<by_ t 3)=true:=Zh p6
  simp(maxSteps:=4000000) (disch:=first|assumption|omega|(simp -implicitDefEqProofs only[Zt,Zu]<;>first|assumption|omega)|decide) only[t0,t6,g6,Nat.add_zero,Zo,ZO,Z1,Z4,ZU,ZW,Yb,Z0,ZT,d_p6,VO,ZG,N8G,Zr,Zs,Zd,Ze,Zf,Nat.reducePow,Nat.reduceDiv,Nat.reduceMod,Nat.reduceEqDiff,reduceCtorEq,TB0,TB4,TB5]
  exact⟨_,_,rfl, .inl ⟨rfl,(by simp only[TB0,N8G]),(Or.inr (Or.inr (Or.inr (Or.inr (Or.inr (Or.inr p6))))))⟩⟩
 have d_p6:decide (191<by_ t 3)=false:=Zc p6
 simp(maxSteps:=4000000) (disch:=first|assumption|omega|(simp -implicitDefEqProofs only[Zt,Zu]<;>first|assumption|omega)|decide) only[t0,t6,g6,Nat.add_zero,Zo,ZO,Z1,Z4,ZU,ZW,Yb,Z0,ZT,d_p6,VO,ZG,N8G,Zr,Zs,Zd,Ze,Zf,Nat.reducePow,Nat.reduceDiv,Nat.reduceMod,Nat.reduceEqDiff,reduceCtorEq,TB0,TB4,TB5]
 exact⟨_,_,rfl, .inr ⟨rfl,(by simp only[TB0,N8G]),by rintro (h|h|h|h|h|h|h)<;>contradiction⟩⟩
theorem ZCJ{Zk:Lib}{fs:T CF}{fuel:Nat}(E:Env Zk fs fuel){n:Nat}{H0:Heap}{s:List UInt8}(g:GlobU H0)(hro:H0.ro≤H0.nx)(hs:s.length<99998)(y d r)(x:X)(m:Nat)(tm:TM)(H:Heap)(h:VI H0 s m tm H):
  ∃o tm' H',VP ⟨ZQ (LK Zk fs fuel 1) fs fuel (n+1),y,d,fuel,r⟩ tm H x= .ok o tm' H' x∧((o= .normal∧ ∃k,k<m∧VI H0 s k tm' H')∨(o≠ .normal∧((o= .ret∧gt2 tm'= .bool (vu s)∧Keep H0 H' [])∨(o= .exit 0∧vu s=true∧Keep H0 H' [])))):=by
 obtain⟨⟨t,t0,hv,hl,rfl⟩,k⟩:=h
 have t0':=t0
 simp only[ZbJ] at t0
 by_cases h0:0<t.length
 ·have d_h0:decide (0<t.length)=true:=Zh h0
  by_cases ha:by_ t 0<128
  ·have d_ha:decide (by_ t 0<128)=true:=Zh ha
   have hv1:vu (t.drop 1)=vu s:=by rw[←hv,Zj9 (s:=t) (by omega),Zjw ha,if_neg (by decide)]
   have hl1:(t.drop 1).length<t.length:=by rw[List.length_drop];omega
   have hu:=fun(G:Heap)=>Z0 (s:=t) (p:=1) (by omega) .i64 G
   generalize t.drop 1=u at hv1 hl1 hu
   by_cases u8:8<u.length
   ·have d_u8:decide (8<u.length)=true:=Zh u8
    have ew0:=fun{j}=>Zlz (Zk:=Zk) (fs:=fs) (fuel:=fuel) E (k:=1) (n:=j) (by decide) (s:=u) (H:=H) (by omega)
    have bm0:=fun(G:Heap)=>ZiM (a:=w8 u) (b:=9259542123273814144) (ZaR _) (by decide) G
    by_cases m8:w8 u&&&9259542123273814144=0
    ·have d_m8:decide (w8 u&&&9259542123273814144=0)=true:=Zh m8
     have hv8:vu (u.drop 8)=vu s:=by rw[←ZhB 8 (by omega) (ZCC m8)];exact hv1
     have hl8:(u.drop 8).length<u.length:=by rw[List.length_drop];omega
     have hu8:=fun(G:Heap)=>Z0 (s:=u) (p:=8) (by omega) .i64 G
     generalize u.drop 8=w at hv8 hl8 hu8
     by_cases w16:16<w.length
     ·have d_w16:decide (16<w.length)=true:=Zh w16
      have ev0:=fun{j}=>Zlz (Zk:=Zk) (fs:=fs) (fuel:=fuel) E (k:=1) (n:=j) (by decide) (s:=w) (H:=H) (by omega)
      have ev8:=fun{j}=>Zlz (Zk:=Zk) (fs:=fs) (fuel:=fuel) E (k:=1) (n:=j) (by decide) (s:=w.drop 8) (H:=H) (by rw[List.length_drop];omega)
      have hw8:=fun(G:Heap)=>Z0 (s:=w) (p:=8) (by omega) .i64 G
      have b1:=fun(G:Heap)=>Zeq (a:=w8 w) (b:=w8 (w.drop 8)) (ZaR _) (ZaR _) G
      have bm1:=fun(G:Heap)=>ZiM (a:=w8 w|||w8 (w.drop 8)) (b:=9259542123273814144) (Zer (ZaR _) (ZaR _)) (by decide) G
      by_cases m16:(w8 w|||w8 (w.drop 8))&&&9259542123273814144=0
      ·have d_m16:decide ((w8 w|||w8 (w.drop 8))&&&9259542123273814144=0)=true:=Zh m16
       have hv16:vu (w.drop 16)=vu s:=by rw[←ZhB 16 (by omega) (ZAC m16)];exact hv8
       have hl16:(w.drop 16).length<w.length:=by rw[List.length_drop];omega
       have hu16:=fun(G:Heap)=>Z0 (s:=w) (p:=16) (by omega) .i64 G
       generalize w.drop 16=z at hv16 hl16 hu16
       simp(maxSteps:=4000000) (disch:=first|assumption|omega|(simp -implicitDefEqProofs only[Zt,Zu]<;>first|assumption|omega)|decide) only[t0,d_h0,d_ha,Z1,Z4,ZU,ZW,Yb,hu,Z0,d_u8,ew0,bm0,d_m8,hu8,d_w16,ev0,ev8,hw8,b1,bm1,d_m16,hu16,VP,ZG,N8G,Zr,Zs,Zd,Ze,Zf,Nat.reducePow,Nat.reduceDiv,Nat.reduceMod,Nat.reduceEqDiff,reduceCtorEq,TB0,TB1,TB2,TB3,TB4]
       generalize hL:WC (Zc5 _) fuel _ _ _=L
       obtain⟨tm1,H1,rfl,t1,e1,hv2,hl2,k1⟩:=ZCI E (z:=z) hL rfl k (by have:=E.big;omega)
       simp(maxSteps:=4000000) (disch:=first|assumption|omega|(simp -implicitDefEqProofs only[Zt,Zu]<;>first|assumption|omega)|decide) only[VP,ZG,N8G,Zr,Zs,Zd,Ze,Zf,Nat.reducePow,Nat.reduceDiv,Nat.reduceMod,Nat.reduceEqDiff,reduceCtorEq,TB0,TB1,TB2,TB3,TB4]
       refine⟨_,_,_,rfl,?_⟩
       exact .inl ⟨rfl,t1.length,by omega,⟨t1,e1,hv2.trans hv16,by omega,rfl⟩,k1⟩
      ·have d_m16:decide ((w8 w|||w8 (w.drop 8))&&&9259542123273814144=0)=false:=Zc m16
       simp(maxSteps:=4000000) (disch:=first|assumption|omega|(simp -implicitDefEqProofs only[Zt,Zu]<;>first|assumption|omega)|decide) only[t0,d_h0,d_ha,Z1,Z4,ZU,ZW,Yb,hu,Z0,d_u8,ew0,bm0,d_m8,hu8,d_w16,ev0,ev8,hw8,b1,bm1,d_m16,VP,ZG,N8G,Zr,Zs,Zd,Ze,Zf,Nat.reducePow,Nat.reduceDiv,Nat.reduceMod,Nat.reduceEqDiff,reduceCtorEq,TB0,TB1,TB2,TB3,TB4]
       refine⟨_,_,_,rfl,?_⟩
       exact .inl ⟨rfl,w.length,by omega,⟨w,(by simp only[TB0,N8G]),hv8,by omega,rfl⟩,k⟩
     ·have d_w16:decide (16<w.length)=false:=Zc w16
      simp(maxSteps:=4000000) (disch:=first|assumption|omega|(simp -implicitDefEqProofs only[Zt,Zu]<;>first|assumption|omega)|decide) only[t0,d_h0,d_ha,Z1,Z4,ZU,ZW,Yb,hu,Z0,d_u8,ew0,bm0,d_m8,hu8,d_w16,VP,ZG,N8G,Zr,Zs,Zd,Ze,Zf,Nat.reducePow,Nat.reduceDiv,Nat.reduceMod,Nat.reduceEqDiff,reduceCtorEq,TB0,TB1,TB2,TB3,TB4]
      refine⟨_,_,_,rfl,?_⟩
      exact .inl ⟨rfl,w.length,by omega,⟨w,(by simp only[TB0,N8G]),hv8,by omega,rfl⟩,k⟩
    ·have d_m8:decide (w8 u&&&9259542123273814144=0)=false:=Zc m8
     simp(maxSteps:=4000000) (disch:=first|assumption|omega|(simp -implicitDefEqProofs only[Zt,Zu]<;>first|assumption|omega)|decide) only[t0,d_h0,d_ha,Z1,Z4,ZU,ZW,Yb,hu,Z0,d_u8,ew0,bm0,d_m8,VP,ZG,N8G,Zr,Zs,Zd,Ze,Zf,Nat.reducePow,Nat.reduceDiv,Nat.reduceMod,Nat.reduceEqDiff,reduceCtorEq,TB0,TB1,TB2,TB3,TB4]
     refine⟨_,_,_,rfl,?_⟩
     exact .inl ⟨rfl,u.length,hl1,⟨u,(by simp only[TB0,N8G]),hv1,by omega,rfl⟩,k⟩
   ·have d_u8:decide (8<u.length)=false:=Zc u8
    simp(maxSteps:=4000000) (disch:=first|assumption|omega|(simp -implicitDefEqProofs only[Zt,Zu]<;>first|assumption|omega)|decide) only[t0,d_h0,d_ha,Z1,Z4,ZU,ZW,Yb,hu,Z0,d_u8,VP,ZG,N8G,Zr,Zs,Zd,Ze,Zf,Nat.reducePow,Nat.reduceDiv,Nat.reduceMod,Nat.reduceEqDiff,reduceCtorEq,TB0,TB1,TB2,TB3,TB4]
    refine⟨_,_,_,rfl,?_⟩
    exact .inl ⟨rfl,u.length,hl1,⟨u,(by simp only[TB0,N8G]),hv1,by omega,rfl⟩,k⟩
  ·have d_ha:decide (by_ t 0<128)=false:=Zc ha
   have hb256:=Zm2 t 0
   have hf256:=ZsZ (by_ t 0)
   have hroH:H.ro≤H.nx:=by rw[k.ro];exact Nat.le_trans hro k.nx
   have hx16:Zcx (by_ t 0)/16<16:=by have:=ZsZ (by_ t 0);omega
   obtain⟨rF,gF,lF⟩:=(g.keep0 k).fst
   obtain⟨rA,gA,lA⟩:=(g.keep0 k).acc
   have lF:=fun(G:Heap)=>lF (by_ t 0) G hb256
   have lA:=fun(G:Heap)=>lA (Zcx (by_ t 0)/16) G hx16
   generalize hfx:Zcx (by_ t 0)=fx at lF lA hx16 hf256
   generalize hlo:Zf7.getD (fx/16*2) 0=lo at lA
   generalize hhi:Zf7.getD (fx/16*2+1) 0=hi at lA
   have nxH:100≤H.nx:=(g.keep0 k).1
   have kk:Keep H0 (H.new (rG 208 1 [nI .u8 lo,nI .u8 hi] 0 false true true)) []:=k.then_new _
   simp(maxSteps:=4000000) (disch:=first|assumption|omega|(simp -implicitDefEqProofs only[Zt,Zu]<;>first|assumption|omega)|decide) only[t0,d_h0,Z1,Z4,ZU,ZW,Yb,Z0,d_ha,Nat.mul_one,ZO,Yf,gF,lF,gA,lA,Zda,UW,Zqk,VF,Zdb,ZcY,ZbE,Zc0,ZT,nxH,VP,ZG,N8G,Zr,Zs,Zd,Ze,Zf,Nat.reducePow,Nat.reduceDiv,Nat.reduceMod,Nat.reduceEqDiff,reduceCtorEq,TB0,TB1,TB2,TB3,TB4]
   by_cases q2:fx % 8=2
   ·have d_q2:decide (fx % 8=2)=true:=Zh q2
    simp(maxSteps:=4000000) (disch:=first|assumption|omega|(simp -implicitDefEqProofs only[Zt,Zu]<;>first|assumption|omega)|decide) only[t0,d_h0,Z1,Z4,ZU,ZW,Yb,Z0,d_q2,Nat.mul_one,ZO,Yf,gF,lF,gA,lA,Zda,UW,Zqk,VF,Zdb,ZcY,ZbE,Zc0,ZT,nxH,VP,ZG,N8G,Zr,Zs,Zd,Ze,Zf,Nat.reducePow,Nat.reduceDiv,Nat.reduceMod,Nat.reduceEqDiff,reduceCtorEq,TB0,TB1,TB2,TB3,TB4]
    generalize hS:Zbg _ _ _ _=L
    obtain⟨o,tm1,rfl,hq⟩: ∃o tm1,L= .ok o tm1 (H.new (rG 208 1 [nI .u8 lo,nI .u8 hi] 0 false true true)) x∧((o= .ret∧gt2 tm1= .bool false∧(t.length<2∨by_ t 1<lo∨hi<by_ t 1))∨(o= .normal∧gt0 tm1= .str (t.drop 2)∧ ¬(t.length<2∨by_ t 1<lo∨hi<by_ t 1))):=by
     rw[←hS]
     exact Zyj (t:=t) (lo:=lo) (hi:=hi) (b6:=H.nx) ((by simp only[TB0,N8G];exact t0)) (by simp only[TB0,N8G]) (ZA rfl _) (Yf _)
    rcases hq with⟨rfl,h2,hb⟩|⟨rfl,h0',hb⟩
    ·simp only[Zeh] at h2
     simp(maxSteps:=4000000) (disch:=first|assumption|omega|(simp -implicitDefEqProofs only[Zt,Zu]<;>first|assumption|omega)|decide) only[h2,ZG,N8G,Zr,Zs,Zd,Ze,Zf,Nat.reducePow,Nat.reduceDiv,Nat.reduceMod,Nat.reduceEqDiff,reduceCtorEq]
     refine⟨_,_,_,rfl,?_⟩
     exact .inr ⟨by simp, .inl ⟨rfl,by rw[←hv,Zom h0 (by rw[Zs0 ha (by rw[hfx];exact q2),hfx,hlo,hhi];exact if_pos hb)];exact h2,kk⟩⟩
    ·have h00:=h0'
     simp only[ZbJ] at h0'
     simp(maxSteps:=4000000) (disch:=first|assumption|omega|(simp -implicitDefEqProofs only[Zt,Zu]<;>first|assumption|omega)|decide) only[h0',ZG,N8G,Zr,Zs,Zd,Ze,Zf,Nat.reducePow,Nat.reduceDiv,Nat.reduceMod,Nat.reduceEqDiff,reduceCtorEq]
     refine⟨_,_,_,rfl,?_⟩
     exact .inl ⟨rfl,(t.drop 2).length,by rw[List.length_drop];omega,⟨t.drop 2,h00,by rw[←hv,Zon h0 (n:=2) (by rw[Zs0 ha (by rw[hfx];exact q2),hfx,hlo,hhi];exact if_neg hb) (by decide)],by rw[List.length_drop];omega,rfl⟩,kk⟩
   have d_q2:decide (fx % 8=2)=false:=Zc q2
   simp(maxSteps:=4000000) (disch:=first|assumption|omega|(simp -implicitDefEqProofs only[Zt,Zu]<;>first|assumption|omega)|decide) only[t0,d_h0,Z1,Z4,ZU,ZW,Yb,Z0,d_q2,Nat.mul_one,ZO,Yf,gF,lF,gA,lA,Zda,UW,Zqk,VF,Zdb,ZcY,ZbE,Zc0,ZT,nxH,VP,ZG,N8G,Zr,Zs,Zd,Ze,Zf,Nat.reducePow,Nat.reduceDiv,Nat.reduceMod,Nat.reduceEqDiff,reduceCtorEq,TB0,TB1,TB2,TB3,TB4]
   by_cases q3:fx % 8=3
   ·have d_q3:decide (fx % 8=3)=true:=Zh q3
    simp(maxSteps:=4000000) (disch:=first|assumption|omega|(simp -implicitDefEqProofs only[Zt,Zu]<;>first|assumption|omega)|decide) only[t0,d_h0,Z1,Z4,ZU,ZW,Yb,Z0,d_q3,Nat.mul_one,ZO,Yf,gF,lF,gA,lA,Zda,UW,Zqk,VF,Zdb,ZcY,ZbE,Zc0,ZT,nxH,VP,ZG,N8G,Zr,Zs,Zd,Ze,Zf,Nat.reducePow,Nat.reduceDiv,Nat.reduceMod,Nat.reduceEqDiff,reduceCtorEq,TB0,TB1,TB2,TB3,TB4]
    generalize hS:U5 _ _ _ _=L
    obtain⟨o,tm1,rfl,hq⟩: ∃o tm1,L= .ok o tm1 (H.new (rG 208 1 [nI .u8 lo,nI .u8 hi] 0 false true true)) x∧((o= .ret∧gt2 tm1= .bool false∧(t.length<3∨by_ t 1<lo∨hi<by_ t 1∨by_ t 2<128∨191<by_ t 2))∨(o= .normal∧gt0 tm1= .str (t.drop 3)∧ ¬(t.length<3∨by_ t 1<lo∨hi<by_ t 1∨by_ t 2<128∨191<by_ t 2))):=by
     rw[←hS]
     exact Zyk (t:=t) (lo:=lo) (hi:=hi) (b6:=H.nx) ((by simp only[TB0,N8G];exact t0)) (by simp only[TB0,N8G]) (ZA rfl _) (Yf _)
    rcases hq with⟨rfl,h2,hb⟩|⟨rfl,h0',hb⟩
    ·simp only[Zeh] at h2
     simp(maxSteps:=4000000) (disch:=first|assumption|omega|(simp -implicitDefEqProofs only[Zt,Zu]<;>first|assumption|omega)|decide) only[h2,ZG,N8G,Zr,Zs,Zd,Ze,Zf,Nat.reducePow,Nat.reduceDiv,Nat.reduceMod,Nat.reduceEqDiff,reduceCtorEq]
     refine⟨_,_,_,rfl,?_⟩
     exact .inr ⟨by simp, .inl ⟨rfl,by rw[←hv,Zom h0 (by rw[Zs1 ha (by rw[hfx];exact q3),hfx,hlo,hhi];exact if_pos hb)];exact h2,kk⟩⟩
    ·have h00:=h0'
     simp only[ZbJ] at h0'
     simp(maxSteps:=4000000) (disch:=first|assumption|omega|(simp -implicitDefEqProofs only[Zt,Zu]<;>first|assumption|omega)|decide) only[h0',ZG,N8G,Zr,Zs,Zd,Ze,Zf,Nat.reducePow,Nat.reduceDiv,Nat.reduceMod,Nat.reduceEqDiff,reduceCtorEq]
     refine⟨_,_,_,rfl,?_⟩
     exact .inl ⟨rfl,(t.drop 3).length,by rw[List.length_drop];omega,⟨t.drop 3,h00,by rw[←hv,Zon h0 (n:=3) (by rw[Zs1 ha (by rw[hfx];exact q3),hfx,hlo,hhi];exact if_neg hb) (by decide)],by rw[List.length_drop];omega,rfl⟩,kk⟩
   have d_q3:decide (fx % 8=3)=false:=Zc q3
   simp(maxSteps:=4000000) (disch:=first|assumption|omega|(simp -implicitDefEqProofs only[Zt,Zu]<;>first|assumption|omega)|decide) only[t0,d_h0,Z1,Z4,ZU,ZW,Yb,Z0,d_q3,Nat.mul_one,ZO,Yf,gF,lF,gA,lA,Zda,UW,Zqk,VF,Zdb,ZcY,ZbE,Zc0,ZT,nxH,VP,ZG,N8G,Zr,Zs,Zd,Ze,Zf,Nat.reducePow,Nat.reduceDiv,Nat.reduceMod,Nat.reduceEqDiff,reduceCtorEq,TB0,TB1,TB2,TB3,TB4]
   by_cases q4:fx % 8=4
   ·have d_q4:decide (fx % 8=4)=true:=Zh q4
    simp(maxSteps:=4000000) (disch:=first|assumption|omega|(simp -implicitDefEqProofs only[Zt,Zu]<;>first|assumption|omega)|decide) only[t0,d_h0,Z1,Z4,ZU,ZW,Yb,Z0,d_q4,Nat.mul_one,ZO,Yf,gF,lF,gA,lA,Zda,UW,Zqk,VF,Zdb,ZcY,ZbE,Zc0,ZT,nxH,VP,ZG,N8G,Zr,Zs,Zd,Ze,Zf,Nat.reducePow,Nat.reduceDiv,Nat.reduceMod,Nat.reduceEqDiff,reduceCtorEq,TB0,TB1,TB2,TB3,TB4]
    generalize hS:VO _ _ _ _=L
    obtain⟨o,tm1,rfl,hq⟩: ∃o tm1,L= .ok o tm1 (H.new (rG 208 1 [nI .u8 lo,nI .u8 hi] 0 false true true)) x∧((o= .ret∧gt2 tm1= .bool false∧(t.length<4∨by_ t 1<lo∨hi<by_ t 1∨by_ t 2<128∨191<by_ t 2∨by_ t 3<128∨191<by_ t 3))∨(o= .normal∧gt0 tm1= .str (t.drop 4)∧ ¬(t.length<4∨by_ t 1<lo∨hi<by_ t 1∨by_ t 2<128∨191<by_ t 2∨by_ t 3<128∨191<by_ t 3))):=by
     rw[←hS]
     exact Zyl (t:=t) (lo:=lo) (hi:=hi) (b6:=H.nx) ((by simp only[TB0,N8G];exact t0)) (by simp only[TB0,N8G]) (ZA rfl _) (Yf _)
    rcases hq with⟨rfl,h2,hb⟩|⟨rfl,h0',hb⟩
    ·simp only[Zeh] at h2
     simp(maxSteps:=4000000) (disch:=first|assumption|omega|(simp -implicitDefEqProofs only[Zt,Zu]<;>first|assumption|omega)|decide) only[h2,ZG,N8G,Zr,Zs,Zd,Ze,Zf,Nat.reducePow,Nat.reduceDiv,Nat.reduceMod,Nat.reduceEqDiff,reduceCtorEq]
     refine⟨_,_,_,rfl,?_⟩
     exact .inr ⟨by simp, .inl ⟨rfl,by rw[←hv,Zom h0 (by rw[Zs2 ha (by rw[hfx];exact q4),hfx,hlo,hhi];exact if_pos hb)];exact h2,kk⟩⟩
    ·have h00:=h0'
     simp only[ZbJ] at h0'
     simp(maxSteps:=4000000) (disch:=first|assumption|omega|(simp -implicitDefEqProofs only[Zt,Zu]<;>first|assumption|omega)|decide) only[h0',ZG,N8G,Zr,Zs,Zd,Ze,Zf,Nat.reducePow,Nat.reduceDiv,Nat.reduceMod,Nat.reduceEqDiff,reduceCtorEq]
     refine⟨_,_,_,rfl,?_⟩
     exact .inl ⟨rfl,(t.drop 4).length,by rw[List.length_drop];omega,⟨t.drop 4,h00,by rw[←hv,Zon h0 (n:=4) (by rw[Zs2 ha (by rw[hfx];exact q4),hfx,hlo,hhi];exact if_neg hb) (by decide)],by rw[List.length_drop];omega,rfl⟩,kk⟩
   have d_q4:decide (fx % 8=4)=false:=Zc q4
   simp(maxSteps:=4000000) (disch:=first|assumption|omega|(simp -implicitDefEqProofs only[Zt,Zu]<;>first|assumption|omega)|decide) only[t0,d_h0,Z1,Z4,ZU,ZW,Yb,Z0,d_q4,Nat.mul_one,ZO,Yf,gF,lF,gA,lA,Zda,UW,Zqk,VF,Zdb,ZcY,ZbE,Zc0,ZT,nxH,VP,ZG,N8G,Zr,Zs,Zd,Ze,Zf,Nat.reducePow,Nat.reduceDiv,Nat.reduceMod,Nat.reduceEqDiff,reduceCtorEq,TB0,TB1,TB2,TB3,TB4]
   refine⟨_,_,_,rfl,?_⟩
   exact .inr ⟨by simp, .inl ⟨rfl,by rw[←hv,Zom h0 (ZAH ha (by rw[hfx];exact q2) (by rw[hfx];exact q3) (by rw[hfx];exact q4))];simp only[TB0,N8G],kk⟩⟩
 ·have d_h0:decide (0<t.length)=false:=Zc h0
  simp(maxSteps:=4000000) (disch:=first|assumption|omega|(simp -implicitDefEqProofs only[Zt,Zu]<;>first|assumption|omega)|decide) only[t0,d_h0,Z1,Z4,VP,ZG,N8G,Zr,Zs,Zd,Ze,Zf,Nat.reducePow,Nat.reduceDiv,Nat.reduceMod,Nat.reduceEqDiff,reduceCtorEq,TB0,TB1,TB2,TB3,TB4]
  have:t=[]:=List.length_eq_zero_iff.1 (by omega)
  subst this
  refine⟨_,_,_,rfl,?_⟩
  exact .inr ⟨by simp, .inr ⟨rfl,hv.symm.trans ZCA|>.symm▸rfl,k⟩⟩
theorem Zym{Zk:Lib}{fs:T CF}{fuel:Nat}(E:Env Zk fs fuel){n:Nat}{s:List UInt8}{H:Heap}(g:GlobU H)(hro:H.ro≤H.nx)(hs:s.length<99998):
  ∃H',ZQ (LK Zk fs fuel 1) fs fuel (n+2) 107 [.str s] H= .ret (.bool (vu s)) H'∧Keep H H' []:=by
 rw[ZV (ZL E.n107 (.inl (by decide)) _ _) E.f107]
 simp(disch:=first|assumption|omega|(simp -implicitDefEqProofs only[Zt,Zu]<;>first|assumption|omega)|decide) only[ZuT,ZG,N8G,Zr,Zs,Zd,Ze,Zf,Nat.reduceEqDiff,reduceCtorEq,TB0]
 generalize hL:WC (VP _) fuel _ _ _=L
 obtain⟨o,tm1,H1,rfl,_,hq⟩:=YS (P:=fun T=>VI H s s.length T H) (Q:=fun o tm H'=>(o= .ret∧gt2 tm= .bool (vu s)∧Keep H H' [])∨(o= .exit 0∧vu s=true∧Keep H H' []))
  (fun T hi'=>YV (VI H s) (fun o tm H'=>(o= .ret∧gt2 tm= .bool (vu s)∧Keep H H' [])∨(o= .exit 0∧vu s=true∧Keep H H' [])) (fun m tm H' h=>ZCJ E g hro hs _ _ _ _ m tm H' h) fuel s.length T H (by have:=E.big;omega) hi') hL
  ⟨⟨s,rfl,rfl,Zl _,rfl⟩,Keep.refl _ _⟩
 rcases hq with⟨rfl,h2,k⟩|⟨rfl,h2,k⟩
 ·simp only[Zeh] at h2
  simp(disch:=first|assumption|omega|(simp -implicitDefEqProofs only[Zt,Zu]<;>first|assumption|omega)|decide) only[h2,ZuT,ZG,N8G,Zr,Zs,Zd,Ze,Zf,Nat.reduceEqDiff,reduceCtorEq,TB0]
  refine⟨_,rfl,?_⟩
  exact k
 ·rw[h2]
  simp(disch:=first|assumption|omega|(simp -implicitDefEqProofs only[Zt,Zu]<;>first|assumption|omega)|decide) only[ZuT,ZG,N8G,Zr,Zs,Zd,Ze,Zf,Nat.reduceEqDiff,reduceCtorEq,TB0]
  refine⟨_,rfl,?_⟩
  exact k
theorem ZEl{Zk:Lib}{fs:T CF}{fuel:Nat}(E:Env Zk fs fuel){k n:Nat}(hk:2≤k){s:List UInt8}{H:Heap}(g:GlobU H)(hro:H.ro≤H.nx)(hs:s.length<99998):
  ZQ (LK Zk fs fuel k) fs fuel (n+1) 107 [.str s] H= .ret (.bool (vu s)) H:=by
 obtain⟨H',e,g⟩:=Zym E (n:=898) (H:=H) g hro hs
 exact YI (r:=1) rfl rfl e g (rfl) hk
end
end Go.AI
namespace Go.AI
open Go
noncomputable section
theorem Zs3(H:Heap)(m:List UInt8):Src H (.str m) (m.map u8V):=by
 intro k
 show Wt H 1 (.str m) (Yi m) (fun new=>k (Yi m) new)=_
 rw[Ye,Zy]
 have e:Zgc m=m.map u8V:=by rw[Zj0];rfl
 unfold Wt
 cases m with
 |nil=>rfl
 |cons x m=>
  rw[Zn,Z3,Zc (by omega)]
  show ZR (Nat.beq 1 1) (k (m.length+1) (Zgc (Zdy (m.length+1) (x::m))))=_
  rw[Zcm,Zv (by simp),e];rfl
theorem ZCK{c:Nat}(h:c<256):u8V (UInt8.ofNat c)=nI .u8 c:=by
 unfold u8V nI
 rw[UInt8.toNat_ofNat',ZX h]
theorem ZAI{H:Heap}{v:AV}{l m:List UInt8}{lo:Nat}(h:Buf H v l lo)(hl:l.length+m.length≤140737488355328)(hro:H.ro≤H.nx)(hlo:lo≤H.nx):
  ∃v' H',Ug 5 1 1 v (.str m) H= .val v' H'∧Buf H' v' (l++m) lo∧Below lo H H':=by
 rw[Zek (Zl 1) (Zs3 H m),Zy]
 by_cases hm:m=[]
 ·subst hm
  rw[List.append_nil]
  rcases h with⟨rfl,rfl⟩|⟨hne,b,r,rfl,g,hb⟩
  ·exact⟨_,_,rfl, .inl ⟨rfl,rfl⟩,Below.refl _ _⟩
  ·refine⟨.slice b 0 l.length none,H,?_, .inr ⟨hne,b,r,rfl,g,hb⟩,Below.refl _ _⟩
   have hs:r.size=l.length:=by rw[g.cells.size,Zy]
   show Yr H b _=_
   unfold Yr
   simp only[g.at_]
   have h1:ZhM r 1 none=true:=by show Nat.beq r.sz 1=true;rw[g.sz];rfl
   have h2:VV r 0 none=l.length:=by show cond (Nat.beq r.sz 1) (r.size - 0) _=_;rw[g.sz,hs];rfl
   rw[h1]
   show cond (Nat.ble (l.length+0) (VV r 0 none)) _ _=_
   rw[h2,Zj (by omega)];rfl
 ·have hm0:0<m.length:=List.length_pos_iff.2 hm
  rcases h with⟨rfl,rfl⟩|⟨hne,b,r,rfl,g,hb⟩
  ·have g:=ZpH (H:=H) (e:=5) (l:=m.map u8V) hro
   have e:=ZpG (e:=5) (H:=H) (l:=m.map u8V) (by rw[Zy];exact hm0) (by rw[Zy];simpa using hl)
   rw[Zy] at e
   exact⟨_,_,e, .inr ⟨by simpa using hm,_,_,by rw[List.nil_append],by rw[List.nil_append];exact g,hlo⟩,Below.new lo H _⟩
  ·obtain⟨H',r',e,g',k',nx'⟩:=ZmL (m:=m.map u8V) g (by rw[Zy];exact hm0) (by rw[Zy,Zy];exact hl)
   rw[Zy,Zy] at e
   refine⟨_,H',e, .inr ⟨by simp[hm],H.nx,r',by rw[Zx],by rw[List.map_append];exact g',hlo⟩,⟨by omega,k'.ro,fun c h1 h2=>k'.get c h2 (by simp;omega)⟩⟩
structure Bld(H:Heap)(sb:Nat)(l:List UInt8):Prop where
 low:sb<H.nx
 ro:H.ro≤sb
 ok: ∃a buf,H.t.get sb=some (rG 87 1 [a,buf] 0 false true true)∧Buf H buf l (sb+1)∧(a= .nilp∨a= .ptr sb 0)
theorem Bld.new{H:Heap}(hro:H.ro≤H.nx):Bld (H.new (rG 87 1 [.nilp, .nils] 0 false true true)) H.nx []:=⟨Yf _,hro, .nilp, .nils,ZA rfl _, .inl ⟨rfl,rfl⟩, .inl rfl⟩
theorem Bld.keep{H H':Heap}{sb:Nat}{l:List UInt8}(b:Bld H sb l)(k:Keep H H' []):Bld H' sb l:=by
 obtain⟨a,buf,g,h,ha⟩:=b.ok
 exact⟨ZC b.low k.nx,by rw[k.ro];exact b.ro,a,buf,by rw[k.get _ b.low (by simp)];exact g,h.below (fun c _ hc=>k.get c hc (by simp)) k.ro k.nx,ha⟩
theorem Below.keep{H0 H H':Heap}{n:Nat}(k:Keep H0 H [])(b:Below n H H')(h:H0.nx≤n):Keep H0 H' []:=Keep.below k b h
theorem Zm8{H:Heap}{v:AV}{l:List UInt8}{lo:Nat}(h:Buf H v l lo):v.cells=[v]:=by
 rcases h with⟨_,rfl⟩|⟨_,_,_,rfl,_⟩<;>rfl
theorem ZeJ{Zk:Lib}{fs:T CF}{fuel:Nat}(E:Env Zk fs fuel){k n sb:Nat}{a buf:AV}{H:Heap}(g:H.t.get sb=some (rG 87 1 [a,buf] 0 false true true))(hro:H.ro≤sb)(ha:a= .nilp∨a= .ptr sb 0):
  ZQ (LK Zk fs fuel k) fs fuel (n+2) 76 [.ptr sb 0] H= .ret (.tup []) (H.put sb (rG 87 1 [.ptr sb 0,buf] 0 false true true)):=by
 rw[ZV (ZL E.n76 (.inr rfl) _ _) E.f76]
 have p1:Zxz (.ptr sb 0) H= .val (.ptr sb 0) H:=by
  show Yr H sb _=_
  unfold Yr
  rw[g]
  rfl
 have p2:ZxA 87 2 (.ptr sb 0) H= .val (.ptr sb 0) H:=by
  show Yr H sb _=_
  unfold Yr
  rw[g]
  show ZR (Nat.beq 87 87) _=_
  rw[Nat.beq_refl];rfl
 have en:=fun{j}=>Zhr (Zk:=Zk) (fs:=fs) (fuel:=fuel) (V7:=V7) (Qg:=Qg) (k:=k) (n:=j) (f:=128) rfl (E.nesc (.ptr sb 0) H)
 rcases ha with rfl|rfl
 ·simp(maxSteps:=4000000) (disch:=first|assumption|omega|(simp -implicitDefEqProofs only[Zt,Zu]<;>first|assumption|omega)|decide) only[g,Zrs,ZmN,p1,en,ZmO,p2,ZT,Zbf,c76,ZG,N8G,Zr,Zs,Zd,Ze,Zf,Nat.reduceEqDiff,reduceCtorEq,TB0]
 ·rw[Zhx g]
  simp(maxSteps:=4000000) (disch:=first|assumption|omega|(simp -implicitDefEqProofs only[Zt,Zu]<;>first|assumption|omega)|decide) only[g,Zz8,Zxy,ZT,c76,ZG,N8G,Zr,Zs,Zd,Ze,Zf,Nat.reduceEqDiff,reduceCtorEq,TB0]
theorem ZiN{Zk:Lib}{fs:T CF}{fuel:Nat}(E:Env Zk fs fuel){k n sb:Nat}{x:Nat}{H:Heap}{l:List UInt8}(b:Bld H sb l)(hx:x<256)(hl:l.length+[UInt8.ofNat x].length≤140737488355328)(hro:H.ro≤H.nx):
  ∃H',ZQ (LK Zk fs fuel k) fs fuel (n+3) 38 [.ptr sb 0,nI .u8 x] H= .ret (.nili) H'∧Bld H' sb (l++[UInt8.ofNat x])∧Below sb H H':=by
 rw[ZV (ZL E.n38 (.inr rfl) _ _) E.f38]
 obtain⟨a,buf,g,hb,ha⟩:=b.ok
 have hlow:=b.low
 have hrs:=b.ro
 have ec:=fun{j}=>ZeJ (Zk:=Zk) (fs:=fs) (fuel:=fuel) E (k:=k) (n:=j) g b.ro ha
 obtain⟨H1,hH1⟩: ∃G,H.put sb (rG 87 1 [.ptr sb 0,buf] 0 false true true)=G:=⟨_,rfl⟩
 rw[hH1] at ec
 have nx1:H1.nx=H.nx:=by rw[←hH1];rfl
 have ro1:H1.ro=H.ro:=by rw[←hH1];rfl
 have g1:H1.t.get sb=some (rG 87 1 [.ptr sb 0,buf] 0 false true true):=by rw[←hH1,Z5]
 have b1:Below sb H H1:=by rw[←hH1];exact Below.put (Zl _)
 have hb1:Buf H1 buf l (sb+1):=hb.below (fun c h _=>by rw[←hH1,ZF (by omega)]) ro1 (by omega)
 obtain⟨v',H3,ea,hb3,b3⟩:=Zxw hb1 (by simp at hl;omega) (by rw[ro1,nx1];exact hro) (by omega) (UInt8.ofNat x)
 have g3:H3.t.get sb=some (rG 87 1 [.ptr sb 0,buf] 0 false true true):=by rw[b3.get sb (by omega) (by omega)];exact g1
 have hv:=Zm8 hb3
 have r3:H3.ro≤sb:=by rw[b3.ro,ro1];exact hrs
 have st: ∀(e:Nat),stN 1 (some (rG 87 1 [.ptr sb 0,buf] 0 false true true)) sb 1 v' H3= .val Yo (H3.put sb (rG 87 1 [.ptr sb 0,v'] 0 false true true)):=fun e=>Zbf hv (by simp) r3 (by omega) _ _ _ _
 have st:=st 0
 rw[ZCK hx,Wk,nx1] at ea
 simp(maxSteps:=4000000) (disch:=first|assumption|omega|(simp -implicitDefEqProofs only[Zt,Zu]<;>first|assumption|omega)|decide) only[ec,g1,ea,g3,st,nx1,ZT,ZbZ,ZbY,Wk,Z1,Zej,c38,ZG,N8G,Zr,Zs,Zd,Ze,Zf,Nat.reduceEqDiff,reduceCtorEq,TB0]
 refine⟨_,rfl,⟨?_,r3, .ptr sb 0,v',Z5 ..,?_, .inr rfl⟩,b1.trans ((b3.mono (Nat.le_succ _)).trans (Below.put (Zl _)))⟩
 ·have:=b3.nx;show sb<H3.nx;omega
 ·exact hb3.below (fun c h _=>by rw[ZF (by omega)]) rfl (Zl _)
theorem Zes{Zk:Lib}{fs:T CF}{fuel:Nat}(E:Env Zk fs fuel){k n sb:Nat}{m:List UInt8}{H:Heap}{l:List UInt8}(b:Bld H sb l)(hl:l.length+m.length≤140737488355328)(hro:H.ro≤H.nx):
  ∃H',ZQ (LK Zk fs fuel k) fs fuel (n+3) 37 [.ptr sb 0, .str m] H= .ret (.tup [nI .i64 m.length, .nili]) H'∧Bld H' sb (l++m)∧Below sb H H':=by
 rw[ZV (ZL E.n37 (.inr rfl) _ _) E.f37]
 obtain⟨a,buf,g,hb,ha⟩:=b.ok
 have hlow:=b.low
 have hrs:=b.ro
 have ec:=fun{j}=>ZeJ (Zk:=Zk) (fs:=fs) (fuel:=fuel) E (k:=k) (n:=j) g b.ro ha
 obtain⟨H1,hH1⟩: ∃G,H.put sb (rG 87 1 [.ptr sb 0,buf] 0 false true true)=G:=⟨_,rfl⟩
 rw[hH1] at ec
 have nx1:H1.nx=H.nx:=by rw[←hH1];rfl
 have ro1:H1.ro=H.ro:=by rw[←hH1];rfl
 have g1:H1.t.get sb=some (rG 87 1 [.ptr sb 0,buf] 0 false true true):=by rw[←hH1,Z5]
 have b1:Below sb H H1:=by rw[←hH1];exact Below.put (Zl _)
 have hb1:Buf H1 buf l (sb+1):=hb.below (fun c h _=>by rw[←hH1,ZF (by omega)]) ro1 (by omega)
 obtain⟨v',H3,ea,hb3,b3⟩:=ZAI (m:=m) hb1 (by simpa using hl) (by rw[ro1,nx1];exact hro) (by omega)
 have g3:H3.t.get sb=some (rG 87 1 [.ptr sb 0,buf] 0 false true true):=by rw[b3.get sb (by omega) (by omega)];exact g1
 have hv:=Zm8 hb3
 have r3:H3.ro≤sb:=by rw[b3.ro,ro1];exact hrs
 have st: ∀(e:Nat),stN 1 (some (rG 87 1 [.ptr sb 0,buf] 0 false true true)) sb 1 v' H3= .val Yo (H3.put sb (rG 87 1 [.ptr sb 0,v'] 0 false true true)):=fun e=>Zbf hv (by simp) r3 (by omega) _ _ _ _
 have st:=st 0
 simp(maxSteps:=4000000) (disch:=first|assumption|omega|(simp -implicitDefEqProofs only[Zt,Zu]<;>first|assumption|omega)|decide) only[ec,g1,ea,g3,st,nx1,ZT,ZbZ,ZbY,Wk,Z1,Zej,c37,ZG,N8G,Zr,Zs,Zd,Ze,Zf,Nat.reduceEqDiff,reduceCtorEq,TB0]
 refine⟨_,rfl,⟨?_,r3, .ptr sb 0,v',Z5 ..,?_, .inr rfl⟩,b1.trans ((b3.mono (Nat.le_succ _)).trans (Below.put (Zl _)))⟩
 ·have:=b3.nx;show sb<H3.nx;omega
 ·exact hb3.below (fun c h _=>by rw[ZF (by omega)]) rfl (Zl _)
theorem ZAJ{Zk:Lib}{fs:T CF}{fuel:Nat}(E:Env Zk fs fuel){k n sb:Nat}{H:Heap}{l:List UInt8}(b:Bld H sb l)(hlen:l.length≤140737488355328):
  ∃H',ZQ (LK Zk fs fuel k) fs fuel (n+1) 41 [.ptr sb 0] H= .ret (.str l) H'∧Below sb H H':=by
 rw[ZV (ZL E.n41 (.inr rfl) _ _) E.f41]
 obtain⟨a,buf,g,hb,ha⟩:=b.ok
 have hlow:=b.low
 obtain⟨p,u1,⟨H',u2,u3⟩,u4,u5,u6,u7,u8⟩:=Zrt hb hlen
 have u1:=u1 ⟨H.nx,H.t,H.nx⟩ rfl
 have u4:=u4 H.nx (Zl _)
 have u5:=u5 H.nx H.t
 have u6:=u6 H.nx (Zl _)
 have u7:=u7 H.nx H.t
 have lp:Yn H.nx (.ptr sb 0)=true:=ZO b.low 0
 have lp1:Yn H.nx (.ptr sb 1)=true:=ZO b.low 1
 simp(maxSteps:=4000000) (disch:=first|assumption|omega|(simp -implicitDefEqProofs only[Zt,Zu]<;>first|assumption|omega)|decide) only[lp,lp1,g,ZT,Zel,u1,Ziy,u2,u4,u5,u6,u7,u8,c41,ZG,N8G,Zr,Zs,Zd,Ze,Zf,Nat.reducePow,Nat.reduceDiv,Nat.reduceMod,Nat.reduceEqDiff,reduceCtorEq,TB0]
 refine⟨_,rfl,?_⟩
 exact u3.mono (Nat.le_succ _)
end
end Go.AI
namespace Go.AI
open Go
noncomputable section
def PBuf(H:Heap)(v:AV)(N:Nat)(l:List UInt8)(lo:Nat):Prop:=
 ∃b r,v= .slice b 0 l.length none∧lo≤b∧b<H.nx∧H.ro≤b∧H.t.get b=some (.row r)∧r.elem=5∧r.sz=1∧r.size=N∧r.own=true∧r.sm=false∧r.fz=0∧ ∀i,i<l.length→r.get i=(l.map u8V).getD i .unk
theorem PBuf.below{H H':Heap}{v:AV}{N:Nat}{l:List UInt8}{lo:Nat}(h:PBuf H v N l lo)(hg: ∀c,lo≤c→c<H.nx→H'.t.get c=H.t.get c)(hr:H'.ro=H.ro)(hn:H.nx≤H'.nx):PBuf H' v N l lo:=by
 obtain⟨b,r,e,h1,h2,h3,h4,h5⟩:=h
 exact⟨b,r,e,h1,ZC h2 hn,by rw[hr];exact h3,by rw[hg b h1 h2];exact h4,h5⟩
theorem Zr0{H:Heap}{v:AV}{N:Nat}{l:List UInt8}{lo:Nat}(h:PBuf H v N l lo):v.cells=[v]:=by
 obtain⟨b,r,rfl,_⟩:=h;rfl
theorem Zyn{H:Heap}{v:AV}{N:Nat}{l m:List UInt8}{lo:Nat}(h:PBuf H v N l lo)(hl:l.length+m.length≤N):
  ∃v' H',Ug 5 1 1 v (.str m) H= .val v' H'∧PBuf H' v' N (l++m) lo∧Below lo H H':=by
 rw[Zek (Zl 1) (Zs3 H m),Zy]
 obtain⟨b,r,rfl,h1,h2,h3,h4,h5,h6,h7,h8,h9,h10,h11⟩:=h
 have hmay:H.may r b=true:=by unfold Heap.may;rw[h8,Zj h3];rfl
 have hs:ZhM r 1 none=true:=by show Nat.beq r.sz 1=true;rw[h6];rfl
 have hc:VV r 0 none=N:=by show cond (Nat.beq r.sz 1) (r.size - 0) _=_;rw[h6,h7];rfl
 have e1:Zb3 (.slice b 0 l.length none) 5 1 1 H m.length (m.map u8V)=Zkf H (.slice b 0 l.length none) b 0 l.length m.length 1 none r (m.map u8V):=by
  show Yr H b _=_
  unfold Yr
  rw[h4]
  show ZR (ZhM r 1 none) (cond (Nat.ble (l.length+m.length) (VV r 0 none)) _ _)=_
  rw[hs,hc,Zj hl];rfl
 rw[e1]
 by_cases hm:m.length=0
 ·have:m=[]:=List.length_eq_zero_iff.1 hm
  subst this
  rw[List.append_nil]
  exact⟨_,_,rfl,⟨b,r,rfl,h1,h2,h3,h4,h5,h6,h7,h8,h9,h10,h11⟩,Below.refl _ _⟩
 ·refine⟨.slice b 0 (l.length+m.length) none,H.put b (.row (r.setCells (Y4 r.cells l.length (m.map u8V)))),?_,⟨b,_,by rw[Zx],h1,h2,h3,Z5 ..,h5,h6,h7,h8,h9,h10,fun i hi=>?_⟩,Below.put h1⟩
  ·show cond (Nat.beq m.length 0) _ (ZR (H.may r b) (ZR (Nat.ble (0+(l.length+m.length)*1) r.size) (ZR (Nat.ble r.fz (0+l.length*1)) (.val (.slice b 0 (l.length+m.length) none) (H.put b (.row (r.setCells (Y4 r.cells (0+l.length*1) (m.map u8V)))))))))=_
   rw[Z3,Zc hm,hmay,h7,h10,Zj (by omega),Zj (by omega),Nat.mul_one,Zo];rfl
  ·show(Option.rec r.dflt (fun v=>v) ((Y4 r.cells l.length (m.map u8V)).get i):AV)=_
   rw[UO,List.map_append,Zi]
   rw[Zx] at hi
   by_cases hil:i<l.length
   ·rw[if_neg (by omega),List.getElem?_append_left (by rw[Zy];exact hil)]
    have:=h11 i hil
    rw[Zi] at this
    exact this
   ·rw[if_pos (by rw[Zy];omega),List.getElem?_append_right (by rw[Zy];omega),Zy]
    rw[Zp (by rw[Zy];omega)];rfl
theorem Zql{H:Heap}{v:AV}{l:List UInt8}{lo:Nat}(h:PBuf H v l.length l lo)(hp:0<l.length)(hl:l.length≤140737488355328): ∃p,(∀G:Heap,G.t=H.t→Zj4 v G= .val p G)∧(∃H',ZsK 5 p (nI .i64 l.length) H= .val (.str l) H'∧Below lo H H')∧(∀n,H.nx≤n→Yn n p=true)∧(∀n t,WG (.val p ⟨n,t,n⟩) p n=true)∧(∀n,H.nx≤n→Yn n v=true)∧(∀n t,WG (.val v ⟨n,t,n⟩) v n=true)∧ ∀G,Za2 v G= .val (nI .i64 l.length) G:=by
 obtain⟨b,r,rfl,h1,h2,h3,h4,h5,h6,h7,h8,h9,h10,h11⟩:=h
 refine⟨.ptr b 0,fun G e=>?_,?_,fun n hn=>ZO (ZC h2 hn) 0,fun n t=>Vt _ _ _ (by unfold same;rw[Nat.beq_refl,Nat.beq_refl];rfl),fun n hn=>YD (ZC h2 hn) _ _ _,fun n t=>Vo _ _ _ _ _ _,fun G=>Vb ..⟩
 ·show Yr G b _=_
  unfold Yr
  rw[e,h4]
  show ZR (Nat.ble 1 r.size) _=_
  rw[Zj (by omega)];rfl
 ·refine⟨H.put b (.row ⟨r.elem,r.sz,r.size,r.cells,r.dflt,cond (Nat.ble r.fz (Nat.add 0 l.length)) (Nat.add 0 l.length) r.fz,r.sm,r.own,r.exact⟩),?_,Below.put h1⟩
  show cond (Nat.beq l.length 0) _ (ZR (Nat.ble l.length 140737488355328) (Yr H b _))=_
  rw[Z3,Zc (by omega),Zj hl]
  unfold Yr
  rw[h4]
  show ZR (Nat.beq r.elem 5) (ZR (cond r.sm false (H.may r b)) (ZR (Nat.ble (0+l.length) r.size) (Qy _ (loadN r 0 l.length))))=_
  have hmay:H.may r b=true:=by unfold Heap.may;rw[h8,Zj h3];rfl
  have hld:loadN r 0 l.length=l.map u8V:=by
   apply List.ext_getElem?
   intro j
   by_cases hj:j<l.length
   ·rw[VC _ _ _ _ hj,Zo,h11 j hj,Zi,Zp (by rw[Zy];exact hj)];rfl
   ·rw[List.getElem?_eq_none (by rw[VM];omega),List.getElem?_eq_none (by rw[Zy];omega)]
  rw[h5,h9,hmay,Zj (by omega),hld,ZcW]
  rfl
structure BldP(H:Heap)(sb N:Nat)(l:List UInt8):Prop where
 low:sb<H.nx
 ro:H.ro≤sb
 ok: ∃buf,H.t.get sb=some (rG 87 1 [.ptr sb 0,buf] 0 false true true)∧PBuf H buf N l (sb+1)
theorem BldP.keep{H H':Heap}{sb N:Nat}{l:List UInt8}(b:BldP H sb N l)(k:Keep H H' []):BldP H' sb N l:=by
 obtain⟨buf,g,h⟩:=b.ok
 exact⟨ZC b.low k.nx,by rw[k.ro];exact b.ro,buf,by rw[k.get _ b.low (by simp)];exact g,h.below (fun c _ hc=>k.get c hc (by simp)) k.ro k.nx⟩
theorem Zdc{Zk:Lib}{fs:T CF}{fuel:Nat}(E:Env Zk fs fuel){k n sb N:Nat}{m:List UInt8}{H:Heap}{l:List UInt8}(b:BldP H sb N l)(hl:l.length+m.length≤N):
  ∃H',ZQ (LK Zk fs fuel k) fs fuel (n+3) 37 [.ptr sb 0, .str m] H= .ret (.tup [nI .i64 m.length, .nili]) H'∧BldP H' sb N (l++m)∧Below sb H H':=by
 rw[ZV (ZL E.n37 (.inr rfl) _ _) E.f37]
 obtain⟨buf,g,hb⟩:=b.ok
 have hlow:=b.low
 have hrs:=b.ro
 have ec:=fun{j}=>ZeJ (Zk:=Zk) (fs:=fs) (fuel:=fuel) E (k:=k) (n:=j) g b.ro (.inr rfl)
 rw[Zhx g] at ec
 obtain⟨v',H3,ea,hb3,b3⟩:=Zyn (m:=m) hb hl
 have g3:H3.t.get sb=some (rG 87 1 [.ptr sb 0,buf] 0 false true true):=by rw[b3.get sb (by omega) (by omega)];exact g
 have hv:=Zr0 hb3
 have r3:H3.ro≤sb:=by rw[b3.ro];exact hrs
 have st:=Zbf (fz:=0) (b:=sb) (H:=H3) (l:=[.ptr sb 0,buf]) (o:=1) hv (by simp) r3 (by omega) 87 1 false true
 simp(maxSteps:=4000000) (disch:=first|assumption|omega|(simp -implicitDefEqProofs only[Zt,Zu]<;>first|assumption|omega)|decide) only[ec,g,ea,g3,st,ZT,ZbZ,Z1,Zo,List.set_cons_succ,List.set_cons_zero,c37,ZG,N8G,Zr,Zs,Zd,Ze,Zf,Nat.reduceEqDiff,reduceCtorEq,TB0]
 refine⟨_,rfl,⟨?_,r3,v',Z5 ..,?_⟩,(b3.mono (Nat.le_succ _)).trans (Below.put (Zl _))⟩
 ·have:=b3.nx;show sb<H3.nx;omega
 ·exact hb3.below (fun c h _=>by rw[ZF (by omega)]) rfl (Zl _)
theorem Zyo{Zk:Lib}{fs:T CF}{fuel:Nat}(E:Env Zk fs fuel){k n sb:Nat}{H:Heap}{l:List UInt8}(b:BldP H sb l.length l)(hp:0<l.length)(hlen:l.length≤140737488355328):
  ∃H',ZQ (LK Zk fs fuel k) fs fuel (n+1) 41 [.ptr sb 0] H= .ret (.str l) H'∧Below sb H H':=by
 rw[ZV (ZL E.n41 (.inr rfl) _ _) E.f41]
 obtain⟨buf,g,hb⟩:=b.ok
 have hlow:=b.low
 obtain⟨p,u1,⟨H',u2,u3⟩,u4,u5,u6,u7,u8⟩:=Zql hb hp hlen
 have u1:=u1 ⟨H.nx,H.t,H.nx⟩ rfl
 have u4:=u4 H.nx (Zl _)
 have u5:=u5 H.nx H.t
 have u6:=u6 H.nx (Zl _)
 have u7:=u7 H.nx H.t
 have lp:Yn H.nx (.ptr sb 0)=true:=ZO b.low 0
 have lp1:Yn H.nx (.ptr sb 1)=true:=ZO b.low 1
 simp(maxSteps:=4000000) (disch:=first|assumption|omega|(simp -implicitDefEqProofs only[Zt,Zu]<;>first|assumption|omega)|decide) only[lp,lp1,g,ZT,Zel,u1,Ziy,u2,u4,u5,u6,u7,u8,c41,ZG,N8G,Zr,Zs,Zd,Ze,Zf,Nat.reducePow,Nat.reduceDiv,Nat.reduceMod,Nat.reduceEqDiff,reduceCtorEq,TB0]
 refine⟨_,rfl,?_⟩
 exact u3.mono (Nat.le_succ _)
def ZEm(v:AV)(H:Heap):OR:=Vu v (.val (.int .i64 0) H) fun b o _ cap=>Option.rec (Yr H b fun r=>ZR r.exact (ZR (Nat.beq (Nat.mod o r.sz) 0) (.val (.int .i64 (.ofNat (VV r o none))) H))) (fun c=> .val (.int .i64 (.ofNat c)) H) cap
theorem Zs4(x:EvF)(tm:TM)(H:Heap):Zzb x tm H=ZEm (x tm) H:=rfl
theorem Zm9(H:Heap):ZEm .nils H= .val (nI .i64 0) H:=rfl
def Zyp(e N:Nat):Obj:= .row ⟨e,1,N, .leaf, .unk,0,false,true,false⟩
theorem Zyq{H:Heap}{b N:Nat}(g:H.t.get b=some (Zyp 5 N))(hN:0<N)(k:IntKind):Zle 1 (.slice b 0 N none) none (some (nI k 0)) H= .val (.slice b 0 0 none) H:=by
 show Yr H b _=_
 unfold Yr
 rw[g]
 show cond (Nat.beq 0 N) _ _=_
 rw[Z3,Zc (by omega)];rfl
theorem Zr1(b o:Nat)(c:Option Nat)(H:Heap):Zxu 1 (.slice b o 0 c) .nils H= .val (.int .i64 0) H:=rfl
theorem Zu4(b o n:Nat)(c:Option Nat)(q:Nat)(t:T Obj):WG (.val (.slice b o n c) ⟨q,t,q⟩) (.slice b o n c) q=true:=Vo ..
def MNZ(Zk:Lib):Prop:= ∀(n:Nat) (H:Heap),n≤281474976710656→Zk 176 [nI .i64 n] H=some (.ret (.slice H.nx 0 n none) (H.new (Zyp 5 n)))
theorem ZEn{Zk:Lib}{fs:T CF}{fuel:Nat}(E:Env Zk fs fuel)(M:MNZ Zk){k n sb N:Nat}{H:Heap}(g:H.t.get sb=some (rG 87 1 [.ptr sb 0, .nils] 0 false true true))(hlow:sb<H.nx)(hro:H.ro≤sb)(h0:0<N)(hN:N≤281474976710656)(hnn:V7 176=0):
  ∃H',ZQ (LK Zk fs fuel k) fs fuel (n+2) 143 [.ptr sb 0,nI .i64 N] H= .ret (.tup []) H'∧BldP H' sb N []∧Below sb H H':=by
 rw[ZV (ZL E.n143 (.inr rfl) _ _) E.f143]
 have em:=fun{j}=>Zhr (Zk:=Zk) (fs:=fs) (fuel:=fuel) (V7:=V7) (Qg:=Qg) (k:=k) (n:=j) (f:=176) rfl (M N H hN)
 obtain⟨H1,hH1⟩: ∃G,H.new (Zyp 5 N)=G:=⟨_,rfl⟩
 rw[hH1] at em
 have nx1:H1.nx=H.nx+1:=by rw[←hH1];rfl
 have ro1:H1.ro=H.ro:=by rw[←hH1];rfl
 have g1:H1.t.get H.nx=some (Zyp 5 N):=by rw[←hH1,ZA rfl]
 have gs:H1.t.get sb=some (rG 87 1 [.ptr sb 0, .nils] 0 false true true):=by rw[←hH1,ZH (by omega)];exact g
 have r1:H1.ro≤sb:=by omega
 have st:=Zbf (fz:=0) (b:=sb) (H:=H1) (l:=[.ptr sb 0, .nils]) (o:=1) (v:= .slice H.nx 0 0 none) rfl (by simp) r1 (by omega) 87 1 false true
 have lp:Yn H.nx (.ptr sb 0)=true:=ZO hlow 0
 have lp1:Yn H.nx (.ptr sb 1)=true:=ZO hlow 1
 have lp':Yn H1.nx (.ptr sb 0)=true:=ZO (by omega) 0
 have lp1':Yn H1.nx (.ptr sb 1)=true:=ZO (by omega) 1
 have ls:=YD (show H.nx<H1.nx by omega) 0 N none
 have sl:=Zyq (H:=⟨H1.nx,H1.t,H1.nx⟩) g1 h0 .i64
 rw[nx1] at sl lp' lp1' ls
 simp(maxSteps:=4000000) (disch:=first|assumption|omega|(simp -implicitDefEqProofs only[Zt,Zu]<;>first|assumption|omega)|decide) only[lp,lp1,lp',lp1',ls,g,gs,nx1,em,sl,st,ZT,Zs4,Zm9,Zla,Yt,Nat.mul_zero,ZbA,Zr1,Zu4,ZmK,List.set_cons_succ,List.set_cons_zero,ZAp,ZG,N8G,Zr,Zs,Zd,Ze,Zf,Nat.reducePow,Nat.reduceDiv,Nat.reduceMod,Nat.reduceEqDiff,reduceCtorEq,TB0]
 refine⟨_,rfl,?_⟩
 exact⟨⟨by show sb<H1.nx;omega,r1,_,Z5 ..,H.nx,_,rfl,hlow,by show H.nx<H1.nx;omega,by show H1.ro≤H.nx;omega,by rw[ZF (by omega)];exact g1,rfl,rfl,rfl,rfl,rfl,rfl,fun i hi=>by cases hi⟩,⟨by show H.nx≤H1.nx;omega,ro1,fun c h1 h2=>by rw[ZF (by omega),←hH1,ZH (by omega)]⟩⟩
end
end Go.AI
namespace Go.AI
open Go
noncomputable section
def TRow(H:Heap)(b:Nat)(ss:List (List UInt8)):Prop:= ∃r,H.t.get b=some (.row r)∧r.sz=1∧r.size=ss.length∧(∀i (G:Heap),i<ss.length→ld1 (some (.row r)) i G= .val (.str (ss.getD i [])) G)
theorem TRow.keep{H H':Heap}{b:Nat}{ss:List (List UInt8)}(h:TRow H b ss)(hb:b<H.nx)(k:Keep H H' []):TRow H' b ss:=by
 obtain⟨r,h1,h2⟩:=h
 exact⟨r,by rw[k.get b hb (by simp)];exact h1,h2⟩
theorem Zr2(ss:List (List UInt8))(i:Nat)(h:i<ss.length):(ss.map fun s=>AV.str s).getD i .unk= .str (ss.getD i []):=by
 rw[Zi,List.getElem?_map,Zi,Zp h];rfl
theorem Zf9(ss:List (List UInt8)):(ss.map fun s=>[AV.str s]).flatten=ss.map fun s=>AV.str s:=by
 induction ss with
 |nil=>rfl
 |cons s ss ih=>rw[List.map_cons,List.flatten_cons,ih];rfl
theorem TRow.of{H:Heap}{b:Nat}{ss:List (List UInt8)}{r:Row}(h:Recs H b 9 1 (ss.map fun s=>[AV.str s]) r):TRow H b ss:=by
 have hs:=h.size
 rw[Zy,Nat.mul_one] at hs
 refine⟨r,h.at_,h.szr,hs,fun i G hi=>?_⟩
 rw[Zn6 (by omega),h.cells.get i (by rw[Zf9,Zy];exact hi),Zf9,Zr2 _ _ hi]
theorem Zqm{H:Heap}{b n:Nat}{r:Row}(g:H.t.get b=some (.row r))(hz:r.sz=1)(hs:r.size=n)(hn:1<n)(k:IntKind):Zle 1 (.slice b 0 n none) (some (nI k 1)) none H= .val (.slice b 1 (n - 1) none) H:=by
 show Yr H b _=_
 unfold Yr
 rw[g]
 have e1:ZhM r 1 none=true:=by show Nat.beq r.sz 1=true;rw[hz];rfl
 have e2:VV r 0 none=n:=by show cond (Nat.beq r.sz 1) (r.size - 0) _=_;rw[hz,hs];rfl
 show ZR (ZhM r 1 none) (ZR (Nat.ble 1 n) (ZR (Nat.ble 1 (VV r 0 none)) (cond (Nat.beq 1 (VV r 0 none)) _ _)))=_
 rw[e1,e2,Zj (by omega),Z3,Zc (by omega)];rfl
structure J0(b:Nat)(ss:List (List UInt8))(m:Nat)(tm:TM):Prop where
 i: ∃i,VW tm=nI .i64 i∧i≤ss.length∧m=ss.length - i∧gt5 tm=nI .i64 ((ss.length - 1)+Zc9 (ss.take i))
 t0:gt0 tm= .slice b 0 ss.length none
 t1:gt1 tm= .str [44]
 t39:UJ tm= .slice b 0 ss.length none
 t40:Uj tm=nI .i64 ss.length
theorem ZAK{cl:Nat→List AV→Heap→CR}{b:Nat}{ss:List (List UInt8)}{H:Heap}(hT:TRow H b ss)(hc:ss.length≤9000)(hs:Zc9 ss≤1000000000)(y f d r)(x:X)(m:Nat)(tm:TM)(h:J0 b ss m tm):
  ∃o tm',ZeE ⟨cl,y,f,d,r⟩ tm H x= .ok o tm' H x∧((o= .normal∧ ∃k,k<m∧J0 b ss k tm')∨(o≠ .normal∧(o= .exit 1∧J0 b ss 0 tm'))):=by
 obtain⟨⟨i,t41,hi,rfl,t5⟩,t0,t1,t39,t40⟩:=h
 have t0':=t0;have t1':=t1;have t39':=t39;have t40':=t40;have t5':=t5;have t41':=t41
 simp only[Ziu] at t5
 simp only[ZDZ] at t41
 simp only[ZDX] at t39
 simp only[ZDY] at t40
 obtain⟨rw_,g,_,_,ld⟩:=hT
 by_cases hlt:i<ss.length
 ·have d1:decide (i<ss.length)=true:=Zh hlt
  have ld:=fun(G:Heap)=>ld i G hlt
  have hb1:=ZsU ss i
  have hst:=Zu0 hlt
  have hb2:=ZsU ss (i+1)
  have ix:=fun(G:Heap)=>We hlt b 0 none .i64 G
  rw[Zo] at ix
  generalize(ss.getD i [])=e at ld hst
  generalize hA:(ss.length - 1)+Zc9 (ss.take i)=A at t5
  have dn:decide (9223372036854775807 - A<e.length)=false:=Zc (by omega)
  simp(maxSteps:=4000000) (disch:=first|assumption|omega|(simp -implicitDefEqProofs only[Zt,Zu]<;>first|assumption|omega)|decide) only[t5,t41,t39,t40,d1,dn,g,ld,ix,ZU,Z4,Z1,YX,Yt,We,ZeE,ZG,N8G,Zr,Zs,Zd,Ze,Zf,Nat.reduceEqDiff,reduceCtorEq,TB0,TB1]
  exact⟨_,_,rfl, .inl ⟨rfl,ss.length - (i+1),by omega,⟨⟨i+1,(by simp only[TB1,N8G]),by omega,rfl,by rw[hst,←Nat.add_assoc,hA];simp only[TB0,N8G]⟩,(by simp only[TB0,N8G];exact t0'),(by simp only[TB0,N8G];exact t1'),(by simp only[TB1,N8G];exact t39'),(by simp only[TB1,N8G];exact t40')⟩⟩⟩
 ·have d1:decide (i<ss.length)=false:=Zc hlt
  simp(maxSteps:=4000000) (disch:=first|assumption|omega|(simp -implicitDefEqProofs only[Zt,Zu]<;>first|assumption|omega)|decide) only[t41,t40,d1,ZU,ZeE,ZG,N8G,Zr,Zs,Zd,Ze,Zf,Nat.reduceEqDiff,reduceCtorEq,TB0,TB1]
  exact⟨_,_,rfl, .inr ⟨by simp,rfl,⟨⟨i,(by simp only[TB1,N8G];exact t41'),hi,by omega,(by simp only[TB0,N8G];exact t5')⟩,(by simp only[TB0,N8G];exact t0'),(by simp only[TB0,N8G];exact t1'),(by simp only[TB1,N8G];exact t39'),(by simp only[TB1,N8G];exact t40')⟩⟩⟩
theorem Zyr{cl:Nat→List AV→Heap→CR}{b:Nat}{ss:List (List UInt8)}{H0:Heap}(hT:TRow H0 b ss)(hc:ss.length≤9000)(hs:Zc9 ss≤1000000000)(y f d r)(x:X)(m:Nat)(tm:TM)(H:Heap)(h:H=H0∧J0 b ss m tm):
  ∃o tm' H',ZeE ⟨cl,y,f,d,r⟩ tm H x= .ok o tm' H' x∧((o= .normal∧ ∃k,k<m∧(H'=H0∧J0 b ss k tm'))∨(o≠ .normal∧(o= .exit 1∧H'=H0∧J0 b ss 0 tm'))):=by
 obtain⟨rfl,h⟩:=h
 obtain⟨o,tm',e,h3⟩:=ZAK (cl:=cl) hT hc hs y f d r x m tm h
 refine⟨o,tm',H,e,?_⟩
 rcases h3 with⟨h4,k,h5,h6⟩|⟨h4,h5,h6⟩
 ·exact .inl ⟨h4,k,h5,rfl,h6⟩
 ·exact .inr ⟨h4,h5,rfl,h6⟩
structure J1I(H0:Heap)(b N:Nat)(ss:List (List UInt8))(m:Nat)(tm:TM)(H:Heap):Prop where
 i: ∃i,ZaY tm=nI .i64 i∧i≤ss.length - 1∧m=ss.length - 1 - i∧BldP H H0.nx N (W0 (ss.take (i+1)))
 t1:gt1 tm= .str [44]
 t8:gt8 tm= .ptr H0.nx 0
 t63:Zaq tm= .slice b 1 (ss.length - 1) none
 t64:ZaX tm=nI .i64 (ss.length - 1)
 k:Keep H0 H []
theorem ZAL{Zk:Lib}{fs:T CF}{fuel:Nat}(E:Env Zk fs fuel){k n:Nat}{H0:Heap}{b N:Nat}{ss:List (List UInt8)}(hT:TRow H0 b ss)(hb:b<H0.nx)(hc:ss.length≤9000)(h2:2≤ss.length)(hN:(W0 ss).length=N)(y f d r)(x:X)(m:Nat)(tm:TM)(H:Heap)(h:J1I H0 b N ss m tm H):
  ∃o tm' H',Zhs ⟨ZQ (LK Zk fs fuel k) fs fuel (n+3),y,f,d,r⟩ tm H x= .ok o tm' H' x∧((o= .normal∧ ∃k,k<m∧J1I H0 b N ss k tm' H')∨(o≠ .normal∧(o= .exit 3∧gt8 tm'= .ptr H0.nx 0∧BldP H' H0.nx N (W0 ss)∧Keep H0 H' []))):=by
 obtain⟨⟨i,t65,hi,rfl,bl⟩,t1,t8,t63,t64,k0⟩:=h
 have t1':=t1;have t8':=t8;have t63':=t63;have t64':=t64
 simp only[ZbK] at t1
 simp only[ZlU] at t8
 simp only[ZD6] at t63
 simp only[ZD7] at t64
 simp only[ZD8] at t65
 obtain⟨rw_,g,_,_,ld⟩:=hT.keep hb k0
 have hne:ss≠[]:=by intro e;subst e;simp at h2
 by_cases hlt:i<ss.length - 1
 ·have d1:decide (i<ss.length - 1)=true:=Zh hlt
  have ld:=fun(G:Heap)=>ld (1+i) G (by omega)
  rw[show 1+i=i+1 by omega] at ld
  have ix:=fun(G:Heap)=>We hlt b 1 none .i64 G
  rw[show 1+i=i+1 by omega] at ix
  have hj:=ZrV (l:=ss) (i:=i) (by omega)
  have hle:=Zqc (k:=i+2) (by omega) hne
  rw[hj,Zx,Zx,Zn,ZE] at hle
  obtain⟨H2,e2,b2,w2⟩:=Zdc E (k:=k) (n:=n) bl (m:=[44]) (by rw[Zn,ZE];omega)
  have hle':(W0 (ss.take (i+1))++[44]).length+(ss.getD (i+1) []).length≤N:=by rw[Zx,Zn,ZE];omega
  obtain⟨H3,e3,b3,w3⟩:=Zdc E (k:=k) (n:=n) b2 (m:=ss.getD (i+1) []) hle'
  have k3:=Below.keep (Below.keep k0 w2 (Zl _)) w3 (Zl _)
  rw[←hj] at b3
  generalize ss.getD (i+1) []=e at ld e3
  simp(maxSteps:=4000000) (disch:=first|assumption|omega|(simp -implicitDefEqProofs only[Zt,Zu]<;>first|assumption|omega)|decide) only[t1,t8,t63,t64,t65,d1,g,ld,ix,e2,e3,ZU,Yt,Zhs,ZG,N8G,Zr,Zs,Zd,Ze,Zf,Nat.reduceEqDiff,reduceCtorEq,TB0,TB1,TB2]
  refine⟨_,_,_,rfl,?_⟩
  exact .inl ⟨rfl,ss.length - 1 - (i+1),by omega,⟨⟨i+1,(by simp only[TB2,N8G]),by omega,rfl,b3⟩,(by simp only[TB0,N8G];exact t1'),(by simp only[TB0,N8G];exact t8'),(by simp only[TB1,N8G];exact t63'),(by simp only[TB2,N8G];exact t64'),k3⟩⟩
 ·have d1:decide (i<ss.length - 1)=false:=Zc hlt
  rw[Zv (by omega)] at bl
  simp(maxSteps:=4000000) (disch:=first|assumption|omega|(simp -implicitDefEqProofs only[Zt,Zu]<;>first|assumption|omega)|decide) only[t64,t65,d1,ZU,Zhs,ZG,N8G,Zr,Zs,Zd,Ze,Zf,Nat.reduceEqDiff,reduceCtorEq,TB0,TB1,TB2]
  refine⟨_,_,_,rfl,?_⟩
  exact .inr ⟨by simp,rfl,(by simp only[TB0,N8G];exact t8'),bl,k0⟩
theorem ZEo{Zk:Lib}{fs:T CF}{fuel:Nat}(E:Env Zk fs fuel)(M:MNZ Zk){k n sb N:Nat}{H:Heap}(g:H.t.get sb=some (rG 87 1 [.nilp, .nils] 0 false true true))(hlow:sb<H.nx)(hro:H.ro≤sb)(h0:0<N)(hN:N≤281474976710656):
  ∃H',ZQ (LK Zk fs fuel k) fs fuel (n+3) 92 [.ptr sb 0,nI .i64 N] H= .ret (.tup []) H'∧BldP H' sb N []∧Below sb H H':=by
 rw[ZV (ZL E.n92 (.inr rfl) _ _) E.f92]
 have ec:=fun{j}=>ZeJ (Zk:=Zk) (fs:=fs) (fuel:=fuel) E (k:=k) (n:=j) g hro (.inl rfl)
 obtain⟨H1,hH1⟩: ∃G,H.put sb (rG 87 1 [.ptr sb 0, .nils] 0 false true true)=G:=⟨_,rfl⟩
 rw[hH1] at ec
 have nx1:H1.nx=H.nx:=by rw[←hH1];rfl
 have ro1:H1.ro=H.ro:=by rw[←hH1];rfl
 have g1:H1.t.get sb=some (rG 87 1 [.ptr sb 0, .nils] 0 false true true):=by rw[←hH1,Z5]
 obtain⟨H2,e2,b2,w2⟩:=ZEn E M (k:=k) (n:=n) g1 (by omega) (by omega) h0 hN rfl
 have lp:Yn H.nx (.ptr sb 0)=true:=ZO hlow 0
 have lp1:Yn H.nx (.ptr sb 1)=true:=ZO hlow 1
 have d1:decide (N<0)=false:=Zc (by omega)
 have d2:decide (0<N)=true:=Zh h0
 simp(maxSteps:=4000000) (disch:=first|assumption|omega|(simp -implicitDefEqProofs only[Zt,Zu]<;>first|assumption|omega)|decide) only[ec,lp,lp1,g1,nx1,d1,d2,e2,ZT,Zs4,Zm9,ZbA,YX,ZU,c92,ZG,N8G,Zr,Zs,Zd,Ze,Zf,Nat.reducePow,Nat.reduceDiv,Nat.reduceMod,Nat.reduceEqDiff,reduceCtorEq,TB0]
 refine⟨_,rfl,?_⟩
 exact⟨b2,(Below.trans (by rw[←hH1];exact Below.put (Zl _)) w2)⟩
theorem Zys{Zk:Lib}{fs:T CF}{fuel:Nat}(E:Env Zk fs fuel){n:Nat}{ss:List (List UInt8)}{v:AV}{lo:Nat}{H:Heap}(M:MNZ Zk)(h:RBuf H v 9 1 (ss.map fun s=>[AV.str s]) lo)(hc:ss.length≤9000)(hs:(W0 ss).length≤900000000)(hro:H.ro≤H.nx):
  ∃H',ZQ (LK Zk fs fuel 1) fs fuel (n+4) 114 [v, .str [44]] H= .ret (.str (W0 ss)) H'∧Keep H H' []:=by
 rw[ZV (ZL E.n114 (.inl (by decide)) _ _) E.f114]
 rcases h with⟨hn,rfl⟩|⟨hn,b,r,rfl,hr,hlo⟩
 ·have:ss=[]:=by cases ss with|nil=>rfl|cons a l=>simp at hn
  subst this
  have d0:decide (0=0)=true:=rfl
  simp(maxSteps:=4000000) (disch:=first|assumption|omega|(simp -implicitDefEqProofs only[Zt,Zu]<;>first|assumption|omega)|decide) only[d0,ZW,ZbA,Zp4,ZG,N8G,Zr,Zs,Zd,Ze,Zf,Nat.reducePow,Nat.reduceDiv,Nat.reduceMod,Nat.reduceEqDiff,reduceCtorEq,TB0,TB1,TB2]
  refine⟨_,rfl,?_⟩
  exact Keep.refl _ _
 ·have hT:=TRow.of hr
  have hb:=hr.low
  rw[Zy]
  have hne:ss≠[]:=by rintro rfl;exact hn rfl
  have hp:=List.length_pos_iff.2 hne
  have d0:decide (ss.length=0)=false:=Zc (by omega)
  by_cases h1:ss.length=1
  ·have d1:decide (ss.length=1)=true:=Zh h1
   obtain⟨rw_,g,_,_,ld⟩:=hT
   have ld:=fun(G:Heap)=>ld 0 G (by omega)
   have ix:=fun(G:Heap)=>We hp b 0 none .i64 G
   have ej:W0 ss=ss.getD 0 []:=by
    cases ss with
    |nil=>simp at h1
    |cons s l=>
     have:l=[]:=List.length_eq_zero_iff.1 (by simpa using h1)
     subst this;show s++[]=s;simp
   rw[ej]
   simp(maxSteps:=4000000) (disch:=first|assumption|omega|(simp -implicitDefEqProofs only[Zt,Zu]<;>first|assumption|omega)|decide) only[d0,d1,ZW,Vb,g,ld,ix,Zo,Nat.add_zero,Zp4,ZG,N8G,Zr,Zs,Zd,Ze,Zf,Nat.reducePow,Nat.reduceDiv,Nat.reduceMod,Nat.reduceEqDiff,reduceCtorEq,TB0,TB1,TB2]
   refine⟨_,rfl,?_⟩
   exact Keep.refl _ _
  ·have d1:decide (ss.length=1)=false:=Zc h1
   have h2:2≤ss.length:=by omega
   have dl:decide (0<1)=true:=rfl
   have l44:([44]:List UInt8).length=1:=rfl
   have hN:=Zm5 hne
   have dq:decide (9223372036854775807/(ss.length - 1)≤1)=false:=Zc (by
    intro hq
    have:=(Nat.div_le_iff_le_mul_add_pred (show 0<ss.length - 1 by omega)).1 hq
    omega)
   simp(maxSteps:=4000000) (disch:=first|assumption|omega|(simp -implicitDefEqProofs only[Zt,Zu]<;>first|assumption|omega)|decide) only[l44,d0,d1,dl,dq,ZW,Z4,YO,Vb,Z1,YX,ZB7,Zla,Yt,Nat.one_mul,Zo,Zp4,ZG,N8G,Zr,Zs,Zd,Ze,Zf,Nat.reducePow,Nat.reduceDiv,Nat.reduceMod,Nat.reduceEqDiff,reduceCtorEq,TB0,TB1,TB2]
   generalize hL:WC (ZeE _) fuel _ _ _=L
   obtain⟨tm1,rfl,ji⟩: ∃tm1,L= .ok (.exit 1) tm1 H ⟨[],none⟩∧J0 b ss 0 tm1:=by
    obtain⟨o,tm1,H1,e,_,rfl,rfl,ji⟩:=YS (P:=fun T=>J0 b ss ss.length T) (Q:=fun o tm' H'=>o= .exit 1∧H'=H∧J0 b ss 0 tm')
     (fun T hi'=>YV (fun m tm H'=>H'=H∧J0 b ss m tm) _ (fun m tm H' h'=>Zyr hT hc (by omega) _ _ _ _ _ m tm H' h') fuel ss.length T H (by have:=E.big;omega) ⟨rfl,hi'⟩) hL ⟨⟨0,rfl,Nat.zero_le _,rfl,rfl⟩,rfl,rfl,rfl,rfl⟩
    exact⟨tm1,e,ji⟩
   obtain⟨⟨i,t41,hi,hm,t5⟩,t0,t1,_,_⟩:=ji
   rw[Zv (by omega),←hN] at t5
   simp only[ZbJ] at t0
   simp only[ZbK] at t1
   simp only[Ziu] at t5
   have t1'':=t1
   obtain⟨H1,hH1⟩: ∃G,H.new (rG 87 1 [.nilp, .nils] 0 false true true)=G:=⟨_,rfl⟩
   have k1:Keep H H1 []:=by rw[←hH1];exact Keep.new H _ _
   have nx1:H1.nx=H.nx+1:=by rw[←hH1];rfl
   have g1:H1.t.get H.nx=some (rG 87 1 [.nilp, .nils] 0 false true true):=by rw[←hH1,ZA rfl]
   obtain⟨H2,e2,b2,w2⟩:=ZEo E M (k:=1) (n:=n) (N:=(W0 ss).length) g1 (by omega) (by rw[k1.ro];exact hro) (by omega) (by omega)
   have k2:=Below.keep k1 w2 (Zl _)
   obtain⟨rw2,g2,hz2,hs2,ld2⟩:=hT.keep hb k2
   have ldA:=fun(G:Heap)=>ld2 0 G (by omega)
   have ixA:=fun(G:Heap)=>We hp b 0 none .i64 G
   have hle:=Zqc (k:=1) (by omega) hne
   have ej:W0 (ss.take 1)=ss.getD 0 []:=by
    cases ss with
    |nil=>simp at hp
    |cons s l=>show s++[]=s;simp
   rw[ej] at hle
   obtain⟨H3,e3,b3,w3⟩:=Zdc E (k:=1) (n:=n) b2 (m:=ss.getD 0 []) (by rw[ZE];omega)
   have k3:=Below.keep k2 w3 (Zl _)
   obtain⟨rw3,g3,hz3,hs3,ld3⟩:=hT.keep hb k3
   have sl:=Zqm g3 hz3 hs3 (by omega) .i64
   have lS:=fun(G:Heap)=>Vb b 1 (ss.length - 1) none G
   simp(maxSteps:=4000000) (disch:=first|assumption|omega|(simp -implicitDefEqProofs only[Zt,Zu]<;>first|assumption|omega)|decide) only[t0,t1,t5,hH1,nx1,e2,g2,ldA,ixA,e3,sl,lS,Nat.add_zero,Zo,Zp4,ZG,N8G,Zr,Zs,Zd,Ze,Zf,Nat.reducePow,Nat.reduceDiv,Nat.reduceMod,Nat.reduceEqDiff,reduceCtorEq,TB0,TB1,TB2]
   generalize hL:WC (Zhs _) fuel _ _ _=L
   obtain⟨o,tm2,H4,rfl,_,rfl,t8,b4,k4⟩:=YS (P:=fun T=>J1I H b (W0 ss).length ss (ss.length - 1) T H3) (Q:=fun o tm' H'=>o= .exit 3∧gt8 tm'= .ptr H.nx 0∧BldP H' H.nx (W0 ss).length (W0 ss)∧Keep H H' [])
    (fun T hi'=>YV (J1I H b (W0 ss).length ss) _ (fun m tm H' h'=>ZAL E (k:=1) (n:=n) hT hb hc h2 rfl _ _ _ _ _ m tm H' h') fuel (ss.length - 1) T H3 (by have:=E.big;omega) hi') hL
    ⟨⟨0,rfl,Nat.zero_le _,rfl,by rw[Zo,ej];exact b3⟩,by simp only[TB0,N8G];exact t1'',rfl,rfl,rfl,k3⟩
   simp only[ZlU] at t8
   obtain⟨H5,e5,w5⟩:=Zyo E (k:=1) (n:=n+2) b4 (by omega) (by omega)
   simp(maxSteps:=4000000) (disch:=first|assumption|omega|(simp -implicitDefEqProofs only[Zt,Zu]<;>first|assumption|omega)|decide) only[t8,e5,Zp4,ZG,N8G,Zr,Zs,Zd,Ze,Zf,Nat.reducePow,Nat.reduceDiv,Nat.reduceMod,Nat.reduceEqDiff,reduceCtorEq,TB0,TB1,TB2]
   refine⟨_,rfl,?_⟩
   exact Below.keep k4 w5 (Zl _)
theorem ZEp{Zk:Lib}{fs:T CF}{fuel:Nat}(E:Env Zk fs fuel){k n:Nat}(hk:2≤k){ss:List (List UInt8)}{v:AV}{lo:Nat}{H:Heap}(M:MNZ Zk)(h:RBuf H v 9 1 (ss.map fun s=>[AV.str s]) lo)(hc:ss.length≤9000)(hs:(W0 ss).length≤900000000)(hro:H.ro≤H.nx):
  ZQ (LK Zk fs fuel k) fs fuel (n+1) 114 [v, .str [44]] H= .ret (.str (W0 ss)) H:=by
 obtain⟨H',e,g⟩:=Zys E (n:=896) (H:=H) M h hc hs hro
 exact YI (r:=1) rfl rfl e g (rfl) hk
end
end Go.AI
namespace Go.AI
open Go
noncomputable section
theorem Zoq{n:Nat}(h:n<128):(Utf8.encode (n:Int)).data.toList=[UInt8.ofNat n]:=by
 have: ∀n:Fin 128,(Utf8.encode ((n.val:Nat):Int)).data.toList=[UInt8.ofNat n.val]:=by decide
 exact this ⟨n,h⟩
def ZBq(a:AV)(H:Heap):OR:=QG a fun _ n=> .val (.str (Utf8.encode n).data.toList) H
theorem Zyt(x:EvF)(tm:TM)(H:Heap):ZoE x tm H=ZBq (x tm) H:=rfl
theorem Zjx{k:IntKind}{n:Nat}(h:n<128)(H:Heap):ZBq (nI k n) H= .val (.str [UInt8.ofNat n]) H:=by
 show OR.val (.str (Utf8.encode (n:Int)).data.toList) H=_
 rw[Zoq h]
theorem Zu5{a:Nat}(ha:a<256)(H:Heap):ZmH Ux (nI .u8 a) (nI .u8 15) H= .val (nI .u8 (a % 16)) H:=by
 show ZR (kEq .u8 .u8) (Vv .u8 (.ofNat (Nat.land (a % 256) (15 % 256))) H)=_
 rw[YH,YU,Zj3,ZX ha]
 show OR.val _ H=_
 rw[show Nat.land a (15 % 256)=a&&&(2^4 - 1) from rfl,Nat.and_two_pow_sub_one_eq_mod,ZX (show a % 2^4<256 by omega)];rfl
theorem Zyu(s:List UInt8)(i:Nat):UInt8.ofNat (by_ s i)=s.getD i 0:=by unfold by_;exact UInt8.ofNat_toNat
structure QI(H0:Heap)(s:List UInt8)(m:Nat)(tm:TM)(H:Heap):Prop where
 i: ∃i,gt9 tm=nI .i64 i∧i≤s.length∧m=s.length - i∧Bld H H0.nx ([34]++(s.take i).flatMap qB)
 t0:gt0 tm= .str s
 t3:gt3 tm= .ptr H0.nx 0
 t8:gt8 tm=nI .i64 s.length
 k:Keep H0 H []
 ro:H.ro≤H.nx
theorem ZCL{Zk:Lib}{fs:T CF}{fuel:Nat}(E:Env Zk fs fuel){n:Nat}{H0:Heap}{s:List UInt8}(hs:s.length≤9000)(y f d r)(x:X)(m:Nat)(tm:TM)(H:Heap)(h:QI H0 s m tm H):
  ∃o tm' H',Zb1 ⟨ZQ (LK Zk fs fuel 1) fs fuel (n+3),y,f,d,r⟩ tm H x= .ok o tm' H' x∧((o= .normal∧ ∃k,k<m∧QI H0 s k tm' H')∨(o≠ .normal∧(o= .exit 0∧gt3 tm'= .ptr H0.nx 0∧Bld H' H0.nx ([34]++s.flatMap qB)∧Keep H0 H' []∧H'.ro≤H'.nx))):=by
 obtain⟨⟨i,t9,hi,rfl,b⟩,t0,t3,t8,k0,hro⟩:=h
 have t0':=t0;have t3':=t3;have t8':=t8
 simp only[ZbJ] at t0
 simp only[Zn1] at t3
 simp only[ZlU] at t8
 simp only[Zup] at t9
 by_cases hlt:i<s.length
 ·have d1:decide (i<s.length)=true:=Zh hlt
  have hq:=ZsV (s.take i)
  rw[List.length_take] at hq
  have hb:=Zm2 s i
  have hmid:=ZAE hlt
  have done: ∀{H2:Heap} {m:List UInt8} {tm2:TM},m=qB (s.getD i 0)→Bld H2 H0.nx ([34]++(s.take i).flatMap qB++m)→Below H0.nx H H2→gt9 tm2=nI .i64 (i+1)→gt0 tm2= .str s→gt3 tm2= .ptr H0.nx 0→gt8 tm2=nI .i64 s.length→QI H0 s (s.length - (i+1)) tm2 H2:=fun hm b2 w2 a1 a2 a3 a4=>
   ⟨⟨i+1,a1,by omega,rfl,by rw[ZCE hlt,←hm,←List.append_assoc];exact b2⟩,a2,a3,a4,Below.keep k0 w2 (Zl _),by rw[w2.ro];have:=w2.nx;omega⟩
  have slm:=fun(G:Heap)=>ZeC (s:=s) (p:=i) (q:=i+1) (by omega) (by omega) .i64 .i64 G
  rw[hmid] at slm
  have lowsb:Yn H.nx (.ptr H0.nx 0)=true:=ZO b.low 0
  generalize hc:by_ s i=cc at hb
  have hcc:(s.getD i 0).toNat=cc:=hc
  have ofc:UInt8.ofNat cc=s.getD i 0:=by rw[←hc,Zyu]
  have ibs:=fun(G:Heap)=>Yb hlt .i64 G
  rw[hc] at ibs
  by_cases h34:cc=34
  ·have d34:decide (cc=34)=true:=Zh h34
   obtain⟨H2,e2,b2,w2⟩:=Zes E (k:=1) (n:=n) b (m:=[92,s.getD i 0]) (by simp only[Zx,Zn,ZE];omega) hro
   simp(maxSteps:=4000000) (disch:=first|assumption|(simp only[Zn,ZE];omega)|omega|(simp -implicitDefEqProofs only[Zt,Zu]<;>first|assumption|omega)|decide) only[t0,t3,t8,t9,d1,d34,ibs,slm,ZU,ZW,Yt,ZbC,List.cons_append,e2,Zb1,ZG,N8G,Zr,Zs,Zd,Ze,Zf,Nat.reducePow,Nat.reduceDiv,Nat.reduceMod,Nat.reduceEqDiff,reduceCtorEq,TB0,TB1]
   refine⟨_,_,_,rfl,?_⟩
   exact .inl ⟨rfl,_,by omega,done (by unfold qB;rw[hcc,if_pos (.inl h34)]) b2 w2 rfl t0' t3' t8'⟩
  have d34:decide (cc=34)=false:=Zc h34
  by_cases h92:cc=92
  ·have d92:decide (cc=92)=true:=Zh h92
   obtain⟨H2,e2,b2,w2⟩:=Zes E (k:=1) (n:=n) b (m:=[92,s.getD i 0]) (by simp only[Zx,Zn,ZE];omega) hro
   simp(maxSteps:=4000000) (disch:=first|assumption|(simp only[Zn,ZE];omega)|omega|(simp -implicitDefEqProofs only[Zt,Zu]<;>first|assumption|omega)|decide) only[t0,t3,t8,t9,d1,d34,d92,ibs,slm,ZU,ZW,Yt,ZbC,List.cons_append,e2,Zb1,ZG,N8G,Zr,Zs,Zd,Ze,Zf,Nat.reducePow,Nat.reduceDiv,Nat.reduceMod,Nat.reduceEqDiff,reduceCtorEq,TB0,TB1]
   refine⟨_,_,_,rfl,?_⟩
   exact .inl ⟨rfl,_,by omega,done (by unfold qB;rw[hcc,if_pos (.inr h92)]) b2 w2 rfl t0' t3' t8'⟩
  have d92:decide (cc=92)=false:=Zc h92
  by_cases h32:cc<32
  ·have d32:decide (cc<32)=true:=Zh h32
   have hd1:cc/16<2:=by omega
   have hd2:cc % 16<16:=by omega
   obtain⟨H2,e2,b2,w2⟩:=Zes E (k:=1) (n:=n) b (m:=[92,117,48,48,ZrW (cc/16),ZrW (cc % 16)]) (by simp only[Zx,Zn,ZE];omega) hro
   have x1:=fun(G:Heap)=>Yb (s:=[48,49]) (i:=cc/16) hd1 .u8 G
   have x2:=fun(G:Heap)=>Yb (s:=[48,49,50,51,52,53,54,55,56,57,97,98,99,100,101,102]) (i:=cc % 16) hd2 .u8 G
   rw[ZCG hd1] at x1
   rw[ZCF hd2] at x2
   have r1:=fun(G:Heap)=>Zjx (k:= .u8) (ZsW (n:=cc/16) (by omega)) G
   have r2:=fun(G:Heap)=>Zjx (k:= .u8) (ZsW hd2) G
   rw[UInt8.ofNat_toNat] at r1 r2
   simp(maxSteps:=4000000) (disch:=first|assumption|(simp only[Zn,ZE];omega)|omega|(simp -implicitDefEqProofs only[Zt,Zu]<;>first|assumption|omega)|decide) only[t0,t3,t8,t9,d1,d34,d92,d32,ibs,lowsb,ZU,ZW,Yt,Zqk,x1,x2,ZBl,r1,r2,Zyt,Zu5,ZbC,List.cons_append,Zlg,e2,Zb1,ZG,N8G,Zr,Zs,Zd,Ze,Zf,Nat.reducePow,Nat.reduceDiv,Nat.reduceMod,Nat.reduceEqDiff,reduceCtorEq,TB0,TB1]
   refine⟨_,_,_,rfl,?_⟩
   exact .inl ⟨rfl,_,by omega,done (by unfold qB;rw[hcc,if_neg (by omega),if_pos h32]) b2 w2 rfl t0' t3' t8'⟩
  have d32:decide (cc<32)=false:=Zc h32
  obtain⟨H2,e2,b2,w2⟩:=ZiN E (k:=1) (n:=n) b (x:=cc) hb (by simp only[Zx,Zn,ZE];omega) hro
  rw[ofc] at b2
  simp(maxSteps:=4000000) (disch:=first|assumption|omega|(simp -implicitDefEqProofs only[Zt,Zu]<;>first|assumption|omega)|decide) only[t0,t3,t8,t9,d1,d34,d92,d32,ibs,ZU,ZW,Yt,e2,Zb1,ZG,N8G,Zr,Zs,Zd,Ze,Zf,Nat.reducePow,Nat.reduceDiv,Nat.reduceMod,Nat.reduceEqDiff,reduceCtorEq,TB0,TB1]
  refine⟨_,_,_,rfl,?_⟩
  exact .inl ⟨rfl,_,by omega,done (by unfold qB;rw[hcc,if_neg (by omega),if_neg h32]) b2 w2 rfl t0' t3' t8'⟩
 ·have d1:decide (i<s.length)=false:=Zc hlt
  simp(maxSteps:=4000000) (disch:=first|assumption|omega|(simp -implicitDefEqProofs only[Zt,Zu]<;>first|assumption|omega)|decide) only[t8,t9,d1,ZU,Zb1,ZG,N8G,Zr,Zs,Zd,Ze,Zf,Nat.reducePow,Nat.reduceDiv,Nat.reduceMod,Nat.reduceEqDiff,reduceCtorEq,TB0,TB1]
  refine⟨_,_,_,rfl,?_⟩
  exact .inr ⟨by simp,rfl,t3',by rw[Zv (by omega)] at b;exact b,k0,hro⟩
theorem Zr3{Zk:Lib}{fs:T CF}{fuel:Nat}(E:Env Zk fs fuel){n:Nat}{s:List UInt8}{H:Heap}(hs:s.length≤9000)(hro:H.ro≤H.nx):
  ∃H',ZQ (LK Zk fs fuel 1) fs fuel (n+4) 113 [.str s] H= .ret (.str (quo s)) H'∧Keep H H' []:=by
 rw[ZV (ZL E.n113 (.inl (by decide)) _ _) E.f113]
 obtain⟨H1,hH1⟩: ∃G,H.new (rG 87 1 [.nilp, .nils] 0 false true true)=G:=⟨_,rfl⟩
 have b1:=Bld.new (H:=H) hro
 rw[hH1] at b1
 have k1:Keep H H1 []:=by rw[←hH1];exact Keep.new H _ _
 have ro1:H1.ro≤H1.nx:=by rw[k1.ro];have:=k1.nx;omega
 obtain⟨H2,e2,b2,w2⟩:=ZiN E (k:=1) (n:=n) b1 (x:=34) (by decide) (by simp) ro1
 have k2:=Below.keep k1 w2 (Zl _)
 simp(maxSteps:=4000000) (disch:=first|assumption|omega|(simp -implicitDefEqProofs only[Zt,Zu]<;>first|assumption|omega)|decide) only[hH1,e2,Z1,Zx2,ZG,N8G,Zr,Zs,Zd,Ze,Zf,Nat.reduceEqDiff,reduceCtorEq,TB0,TB1]
 generalize hL:WC (Zb1 _) fuel _ _ _=L
 obtain⟨o,tm1,H3,rfl,_,rfl,t3,b3,k3,ro3⟩:=YS (P:=fun T=>QI H s s.length T H2) (Q:=fun o tm' H'=>o= .exit 0∧gt3 tm'= .ptr H.nx 0∧Bld H' H.nx ([34]++s.flatMap qB)∧Keep H H' []∧H'.ro≤H'.nx)
  (fun T hi'=>YV (QI H s) _ (fun m tm H' h'=>ZCL E hs _ _ _ _ _ m tm H' h') fuel s.length T H2 (by have:=E.big;omega) hi') hL
  ⟨⟨0,rfl,Nat.zero_le _,rfl,b2⟩,rfl,rfl,rfl,k2,by rw[w2.ro];have:=w2.nx;omega⟩
 simp only[Zn1] at t3
 have hq:=ZsV s
 obtain⟨H4,e4,b4,w4⟩:=ZiN E (k:=1) (n:=n) b3 (x:=34) (by decide) (by simp only[Zx,Zn,ZE];omega) ro3
 obtain⟨H5,e5,w5⟩:=ZAJ E (k:=1) (n:=n+2) b4 (by simp only[Zx,Zn,ZE];omega)
 simp(maxSteps:=4000000) (disch:=first|assumption|omega|(simp -implicitDefEqProofs only[Zt,Zu]<;>first|assumption|omega)|decide) only[t3,e4,e5,Zx2,ZG,N8G,Zr,Zs,Zd,Ze,Zf,Nat.reduceEqDiff,reduceCtorEq,TB0,TB1]
 refine⟨_,rfl,?_⟩
 exact Below.keep (Below.keep k3 w4 (Zl _)) w5 (Zl _)
theorem Zyv{Zk:Lib}{fs:T CF}{fuel:Nat}(E:Env Zk fs fuel){k n:Nat}(hk:2≤k){s:List UInt8}{H:Heap}(hs:s.length≤9000)(hro:H.ro≤H.nx):
  ZQ (LK Zk fs fuel k) fs fuel (n+1) 113 [.str s] H= .ret (.str (quo s)) H:=by
 obtain⟨H',e,g⟩:=Zr3 E (n:=896) (H:=H) hs hro
 exact YI (r:=1) rfl rfl e g (rfl) hk
end
end Go.AI
