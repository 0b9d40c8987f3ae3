/- UTF-8, texts built and joined, quoting, walked: proved without conditions but those that each names. -/
import Derived.Test.YtobbpmaeiiblaaaGreatDoorP9
import Derived.Test.YtobbpmaeiiblaaaGreatDoorPA
set_option maxRecDepth 1000000
set_option maxHeartbeats 0
set_option linter.unusedVariables false
set_option linter.unusedSimpArgs false
namespace Go.AI
open Go
noncomputable section
theorem Zjo{a b:Nat}(ha:a<18446744073709551616)(hb:b<18446744073709551616)(H:Heap):Zng Qf (nI .u64 a) (nI .u64 b) H= .val (nI .u64 (a&&&b)) H:=by
 show ZS (kEq .u64 .u64) (VM .u64 (.ofNat (Nat.land (a % 18446744073709551616) (b % 18446744073709551616))) H)=_
 rw[YM,YV,Zbs,Z0 ha,Z0 hb]
 show OR.val _ H=_
 rw[show Nat.land a b=a&&&b from rfl,Z0 (UZ Nat.and_le_left ha)];rfl
theorem Zfu{a b:Nat}(ha:a<18446744073709551616)(hb:b<18446744073709551616)(H:Heap):Zng Q7 (nI .u64 a) (nI .u64 b) H= .val (nI .u64 (a|||b)) H:=by
 show ZS (kEq .u64 .u64) (VM .u64 (.ofNat (Nat.lor (a % 18446744073709551616) (b % 18446744073709551616))) H)=_
 rw[YM,YV,Zbs,Z0 ha,Z0 hb]
 show OR.val _ H=_
 rw[show Nat.lor a b=a|||b from rfl,Z0 (Nat.or_lt_two_pow (n:=64) ha hb)];rfl
theorem ZdR{a:Nat}(ha:a<256)(H:Heap):Zng Qf (nI .u8 a) (nI .u8 7) H= .val (nI .u8 (a % 8)) H:=by
 show ZS (kEq .u8 .u8) (VM .u8 (.ofNat (Nat.land (a % 256) (7 % 256))) H)=_
 rw[YM,YV,Zh0,Z0 ha]
 show OR.val _ H=_
 rw[show Nat.land a (7 % 256)=a&&&(2^3 - 1) from rfl,Nat.and_two_pow_sub_one_eq_mod,Z0 (show a % 2^3<256 by omega)];rfl
theorem Zsv{a:Nat}(ha:a<256)(H:Heap):ZhZ .u64 (nI .u8 a) H= .val (nI .u64 a) H:=by
 unfold nI;rw[Zh7,YV]
 show OR.val (.int .u64 (IntKind.u64.wrap (.ofNat a))) H=_
 rw[Zbs,Z0 (by omega)]
theorem QA{a:Nat}(ha:a<256)(H:Heap):ZhZ .i64 (nI .u8 a) H= .val (nI .i64 a) H:=by
 unfold nI;rw[Zh7,YV]
 show OR.val (.int .i64 (IntKind.i64.wrap (.ofNat a))) H=_
 rw[Zc8 (by omega)]
theorem Yn{s:List UInt8}{i:Nat}(h:i<s.length)(k:IntKind)(H:Heap):ZdB (.str s) (nI k i) H= .val (nI .u8 (by_ s i)) H:=QM h k H
theorem Zfv{a b:Nat}(ha:a<18446744073709551616)(hb:b<18446744073709551616):a|||b<18446744073709551616:=Nat.or_lt_two_pow (n:=64) ha hb
theorem Ztu(s:List UInt8)(i:Nat):by_ s i<18446744073709551616:=Nat.lt_trans (ZnC s i) (by decide)
theorem Zbv(s:List UInt8):w8 s<18446744073709551616:=by
 unfold w8
 repeat' first|exact Vh _ (by decide)|exact Ztu _ _|apply Zfv
theorem ZqP{a:Nat}(H:Heap):ZuB (nI .u8 a) (nI .u64 4) H= .val (nI .u8 (a/16)) H:=ZxA (by decide) H
def GlobU(H:Heap):Prop:=100≤H.nx∧(∃r,H.t.get 0=some (.row r)∧Cells r (Zyf.map (nI .u8)))∧ ∃r,H.t.get 1=some (.row r)∧Cells r (Zg1.map (nI .u8))
theorem GlobU.keep{H H':Heap}(g:GlobU H){S:List Nat}(k:Keep H H' S)(hS: ∀x∈S,100≤x):GlobU H':=by
 obtain⟨h,⟨r,h1,h2⟩,e,h3,h4⟩:=g
 exact⟨Z6 h k.nx,⟨r,by rw[k.get _ (by omega) (fun h=>by have:=hS _ h;omega)];exact h1,h2⟩,e,by rw[k.get _ (by omega) (fun h=>by have:=hS _ h;omega)];exact h3,h4⟩
theorem GlobU.keep0{H H':Heap}(g:GlobU H)(k:Keep H H' []):GlobU H':=g.keep k (by simp)
theorem GlobU.fst{H:Heap}(g:GlobU H): ∃r,H.t.get 0=some (.row r)∧ ∀(b:Nat) (G:Heap),b<256→ld1 (some (.row r)) b G= .val (nI .u8 (Zdc b)) G:=by
 obtain⟨_,⟨r,h1,h2⟩,_⟩:=g
 refine⟨r,h1,fun b G hb=>?_⟩
 have hl:(Zyf.map (nI .u8)).length=256:=by rw[ZA];unfold Zyf;simp
 rw[Zkn (by rw[h2.size,hl];exact hb),h2.get b (by rw[hl];exact hb)]
 congr 1
 rw[Zj,YT];unfold Zyf
 rw[YT,List.getElem?_range hb];rfl
theorem GlobU.acc{H:Heap}(g:GlobU H): ∃r,H.t.get 1=some (.row r)∧ ∀(k:Nat) (G:Heap),k<16→ldN 2 (some (.row r)) (k*2) G= .val (.agg [nI .u8 (Zg1.getD (k*2) 0),nI .u8 (Zg1.getD (k*2+1) 0)]) G:=by
 obtain⟨_,_,r,h1,h2⟩:=g
 refine⟨r,h1,fun k G hk=>?_⟩
 have hl:(Zg1.map (nI .u8)).length=32:=rfl
 show ZS (Nat.ble (k*2+2) r.size) (OR.val (.agg (loadN r (k*2) 2)) G)=_
 rw[h2.size,hl,Zl (show k*2+2≤32 by omega),h2.load (by rw[hl];omega)]
 show OR.val _ G=_
 congr 2
 have:k=0∨k=1∨k=2∨k=3∨k=4∨k=5∨k=6∨k=7∨k=8∨k=9∨k=10∨k=11∨k=12∨k=13∨k=14∨k=15:=by omega
 rcases this with rfl|rfl|rfl|rfl|rfl|rfl|rfl|rfl|rfl|rfl|rfl|rfl|rfl|rfl|rfl|rfl<;>rfl
theorem Ztv(b:Nat):Zdc b<256:=by
 have: ∀(p:Prop) [Decidable p] (x y:Nat),x<256→y<256→(if p then x else y)<256:=fun p _ x y h1 h2=>by split<;>assumption
 unfold Zdc
 repeat' first|apply this|decide
theorem ZdS{n i sz:Nat}(h:i<n)(b o:Nat)(k:IntKind)(H:Heap):Ztc n sz (.ptr b o) (nI k i) H= .val (.ptr b (o+i*sz)) H:=by
 show ZS (Nat.ble (Nat.succ i) n) (OR.val (.ptr b (Nat.add o (Nat.mul i sz))) H)=_
 rw[Zl (show Nat.succ i≤n from h)];rfl
theorem Zvy{Zm:Lib}{fs:T CF}{fuel:Nat}(E:Env Zm fs fuel){n:Nat}{s:List UInt8}{H:Heap}(h:8≤s.length):
  ∃H',ZR (LK Zm fs fuel 0) fs fuel (n+2) 151 [.str s] H= .ret (nI .u64 (w8 s)) H'∧Keep H H' []:=by
 rw[ZV (ZN E.n151 (.inl (by decide)) _ _) E.f151]
 unfold w8
 simp(maxSteps:=4000000) (disch:=first|assumption|exact ZnC _ _|((repeat' first|exact Vh _ (by decide)|exact Ztu _ _|apply Zfv);done)|omega|(simp -implicitDefEqProofs only[Zu,Zv]<;>first|assumption|omega)|decide) only[Yn,Zsv,Zu2,Zfu,ZAo,ZC,N8G,Zr,Zs,Zd,Ze,Zf,Nat.reducePow,Nat.reduceDiv,Nat.reduceMod,Nat.reduceEqDiff,reduceCtorEq,TB0,TB1]
 refine⟨_,rfl,?_⟩
 exact Keep.refl _ _
theorem ZlV{Zm:Lib}{fs:T CF}{fuel:Nat}(E:Env Zm fs fuel){k n:Nat}(hk:1≤k){s:List UInt8}{H:Heap}(h:8≤s.length):
  ZR (LK Zm fs fuel k) fs fuel (n+1) 151 [.str s] H= .ret (nI .u64 (w8 s)) H:=by
 obtain⟨H',e,g⟩:=Zvy E (n:=898) (H:=H) h
 exact Y6 (r:=0) rfl rfl e g (rfl) hk
structure VI(H0:Heap)(s:List UInt8)(m:Nat)(tm:TM)(H:Heap):Prop where
 t: ∃t,gt0 tm= .str t∧vu t=vu s∧t.length≤s.length∧m=t.length
 k:Keep H0 H []
theorem ZFe{Zm:Lib}{fs:T CF}{fuel:Nat}(E:Env Zm fs fuel){n:Nat}{H0:Heap}{s:List UInt8}(y f d r)(x:X)(m:Nat)(tm:TM)(H:Heap)(h:VI H0 s m tm H):
  ∃o tm' H',ZdL ⟨ZR (LK Zm fs fuel 1) fs fuel (n+1),y,f,d,r⟩ tm H x= .ok o tm' H' x∧((o= .normal∧ ∃k,k<m∧VI H0 s k tm' H')∨(o≠ .normal∧o= .exit 2∧VI H0 s m tm' H')):=by
 obtain⟨⟨t,t0,hv,hl,rfl⟩,k⟩:=h
 have t0':=t0
 simp only[Zck] at t0
 by_cases h32:32<t.length
 ·have d32:decide (32<t.length)=true:=Zh h32
  have ew0:=fun{j}=>ZlV (Zm:=Zm) (fs:=fs) (fuel:=fuel) E (k:=1) (n:=j) (by decide) (s:=t) (H:=H) (by omega)
  have ew8:=fun{j}=>ZlV (Zm:=Zm) (fs:=fs) (fuel:=fuel) E (k:=1) (n:=j) (by decide) (s:=t.drop 8) (H:=H) (by rw[List.length_drop];omega)
  have ew16:=fun{j}=>ZlV (Zm:=Zm) (fs:=fs) (fuel:=fuel) E (k:=1) (n:=j) (by decide) (s:=t.drop 16) (H:=H) (by rw[List.length_drop];omega)
  have ew24:=fun{j}=>ZlV (Zm:=Zm) (fs:=fs) (fuel:=fuel) E (k:=1) (n:=j) (by decide) (s:=t.drop 24) (H:=H) (by rw[List.length_drop];omega)
  have b1:=fun(G:Heap)=>Zfu (a:=w8 t) (b:=w8 (t.drop 8)) (Zbv _) (Zbv _) G
  have b2:=fun(G:Heap)=>Zfu (a:=w8 (t.drop 16)) (b:=w8 (t.drop 24)) (Zbv _) (Zbv _) G
  have b3:=fun(G:Heap)=>Zfu (a:=w8 t|||w8 (t.drop 8)) (b:=w8 (t.drop 16)|||w8 (t.drop 24)) (Zfv (Zbv _) (Zbv _)) (Zfv (Zbv _) (Zbv _)) G
  have bm:=fun(G:Heap)=>Zjo (a:=w8 t|||w8 (t.drop 8)|||(w8 (t.drop 16)|||w8 (t.drop 24))) (b:=9259542123273814144) (Zfv (Zfv (Zbv _) (Zbv _)) (Zfv (Zbv _) (Zbv _))) (by decide) G
  by_cases hm:(w8 t|||w8 (t.drop 8)|||(w8 (t.drop 16)|||w8 (t.drop 24)))&&&9259542123273814144=0
  ·have dm:decide ((w8 t|||w8 (t.drop 8)|||(w8 (t.drop 16)|||w8 (t.drop 24)))&&&9259542123273814144=0)=true:=Zh hm
   simp(maxSteps:=4000000) (disch:=first|assumption|omega|(simp -implicitDefEqProofs only[Zu,Zv]<;>first|assumption|omega)|decide) only[t0,d32,dm,ew0,ew8,ew16,ew24,b1,b2,b3,bm,Ya,Yd,ZU,ZW,ZdL,ZC,N8G,Zr,Zs,Zd,Ze,Zf,Nat.reducePow,Nat.reduceDiv,Nat.reduceMod,Nat.reduceEqDiff,reduceCtorEq,TB0,TB1,TB2]
   refine⟨_,_,_,rfl,?_⟩
   exact .inl ⟨rfl,(t.drop 32).length,by rw[List.length_drop];omega,⟨t.drop 32,(by simp only[TB0,N8G]),by rw[←Zik 32 (by omega) (ZAC hm)];exact hv,by rw[List.length_drop];omega,rfl⟩,k⟩
  ·have dm:decide ((w8 t|||w8 (t.drop 8)|||(w8 (t.drop 16)|||w8 (t.drop 24)))&&&9259542123273814144=0)=false:=Zc hm
   simp(maxSteps:=4000000) (disch:=first|assumption|omega|(simp -implicitDefEqProofs only[Zu,Zv]<;>first|assumption|omega)|decide) only[t0,d32,dm,ew0,ew8,ew16,ew24,b1,b2,b3,bm,Ya,Yd,ZU,ZW,ZdL,ZC,N8G,Zr,Zs,Zd,Ze,Zf,Nat.reducePow,Nat.reduceDiv,Nat.reduceMod,Nat.reduceEqDiff,reduceCtorEq,TB0,TB1,TB2]
   refine⟨_,_,_,rfl,?_⟩
   exact .inr ⟨by simp,rfl,⟨t,(by simp only[TB0,N8G];exact t0),hv,hl,rfl⟩,k⟩
 ·have d32:decide (32<t.length)=false:=Zc h32
  simp(maxSteps:=4000000) (disch:=first|assumption|omega|(simp -implicitDefEqProofs only[Zu,Zv]<;>first|assumption|omega)|decide) only[t0,d32,Ya,Yd,ZU,ZW,ZdL,ZC,N8G,Zr,Zs,Zd,Ze,Zf,Nat.reducePow,Nat.reduceDiv,Nat.reduceMod,Nat.reduceEqDiff,reduceCtorEq,TB0,TB1,TB2]
  refine⟨_,_,_,rfl,?_⟩
  exact .inr ⟨by simp,rfl,⟨t,(by simp only[TB0,N8G];exact t0),hv,hl,rfl⟩,k⟩
theorem ZC1{Zm:Lib}{fs:T CF}{fuel:Nat}(E:Env Zm fs fuel){n:Nat}{H0:Heap}{z:List UInt8}{y d r}{x:X}{tm:TM}{H:Heap}{L:Res}(hL:WI (ZdL ⟨ZR (LK Zm fs fuel 1) fs fuel (n+1),y,d,fuel,r⟩) fuel tm H x=L)(h0:gt0 tm= .str z)(k:Keep H0 H [])(hz:z.length<fuel):
  ∃tm' H',L= .ok (.exit 2) tm' H' x∧ ∃t,gt0 tm'= .str t∧vu t=vu z∧t.length≤z.length∧Keep H0 H' []:=by
 obtain⟨o,tm1,H1,e,_,rfl,m,⟨t,e1,e2,e3,_⟩,k1⟩:=YE (VI H0 z) (fun o tm H'=>o= .exit 2∧ ∃m,VI H0 z m tm H') (fun m tm H' h=>by
  obtain⟨o,tm',H2,e,h2⟩:=ZFe E (n:=n) y d fuel r x m tm H' h
  refine⟨o,tm',H2,e,?_⟩
  rcases h2 with h2|⟨h2,h3,h4⟩
  ·exact .inl h2
  ·exact .inr ⟨h2,h3,m,h4⟩) fuel z.length tm H hz ⟨⟨z,h0,rfl,Zk _,rfl⟩,k⟩
 exact⟨tm1,H1,hL.symm.trans e,t,e1,e2,e3,k1⟩
end
end Go.AI
namespace Go.AI
open Go
noncomputable section
theorem Ztw{s:List UInt8}(hb: ¬by_ s 0<128)(hx:Zdc (by_ s 0) % 8=2):Qg s=if s.length<2∨by_ s 1<Zg1.getD (Zdc (by_ s 0)/16*2) 0∨Zg1.getD (Zdc (by_ s 0)/16*2+1) 0<by_ s 1 then 0 else 2:=by
 unfold Qg;simp only;rw[if_neg hb,if_pos hx]
theorem Ztx{s:List UInt8}(hb: ¬by_ s 0<128)(hx:Zdc (by_ s 0) % 8=3):Qg s=if s.length<3∨by_ s 1<Zg1.getD (Zdc (by_ s 0)/16*2) 0∨Zg1.getD (Zdc (by_ s 0)/16*2+1) 0<by_ s 1∨by_ s 2<128∨191<by_ s 2 then 0 else 3:=by
 unfold Qg;simp only;rw[if_neg hb,if_neg (by omega),if_pos hx]
theorem Zty{s:List UInt8}(hb: ¬by_ s 0<128)(hx:Zdc (by_ s 0) % 8=4):Qg s=if s.length<4∨by_ s 1<Zg1.getD (Zdc (by_ s 0)/16*2) 0∨Zg1.getD (Zdc (by_ s 0)/16*2+1) 0<by_ s 1∨by_ s 2<128∨191<by_ s 2∨by_ s 3<128∨191<by_ s 3 then 0 else 4:=by
 unfold Qg;simp only;rw[if_neg hb,if_neg (by omega),if_neg (by omega),if_pos hx]
theorem ZAG{s:List UInt8}(hb: ¬by_ s 0<128)(h2: ¬Zdc (by_ s 0) % 8=2)(h3: ¬Zdc (by_ s 0) % 8=3)(h4: ¬Zdc (by_ s 0) % 8=4):Qg s=0:=by
 unfold Qg;simp only;rw[if_neg hb,if_neg h2,if_neg h3,if_neg h4]
theorem Zym{t:List UInt8}{lo hi b6:Nat}{tm:TM}{H:Heap}{x:X}{cl y d fuel r}(t0:gt0 tm= .str t)(t6:gt6 tm= .ptr b6 0)(g6:H.t.get b6=some (rG 208 1 [nI .u8 lo,nI .u8 hi] 0 false true true))(lob:b6<H.nx):
  ∃o tm',ZbS ⟨cl,y,d,fuel,r⟩ tm H x= .ok o tm' H x∧((o= .ret∧gt2 tm'= .bool false∧(t.length<2∨by_ t 1<lo∨hi<by_ t 1))∨(o= .normal∧gt0 tm'= .str (t.drop 2)∧ ¬(t.length<2∨by_ t 1<lo∨hi<by_ t 1))):=by
 simp only[Zck] at t0
 simp only[Zj8] at t6
 by_cases p0:t.length<2
 ·have d_p0:decide (t.length<2)=true:=Zh p0
  simp(maxSteps:=4000000) (disch:=first|assumption|omega|(simp -implicitDefEqProofs only[Zu,Zv]<;>first|assumption|omega)|decide) only[t0,t6,g6,Zt,Zi,ZL,Yd,ZU,ZI,ZW,Yn,Ya,ZH,d_p0,ZbS,ZC,N8G,Zr,Zs,Zd,Ze,Zf,Nat.reducePow,Nat.reduceDiv,Nat.reduceMod,Nat.reduceEqDiff,reduceCtorEq,TB0,TB2,TB3]
  exact⟨_,_,rfl, .inl ⟨rfl,(by simp only[TB0,N8G]),(Or.inl p0)⟩⟩
 have d_p0:decide (t.length<2)=false:=Zc p0
 simp(maxSteps:=4000000) (disch:=first|assumption|omega|(simp -implicitDefEqProofs only[Zu,Zv]<;>first|assumption|omega)|decide) only[t0,t6,g6,Zt,Zi,ZL,Yd,ZU,ZI,ZW,Yn,Ya,ZH,d_p0,ZbS,ZC,N8G,Zr,Zs,Zd,Ze,Zf,Nat.reducePow,Nat.reduceDiv,Nat.reduceMod,Nat.reduceEqDiff,reduceCtorEq,TB0,TB2,TB3]
 by_cases p1:by_ t 1<lo
 ·have d_p1:decide (by_ t 1<lo)=true:=Zh p1
  simp(maxSteps:=4000000) (disch:=first|assumption|omega|(simp -implicitDefEqProofs only[Zu,Zv]<;>first|assumption|omega)|decide) only[t0,t6,g6,Zt,Zi,ZL,Yd,ZU,ZI,ZW,Yn,Ya,ZH,d_p1,ZbS,ZC,N8G,Zr,Zs,Zd,Ze,Zf,Nat.reducePow,Nat.reduceDiv,Nat.reduceMod,Nat.reduceEqDiff,reduceCtorEq,TB0,TB2,TB3]
  exact⟨_,_,rfl, .inl ⟨rfl,(by simp only[TB0,N8G]),(Or.inr (Or.inl p1))⟩⟩
 have d_p1:decide (by_ t 1<lo)=false:=Zc p1
 simp(maxSteps:=4000000) (disch:=first|assumption|omega|(simp -implicitDefEqProofs only[Zu,Zv]<;>first|assumption|omega)|decide) only[t0,t6,g6,Zt,Zi,ZL,Yd,ZU,ZI,ZW,Yn,Ya,ZH,d_p1,ZbS,ZC,N8G,Zr,Zs,Zd,Ze,Zf,Nat.reducePow,Nat.reduceDiv,Nat.reduceMod,Nat.reduceEqDiff,reduceCtorEq,TB0,TB2,TB3]
 by_cases p2:hi<by_ t 1
 ·have d_p2:decide (hi<by_ t 1)=true:=Zh p2
  simp(maxSteps:=4000000) (disch:=first|assumption|omega|(simp -implicitDefEqProofs only[Zu,Zv]<;>first|assumption|omega)|decide) only[t0,t6,g6,Zt,Zi,ZL,Yd,ZU,ZI,ZW,Yn,Ya,ZH,d_p2,ZbS,ZC,N8G,Zr,Zs,Zd,Ze,Zf,Nat.reducePow,Nat.reduceDiv,Nat.reduceMod,Nat.reduceEqDiff,reduceCtorEq,TB0,TB2,TB3]
  exact⟨_,_,rfl, .inl ⟨rfl,(by simp only[TB0,N8G]),(Or.inr (Or.inr p2))⟩⟩
 have d_p2:decide (hi<by_ t 1)=false:=Zc p2
 simp(maxSteps:=4000000) (disch:=first|assumption|omega|(simp -implicitDefEqProofs only[Zu,Zv]<;>first|assumption|omega)|decide) only[t0,t6,g6,Zt,Zi,ZL,Yd,ZU,ZI,ZW,Yn,Ya,ZH,d_p2,ZbS,ZC,N8G,Zr,Zs,Zd,Ze,Zf,Nat.reducePow,Nat.reduceDiv,Nat.reduceMod,Nat.reduceEqDiff,reduceCtorEq,TB0,TB2,TB3]
 exact⟨_,_,rfl, .inr ⟨rfl,(by simp only[TB0,N8G]),by rintro (h|h|h)<;>contradiction⟩⟩
theorem Zyn{t:List UInt8}{lo hi b6:Nat}{tm:TM}{H:Heap}{x:X}{cl y d fuel r}(t0:gt0 tm= .str t)(t6:gt6 tm= .ptr b6 0)(g6:H.t.get b6=some (rG 208 1 [nI .u8 lo,nI .u8 hi] 0 false true true))(lob:b6<H.nx):
  ∃o tm',QO ⟨cl,y,d,fuel,r⟩ tm H x= .ok o tm' H x∧((o= .ret∧gt2 tm'= .bool false∧(t.length<3∨by_ t 1<lo∨hi<by_ t 1∨by_ t 2<128∨191<by_ t 2))∨(o= .normal∧gt0 tm'= .str (t.drop 3)∧ ¬(t.length<3∨by_ t 1<lo∨hi<by_ t 1∨by_ t 2<128∨191<by_ t 2))):=by
 simp only[Zck] at t0
 simp only[Zj8] at t6
 by_cases p0:t.length<3
 ·have d_p0:decide (t.length<3)=true:=Zh p0
  simp(maxSteps:=4000000) (disch:=first|assumption|omega|(simp -implicitDefEqProofs only[Zu,Zv]<;>first|assumption|omega)|decide) only[t0,t6,g6,Zt,Zi,ZL,Yd,ZU,ZI,ZW,Yn,Ya,ZH,d_p0,QO,ZC,N8G,Zr,Zs,Zd,Ze,Zf,Nat.reducePow,Nat.reduceDiv,Nat.reduceMod,Nat.reduceEqDiff,reduceCtorEq,TB0,TB3]
  exact⟨_,_,rfl, .inl ⟨rfl,(by simp only[TB0,N8G]),(Or.inl p0)⟩⟩
 have d_p0:decide (t.length<3)=false:=Zc p0
 simp(maxSteps:=4000000) (disch:=first|assumption|omega|(simp -implicitDefEqProofs only[Zu,Zv]<;>first|assumption|omega)|decide) only[t0,t6,g6,Zt,Zi,ZL,Yd,ZU,ZI,ZW,Yn,Ya,ZH,d_p0,QO,ZC,N8G,Zr,Zs,Zd,Ze,Zf,Nat.reducePow,Nat.reduceDiv,Nat.reduceMod,Nat.reduceEqDiff,reduceCtorEq,TB0,TB3]
 by_cases p1:by_ t 1<lo
 ·have d_p1:decide (by_ t 1<lo)=true:=Zh p1
  simp(maxSteps:=4000000) (disch:=first|assumption|omega|(simp -implicitDefEqProofs only[Zu,Zv]<;>first|assumption|omega)|decide) only[t0,t6,g6,Zt,Zi,ZL,Yd,ZU,ZI,ZW,Yn,Ya,ZH,d_p1,QO,ZC,N8G,Zr,Zs,Zd,Ze,Zf,Nat.reducePow,Nat.reduceDiv,Nat.reduceMod,Nat.reduceEqDiff,reduceCtorEq,TB0,TB3]
  exact⟨_,_,rfl, .inl ⟨rfl,(by simp only[TB0,N8G]),(Or.inr (Or.inl p1))⟩⟩
 have d_p1:decide (by_ t 1<lo)=false:=Zc p1
 simp(maxSteps:=4000000) (disch:=first|assumption|omega|(simp -implicitDefEqProofs only[Zu,Zv]<;>first|assumption|omega)|decide) only[t0,t6,g6,Zt,Zi,ZL,Yd,ZU,ZI,ZW,Yn,Ya,ZH,d_p1,QO,ZC,N8G,Zr,Zs,Zd,Ze,Zf,Nat.reducePow,Nat.reduceDiv,Nat.reduceMod,Nat.reduceEqDiff,reduceCtorEq,TB0,TB3]
 by_cases p2:hi<by_ t 1
 ·have d_p2:decide (hi<by_ t 1)=true:=Zh p2
  simp(maxSteps:=4000000) (disch:=first|assumption|omega|(simp -implicitDefEqProofs only[Zu,Zv]<;>first|assumption|omega)|decide) only[t0,t6,g6,Zt,Zi,ZL,Yd,ZU,ZI,ZW,Yn,Ya,ZH,d_p2,QO,ZC,N8G,Zr,Zs,Zd,Ze,Zf,Nat.reducePow,Nat.reduceDiv,Nat.reduceMod,Nat.reduceEqDiff,reduceCtorEq,TB0,TB3]
  exact⟨_,_,rfl, .inl ⟨rfl,(by simp only[TB0,N8G]),(Or.inr (Or.inr (Or.inl p2)))⟩⟩
 have d_p2:decide (hi<by_ t 1)=false:=Zc p2
 simp(maxSteps:=4000000) (disch:=first|assumption|omega|(simp -implicitDefEqProofs only[Zu,Zv]<;>first|assumption|omega)|decide) only[t0,t6,g6,Zt,Zi,ZL,Yd,ZU,ZI,ZW,Yn,Ya,ZH,d_p2,QO,ZC,N8G,Zr,Zs,Zd,Ze,Zf,Nat.reducePow,Nat.reduceDiv,Nat.reduceMod,Nat.reduceEqDiff,reduceCtorEq,TB0,TB3]
 by_cases p3:by_ t 2<128
 ·have d_p3:decide (by_ t 2<128)=true:=Zh p3
  simp(maxSteps:=4000000) (disch:=first|assumption|omega|(simp -implicitDefEqProofs only[Zu,Zv]<;>first|assumption|omega)|decide) only[t0,t6,g6,Zt,Zi,ZL,Yd,ZU,ZI,ZW,Yn,Ya,ZH,d_p3,QO,ZC,N8G,Zr,Zs,Zd,Ze,Zf,Nat.reducePow,Nat.reduceDiv,Nat.reduceMod,Nat.reduceEqDiff,reduceCtorEq,TB0,TB3]
  exact⟨_,_,rfl, .inl ⟨rfl,(by simp only[TB0,N8G]),(Or.inr (Or.inr (Or.inr (Or.inl p3))))⟩⟩
 have d_p3:decide (by_ t 2<128)=false:=Zc p3
 simp(maxSteps:=4000000) (disch:=first|assumption|omega|(simp -implicitDefEqProofs only[Zu,Zv]<;>first|assumption|omega)|decide) only[t0,t6,g6,Zt,Zi,ZL,Yd,ZU,ZI,ZW,Yn,Ya,ZH,d_p3,QO,ZC,N8G,Zr,Zs,Zd,Ze,Zf,Nat.reducePow,Nat.reduceDiv,Nat.reduceMod,Nat.reduceEqDiff,reduceCtorEq,TB0,TB3]
 by_cases p4:191<by_ t 2
 ·have d_p4:decide (191<by_ t 2)=true:=Zh p4
  simp(maxSteps:=4000000) (disch:=first|assumption|omega|(simp -implicitDefEqProofs only[Zu,Zv]<;>first|assumption|omega)|decide) only[t0,t6,g6,Zt,Zi,ZL,Yd,ZU,ZI,ZW,Yn,Ya,ZH,d_p4,QO,ZC,N8G,Zr,Zs,Zd,Ze,Zf,Nat.reducePow,Nat.reduceDiv,Nat.reduceMod,Nat.reduceEqDiff,reduceCtorEq,TB0,TB3]
  exact⟨_,_,rfl, .inl ⟨rfl,(by simp only[TB0,N8G]),(Or.inr (Or.inr (Or.inr (Or.inr p4))))⟩⟩
 have d_p4:decide (191<by_ t 2)=false:=Zc p4
 simp(maxSteps:=4000000) (disch:=first|assumption|omega|(simp -implicitDefEqProofs only[Zu,Zv]<;>first|assumption|omega)|decide) only[t0,t6,g6,Zt,Zi,ZL,Yd,ZU,ZI,ZW,Yn,Ya,ZH,d_p4,QO,ZC,N8G,Zr,Zs,Zd,Ze,Zf,Nat.reducePow,Nat.reduceDiv,Nat.reduceMod,Nat.reduceEqDiff,reduceCtorEq,TB0,TB3]
 exact⟨_,_,rfl, .inr ⟨rfl,(by simp only[TB0,N8G]),by rintro (h|h|h|h|h)<;>contradiction⟩⟩
theorem Zyo{t:List UInt8}{lo hi b6:Nat}{tm:TM}{H:Heap}{x:X}{cl y d fuel r}(t0:gt0 tm= .str t)(t6:gt6 tm= .ptr b6 0)(g6:H.t.get b6=some (rG 208 1 [nI .u8 lo,nI .u8 hi] 0 false true true))(lob:b6<H.nx):
  ∃o tm',Uo ⟨cl,y,d,fuel,r⟩ tm H x= .ok o tm' H x∧((o= .ret∧gt2 tm'= .bool false∧(t.length<4∨by_ t 1<lo∨hi<by_ t 1∨by_ t 2<128∨191<by_ t 2∨by_ t 3<128∨191<by_ t 3))∨(o= .normal∧gt0 tm'= .str (t.drop 4)∧ ¬(t.length<4∨by_ t 1<lo∨hi<by_ t 1∨by_ t 2<128∨191<by_ t 2∨by_ t 3<128∨191<by_ t 3))):=by
 simp only[Zck] at t0
 simp only[Zj8] at t6
 by_cases p0:t.length<4
 ·have d_p0:decide (t.length<4)=true:=Zh p0
  simp(maxSteps:=4000000) (disch:=first|assumption|omega|(simp -implicitDefEqProofs only[Zu,Zv]<;>first|assumption|omega)|decide) only[t0,t6,g6,Zt,Zi,ZL,Yd,ZU,ZI,ZW,Yn,Ya,ZH,d_p0,Uo,ZC,N8G,Zr,Zs,Zd,Ze,Zf,Nat.reducePow,Nat.reduceDiv,Nat.reduceMod,Nat.reduceEqDiff,reduceCtorEq,TB0,TB4,TB5]
  exact⟨_,_,rfl, .inl ⟨rfl,(by simp only[TB0,N8G]),(Or.inl p0)⟩⟩
 have d_p0:decide (t.length<4)=false:=Zc p0
 simp(maxSteps:=4000000) (disch:=first|assumption|omega|(simp -implicitDefEqProofs only[Zu,Zv]<;>first|assumption|omega)|decide) only[t0,t6,g6,Zt,Zi,ZL,Yd,ZU,ZI,ZW,Yn,Ya,ZH,d_p0,Uo,ZC,N8G,Zr,Zs,Zd,Ze,Zf,Nat.reducePow,Nat.reduceDiv,Nat.reduceMod,Nat.reduceEqDiff,reduceCtorEq,TB0,TB4,TB5]
 by_cases p1:by_ t 1<lo
 ·have d_p1:decide (by_ t 1<lo)=true:=Zh p1
  simp(maxSteps:=4000000) (disch:=first|assumption|omega|(simp -implicitDefEqProofs only[Zu,Zv]<;>first|assumption|omega)|decide) only[t0,t6,g6,Zt,Zi,ZL,Yd,ZU,ZI,ZW,Yn,Ya,ZH,d_p1,Uo,ZC,N8G,Zr,Zs,Zd,Ze,Zf,Nat.reducePow,Nat.reduceDiv,Nat.reduceMod,Nat.reduceEqDiff,reduceCtorEq,TB0,TB4,TB5]
  exact⟨_,_,rfl, .inl ⟨rfl,(by simp only[TB0,N8G]),(Or.inr (Or.inl p1))⟩⟩
 have d_p1:decide (by_ t 1<lo)=false:=Zc p1
 simp(maxSteps:=4000000) (disch:=first|assumption|omega|(simp -implicitDefEqProofs only[Zu,Zv]<;>first|assumption|omega)|decide) only[t0,t6,g6,Zt,Zi,ZL,Yd,ZU,ZI,ZW,Yn,Ya,ZH,d_p1,Uo,ZC,N8G,Zr,Zs,Zd,Ze,Zf,Nat.reducePow,Nat.reduceDiv,Nat.reduceMod,Nat.reduceEqDiff,reduceCtorEq,TB0,TB4,TB5]
 by_cases p2:hi<by_ t 1
 ·have d_p2:decide (hi<by_ t 1)=true:=Zh p2
  simp(maxSteps:=4000000) (disch:=first|assumption|omega|(simp -implicitDefEqProofs only[Zu,Zv]<;>first|assumption|omega)|decide) only[t0,t6,g6,Zt,Zi,ZL,Yd,ZU,ZI,ZW,Yn,Ya,ZH,d_p2,Uo,ZC,N8G,Zr,Zs,Zd,Ze,Zf,Nat.reducePow,Nat.reduceDiv,Nat.reduceMod,Nat.reduceEqDiff,reduceCtorEq,TB0,TB4,TB5]
  exact⟨_,_,rfl, .inl ⟨rfl,(by simp only[TB0,N8G]),(Or.inr (Or.inr (Or.inl p2)))⟩⟩
 have d_p2:decide (hi<by_ t 1)=false:=Zc p2
 simp(maxSteps:=4000000) (disch:=first|assumption|omega|(simp -implicitDefEqProofs only[Zu,Zv]<;>first|assumption|omega)|decide) only[t0,t6,g6,Zt,Zi,ZL,Yd,ZU,ZI,ZW,Yn,Ya,ZH,d_p2,Uo,ZC,N8G,Zr,Zs,Zd,Ze,Zf,Nat.reducePow,Nat.reduceDiv,Nat.reduceMod,Nat.reduceEqDiff,reduceCtorEq,TB0,TB4,TB5]
 by_cases p3:by_ t 2<128
 ·have d_p3:decide (by_ t 2<128)=true:=Zh p3
  simp(maxSteps:=4000000) (disch:=first|assumption|omega|(simp -implicitDefEqProofs only[Zu,Zv]<;>first|assumption|omega)|decide) only[t0,t6,g6,Zt,Zi,ZL,Yd,ZU,ZI,ZW,Yn,Ya,ZH,d_p3,Uo,ZC,N8G,Zr,Zs,Zd,Ze,Zf,Nat.reducePow,Nat.reduceDiv,Nat.reduceMod,Nat.reduceEqDiff,reduceCtorEq,TB0,TB4,TB5]
  exact⟨_,_,rfl, .inl ⟨rfl,(by simp only[TB0,N8G]),(Or.inr (Or.inr (Or.inr (Or.inl p3))))⟩⟩
 have d_p3:decide (by_ t 2<128)=false:=Zc p3
 simp(maxSteps:=4000000) (disch:=first|assumption|omega|(simp -implicitDefEqProofs only[Zu,Zv]<;>first|assumption|omega)|decide) only[t0,t6,g6,Zt,Zi,ZL,Yd,ZU,ZI,ZW,Yn,Ya,ZH,d_p3,Uo,ZC,N8G,Zr,Zs,Zd,Ze,Zf,Nat.reducePow,Nat.reduceDiv,Nat.reduceMod,Nat.reduceEqDiff,reduceCtorEq,TB0,TB4,TB5]
 by_cases p4:191<by_ t 2
 ·have d_p4:decide (191<by_ t 2)=true:=Zh p4
  simp(maxSteps:=4000000) (disch:=first|assumption|omega|(simp -implicitDefEqProofs only[Zu,Zv]<;>first|assumption|omega)|decide) only[t0,t6,g6,Zt,Zi,ZL,Yd,ZU,ZI,ZW,Yn,Ya,ZH,d_p4,Uo,ZC,N8G,Zr,Zs,Zd,Ze,Zf,Nat.reducePow,Nat.reduceDiv,Nat.reduceMod,Nat.reduceEqDiff,reduceCtorEq,TB0,TB4,TB5]
  exact⟨_,_,rfl, .inl ⟨rfl,(by simp only[TB0,N8G]),(Or.inr (Or.inr (Or.inr (Or.inr (Or.inl p4)))))⟩⟩
 have d_p4:decide (191<by_ t 2)=false:=Zc p4
 simp(maxSteps:=4000000) (disch:=first|assumption|omega|(simp -implicitDefEqProofs only[Zu,Zv]<;>first|assumption|omega)|decide) only[t0,t6,g6,Zt,Zi,ZL,Yd,ZU,ZI,ZW,Yn,Ya,ZH,d_p4,Uo,ZC,N8G,Zr,Zs,Zd,Ze,Zf,Nat.reducePow,Nat.reduceDiv,Nat.reduceMod,Nat.reduceEqDiff,reduceCtorEq,TB0,TB4,TB5]
 by_cases p5:by_ t 3<128
 ·have d_p5:decide (by_ t 3<128)=true:=Zh p5
  simp(maxSteps:=4000000) (disch:=first|assumption|omega|(simp -implicitDefEqProofs only[Zu,Zv]<;>first|assumption|omega)|decide) only[t0,t6,g6,Zt,Zi,ZL,Yd,ZU,ZI,ZW,Yn,Ya,ZH,d_p5,Uo,ZC,N8G,Zr,Zs,Zd,Ze,Zf,Nat.reducePow,Nat.reduceDiv,Nat.reduceMod,Nat.reduceEqDiff,reduceCtorEq,TB0,TB4,TB5]
  exact⟨_,_,rfl, .inl ⟨rfl,(by simp only[TB0,N8G]),(Or.inr (Or.inr (Or.inr (Or.inr (Or.inr (Or.inl p5))))))⟩⟩
 have d_p5:decide (by_ t 3<128)=false:=Zc p5
 simp(maxSteps:=4000000) (disch:=first|assumption|omega|(simp -implicitDefEqProofs only[Zu,Zv]<;>first|assumption|omega)|decide) only[t0,t6,g6,Zt,Zi,ZL,Yd,ZU,ZI,ZW,Yn,Ya,ZH,d_p5,Uo,ZC,N8G,Zr,Zs,Zd,Ze,Zf,Nat.reducePow,Nat.reduceDiv,Nat.reduceMod,Nat.reduceEqDiff,reduceCtorEq,TB0,TB4,TB5]
 by_cases p6:191<by_ t 3
 ·have d_p6:decide (191<by_ t 3)=true:=Zh p6
  simp(maxSteps:=4000000) (disch:=first|assumption|omega|(simp -implicitDefEqProofs only[Zu,Zv]<;>first|assumption|omega)|decide) only[t0,t6,g6,Zt,Zi,ZL,Yd,ZU,ZI,ZW,Yn,Ya,ZH,d_p6,Uo,ZC,N8G,Zr,Zs,Zd,Ze,Zf,Nat.reducePow,Nat.reduceDiv,Nat.reduceMod,Nat.reduceEqDiff,reduceCtorEq,TB0,TB4,TB5]
  exact⟨_,_,rfl, .inl ⟨rfl,(by simp only[TB0,N8G]),(Or.inr (Or.inr (Or.inr (Or.inr (Or.inr (Or.inr p6))))))⟩⟩
 have d_p6:decide (191<by_ t 3)=false:=Zc p6
 simp(maxSteps:=4000000) (disch:=first|assumption|omega|(simp -implicitDefEqProofs only[Zu,Zv]<;>first|assumption|omega)|decide) only[t0,t6,g6,Zt,Zi,ZL,Yd,ZU,ZI,ZW,Yn,Ya,ZH,d_p6,Uo,ZC,N8G,Zr,Zs,Zd,Ze,Zf,Nat.reducePow,Nat.reduceDiv,Nat.reduceMod,Nat.reduceEqDiff,reduceCtorEq,TB0,TB4,TB5]
 exact⟨_,_,rfl, .inr ⟨rfl,(by simp only[TB0,N8G]),by rintro (h|h|h|h|h|h|h)<;>contradiction⟩⟩
theorem ZC2{Zm:Lib}{fs:T CF}{fuel:Nat}(E:Env Zm fs fuel){n:Nat}{H0:Heap}{s:List UInt8}(g:GlobU H0)(hro:H0.ro≤H0.nx)(hs:s.length<99998)(y d r)(x:X)(m:Nat)(tm:TM)(H:Heap)(h:VI H0 s m tm H):
  ∃o tm' H',Up ⟨ZR (LK Zm fs fuel 1) fs fuel (n+1),y,d,fuel,r⟩ tm H x= .ok o tm' H' x∧((o= .normal∧ ∃k,k<m∧VI H0 s k tm' H')∨(o≠ .normal∧((o= .ret∧gt2 tm'= .bool (vu s)∧Keep H0 H' [])∨(o= .exit 0∧vu s=true∧Keep H0 H' [])))):=by
 obtain⟨⟨t,t0,hv,hl,rfl⟩,k⟩:=h
 have t0':=t0
 simp only[Zck] at t0
 by_cases h0:0<t.length
 ·have d_h0:decide (0<t.length)=true:=Zh h0
  by_cases ha:by_ t 0<128
  ·have d_ha:decide (by_ t 0<128)=true:=Zh ha
   have hv1:vu (t.drop 1)=vu s:=by rw[←hv,Zkr (s:=t) (by omega),ZjT ha,if_neg (by decide)]
   have hl1:(t.drop 1).length<t.length:=by rw[List.length_drop];omega
   have hu:=fun(G:Heap)=>Ya (s:=t) (p:=1) (by omega) .i64 G
   generalize t.drop 1=u at hv1 hl1 hu
   by_cases u8:8<u.length
   ·have d_u8:decide (8<u.length)=true:=Zh u8
    have ew0:=fun{j}=>ZlV (Zm:=Zm) (fs:=fs) (fuel:=fuel) E (k:=1) (n:=j) (by decide) (s:=u) (H:=H) (by omega)
    have bm0:=fun(G:Heap)=>Zjo (a:=w8 u) (b:=9259542123273814144) (Zbv _) (by decide) G
    by_cases m8:w8 u&&&9259542123273814144=0
    ·have d_m8:decide (w8 u&&&9259542123273814144=0)=true:=Zh m8
     have hv8:vu (u.drop 8)=vu s:=by rw[←Zik 8 (by omega) (ZCW m8)];exact hv1
     have hl8:(u.drop 8).length<u.length:=by rw[List.length_drop];omega
     have hu8:=fun(G:Heap)=>Ya (s:=u) (p:=8) (by omega) .i64 G
     generalize u.drop 8=w at hv8 hl8 hu8
     by_cases w16:16<w.length
     ·have d_w16:decide (16<w.length)=true:=Zh w16
      have ev0:=fun{j}=>ZlV (Zm:=Zm) (fs:=fs) (fuel:=fuel) E (k:=1) (n:=j) (by decide) (s:=w) (H:=H) (by omega)
      have ev8:=fun{j}=>ZlV (Zm:=Zm) (fs:=fs) (fuel:=fuel) E (k:=1) (n:=j) (by decide) (s:=w.drop 8) (H:=H) (by rw[List.length_drop];omega)
      have hw8:=fun(G:Heap)=>Ya (s:=w) (p:=8) (by omega) .i64 G
      have b1:=fun(G:Heap)=>Zfu (a:=w8 w) (b:=w8 (w.drop 8)) (Zbv _) (Zbv _) G
      have bm1:=fun(G:Heap)=>Zjo (a:=w8 w|||w8 (w.drop 8)) (b:=9259542123273814144) (Zfv (Zbv _) (Zbv _)) (by decide) G
      by_cases m16:(w8 w|||w8 (w.drop 8))&&&9259542123273814144=0
      ·have d_m16:decide ((w8 w|||w8 (w.drop 8))&&&9259542123273814144=0)=true:=Zh m16
       have hv16:vu (w.drop 16)=vu s:=by rw[←Zik 16 (by omega) (ZAB m16)];exact hv8
       have hl16:(w.drop 16).length<w.length:=by rw[List.length_drop];omega
       have hu16:=fun(G:Heap)=>Ya (s:=w) (p:=16) (by omega) .i64 G
       generalize w.drop 16=z at hv16 hl16 hu16
       simp(maxSteps:=4000000) (disch:=first|assumption|omega|(simp -implicitDefEqProofs only[Zu,Zv]<;>first|assumption|omega)|decide) only[t0,d_h0,d_ha,Yd,ZU,ZI,ZW,Yn,hu,Ya,d_u8,ew0,bm0,d_m8,hu8,d_w16,ev0,ev8,hw8,b1,bm1,d_m16,hu16,Up,ZC,N8G,Zr,Zs,Zd,Ze,Zf,Nat.reducePow,Nat.reduceDiv,Nat.reduceMod,Nat.reduceEqDiff,reduceCtorEq,TB0,TB1,TB2,TB3,TB4]
       generalize hL:WI (ZdL _) fuel _ _ _=L
       obtain⟨tm1,H1,rfl,t1,e1,hv2,hl2,k1⟩:=ZC1 E (z:=z) hL rfl k (by have:=E.big;omega)
       simp(maxSteps:=4000000) (disch:=first|assumption|omega|(simp -implicitDefEqProofs only[Zu,Zv]<;>first|assumption|omega)|decide) only[Up,ZC,N8G,Zr,Zs,Zd,Ze,Zf,Nat.reducePow,Nat.reduceDiv,Nat.reduceMod,Nat.reduceEqDiff,reduceCtorEq,TB0,TB1,TB2,TB3,TB4]
       refine⟨_,_,_,rfl,?_⟩
       exact .inl ⟨rfl,t1.length,by omega,⟨t1,e1,hv2.trans hv16,by omega,rfl⟩,k1⟩
      ·have d_m16:decide ((w8 w|||w8 (w.drop 8))&&&9259542123273814144=0)=false:=Zc m16
       simp(maxSteps:=4000000) (disch:=first|assumption|omega|(simp -implicitDefEqProofs only[Zu,Zv]<;>first|assumption|omega)|decide) only[t0,d_h0,d_ha,Yd,ZU,ZI,ZW,Yn,hu,Ya,d_u8,ew0,bm0,d_m8,hu8,d_w16,ev0,ev8,hw8,b1,bm1,d_m16,Up,ZC,N8G,Zr,Zs,Zd,Ze,Zf,Nat.reducePow,Nat.reduceDiv,Nat.reduceMod,Nat.reduceEqDiff,reduceCtorEq,TB0,TB1,TB2,TB3,TB4]
       refine⟨_,_,_,rfl,?_⟩
       exact .inl ⟨rfl,w.length,by omega,⟨w,(by simp only[TB0,N8G]),hv8,by omega,rfl⟩,k⟩
     ·have d_w16:decide (16<w.length)=false:=Zc w16
      simp(maxSteps:=4000000) (disch:=first|assumption|omega|(simp -implicitDefEqProofs only[Zu,Zv]<;>first|assumption|omega)|decide) only[t0,d_h0,d_ha,Yd,ZU,ZI,ZW,Yn,hu,Ya,d_u8,ew0,bm0,d_m8,hu8,d_w16,Up,ZC,N8G,Zr,Zs,Zd,Ze,Zf,Nat.reducePow,Nat.reduceDiv,Nat.reduceMod,Nat.reduceEqDiff,reduceCtorEq,TB0,TB1,TB2,TB3,TB4]
      refine⟨_,_,_,rfl,?_⟩
      exact .inl ⟨rfl,w.length,by omega,⟨w,(by simp only[TB0,N8G]),hv8,by omega,rfl⟩,k⟩
    ·have d_m8:decide (w8 u&&&9259542123273814144=0)=false:=Zc m8
     simp(maxSteps:=4000000) (disch:=first|assumption|omega|(simp -implicitDefEqProofs only[Zu,Zv]<;>first|assumption|omega)|decide) only[t0,d_h0,d_ha,Yd,ZU,ZI,ZW,Yn,hu,Ya,d_u8,ew0,bm0,d_m8,Up,ZC,N8G,Zr,Zs,Zd,Ze,Zf,Nat.reducePow,Nat.reduceDiv,Nat.reduceMod,Nat.reduceEqDiff,reduceCtorEq,TB0,TB1,TB2,TB3,TB4]
     refine⟨_,_,_,rfl,?_⟩
     exact .inl ⟨rfl,u.length,hl1,⟨u,(by simp only[TB0,N8G]),hv1,by omega,rfl⟩,k⟩
   ·have d_u8:decide (8<u.length)=false:=Zc u8
    simp(maxSteps:=4000000) (disch:=first|assumption|omega|(simp -implicitDefEqProofs only[Zu,Zv]<;>first|assumption|omega)|decide) only[t0,d_h0,d_ha,Yd,ZU,ZI,ZW,Yn,hu,Ya,d_u8,Up,ZC,N8G,Zr,Zs,Zd,Ze,Zf,Nat.reducePow,Nat.reduceDiv,Nat.reduceMod,Nat.reduceEqDiff,reduceCtorEq,TB0,TB1,TB2,TB3,TB4]
    refine⟨_,_,_,rfl,?_⟩
    exact .inl ⟨rfl,u.length,hl1,⟨u,(by simp only[TB0,N8G]),hv1,by omega,rfl⟩,k⟩
  ·have d_ha:decide (by_ t 0<128)=false:=Zc ha
   have hb256:=ZnC t 0
   have hf256:=Ztv (by_ t 0)
   have hroH:H.ro≤H.nx:=by rw[k.ro];exact Z6 hro k.nx
   have hx16:Zdc (by_ t 0)/16<16:=by have:=Ztv (by_ t 0);omega
   obtain⟨rF,gF,lF⟩:=(g.keep0 k).fst
   obtain⟨rA,gA,lA⟩:=(g.keep0 k).acc
   have lF:=fun(G:Heap)=>lF (by_ t 0) G hb256
   have lA:=fun(G:Heap)=>lA (Zdc (by_ t 0)/16) G hx16
   generalize hfx:Zdc (by_ t 0)=fx at lF lA hx16 hf256
   generalize hlo:Zg1.getD (fx/16*2) 0=lo at lA
   generalize hhi:Zg1.getD (fx/16*2+1) 0=hi at lA
   have nxH:100≤H.nx:=(g.keep0 k).1
   have kk:Keep H0 (H.new (rG 208 1 [nI .u8 lo,nI .u8 hi] 0 false true true)) []:=k.then_new _
   simp(maxSteps:=4000000) (disch:=first|assumption|omega|(simp -implicitDefEqProofs only[Zu,Zv]<;>first|assumption|omega)|decide) only[t0,d_h0,Yd,ZU,ZI,ZW,Yn,Ya,d_ha,Nat.mul_one,ZL,Ys,gF,lF,gA,lA,ZdR,QA,ZqP,Uh,ZdS,ZdE,Zcf,ZdG,ZH,nxH,Up,ZC,N8G,Zr,Zs,Zd,Ze,Zf,Nat.reducePow,Nat.reduceDiv,Nat.reduceMod,Nat.reduceEqDiff,reduceCtorEq,TB0,TB1,TB2,TB3,TB4]
   by_cases q2:fx % 8=2
   ·have d_q2:decide (fx % 8=2)=true:=Zh q2
    simp(maxSteps:=4000000) (disch:=first|assumption|omega|(simp -implicitDefEqProofs only[Zu,Zv]<;>first|assumption|omega)|decide) only[t0,d_h0,Yd,ZU,ZI,ZW,Yn,Ya,d_q2,Nat.mul_one,ZL,Ys,gF,lF,gA,lA,ZdR,QA,ZqP,Uh,ZdS,ZdE,Zcf,ZdG,ZH,nxH,Up,ZC,N8G,Zr,Zs,Zd,Ze,Zf,Nat.reducePow,Nat.reduceDiv,Nat.reduceMod,Nat.reduceEqDiff,reduceCtorEq,TB0,TB1,TB2,TB3,TB4]
    generalize hS:ZbS _ _ _ _=L
    obtain⟨o,tm1,rfl,hq⟩: ∃o tm1,L= .ok o tm1 (H.new (rG 208 1 [nI .u8 lo,nI .u8 hi] 0 false true true)) x∧((o= .ret∧gt2 tm1= .bool false∧(t.length<2∨by_ t 1<lo∨hi<by_ t 1))∨(o= .normal∧gt0 tm1= .str (t.drop 2)∧ ¬(t.length<2∨by_ t 1<lo∨hi<by_ t 1))):=by
     rw[←hS]
     exact Zym (t:=t) (lo:=lo) (hi:=hi) (b6:=H.nx) ((by simp only[TB0,N8G];exact t0)) (by simp only[TB0,N8G]) (ZP rfl _) (Ys _)
    rcases hq with⟨rfl,h2,hb⟩|⟨rfl,h0',hb⟩
    ·simp only[ZaN] at h2
     simp(maxSteps:=4000000) (disch:=first|assumption|omega|(simp -implicitDefEqProofs only[Zu,Zv]<;>first|assumption|omega)|decide) only[h2,ZC,N8G,Zr,Zs,Zd,Ze,Zf,Nat.reducePow,Nat.reduceDiv,Nat.reduceMod,Nat.reduceEqDiff,reduceCtorEq]
     refine⟨_,_,_,rfl,?_⟩
     exact .inr ⟨by simp, .inl ⟨rfl,by rw[←hv,ZoN h0 (by rw[Ztw ha (by rw[hfx];exact q2),hfx,hlo,hhi];exact if_pos hb)];exact h2,kk⟩⟩
    ·have h00:=h0'
     simp only[Zck] at h0'
     simp(maxSteps:=4000000) (disch:=first|assumption|omega|(simp -implicitDefEqProofs only[Zu,Zv]<;>first|assumption|omega)|decide) only[h0',ZC,N8G,Zr,Zs,Zd,Ze,Zf,Nat.reducePow,Nat.reduceDiv,Nat.reduceMod,Nat.reduceEqDiff,reduceCtorEq]
     refine⟨_,_,_,rfl,?_⟩
     exact .inl ⟨rfl,(t.drop 2).length,by rw[List.length_drop];omega,⟨t.drop 2,h00,by rw[←hv,ZoO h0 (n:=2) (by rw[Ztw ha (by rw[hfx];exact q2),hfx,hlo,hhi];exact if_neg hb) (by decide)],by rw[List.length_drop];omega,rfl⟩,kk⟩
   have d_q2:decide (fx % 8=2)=false:=Zc q2
   simp(maxSteps:=4000000) (disch:=first|assumption|omega|(simp -implicitDefEqProofs only[Zu,Zv]<;>first|assumption|omega)|decide) only[t0,d_h0,Yd,ZU,ZI,ZW,Yn,Ya,d_q2,Nat.mul_one,ZL,Ys,gF,lF,gA,lA,ZdR,QA,ZqP,Uh,ZdS,ZdE,Zcf,ZdG,ZH,nxH,Up,ZC,N8G,Zr,Zs,Zd,Ze,Zf,Nat.reducePow,Nat.reduceDiv,Nat.reduceMod,Nat.reduceEqDiff,reduceCtorEq,TB0,TB1,TB2,TB3,TB4]
   by_cases q3:fx % 8=3
   ·have d_q3:decide (fx % 8=3)=true:=Zh q3
    simp(maxSteps:=4000000) (disch:=first|assumption|omega|(simp -implicitDefEqProofs only[Zu,Zv]<;>first|assumption|omega)|decide) only[t0,d_h0,Yd,ZU,ZI,ZW,Yn,Ya,d_q3,Nat.mul_one,ZL,Ys,gF,lF,gA,lA,ZdR,QA,ZqP,Uh,ZdS,ZdE,Zcf,ZdG,ZH,nxH,Up,ZC,N8G,Zr,Zs,Zd,Ze,Zf,Nat.reducePow,Nat.reduceDiv,Nat.reduceMod,Nat.reduceEqDiff,reduceCtorEq,TB0,TB1,TB2,TB3,TB4]
    generalize hS:QO _ _ _ _=L
    obtain⟨o,tm1,rfl,hq⟩: ∃o tm1,L= .ok o tm1 (H.new (rG 208 1 [nI .u8 lo,nI .u8 hi] 0 false true true)) x∧((o= .ret∧gt2 tm1= .bool false∧(t.length<3∨by_ t 1<lo∨hi<by_ t 1∨by_ t 2<128∨191<by_ t 2))∨(o= .normal∧gt0 tm1= .str (t.drop 3)∧ ¬(t.length<3∨by_ t 1<lo∨hi<by_ t 1∨by_ t 2<128∨191<by_ t 2))):=by
     rw[←hS]
     exact Zyn (t:=t) (lo:=lo) (hi:=hi) (b6:=H.nx) ((by simp only[TB0,N8G];exact t0)) (by simp only[TB0,N8G]) (ZP rfl _) (Ys _)
    rcases hq with⟨rfl,h2,hb⟩|⟨rfl,h0',hb⟩
    ·simp only[ZaN] at h2
     simp(maxSteps:=4000000) (disch:=first|assumption|omega|(simp -implicitDefEqProofs only[Zu,Zv]<;>first|assumption|omega)|decide) only[h2,ZC,N8G,Zr,Zs,Zd,Ze,Zf,Nat.reducePow,Nat.reduceDiv,Nat.reduceMod,Nat.reduceEqDiff,reduceCtorEq]
     refine⟨_,_,_,rfl,?_⟩
     exact .inr ⟨by simp, .inl ⟨rfl,by rw[←hv,ZoN h0 (by rw[Ztx ha (by rw[hfx];exact q3),hfx,hlo,hhi];exact if_pos hb)];exact h2,kk⟩⟩
    ·have h00:=h0'
     simp only[Zck] at h0'
     simp(maxSteps:=4000000) (disch:=first|assumption|omega|(simp -implicitDefEqProofs only[Zu,Zv]<;>first|assumption|omega)|decide) only[h0',ZC,N8G,Zr,Zs,Zd,Ze,Zf,Nat.reducePow,Nat.reduceDiv,Nat.reduceMod,Nat.reduceEqDiff,reduceCtorEq]
     refine⟨_,_,_,rfl,?_⟩
     exact .inl ⟨rfl,(t.drop 3).length,by rw[List.length_drop];omega,⟨t.drop 3,h00,by rw[←hv,ZoO h0 (n:=3) (by rw[Ztx ha (by rw[hfx];exact q3),hfx,hlo,hhi];exact if_neg hb) (by decide)],by rw[List.length_drop];omega,rfl⟩,kk⟩
   have d_q3:decide (fx % 8=3)=false:=Zc q3
   simp(maxSteps:=4000000) (disch:=first|assumption|omega|(simp -implicitDefEqProofs only[Zu,Zv]<;>first|assumption|omega)|decide) only[t0,d_h0,Yd,ZU,ZI,ZW,Yn,Ya,d_q3,Nat.mul_one,ZL,Ys,gF,lF,gA,lA,ZdR,QA,ZqP,Uh,ZdS,ZdE,Zcf,ZdG,ZH,nxH,Up,ZC,N8G,Zr,Zs,Zd,Ze,Zf,Nat.reducePow,Nat.reduceDiv,Nat.reduceMod,Nat.reduceEqDiff,reduceCtorEq,TB0,TB1,TB2,TB3,TB4]
   by_cases q4:fx % 8=4
   ·have d_q4:decide (fx % 8=4)=true:=Zh q4
    simp(maxSteps:=4000000) (disch:=first|assumption|omega|(simp -implicitDefEqProofs only[Zu,Zv]<;>first|assumption|omega)|decide) only[t0,d_h0,Yd,ZU,ZI,ZW,Yn,Ya,d_q4,Nat.mul_one,ZL,Ys,gF,lF,gA,lA,ZdR,QA,ZqP,Uh,ZdS,ZdE,Zcf,ZdG,ZH,nxH,Up,ZC,N8G,Zr,Zs,Zd,Ze,Zf,Nat.reducePow,Nat.reduceDiv,Nat.reduceMod,Nat.reduceEqDiff,reduceCtorEq,TB0,TB1,TB2,TB3,TB4]
    generalize hS:Uo _ _ _ _=L
    obtain⟨o,tm1,rfl,hq⟩: ∃o tm1,L= .ok o tm1 (H.new (rG 208 1 [nI .u8 lo,nI .u8 hi] 0 false true true)) x∧((o= .ret∧gt2 tm1= .bool false∧(t.length<4∨by_ t 1<lo∨hi<by_ t 1∨by_ t 2<128∨191<by_ t 2∨by_ t 3<128∨191<by_ t 3))∨(o= .normal∧gt0 tm1= .str (t.drop 4)∧ ¬(t.length<4∨by_ t 1<lo∨hi<by_ t 1∨by_ t 2<128∨191<by_ t 2∨by_ t 3<128∨191<by_ t 3))):=by
     rw[←hS]
     exact Zyo (t:=t) (lo:=lo) (hi:=hi) (b6:=H.nx) ((by simp only[TB0,N8G];exact t0)) (by simp only[TB0,N8G]) (ZP rfl _) (Ys _)
    rcases hq with⟨rfl,h2,hb⟩|⟨rfl,h0',hb⟩
    ·simp only[ZaN] at h2
     simp(maxSteps:=4000000) (disch:=first|assumption|omega|(simp -implicitDefEqProofs only[Zu,Zv]<;>first|assumption|omega)|decide) only[h2,ZC,N8G,Zr,Zs,Zd,Ze,Zf,Nat.reducePow,Nat.reduceDiv,Nat.reduceMod,Nat.reduceEqDiff,reduceCtorEq]
     refine⟨_,_,_,rfl,?_⟩
     exact .inr ⟨by simp, .inl ⟨rfl,by rw[←hv,ZoN h0 (by rw[Zty ha (by rw[hfx];exact q4),hfx,hlo,hhi];exact if_pos hb)];exact h2,kk⟩⟩
    ·have h00:=h0'
     simp only[Zck] at h0'
     simp(maxSteps:=4000000) (disch:=first|assumption|omega|(simp -implicitDefEqProofs only[Zu,Zv]<;>first|assumption|omega)|decide) only[h0',ZC,N8G,Zr,Zs,Zd,Ze,Zf,Nat.reducePow,Nat.reduceDiv,Nat.reduceMod,Nat.reduceEqDiff,reduceCtorEq]
     refine⟨_,_,_,rfl,?_⟩
     exact .inl ⟨rfl,(t.drop 4).length,by rw[List.length_drop];omega,⟨t.drop 4,h00,by rw[←hv,ZoO h0 (n:=4) (by rw[Zty ha (by rw[hfx];exact q4),hfx,hlo,hhi];exact if_neg hb) (by decide)],by rw[List.length_drop];omega,rfl⟩,kk⟩
   have d_q4:decide (fx % 8=4)=false:=Zc q4
   simp(maxSteps:=4000000) (disch:=first|assumption|omega|(simp -implicitDefEqProofs only[Zu,Zv]<;>first|assumption|omega)|decide) only[t0,d_h0,Yd,ZU,ZI,ZW,Yn,Ya,d_q4,Nat.mul_one,ZL,Ys,gF,lF,gA,lA,ZdR,QA,ZqP,Uh,ZdS,ZdE,Zcf,ZdG,ZH,nxH,Up,ZC,N8G,Zr,Zs,Zd,Ze,Zf,Nat.reducePow,Nat.reduceDiv,Nat.reduceMod,Nat.reduceEqDiff,reduceCtorEq,TB0,TB1,TB2,TB3,TB4]
   refine⟨_,_,_,rfl,?_⟩
   exact .inr ⟨by simp, .inl ⟨rfl,by rw[←hv,ZoN h0 (ZAG ha (by rw[hfx];exact q2) (by rw[hfx];exact q3) (by rw[hfx];exact q4))];simp only[TB0,N8G],kk⟩⟩
 ·have d_h0:decide (0<t.length)=false:=Zc h0
  simp(maxSteps:=4000000) (disch:=first|assumption|omega|(simp -implicitDefEqProofs only[Zu,Zv]<;>first|assumption|omega)|decide) only[t0,d_h0,Yd,ZU,Up,ZC,N8G,Zr,Zs,Zd,Ze,Zf,Nat.reducePow,Nat.reduceDiv,Nat.reduceMod,Nat.reduceEqDiff,reduceCtorEq,TB0,TB1,TB2,TB3,TB4]
  have:t=[]:=List.length_eq_zero_iff.1 (by omega)
  subst this
  refine⟨_,_,_,rfl,?_⟩
  exact .inr ⟨by simp, .inr ⟨rfl,hv.symm.trans ZCU|>.symm▸rfl,k⟩⟩
theorem Zyp{Zm:Lib}{fs:T CF}{fuel:Nat}(E:Env Zm fs fuel){n:Nat}{s:List UInt8}{H:Heap}(g:GlobU H)(hro:H.ro≤H.nx)(hs:s.length<99998):
  ∃H',ZR (LK Zm fs fuel 1) fs fuel (n+2) 107 [.str s] H= .ret (.bool (vu s)) H'∧Keep H H' []:=by
 rw[ZV (ZN E.n107 (.inl (by decide)) _ _) E.f107]
 simp(disch:=first|assumption|omega|(simp -implicitDefEqProofs only[Zu,Zv]<;>first|assumption|omega)|decide) only[Zvo,ZC,N8G,Zr,Zs,Zd,Ze,Zf,Nat.reduceEqDiff,reduceCtorEq,TB0]
 generalize hL:WI (Up _) fuel _ _ _=L
 obtain⟨o,tm1,H1,rfl,_,hq⟩:=YC (P:=fun T=>VI H s s.length T H) (Q:=fun o tm H'=>(o= .ret∧gt2 tm= .bool (vu s)∧Keep H H' [])∨(o= .exit 0∧vu s=true∧Keep H H' []))
  (fun T hi'=>YE (VI H s) (fun o tm H'=>(o= .ret∧gt2 tm= .bool (vu s)∧Keep H H' [])∨(o= .exit 0∧vu s=true∧Keep H H' [])) (fun m tm H' h=>ZC2 E g hro hs _ _ _ _ m tm H' h) fuel s.length T H (by have:=E.big;omega) hi') hL
  ⟨⟨s,rfl,rfl,Zk _,rfl⟩,Keep.refl _ _⟩
 rcases hq with⟨rfl,h2,k⟩|⟨rfl,h2,k⟩
 ·simp only[ZaN] at h2
  simp(disch:=first|assumption|omega|(simp -implicitDefEqProofs only[Zu,Zv]<;>first|assumption|omega)|decide) only[h2,Zvo,ZC,N8G,Zr,Zs,Zd,Ze,Zf,Nat.reduceEqDiff,reduceCtorEq,TB0]
  refine⟨_,rfl,?_⟩
  exact k
 ·rw[h2]
  simp(disch:=first|assumption|omega|(simp -implicitDefEqProofs only[Zu,Zv]<;>first|assumption|omega)|decide) only[Zvo,ZC,N8G,Zr,Zs,Zd,Ze,Zf,Nat.reduceEqDiff,reduceCtorEq,TB0]
  refine⟨_,rfl,?_⟩
  exact k
theorem ZFf{Zm:Lib}{fs:T CF}{fuel:Nat}(E:Env Zm fs fuel){k n:Nat}(hk:2≤k){s:List UInt8}{H:Heap}(g:GlobU H)(hro:H.ro≤H.nx)(hs:s.length<99998):
  ZR (LK Zm fs fuel k) fs fuel (n+1) 107 [.str s] H= .ret (.bool (vu s)) H:=by
 obtain⟨H',e,g⟩:=Zyp E (n:=898) (H:=H) g hro hs
 exact Y6 (r:=1) rfl rfl e g (rfl) hk
end
end Go.AI
namespace Go.AI
open Go
noncomputable section
theorem Ztz(H:Heap)(m:List UInt8):Src H (.str m) (m.map u8V):=by
 intro k
 show Vs H 1 (.str m) (Yt m) (fun new=>k (Yt m) new)=_
 rw[Yr,ZA]
 have e:Zg5 m=m.map u8V:=by rw[Zki];rfl
 unfold Vs
 cases m with
 |nil=>rfl
 |cons x m=>
  rw[Zn,Ye,Zc (by omega)]
  show ZS (Nat.beq 1 1) (k (m.length+1) (Zg5 (Zeu (m.length+1) (x::m))))=_
  rw[Zc0,ZK (by simp),e];rfl
theorem ZC3{c:Nat}(h:c<256):u8V (UInt8.ofNat c)=nI .u8 c:=by
 unfold u8V nI
 rw[UInt8.toNat_ofNat',Z0 h]
theorem ZAH{H:Heap}{v:AV}{l m:List UInt8}{lo:Nat}(h:Buf H v l lo)(hl:l.length+m.length≤140737488355328)(hro:H.ro≤H.nx)(hlo:lo≤H.nx):
  ∃v' H',UX 5 1 1 v (.str m) H= .val v' H'∧Buf H' v' (l++m) lo∧Below lo H H':=by
 rw[Zfo (Zk 1) (Ztz H m),ZA]
 by_cases hm:m=[]
 ·subst hm
  rw[List.append_nil]
  rcases h with⟨rfl,rfl⟩|⟨hne,b,r,rfl,g,hb⟩
  ·exact⟨_,_,rfl, .inl ⟨rfl,rfl⟩,Below.refl _ _⟩
  ·refine⟨.slice b 0 l.length none,H,?_, .inr ⟨hne,b,r,rfl,g,hb⟩,Below.refl _ _⟩
   have hs:r.size=l.length:=by rw[g.cells.size,ZA]
   show YH H b _=_
   unfold YH
   simp only[g.at_]
   have h1:Ziu r 1 none=true:=by show Nat.beq r.sz 1=true;rw[g.sz];rfl
   have h2:Uu r 0 none=l.length:=by show cond (Nat.beq r.sz 1) (r.size - 0) _=_;rw[g.sz,hs];rfl
   rw[h1]
   show cond (Nat.ble (l.length+0) (Uu r 0 none)) _ _=_
   rw[h2,Zl (by omega)];rfl
 ·have hm0:0<m.length:=List.length_pos_iff.2 hm
  rcases h with⟨rfl,rfl⟩|⟨hne,b,r,rfl,g,hb⟩
  ·have g:=Zqc (H:=H) (e:=5) (l:=m.map u8V) hro
   have e:=Zqb (e:=5) (H:=H) (l:=m.map u8V) (by rw[ZA];exact hm0) (by rw[ZA];simpa using hl)
   rw[ZA] at e
   exact⟨_,_,e, .inr ⟨by simpa using hm,_,_,by rw[List.nil_append],by rw[List.nil_append];exact g,hlo⟩,Below.new lo H _⟩
  ·obtain⟨H',r',e,g',k',nx'⟩:=Znk (m:=m.map u8V) g (by rw[ZA];exact hm0) (by rw[ZA,ZA];exact hl)
   rw[ZA,ZA] at e
   refine⟨_,H',e, .inr ⟨by simp[hm],H.nx,r',by rw[Zq],by rw[List.map_append];exact g',hlo⟩,⟨by omega,k'.ro,fun c h1 h2=>k'.get c h2 (by simp;omega)⟩⟩
structure Bld(H:Heap)(sb:Nat)(l:List UInt8):Prop where
 low:sb<H.nx
 ro:H.ro≤sb
 ok: ∃a buf,H.t.get sb=some (rG 87 1 [a,buf] 0 false true true)∧Buf H buf l (sb+1)∧(a= .nilp∨a= .ptr sb 0)
theorem Bld.new{H:Heap}(hro:H.ro≤H.nx):Bld (H.new (rG 87 1 [.nilp, .nils] 0 false true true)) H.nx []:=⟨Ys _,hro, .nilp, .nils,ZP rfl _, .inl ⟨rfl,rfl⟩, .inl rfl⟩
theorem Bld.keep{H H':Heap}{sb:Nat}{l:List UInt8}(b:Bld H sb l)(k:Keep H H' []):Bld H' sb l:=by
 obtain⟨a,buf,g,h,ha⟩:=b.ok
 exact⟨ZF b.low k.nx,by rw[k.ro];exact b.ro,a,buf,by rw[k.get _ b.low (by simp)];exact g,h.below (fun c _ hc=>k.get c hc (by simp)) k.ro k.nx,ha⟩
theorem Below.keep{H0 H H':Heap}{n:Nat}(k:Keep H0 H [])(b:Below n H H')(h:H0.nx≤n):Keep H0 H' []:=Keep.below k b h
theorem ZnH{H:Heap}{v:AV}{l:List UInt8}{lo:Nat}(h:Buf H v l lo):v.cells=[v]:=by
 rcases h with⟨_,rfl⟩|⟨_,_,_,rfl,_⟩<;>rfl
theorem ZfN{Zm:Lib}{fs:T CF}{fuel:Nat}(E:Env Zm fs fuel){k n sb:Nat}{a buf:AV}{H:Heap}(g:H.t.get sb=some (rG 87 1 [a,buf] 0 false true true))(hro:H.ro≤sb)(ha:a= .nilp∨a= .ptr sb 0):
  ZR (LK Zm fs fuel k) fs fuel (n+2) 76 [.ptr sb 0] H= .ret (.tup []) (H.put sb (rG 87 1 [.ptr sb 0,buf] 0 false true true)):=by
 rw[ZV (ZN E.n76 (.inr rfl) _ _) E.f76]
 have p1:Zxx (.ptr sb 0) H= .val (.ptr sb 0) H:=by
  show YH H sb _=_
  unfold YH
  rw[g]
  rfl
 have p2:Zxy 87 2 (.ptr sb 0) H= .val (.ptr sb 0) H:=by
  show YH H sb _=_
  unfold YH
  rw[g]
  show ZS (Nat.beq 87 87) _=_
  rw[Yc];rfl
 have en:=fun{j}=>Zcg (Zm:=Zm) (fs:=fs) (fuel:=fuel) (UJ:=UJ) (QR:=QR) (k:=k) (n:=j) (f:=128) rfl (E.nesc (.ptr sb 0) H)
 rcases ha with rfl|rfl
 ·simp(maxSteps:=4000000) (disch:=first|assumption|omega|(simp -implicitDefEqProofs only[Zu,Zv]<;>first|assumption|omega)|decide) only[g,ZrW,Znm,p1,en,Znn,p2,ZH,Zbc,c76,ZC,N8G,Zr,Zs,Zd,Ze,Zf,Nat.reduceEqDiff,reduceCtorEq,TB0]
 ·rw[Zig g]
  simp(maxSteps:=4000000) (disch:=first|assumption|omega|(simp -implicitDefEqProofs only[Zu,Zv]<;>first|assumption|omega)|decide) only[g,Zz6,Zxw,ZH,c76,ZC,N8G,Zr,Zs,Zd,Ze,Zf,Nat.reduceEqDiff,reduceCtorEq,TB0]
theorem Zjp{Zm:Lib}{fs:T CF}{fuel:Nat}(E:Env Zm fs fuel){k n sb:Nat}{x:Nat}{H:Heap}{l:List UInt8}(b:Bld H sb l)(hx:x<256)(hl:l.length+[UInt8.ofNat x].length≤140737488355328)(hro:H.ro≤H.nx):
  ∃H',ZR (LK Zm fs fuel k) fs fuel (n+3) 38 [.ptr sb 0,nI .u8 x] H= .ret (.nili) H'∧Bld H' sb (l++[UInt8.ofNat x])∧Below sb H H':=by
 rw[ZV (ZN E.n38 (.inr rfl) _ _) E.f38]
 obtain⟨a,buf,g,hb,ha⟩:=b.ok
 have hlow:=b.low
 have hrs:=b.ro
 have ec:=fun{j}=>ZfN (Zm:=Zm) (fs:=fs) (fuel:=fuel) E (k:=k) (n:=j) g b.ro ha
 obtain⟨H1,hH1⟩: ∃G,H.put sb (rG 87 1 [.ptr sb 0,buf] 0 false true true)=G:=⟨_,rfl⟩
 rw[hH1] at ec
 have nx1:H1.nx=H.nx:=by rw[←hH1];rfl
 have ro1:H1.ro=H.ro:=by rw[←hH1];rfl
 have g1:H1.t.get sb=some (rG 87 1 [.ptr sb 0,buf] 0 false true true):=by rw[←hH1,Yo]
 have b1:Below sb H H1:=by rw[←hH1];exact Below.put (Zk _)
 have hb1:Buf H1 buf l (sb+1):=hb.below (fun c h _=>by rw[←hH1,Z3 (by omega)]) ro1 (by omega)
 obtain⟨v',H3,ea,hb3,b3⟩:=Zxt hb1 (by simp at hl;omega) (by rw[ro1,nx1];exact hro) (by omega) (UInt8.ofNat x)
 have g3:H3.t.get sb=some (rG 87 1 [.ptr sb 0,buf] 0 false true true):=by rw[b3.get sb (by omega) (by omega)];exact g1
 have hv:=ZnH hb3
 have r3:H3.ro≤sb:=by rw[b3.ro,ro1];exact hrs
 have st: ∀(e:Nat),stN 1 (some (rG 87 1 [.ptr sb 0,buf] 0 false true true)) sb 1 v' H3= .val Yx (H3.put sb (rG 87 1 [.ptr sb 0,v'] 0 false true true)):=fun e=>Zbc hv (by simp) r3 (by omega) _ _ _ _
 have st:=st 0
 rw[ZC3 hx,Wi,nx1] at ea
 simp(maxSteps:=4000000) (disch:=first|assumption|omega|(simp -implicitDefEqProofs only[Zu,Zv]<;>first|assumption|omega)|decide) only[ec,g1,ea,g3,st,nx1,ZH,ZcC,Zbt,Wi,Yd,Zfn,c38,ZC,N8G,Zr,Zs,Zd,Ze,Zf,Nat.reduceEqDiff,reduceCtorEq,TB0]
 refine⟨_,rfl,⟨?_,r3, .ptr sb 0,v',Yo ..,?_, .inr rfl⟩,b1.trans ((b3.mono (Nat.le_succ _)).trans (Below.put (Zk _)))⟩
 ·have:=b3.nx;show sb<H3.nx;omega
 ·exact hb3.below (fun c h _=>by rw[Z3 (by omega)]) rfl (Zk _)
theorem Zfw{Zm:Lib}{fs:T CF}{fuel:Nat}(E:Env Zm fs fuel){k n sb:Nat}{m:List UInt8}{H:Heap}{l:List UInt8}(b:Bld H sb l)(hl:l.length+m.length≤140737488355328)(hro:H.ro≤H.nx):
  ∃H',ZR (LK Zm fs fuel k) fs fuel (n+3) 37 [.ptr sb 0, .str m] H= .ret (.tup [nI .i64 m.length, .nili]) H'∧Bld H' sb (l++m)∧Below sb H H':=by
 rw[ZV (ZN E.n37 (.inr rfl) _ _) E.f37]
 obtain⟨a,buf,g,hb,ha⟩:=b.ok
 have hlow:=b.low
 have hrs:=b.ro
 have ec:=fun{j}=>ZfN (Zm:=Zm) (fs:=fs) (fuel:=fuel) E (k:=k) (n:=j) g b.ro ha
 obtain⟨H1,hH1⟩: ∃G,H.put sb (rG 87 1 [.ptr sb 0,buf] 0 false true true)=G:=⟨_,rfl⟩
 rw[hH1] at ec
 have nx1:H1.nx=H.nx:=by rw[←hH1];rfl
 have ro1:H1.ro=H.ro:=by rw[←hH1];rfl
 have g1:H1.t.get sb=some (rG 87 1 [.ptr sb 0,buf] 0 false true true):=by rw[←hH1,Yo]
 have b1:Below sb H H1:=by rw[←hH1];exact Below.put (Zk _)
 have hb1:Buf H1 buf l (sb+1):=hb.below (fun c h _=>by rw[←hH1,Z3 (by omega)]) ro1 (by omega)
 obtain⟨v',H3,ea,hb3,b3⟩:=ZAH (m:=m) hb1 (by simpa using hl) (by rw[ro1,nx1];exact hro) (by omega)
 have g3:H3.t.get sb=some (rG 87 1 [.ptr sb 0,buf] 0 false true true):=by rw[b3.get sb (by omega) (by omega)];exact g1
 have hv:=ZnH hb3
 have r3:H3.ro≤sb:=by rw[b3.ro,ro1];exact hrs
 have st: ∀(e:Nat),stN 1 (some (rG 87 1 [.ptr sb 0,buf] 0 false true true)) sb 1 v' H3= .val Yx (H3.put sb (rG 87 1 [.ptr sb 0,v'] 0 false true true)):=fun e=>Zbc hv (by simp) r3 (by omega) _ _ _ _
 have st:=st 0
 simp(maxSteps:=4000000) (disch:=first|assumption|omega|(simp -implicitDefEqProofs only[Zu,Zv]<;>first|assumption|omega)|decide) only[ec,g1,ea,g3,st,nx1,ZH,ZcC,Zbt,Wi,Yd,Zfn,c37,ZC,N8G,Zr,Zs,Zd,Ze,Zf,Nat.reduceEqDiff,reduceCtorEq,TB0]
 refine⟨_,rfl,⟨?_,r3, .ptr sb 0,v',Yo ..,?_, .inr rfl⟩,b1.trans ((b3.mono (Nat.le_succ _)).trans (Below.put (Zk _)))⟩
 ·have:=b3.nx;show sb<H3.nx;omega
 ·exact hb3.below (fun c h _=>by rw[Z3 (by omega)]) rfl (Zk _)
theorem ZAI{Zm:Lib}{fs:T CF}{fuel:Nat}(E:Env Zm fs fuel){k n sb:Nat}{H:Heap}{l:List UInt8}(b:Bld H sb l)(hlen:l.length≤140737488355328):
  ∃H',ZR (LK Zm fs fuel k) fs fuel (n+1) 41 [.ptr sb 0] H= .ret (.str l) H'∧Below sb H H':=by
 rw[ZV (ZN E.n41 (.inr rfl) _ _) E.f41]
 obtain⟨a,buf,g,hb,ha⟩:=b.ok
 have hlow:=b.low
 obtain⟨p,u1,⟨H',u2,u3⟩,u4,u5,u6,u7,u8⟩:=ZrX hb hlen
 have u1:=u1 ⟨H.nx,H.t,H.nx⟩ rfl
 have u4:=u4 H.nx (Zk _)
 have u5:=u5 H.nx H.t
 have u6:=u6 H.nx (Zk _)
 have u7:=u7 H.nx H.t
 have lp:YA H.nx (.ptr sb 0)=true:=ZL b.low 0
 have lp1:YA H.nx (.ptr sb 1)=true:=ZL b.low 1
 simp(maxSteps:=4000000) (disch:=first|assumption|omega|(simp -implicitDefEqProofs only[Zu,Zv]<;>first|assumption|omega)|decide) only[lp,lp1,g,ZH,Zfp,u1,Zi3,u2,u4,u5,u6,u7,u8,c41,ZC,N8G,Zr,Zs,Zd,Ze,Zf,Nat.reducePow,Nat.reduceDiv,Nat.reduceMod,Nat.reduceEqDiff,reduceCtorEq,TB0]
 refine⟨_,rfl,?_⟩
 exact u3.mono (Nat.le_succ _)
end
end Go.AI
namespace Go.AI
open Go
noncomputable section
def PBuf(H:Heap)(v:AV)(N:Nat)(l:List UInt8)(lo:Nat):Prop:=
 ∃b r,v= .slice b 0 l.length none∧lo≤b∧b<H.nx∧H.ro≤b∧H.t.get b=some (.row r)∧r.elem=5∧r.sz=1∧r.size=N∧r.own=true∧r.sm=false∧r.fz=0∧ ∀i,i<l.length→r.get i=(l.map u8V).getD i .unk
theorem PBuf.below{H H':Heap}{v:AV}{N:Nat}{l:List UInt8}{lo:Nat}(h:PBuf H v N l lo)(hg: ∀c,lo≤c→c<H.nx→H'.t.get c=H.t.get c)(hr:H'.ro=H.ro)(hn:H.nx≤H'.nx):PBuf H' v N l lo:=by
 obtain⟨b,r,e,h1,h2,h3,h4,h5⟩:=h
 exact⟨b,r,e,h1,ZF h2 hn,by rw[hr];exact h3,by rw[hg b h1 h2];exact h4,h5⟩
theorem Zsw{H:Heap}{v:AV}{N:Nat}{l:List UInt8}{lo:Nat}(h:PBuf H v N l lo):v.cells=[v]:=by
 obtain⟨b,r,rfl,_⟩:=h;rfl
theorem Zyq{H:Heap}{v:AV}{N:Nat}{l m:List UInt8}{lo:Nat}(h:PBuf H v N l lo)(hl:l.length+m.length≤N):
  ∃v' H',UX 5 1 1 v (.str m) H= .val v' H'∧PBuf H' v' N (l++m) lo∧Below lo H H':=by
 rw[Zfo (Zk 1) (Ztz H m),ZA]
 obtain⟨b,r,rfl,h1,h2,h3,h4,h5,h6,h7,h8,h9,h10,h11⟩:=h
 have hmay:H.may r b=true:=by unfold Heap.may;rw[h8,Zl h3];rfl
 have hs:Ziu r 1 none=true:=by show Nat.beq r.sz 1=true;rw[h6];rfl
 have hc:Uu r 0 none=N:=by show cond (Nat.beq r.sz 1) (r.size - 0) _=_;rw[h6,h7];rfl
 have e1:Zel (.slice b 0 l.length none) 5 1 1 H m.length (m.map u8V)=Zkz H (.slice b 0 l.length none) b 0 l.length m.length 1 none r (m.map u8V):=by
  show YH H b _=_
  unfold YH
  rw[h4]
  show ZS (Ziu r 1 none) (cond (Nat.ble (l.length+m.length) (Uu r 0 none)) _ _)=_
  rw[hs,hc,Zl hl];rfl
 rw[e1]
 by_cases hm:m.length=0
 ·have:m=[]:=List.length_eq_zero_iff.1 hm
  subst this
  rw[List.append_nil]
  exact⟨_,_,rfl,⟨b,r,rfl,h1,h2,h3,h4,h5,h6,h7,h8,h9,h10,h11⟩,Below.refl _ _⟩
 ·refine⟨.slice b 0 (l.length+m.length) none,H.put b (.row (r.setCells (Wn r.cells l.length (m.map u8V)))),?_,⟨b,_,by rw[Zq],h1,h2,h3,Yo ..,h5,h6,h7,h8,h9,h10,fun i hi=>?_⟩,Below.put h1⟩
  ·show cond (Nat.beq m.length 0) _ (ZS (H.may r b) (ZS (Nat.ble (0+(l.length+m.length)*1) r.size) (ZS (Nat.ble r.fz (0+l.length*1)) (.val (.slice b 0 (l.length+m.length) none) (H.put b (.row (r.setCells (Wn r.cells (0+l.length*1) (m.map u8V)))))))))=_
   rw[Ye,Zc hm,hmay,h7,h10,Zl (by omega),Zl (by omega),Nat.mul_one,Zi];rfl
  ·show(Option.rec r.dflt (fun v=>v) ((Wn r.cells l.length (m.map u8V)).get i):AV)=_
   rw[Qq,List.map_append,Zj]
   rw[Zq] at hi
   by_cases hil:i<l.length
   ·rw[if_neg (by omega),Ym (by rw[ZA];exact hil)]
    have:=h11 i hil
    rw[Zj] at this
    exact this
   ·rw[if_pos (by rw[ZA];omega),List.getElem?_append_right (by rw[ZA];omega),ZA]
    rw[Zp (by rw[ZA];omega)];rfl
theorem ZqQ{H:Heap}{v:AV}{l:List UInt8}{lo:Nat}(h:PBuf H v l.length l lo)(hp:0<l.length)(hl:l.length≤140737488355328): ∃p,(∀G:Heap,G.t=H.t→Zkl v G= .val p G)∧(∃H',Ztf 5 p (nI .i64 l.length) H= .val (.str l) H'∧Below lo H H')∧(∀n,H.nx≤n→YA n p=true)∧(∀n t,Vk (.val p ⟨n,t,n⟩) p n=true)∧(∀n,H.nx≤n→YA n v=true)∧(∀n t,Vk (.val v ⟨n,t,n⟩) v n=true)∧ ∀G,Qe v G= .val (nI .i64 l.length) G:=by
 obtain⟨b,r,rfl,h1,h2,h3,h4,h5,h6,h7,h8,h9,h10,h11⟩:=h
 refine⟨.ptr b 0,fun G e=>?_,?_,fun n hn=>ZL (ZF h2 hn) 0,fun n t=>V6 _ _ _ (by unfold same;rw[Yc,Yc];rfl),fun n hn=>YP (ZF h2 hn) _ _ _,fun n t=>UY _ _ _ _ _ _,fun G=>VL ..⟩
 ·show YH G b _=_
  unfold YH
  rw[e,h4]
  show ZS (Nat.ble 1 r.size) _=_
  rw[Zl (by omega)];rfl
 ·refine⟨H.put b (.row ⟨r.elem,r.sz,r.size,r.cells,r.dflt,cond (Nat.ble r.fz (Nat.add 0 l.length)) (Nat.add 0 l.length) r.fz,r.sm,r.own,r.exact⟩),?_,Below.put h1⟩
  show cond (Nat.beq l.length 0) _ (ZS (Nat.ble l.length 140737488355328) (YH H b _))=_
  rw[Ye,Zc (by omega),Zl hl]
  unfold YH
  rw[h4]
  show ZS (Nat.beq r.elem 5) (ZS (cond r.sm false (H.may r b)) (ZS (Nat.ble (0+l.length) r.size) (Q6 _ (loadN r 0 l.length))))=_
  have hmay:H.may r b=true:=by unfold Heap.may;rw[h8,Zl h3];rfl
  have hld:loadN r 0 l.length=l.map u8V:=by
   apply List.ext_getElem?
   intro j
   by_cases hj:j<l.length
   ·rw[UD _ _ _ _ hj,Zi,h11 j hj,Zj,Zp (by rw[ZA];exact hj)];rfl
   ·rw[Yp (by rw[Um];omega),Yp (by rw[ZA];omega)]
  rw[h5,h9,hmay,Zl (by omega),hld,ZdC]
  rfl
structure BldP(H:Heap)(sb N:Nat)(l:List UInt8):Prop where
 low:sb<H.nx
 ro:H.ro≤sb
 ok: ∃buf,H.t.get sb=some (rG 87 1 [.ptr sb 0,buf] 0 false true true)∧PBuf H buf N l (sb+1)
theorem BldP.keep{H H':Heap}{sb N:Nat}{l:List UInt8}(b:BldP H sb N l)(k:Keep H H' []):BldP H' sb N l:=by
 obtain⟨buf,g,h⟩:=b.ok
 exact⟨ZF b.low k.nx,by rw[k.ro];exact b.ro,buf,by rw[k.get _ b.low (by simp)];exact g,h.below (fun c _ hc=>k.get c hc (by simp)) k.ro k.nx⟩
theorem ZdT{Zm:Lib}{fs:T CF}{fuel:Nat}(E:Env Zm fs fuel){k n sb N:Nat}{m:List UInt8}{H:Heap}{l:List UInt8}(b:BldP H sb N l)(hl:l.length+m.length≤N):
  ∃H',ZR (LK Zm fs fuel k) fs fuel (n+3) 37 [.ptr sb 0, .str m] H= .ret (.tup [nI .i64 m.length, .nili]) H'∧BldP H' sb N (l++m)∧Below sb H H':=by
 rw[ZV (ZN E.n37 (.inr rfl) _ _) E.f37]
 obtain⟨buf,g,hb⟩:=b.ok
 have hlow:=b.low
 have hrs:=b.ro
 have ec:=fun{j}=>ZfN (Zm:=Zm) (fs:=fs) (fuel:=fuel) E (k:=k) (n:=j) g b.ro (.inr rfl)
 rw[Zig g] at ec
 obtain⟨v',H3,ea,hb3,b3⟩:=Zyq (m:=m) hb hl
 have g3:H3.t.get sb=some (rG 87 1 [.ptr sb 0,buf] 0 false true true):=by rw[b3.get sb (by omega) (by omega)];exact g
 have hv:=Zsw hb3
 have r3:H3.ro≤sb:=by rw[b3.ro];exact hrs
 have st:=Zbc (fz:=0) (b:=sb) (H:=H3) (l:=[.ptr sb 0,buf]) (o:=1) hv (by simp) r3 (by omega) 87 1 false true
 simp(maxSteps:=4000000) (disch:=first|assumption|omega|(simp -implicitDefEqProofs only[Zu,Zv]<;>first|assumption|omega)|decide) only[ec,g,ea,g3,st,ZH,ZcC,Yd,Zi,List.set_cons_succ,List.set_cons_zero,c37,ZC,N8G,Zr,Zs,Zd,Ze,Zf,Nat.reduceEqDiff,reduceCtorEq,TB0]
 refine⟨_,rfl,⟨?_,r3,v',Yo ..,?_⟩,(b3.mono (Nat.le_succ _)).trans (Below.put (Zk _))⟩
 ·have:=b3.nx;show sb<H3.nx;omega
 ·exact hb3.below (fun c h _=>by rw[Z3 (by omega)]) rfl (Zk _)
theorem Zyr{Zm:Lib}{fs:T CF}{fuel:Nat}(E:Env Zm fs fuel){k n sb:Nat}{H:Heap}{l:List UInt8}(b:BldP H sb l.length l)(hp:0<l.length)(hlen:l.length≤140737488355328):
  ∃H',ZR (LK Zm fs fuel k) fs fuel (n+1) 41 [.ptr sb 0] H= .ret (.str l) H'∧Below sb H H':=by
 rw[ZV (ZN E.n41 (.inr rfl) _ _) E.f41]
 obtain⟨buf,g,hb⟩:=b.ok
 have hlow:=b.low
 obtain⟨p,u1,⟨H',u2,u3⟩,u4,u5,u6,u7,u8⟩:=ZqQ hb hp hlen
 have u1:=u1 ⟨H.nx,H.t,H.nx⟩ rfl
 have u4:=u4 H.nx (Zk _)
 have u5:=u5 H.nx H.t
 have u6:=u6 H.nx (Zk _)
 have u7:=u7 H.nx H.t
 have lp:YA H.nx (.ptr sb 0)=true:=ZL b.low 0
 have lp1:YA H.nx (.ptr sb 1)=true:=ZL b.low 1
 simp(maxSteps:=4000000) (disch:=first|assumption|omega|(simp -implicitDefEqProofs only[Zu,Zv]<;>first|assumption|omega)|decide) only[lp,lp1,g,ZH,Zfp,u1,Zi3,u2,u4,u5,u6,u7,u8,c41,ZC,N8G,Zr,Zs,Zd,Ze,Zf,Nat.reducePow,Nat.reduceDiv,Nat.reduceMod,Nat.reduceEqDiff,reduceCtorEq,TB0]
 refine⟨_,rfl,?_⟩
 exact u3.mono (Nat.le_succ _)
def ZFg(v:AV)(H:Heap):OR:=V7 v (.val (.int .i64 0) H) fun b o _ cap=>Option.rec (YH H b fun r=>ZS r.exact (ZS (Nat.beq (Nat.mod o r.sz) 0) (.val (.int .i64 (.ofNat (Uu r o none))) H))) (fun c=> .val (.int .i64 (.ofNat c)) H) cap
theorem ZtA(x:EvF)(tm:TM)(H:Heap):Zy8 x tm H=ZFg (x tm) H:=rfl
theorem ZnI(H:Heap):ZFg .nils H= .val (nI .i64 0) H:=rfl
def Zys(e N:Nat):Obj:= .row ⟨e,1,N, .leaf, .unk,0,false,true,false⟩
theorem Zyt{H:Heap}{b N:Nat}(g:H.t.get b=some (Zys 5 N))(hN:0<N)(k:IntKind):Zlx 1 (.slice b 0 N none) none (some (nI k 0)) H= .val (.slice b 0 0 none) H:=by
 show YH H b _=_
 unfold YH
 rw[g]
 show cond (Nat.beq 0 N) _ _=_
 rw[Ye,Zc (by omega)];rfl
theorem Zsx(b o:Nat)(c:Option Nat)(H:Heap):Zxr 1 (.slice b o 0 c) .nils H= .val (.int .i64 0) H:=rfl
theorem Zvz(b o n:Nat)(c:Option Nat)(q:Nat)(t:T Obj):Vk (.val (.slice b o n c) ⟨q,t,q⟩) (.slice b o n c) q=true:=UY ..
def MNZ(Zm:Lib):Prop:= ∀(n:Nat) (H:Heap),n≤281474976710656→Zm 176 [nI .i64 n] H=some (.ret (.slice H.nx 0 n none) (H.new (Zys 5 n)))
theorem ZFh{Zm:Lib}{fs:T CF}{fuel:Nat}(E:Env Zm fs fuel)(M:MNZ Zm){k n sb N:Nat}{H:Heap}(g:H.t.get sb=some (rG 87 1 [.ptr sb 0, .nils] 0 false true true))(hlow:sb<H.nx)(hro:H.ro≤sb)(h0:0<N)(hN:N≤281474976710656)(hnn:UJ 176=0):
  ∃H',ZR (LK Zm fs fuel k) fs fuel (n+2) 143 [.ptr sb 0,nI .i64 N] H= .ret (.tup []) H'∧BldP H' sb N []∧Below sb H H':=by
 rw[ZV (ZN E.n143 (.inr rfl) _ _) E.f143]
 have em:=fun{j}=>Zcg (Zm:=Zm) (fs:=fs) (fuel:=fuel) (UJ:=UJ) (QR:=QR) (k:=k) (n:=j) (f:=176) rfl (M N H hN)
 obtain⟨H1,hH1⟩: ∃G,H.new (Zys 5 N)=G:=⟨_,rfl⟩
 rw[hH1] at em
 have nx1:H1.nx=H.nx+1:=by rw[←hH1];rfl
 have ro1:H1.ro=H.ro:=by rw[←hH1];rfl
 have g1:H1.t.get H.nx=some (Zys 5 N):=by rw[←hH1,ZP rfl]
 have gs:H1.t.get sb=some (rG 87 1 [.ptr sb 0, .nils] 0 false true true):=by rw[←hH1,Yy (by omega)];exact g
 have r1:H1.ro≤sb:=by omega
 have st:=Zbc (fz:=0) (b:=sb) (H:=H1) (l:=[.ptr sb 0, .nils]) (o:=1) (v:= .slice H.nx 0 0 none) rfl (by simp) r1 (by omega) 87 1 false true
 have lp:YA H.nx (.ptr sb 0)=true:=ZL hlow 0
 have lp1:YA H.nx (.ptr sb 1)=true:=ZL hlow 1
 have lp':YA H1.nx (.ptr sb 0)=true:=ZL (by omega) 0
 have lp1':YA H1.nx (.ptr sb 1)=true:=ZL (by omega) 1
 have ls:=YP (show H.nx<H1.nx by omega) 0 N none
 have sl:=Zyt (H:=⟨H1.nx,H1.t,H1.nx⟩) g1 h0 .i64
 rw[nx1] at sl lp' lp1' ls
 simp(maxSteps:=4000000) (disch:=first|assumption|omega|(simp -implicitDefEqProofs only[Zu,Zv]<;>first|assumption|omega)|decide) only[lp,lp1,lp',lp1',ls,g,gs,nx1,em,sl,st,ZH,ZtA,ZnI,Zlu,Yw,Nat.mul_zero,Zcc,Zsx,Zvz,Znj,List.set_cons_succ,List.set_cons_zero,ZAp,ZC,N8G,Zr,Zs,Zd,Ze,Zf,Nat.reducePow,Nat.reduceDiv,Nat.reduceMod,Nat.reduceEqDiff,reduceCtorEq,TB0]
 refine⟨_,rfl,?_⟩
 exact⟨⟨by show sb<H1.nx;omega,r1,_,Yo ..,H.nx,_,rfl,hlow,by show H.nx<H1.nx;omega,by show H1.ro≤H.nx;omega,by rw[Z3 (by omega)];exact g1,rfl,rfl,rfl,rfl,rfl,rfl,fun i hi=>by cases hi⟩,⟨by show H.nx≤H1.nx;omega,ro1,fun c h1 h2=>by rw[Z3 (by omega),←hH1,Yy (by omega)]⟩⟩
end
end Go.AI
namespace Go.AI
open Go
noncomputable section
def TRow(H:Heap)(b:Nat)(ss:List (List UInt8)):Prop:= ∃r,H.t.get b=some (.row r)∧r.sz=1∧r.size=ss.length∧(∀i (G:Heap),i<ss.length→ld1 (some (.row r)) i G= .val (.str (ss.getD i [])) G)
theorem TRow.keep{H H':Heap}{b:Nat}{ss:List (List UInt8)}(h:TRow H b ss)(hb:b<H.nx)(k:Keep H H' []):TRow H' b ss:=by
 obtain⟨r,h1,h2⟩:=h
 exact⟨r,by rw[k.get b hb (by simp)];exact h1,h2⟩
theorem Zsy(ss:List (List UInt8))(i:Nat)(h:i<ss.length):(ss.map fun s=>AV.str s).getD i .unk= .str (ss.getD i []):=by
 rw[Zj,YT,Zj,Zp h];rfl
theorem ZlW(ss:List (List UInt8)):(ss.map fun s=>[AV.str s]).flatten=ss.map fun s=>AV.str s:=by
 induction ss with
 |nil=>rfl
 |cons s ss ih=>rw[List.map_cons,List.flatten_cons,ih];rfl
theorem TRow.of{H:Heap}{b:Nat}{ss:List (List UInt8)}{r:Row}(h:Recs H b 9 1 (ss.map fun s=>[AV.str s]) r):TRow H b ss:=by
 have hs:=h.size
 rw[ZA,Nat.mul_one] at hs
 refine⟨r,h.at_,h.szr,hs,fun i G hi=>?_⟩
 rw[Zkn (by omega),h.cells.get i (by rw[ZlW,ZA];exact hi),ZlW,Zsy _ _ hi]
theorem ZqR{H:Heap}{b n:Nat}{r:Row}(g:H.t.get b=some (.row r))(hz:r.sz=1)(hs:r.size=n)(hn:1<n)(k:IntKind):Zlx 1 (.slice b 0 n none) (some (nI k 1)) none H= .val (.slice b 1 (n - 1) none) H:=by
 show YH H b _=_
 unfold YH
 rw[g]
 have e1:Ziu r 1 none=true:=by show Nat.beq r.sz 1=true;rw[hz];rfl
 have e2:Uu r 0 none=n:=by show cond (Nat.beq r.sz 1) (r.size - 0) _=_;rw[hz,hs];rfl
 show ZS (Ziu r 1 none) (ZS (Nat.ble 1 n) (ZS (Nat.ble 1 (Uu r 0 none)) (cond (Nat.beq 1 (Uu r 0 none)) _ _)))=_
 rw[e1,e2,Zl (by omega),Ye,Zc (by omega)];rfl
structure J0(b:Nat)(ss:List (List UInt8))(m:Nat)(tm:TM):Prop where
 i: ∃i,VC tm=nI .i64 i∧i≤ss.length∧m=ss.length - i∧gt5 tm=nI .i64 ((ss.length - 1)+ZdP (ss.take i))
 t0:gt0 tm= .slice b 0 ss.length none
 t1:gt1 tm= .str [44]
 t39:V4 tm= .slice b 0 ss.length none
 t40:Ui tm=nI .i64 ss.length
theorem ZAJ{cl:Nat→List AV→Heap→CR}{b:Nat}{ss:List (List UInt8)}{H:Heap}(hT:TRow H b ss)(hc:ss.length≤9000)(hs:ZdP ss≤1000000000)(y f d r)(x:X)(m:Nat)(tm:TM)(h:J0 b ss m tm):
  ∃o tm',ZfI ⟨cl,y,f,d,r⟩ tm H x= .ok o tm' H x∧((o= .normal∧ ∃k,k<m∧J0 b ss k tm')∨(o≠ .normal∧(o= .exit 1∧J0 b ss 0 tm'))):=by
 obtain⟨⟨i,t41,hi,rfl,t5⟩,t0,t1,t39,t40⟩:=h
 have t0':=t0;have t1':=t1;have t39':=t39;have t40':=t40;have t5':=t5;have t41':=t41
 simp only[ZfU] at t5
 simp only[ZEP] at t41
 simp only[ZEN] at t39
 simp only[ZEO] at t40
 obtain⟨rw_,g,_,_,ld⟩:=hT
 by_cases hlt:i<ss.length
 ·have d1:decide (i<ss.length)=true:=Zh hlt
  have ld:=fun(G:Heap)=>ld i G hlt
  have hb1:=Ztp ss i
  have hst:=Zvu hlt
  have hb2:=Ztp ss (i+1)
  have ix:=fun(G:Heap)=>Wz hlt b 0 none .i64 G
  rw[Zi] at ix
  generalize(ss.getD i [])=e at ld hst
  generalize hA:(ss.length - 1)+ZdP (ss.take i)=A at t5
  have dn:decide (9223372036854775807 - A<e.length)=false:=Zc (by omega)
  simp(maxSteps:=4000000) (disch:=first|assumption|omega|(simp -implicitDefEqProofs only[Zu,Zv]<;>first|assumption|omega)|decide) only[t5,t41,t39,t40,d1,dn,g,ld,ix,ZI,ZU,Yd,YO,Yw,Wz,ZfI,ZC,N8G,Zr,Zs,Zd,Ze,Zf,Nat.reduceEqDiff,reduceCtorEq,TB0,TB1]
  exact⟨_,_,rfl, .inl ⟨rfl,ss.length - (i+1),by omega,⟨⟨i+1,(by simp only[TB1,N8G]),by omega,rfl,by rw[hst,←Nat.add_assoc,hA];simp only[TB0,N8G]⟩,(by simp only[TB0,N8G];exact t0'),(by simp only[TB0,N8G];exact t1'),(by simp only[TB1,N8G];exact t39'),(by simp only[TB1,N8G];exact t40')⟩⟩⟩
 ·have d1:decide (i<ss.length)=false:=Zc hlt
  simp(maxSteps:=4000000) (disch:=first|assumption|omega|(simp -implicitDefEqProofs only[Zu,Zv]<;>first|assumption|omega)|decide) only[t41,t40,d1,ZI,ZfI,ZC,N8G,Zr,Zs,Zd,Ze,Zf,Nat.reduceEqDiff,reduceCtorEq,TB0,TB1]
  exact⟨_,_,rfl, .inr ⟨by simp,rfl,⟨⟨i,(by simp only[TB1,N8G];exact t41'),hi,by omega,(by simp only[TB0,N8G];exact t5')⟩,(by simp only[TB0,N8G];exact t0'),(by simp only[TB0,N8G];exact t1'),(by simp only[TB1,N8G];exact t39'),(by simp only[TB1,N8G];exact t40')⟩⟩⟩
theorem Zyu{cl:Nat→List AV→Heap→CR}{b:Nat}{ss:List (List UInt8)}{H0:Heap}(hT:TRow H0 b ss)(hc:ss.length≤9000)(hs:ZdP ss≤1000000000)(y f d r)(x:X)(m:Nat)(tm:TM)(H:Heap)(h:H=H0∧J0 b ss m tm):
  ∃o tm' H',ZfI ⟨cl,y,f,d,r⟩ tm H x= .ok o tm' H' x∧((o= .normal∧ ∃k,k<m∧(H'=H0∧J0 b ss k tm'))∨(o≠ .normal∧(o= .exit 1∧H'=H0∧J0 b ss 0 tm'))):=by
 obtain⟨rfl,h⟩:=h
 obtain⟨o,tm',e,h3⟩:=ZAJ (cl:=cl) hT hc hs y f d r x m tm h
 refine⟨o,tm',H,e,?_⟩
 rcases h3 with⟨h4,k,h5,h6⟩|⟨h4,h5,h6⟩
 ·exact .inl ⟨h4,k,h5,rfl,h6⟩
 ·exact .inr ⟨h4,h5,rfl,h6⟩
structure J1I(H0:Heap)(b N:Nat)(ss:List (List UInt8))(m:Nat)(tm:TM)(H:Heap):Prop where
 i: ∃i,ZbL tm=nI .i64 i∧i≤ss.length - 1∧m=ss.length - 1 - i∧BldP H H0.nx N (Wc (ss.take (i+1)))
 t1:gt1 tm= .str [44]
 t8:gt8 tm= .ptr H0.nx 0
 t63:QW tm= .slice b 1 (ss.length - 1) none
 t64:Zbk tm=nI .i64 (ss.length - 1)
 k:Keep H0 H []
theorem ZAK{Zm:Lib}{fs:T CF}{fuel:Nat}(E:Env Zm fs fuel){k n:Nat}{H0:Heap}{b N:Nat}{ss:List (List UInt8)}(hT:TRow H0 b ss)(hb:b<H0.nx)(hc:ss.length≤9000)(h2:2≤ss.length)(hN:(Wc ss).length=N)(y f d r)(x:X)(m:Nat)(tm:TM)(H:Heap)(h:J1I H0 b N ss m tm H):
  ∃o tm' H',Zia ⟨ZR (LK Zm fs fuel k) fs fuel (n+3),y,f,d,r⟩ tm H x= .ok o tm' H' x∧((o= .normal∧ ∃k,k<m∧J1I H0 b N ss k tm' H')∨(o≠ .normal∧(o= .exit 3∧gt8 tm'= .ptr H0.nx 0∧BldP H' H0.nx N (Wc ss)∧Keep H0 H' []))):=by
 obtain⟨⟨i,t65,hi,rfl,bl⟩,t1,t8,t63,t64,k0⟩:=h
 have t1':=t1;have t8':=t8;have t63':=t63;have t64':=t64
 simp only[ZbE] at t1
 simp only[Zl9] at t8
 simp only[ZEY] at t63
 simp only[ZEZ] at t64
 simp only[ZE0] at t65
 obtain⟨rw_,g,_,_,ld⟩:=hT.keep hb k0
 have hne:ss≠[]:=by intro e;subst e;simp at h2
 by_cases hlt:i<ss.length - 1
 ·have d1:decide (i<ss.length - 1)=true:=Zh hlt
  have ld:=fun(G:Heap)=>ld (1+i) G (by omega)
  rw[show 1+i=i+1 by omega] at ld
  have ix:=fun(G:Heap)=>Wz hlt b 1 none .i64 G
  rw[show 1+i=i+1 by omega] at ix
  have hj:=Zsr (l:=ss) (i:=i) (by omega)
  have hle:=ZlT (k:=i+2) (by omega) hne
  rw[hj,Zq,Zq,Zn,Zw] at hle
  obtain⟨H2,e2,b2,w2⟩:=ZdT E (k:=k) (n:=n) bl (m:=[44]) (by rw[Zn,Zw];omega)
  have hle':(Wc (ss.take (i+1))++[44]).length+(ss.getD (i+1) []).length≤N:=by rw[Zq,Zn,Zw];omega
  obtain⟨H3,e3,b3,w3⟩:=ZdT E (k:=k) (n:=n) b2 (m:=ss.getD (i+1) []) hle'
  have k3:=Below.keep (Below.keep k0 w2 (Zk _)) w3 (Zk _)
  rw[←hj] at b3
  generalize ss.getD (i+1) []=e at ld e3
  simp(maxSteps:=4000000) (disch:=first|assumption|omega|(simp -implicitDefEqProofs only[Zu,Zv]<;>first|assumption|omega)|decide) only[t1,t8,t63,t64,t65,d1,g,ld,ix,e2,e3,ZI,Yw,Zia,ZC,N8G,Zr,Zs,Zd,Ze,Zf,Nat.reduceEqDiff,reduceCtorEq,TB0,TB1,TB2]
  refine⟨_,_,_,rfl,?_⟩
  exact .inl ⟨rfl,ss.length - 1 - (i+1),by omega,⟨⟨i+1,(by simp only[TB2,N8G]),by omega,rfl,b3⟩,(by simp only[TB0,N8G];exact t1'),(by simp only[TB0,N8G];exact t8'),(by simp only[TB1,N8G];exact t63'),(by simp only[TB2,N8G];exact t64'),k3⟩⟩
 ·have d1:decide (i<ss.length - 1)=false:=Zc hlt
  rw[ZK (by omega)] at bl
  simp(maxSteps:=4000000) (disch:=first|assumption|omega|(simp -implicitDefEqProofs only[Zu,Zv]<;>first|assumption|omega)|decide) only[t64,t65,d1,ZI,Zia,ZC,N8G,Zr,Zs,Zd,Ze,Zf,Nat.reduceEqDiff,reduceCtorEq,TB0,TB1,TB2]
  refine⟨_,_,_,rfl,?_⟩
  exact .inr ⟨by simp,rfl,(by simp only[TB0,N8G];exact t8'),bl,k0⟩
theorem ZFi{Zm:Lib}{fs:T CF}{fuel:Nat}(E:Env Zm fs fuel)(M:MNZ Zm){k n sb N:Nat}{H:Heap}(g:H.t.get sb=some (rG 87 1 [.nilp, .nils] 0 false true true))(hlow:sb<H.nx)(hro:H.ro≤sb)(h0:0<N)(hN:N≤281474976710656):
  ∃H',ZR (LK Zm fs fuel k) fs fuel (n+3) 92 [.ptr sb 0,nI .i64 N] H= .ret (.tup []) H'∧BldP H' sb N []∧Below sb H H':=by
 rw[ZV (ZN E.n92 (.inr rfl) _ _) E.f92]
 have ec:=fun{j}=>ZfN (Zm:=Zm) (fs:=fs) (fuel:=fuel) E (k:=k) (n:=j) g hro (.inl rfl)
 obtain⟨H1,hH1⟩: ∃G,H.put sb (rG 87 1 [.ptr sb 0, .nils] 0 false true true)=G:=⟨_,rfl⟩
 rw[hH1] at ec
 have nx1:H1.nx=H.nx:=by rw[←hH1];rfl
 have ro1:H1.ro=H.ro:=by rw[←hH1];rfl
 have g1:H1.t.get sb=some (rG 87 1 [.ptr sb 0, .nils] 0 false true true):=by rw[←hH1,Yo]
 obtain⟨H2,e2,b2,w2⟩:=ZFh E M (k:=k) (n:=n) g1 (by omega) (by omega) h0 hN rfl
 have lp:YA H.nx (.ptr sb 0)=true:=ZL hlow 0
 have lp1:YA H.nx (.ptr sb 1)=true:=ZL hlow 1
 have d1:decide (N<0)=false:=Zc (by omega)
 have d2:decide (0<N)=true:=Zh h0
 simp(maxSteps:=4000000) (disch:=first|assumption|omega|(simp -implicitDefEqProofs only[Zu,Zv]<;>first|assumption|omega)|decide) only[ec,lp,lp1,g1,nx1,d1,d2,e2,ZH,ZtA,ZnI,Zcc,YO,ZI,c92,ZC,N8G,Zr,Zs,Zd,Ze,Zf,Nat.reducePow,Nat.reduceDiv,Nat.reduceMod,Nat.reduceEqDiff,reduceCtorEq,TB0]
 refine⟨_,rfl,?_⟩
 exact⟨b2,(Below.trans (by rw[←hH1];exact Below.put (Zk _)) w2)⟩
theorem Zyv{Zm:Lib}{fs:T CF}{fuel:Nat}(E:Env Zm fs fuel){n:Nat}{ss:List (List UInt8)}{v:AV}{lo:Nat}{H:Heap}(M:MNZ Zm)(h:RBuf H v 9 1 (ss.map fun s=>[AV.str s]) lo)(hc:ss.length≤9000)(hs:(Wc ss).length≤900000000)(hro:H.ro≤H.nx):
  ∃H',ZR (LK Zm fs fuel 1) fs fuel (n+4) 114 [v, .str [44]] H= .ret (.str (Wc ss)) H'∧Keep H H' []:=by
 rw[ZV (ZN E.n114 (.inl (by decide)) _ _) E.f114]
 rcases h with⟨hn,rfl⟩|⟨hn,b,r,rfl,hr,hlo⟩
 ·have:ss=[]:=by cases ss with|nil=>rfl|cons a l=>simp at hn
  subst this
  have d0:decide (0=0)=true:=rfl
  simp(maxSteps:=4000000) (disch:=first|assumption|omega|(simp -implicitDefEqProofs only[Zu,Zv]<;>first|assumption|omega)|decide) only[d0,ZW,Zcc,Zqz,ZC,N8G,Zr,Zs,Zd,Ze,Zf,Nat.reducePow,Nat.reduceDiv,Nat.reduceMod,Nat.reduceEqDiff,reduceCtorEq,TB0,TB1,TB2]
  refine⟨_,rfl,?_⟩
  exact Keep.refl _ _
 ·have hT:=TRow.of hr
  have hb:=hr.low
  rw[ZA]
  have hne:ss≠[]:=by rintro rfl;exact hn rfl
  have hp:=List.length_pos_iff.2 hne
  have d0:decide (ss.length=0)=false:=Zc (by omega)
  by_cases h1:ss.length=1
  ·have d1:decide (ss.length=1)=true:=Zh h1
   obtain⟨rw_,g,_,_,ld⟩:=hT
   have ld:=fun(G:Heap)=>ld 0 G (by omega)
   have ix:=fun(G:Heap)=>Wz hp b 0 none .i64 G
   have ej:Wc ss=ss.getD 0 []:=by
    cases ss with
    |nil=>simp at h1
    |cons s l=>
     have:l=[]:=List.length_eq_zero_iff.1 (by simpa using h1)
     subst this;show s++[]=s;simp
   rw[ej]
   simp(maxSteps:=4000000) (disch:=first|assumption|omega|(simp -implicitDefEqProofs only[Zu,Zv]<;>first|assumption|omega)|decide) only[d0,d1,ZW,VL,g,ld,ix,Zi,Zt,Zqz,ZC,N8G,Zr,Zs,Zd,Ze,Zf,Nat.reducePow,Nat.reduceDiv,Nat.reduceMod,Nat.reduceEqDiff,reduceCtorEq,TB0,TB1,TB2]
   refine⟨_,rfl,?_⟩
   exact Keep.refl _ _
  ·have d1:decide (ss.length=1)=false:=Zc h1
   have h2:2≤ss.length:=by omega
   have dl:decide (0<1)=true:=rfl
   have l44:([44]:List UInt8).length=1:=rfl
   have hN:=ZnE hne
   have dq:decide (9223372036854775807/(ss.length - 1)≤1)=false:=Zc (by
    intro hq
    have:=(Nat.div_le_iff_le_mul_add_pred (show 0<ss.length - 1 by omega)).1 hq
    omega)
   simp(maxSteps:=4000000) (disch:=first|assumption|omega|(simp -implicitDefEqProofs only[Zu,Zv]<;>first|assumption|omega)|decide) only[l44,d0,d1,dl,dq,ZW,ZU,Y2,VL,Yd,YO,ZCr,Zlu,Yw,Nat.one_mul,Zi,Zqz,ZC,N8G,Zr,Zs,Zd,Ze,Zf,Nat.reducePow,Nat.reduceDiv,Nat.reduceMod,Nat.reduceEqDiff,reduceCtorEq,TB0,TB1,TB2]
   generalize hL:WI (ZfI _) fuel _ _ _=L
   obtain⟨tm1,rfl,ji⟩: ∃tm1,L= .ok (.exit 1) tm1 H ⟨[],none⟩∧J0 b ss 0 tm1:=by
    obtain⟨o,tm1,H1,e,_,rfl,rfl,ji⟩:=YC (P:=fun T=>J0 b ss ss.length T) (Q:=fun o tm' H'=>o= .exit 1∧H'=H∧J0 b ss 0 tm')
     (fun T hi'=>YE (fun m tm H'=>H'=H∧J0 b ss m tm) _ (fun m tm H' h'=>Zyu hT hc (by omega) _ _ _ _ _ m tm H' h') fuel ss.length T H (by have:=E.big;omega) ⟨rfl,hi'⟩) hL ⟨⟨0,rfl,ZX _,rfl,rfl⟩,rfl,rfl,rfl,rfl⟩
    exact⟨tm1,e,ji⟩
   obtain⟨⟨i,t41,hi,hm,t5⟩,t0,t1,_,_⟩:=ji
   rw[ZK (by omega),←hN] at t5
   simp only[Zck] at t0
   simp only[ZbE] at t1
   simp only[ZfU] at t5
   have t1'':=t1
   obtain⟨H1,hH1⟩: ∃G,H.new (rG 87 1 [.nilp, .nils] 0 false true true)=G:=⟨_,rfl⟩
   have k1:Keep H H1 []:=by rw[←hH1];exact Keep.new H _ _
   have nx1:H1.nx=H.nx+1:=by rw[←hH1];rfl
   have g1:H1.t.get H.nx=some (rG 87 1 [.nilp, .nils] 0 false true true):=by rw[←hH1,ZP rfl]
   obtain⟨H2,e2,b2,w2⟩:=ZFi E M (k:=1) (n:=n) (N:=(Wc ss).length) g1 (by omega) (by rw[k1.ro];exact hro) (by omega) (by omega)
   have k2:=Below.keep k1 w2 (Zk _)
   obtain⟨rw2,g2,hz2,hs2,ld2⟩:=hT.keep hb k2
   have ldA:=fun(G:Heap)=>ld2 0 G (by omega)
   have ixA:=fun(G:Heap)=>Wz hp b 0 none .i64 G
   have hle:=ZlT (k:=1) (by omega) hne
   have ej:Wc (ss.take 1)=ss.getD 0 []:=by
    cases ss with
    |nil=>simp at hp
    |cons s l=>show s++[]=s;simp
   rw[ej] at hle
   obtain⟨H3,e3,b3,w3⟩:=ZdT E (k:=1) (n:=n) b2 (m:=ss.getD 0 []) (by rw[Zw];omega)
   have k3:=Below.keep k2 w3 (Zk _)
   obtain⟨rw3,g3,hz3,hs3,ld3⟩:=hT.keep hb k3
   have sl:=ZqR g3 hz3 hs3 (by omega) .i64
   have lS:=fun(G:Heap)=>VL b 1 (ss.length - 1) none G
   simp(maxSteps:=4000000) (disch:=first|assumption|omega|(simp -implicitDefEqProofs only[Zu,Zv]<;>first|assumption|omega)|decide) only[t0,t1,t5,hH1,nx1,e2,g2,ldA,ixA,e3,sl,lS,Zt,Zi,Zqz,ZC,N8G,Zr,Zs,Zd,Ze,Zf,Nat.reducePow,Nat.reduceDiv,Nat.reduceMod,Nat.reduceEqDiff,reduceCtorEq,TB0,TB1,TB2]
   generalize hL:WI (Zia _) fuel _ _ _=L
   obtain⟨o,tm2,H4,rfl,_,rfl,t8,b4,k4⟩:=YC (P:=fun T=>J1I H b (Wc ss).length ss (ss.length - 1) T H3) (Q:=fun o tm' H'=>o= .exit 3∧gt8 tm'= .ptr H.nx 0∧BldP H' H.nx (Wc ss).length (Wc ss)∧Keep H H' [])
    (fun T hi'=>YE (J1I H b (Wc ss).length ss) _ (fun m tm H' h'=>ZAK E (k:=1) (n:=n) hT hb hc h2 rfl _ _ _ _ _ m tm H' h') fuel (ss.length - 1) T H3 (by have:=E.big;omega) hi') hL
    ⟨⟨0,rfl,ZX _,rfl,by rw[Zi,ej];exact b3⟩,by simp only[TB0,N8G];exact t1'',rfl,rfl,rfl,k3⟩
   simp only[Zl9] at t8
   obtain⟨H5,e5,w5⟩:=Zyr E (k:=1) (n:=n+2) b4 (by omega) (by omega)
   simp(maxSteps:=4000000) (disch:=first|assumption|omega|(simp -implicitDefEqProofs only[Zu,Zv]<;>first|assumption|omega)|decide) only[t8,e5,Zqz,ZC,N8G,Zr,Zs,Zd,Ze,Zf,Nat.reducePow,Nat.reduceDiv,Nat.reduceMod,Nat.reduceEqDiff,reduceCtorEq,TB0,TB1,TB2]
   refine⟨_,rfl,?_⟩
   exact Below.keep k4 w5 (Zk _)
theorem ZFj{Zm:Lib}{fs:T CF}{fuel:Nat}(E:Env Zm fs fuel){k n:Nat}(hk:2≤k){ss:List (List UInt8)}{v:AV}{lo:Nat}{H:Heap}(M:MNZ Zm)(h:RBuf H v 9 1 (ss.map fun s=>[AV.str s]) lo)(hc:ss.length≤9000)(hs:(Wc ss).length≤900000000)(hro:H.ro≤H.nx):
  ZR (LK Zm fs fuel k) fs fuel (n+1) 114 [v, .str [44]] H= .ret (.str (Wc ss)) H:=by
 obtain⟨H',e,g⟩:=Zyv E (n:=896) (H:=H) M h hc hs hro
 exact Y6 (r:=1) rfl rfl e g (rfl) hk
end
end Go.AI
namespace Go.AI
open Go
noncomputable section
theorem ZoQ{n:Nat}(h:n<128):(Utf8.encode (n:Int)).data.toList=[UInt8.ofNat n]:=by
 have: ∀n:Fin 128,(Utf8.encode ((n.val:Nat):Int)).data.toList=[UInt8.ofNat n.val]:=by decide
 exact this ⟨n,h⟩
def ZBL(a:AV)(H:Heap):OR:=Zae a fun _ n=> .val (.str (Utf8.encode n).data.toList) H
theorem Zyw(x:EvF)(tm:TM)(H:Heap):Zo0 x tm H=ZBL (x tm) H:=rfl
theorem ZjU{k:IntKind}{n:Nat}(h:n<128)(H:Heap):ZBL (nI k n) H= .val (.str [UInt8.ofNat n]) H:=by
 show OR.val (.str (Utf8.encode (n:Int)).data.toList) H=_
 rw[ZoQ h]
theorem ZvA{a:Nat}(ha:a<256)(H:Heap):Zng Qf (nI .u8 a) (nI .u8 15) H= .val (nI .u8 (a % 16)) H:=by
 show ZS (kEq .u8 .u8) (VM .u8 (.ofNat (Nat.land (a % 256) (15 % 256))) H)=_
 rw[YM,YV,Zh0,Z0 ha]
 show OR.val _ H=_
 rw[show Nat.land a (15 % 256)=a&&&(2^4 - 1) from rfl,Nat.and_two_pow_sub_one_eq_mod,Z0 (show a % 2^4<256 by omega)];rfl
theorem Zyx(s:List UInt8)(i:Nat):UInt8.ofNat (by_ s i)=s.getD i 0:=by unfold by_;exact UInt8.ofNat_toNat
structure QI(H0:Heap)(s:List UInt8)(m:Nat)(tm:TM)(H:Heap):Prop where
 i: ∃i,gt9 tm=nI .i64 i∧i≤s.length∧m=s.length - i∧Bld H H0.nx ([34]++(s.take i).flatMap qB)
 t0:gt0 tm= .str s
 t3:gt3 tm= .ptr H0.nx 0
 t8:gt8 tm=nI .i64 s.length
 k:Keep H0 H []
 ro:H.ro≤H.nx
theorem ZC4{Zm:Lib}{fs:T CF}{fuel:Nat}(E:Env Zm fs fuel){n:Nat}{H0:Heap}{s:List UInt8}(hs:s.length≤9000)(y f d r)(x:X)(m:Nat)(tm:TM)(H:Heap)(h:QI H0 s m tm H):
  ∃o tm' H',ZcE ⟨ZR (LK Zm fs fuel 1) fs fuel (n+3),y,f,d,r⟩ tm H x= .ok o tm' H' x∧((o= .normal∧ ∃k,k<m∧QI H0 s k tm' H')∨(o≠ .normal∧(o= .exit 0∧gt3 tm'= .ptr H0.nx 0∧Bld H' H0.nx ([34]++s.flatMap qB)∧Keep H0 H' []∧H'.ro≤H'.nx))):=by
 obtain⟨⟨i,t9,hi,rfl,b⟩,t0,t3,t8,k0,hro⟩:=h
 have t0':=t0;have t3':=t3;have t8':=t8
 simp only[Zck] at t0
 simp only[Zfl] at t3
 simp only[Zl9] at t8
 simp only[ZED] at t9
 by_cases hlt:i<s.length
 ·have d1:decide (i<s.length)=true:=Zh hlt
  have hq:=Ztq (s.take i)
  rw[Yb] at hq
  have hb:=ZnC s i
  have hmid:=ZAD hlt
  have done: ∀{H2:Heap} {m:List UInt8} {tm2:TM},m=qB (s.getD i 0)→Bld H2 H0.nx ([34]++(s.take i).flatMap qB++m)→Below H0.nx H H2→gt9 tm2=nI .i64 (i+1)→gt0 tm2= .str s→gt3 tm2= .ptr H0.nx 0→gt8 tm2=nI .i64 s.length→QI H0 s (s.length - (i+1)) tm2 H2:=fun hm b2 w2 a1 a2 a3 a4=>
   ⟨⟨i+1,a1,by omega,rfl,by rw[ZCY hlt,←hm,←VE];exact b2⟩,a2,a3,a4,Below.keep k0 w2 (Zk _),by rw[w2.ro];have:=w2.nx;omega⟩
  have slm:=fun(G:Heap)=>Zi7 (s:=s) (p:=i) (q:=i+1) (by omega) (by omega) .i64 .i64 G
  rw[hmid] at slm
  have lowsb:YA H.nx (.ptr H0.nx 0)=true:=ZL b.low 0
  generalize hc:by_ s i=cc at hb
  have hcc:(s.getD i 0).toNat=cc:=hc
  have ofc:UInt8.ofNat cc=s.getD i 0:=by rw[←hc,Zyx]
  have ibs:=fun(G:Heap)=>Yn hlt .i64 G
  rw[hc] at ibs
  by_cases h34:cc=34
  ·have d34:decide (cc=34)=true:=Zh h34
   obtain⟨H2,e2,b2,w2⟩:=Zfw E (k:=1) (n:=n) b (m:=[92,s.getD i 0]) (by simp only[Zq,Zn,Zw];omega) hro
   simp(maxSteps:=4000000) (disch:=first|assumption|(simp only[Zn,Zw];omega)|omega|(simp -implicitDefEqProofs only[Zu,Zv]<;>first|assumption|omega)|decide) only[t0,t3,t8,t9,d1,d34,ibs,slm,ZI,ZW,Yw,WN,QB,e2,ZcE,ZC,N8G,Zr,Zs,Zd,Ze,Zf,Nat.reducePow,Nat.reduceDiv,Nat.reduceMod,Nat.reduceEqDiff,reduceCtorEq,TB0,TB1]
   refine⟨_,_,_,rfl,?_⟩
   exact .inl ⟨rfl,_,by omega,done (by unfold qB;rw[hcc,if_pos (.inl h34)]) b2 w2 rfl t0' t3' t8'⟩
  have d34:decide (cc=34)=false:=Zc h34
  by_cases h92:cc=92
  ·have d92:decide (cc=92)=true:=Zh h92
   obtain⟨H2,e2,b2,w2⟩:=Zfw E (k:=1) (n:=n) b (m:=[92,s.getD i 0]) (by simp only[Zq,Zn,Zw];omega) hro
   simp(maxSteps:=4000000) (disch:=first|assumption|(simp only[Zn,Zw];omega)|omega|(simp -implicitDefEqProofs only[Zu,Zv]<;>first|assumption|omega)|decide) only[t0,t3,t8,t9,d1,d34,d92,ibs,slm,ZI,ZW,Yw,WN,QB,e2,ZcE,ZC,N8G,Zr,Zs,Zd,Ze,Zf,Nat.reducePow,Nat.reduceDiv,Nat.reduceMod,Nat.reduceEqDiff,reduceCtorEq,TB0,TB1]
   refine⟨_,_,_,rfl,?_⟩
   exact .inl ⟨rfl,_,by omega,done (by unfold qB;rw[hcc,if_pos (.inr h92)]) b2 w2 rfl t0' t3' t8'⟩
  have d92:decide (cc=92)=false:=Zc h92
  by_cases h32:cc<32
  ·have d32:decide (cc<32)=true:=Zh h32
   have hd1:cc/16<2:=by omega
   have hd2:cc % 16<16:=by omega
   obtain⟨H2,e2,b2,w2⟩:=Zfw E (k:=1) (n:=n) b (m:=[92,117,48,48,Zss (cc/16),Zss (cc % 16)]) (by simp only[Zq,Zn,Zw];omega) hro
   have x1:=fun(G:Heap)=>Yn (s:=[48,49]) (i:=cc/16) hd1 .u8 G
   have x2:=fun(G:Heap)=>Yn (s:=[48,49,50,51,52,53,54,55,56,57,97,98,99,100,101,102]) (i:=cc % 16) hd2 .u8 G
   rw[ZC0 hd1] at x1
   rw[ZCZ hd2] at x2
   have r1:=fun(G:Heap)=>ZjU (k:= .u8) (Ztr (n:=cc/16) (by omega)) G
   have r2:=fun(G:Heap)=>ZjU (k:= .u8) (Ztr hd2) G
   rw[UInt8.ofNat_toNat] at r1 r2
   simp(maxSteps:=4000000) (disch:=first|assumption|(simp only[Zn,Zw];omega)|omega|(simp -implicitDefEqProofs only[Zu,Zv]<;>first|assumption|omega)|decide) only[t0,t3,t8,t9,d1,d34,d92,d32,ibs,lowsb,ZI,ZW,Yw,ZqP,x1,x2,ZBG,r1,r2,Zyw,ZvA,WN,QB,Zlz,e2,ZcE,ZC,N8G,Zr,Zs,Zd,Ze,Zf,Nat.reducePow,Nat.reduceDiv,Nat.reduceMod,Nat.reduceEqDiff,reduceCtorEq,TB0,TB1]
   refine⟨_,_,_,rfl,?_⟩
   exact .inl ⟨rfl,_,by omega,done (by unfold qB;rw[hcc,if_neg (by omega),if_pos h32]) b2 w2 rfl t0' t3' t8'⟩
  have d32:decide (cc<32)=false:=Zc h32
  obtain⟨H2,e2,b2,w2⟩:=Zjp E (k:=1) (n:=n) b (x:=cc) hb (by simp only[Zq,Zn,Zw];omega) hro
  rw[ofc] at b2
  simp(maxSteps:=4000000) (disch:=first|assumption|omega|(simp -implicitDefEqProofs only[Zu,Zv]<;>first|assumption|omega)|decide) only[t0,t3,t8,t9,d1,d34,d92,d32,ibs,ZI,ZW,Yw,e2,ZcE,ZC,N8G,Zr,Zs,Zd,Ze,Zf,Nat.reducePow,Nat.reduceDiv,Nat.reduceMod,Nat.reduceEqDiff,reduceCtorEq,TB0,TB1]
  refine⟨_,_,_,rfl,?_⟩
  exact .inl ⟨rfl,_,by omega,done (by unfold qB;rw[hcc,if_neg (by omega),if_neg h32]) b2 w2 rfl t0' t3' t8'⟩
 ·have d1:decide (i<s.length)=false:=Zc hlt
  simp(maxSteps:=4000000) (disch:=first|assumption|omega|(simp -implicitDefEqProofs only[Zu,Zv]<;>first|assumption|omega)|decide) only[t8,t9,d1,ZI,ZcE,ZC,N8G,Zr,Zs,Zd,Ze,Zf,Nat.reducePow,Nat.reduceDiv,Nat.reduceMod,Nat.reduceEqDiff,reduceCtorEq,TB0,TB1]
  refine⟨_,_,_,rfl,?_⟩
  exact .inr ⟨by simp,rfl,t3',by rw[ZK (by omega)] at b;exact b,k0,hro⟩
theorem Zsz{Zm:Lib}{fs:T CF}{fuel:Nat}(E:Env Zm fs fuel){n:Nat}{s:List UInt8}{H:Heap}(hs:s.length≤9000)(hro:H.ro≤H.nx):
  ∃H',ZR (LK Zm fs fuel 1) fs fuel (n+4) 113 [.str s] H= .ret (.str (quo s)) H'∧Keep H H' []:=by
 rw[ZV (ZN E.n113 (.inl (by decide)) _ _) E.f113]
 obtain⟨H1,hH1⟩: ∃G,H.new (rG 87 1 [.nilp, .nils] 0 false true true)=G:=⟨_,rfl⟩
 have b1:=Bld.new (H:=H) hro
 rw[hH1] at b1
 have k1:Keep H H1 []:=by rw[←hH1];exact Keep.new H _ _
 have ro1:H1.ro≤H1.nx:=by rw[k1.ro];have:=k1.nx;omega
 obtain⟨H2,e2,b2,w2⟩:=Zjp E (k:=1) (n:=n) b1 (x:=34) (by decide) (by simp) ro1
 have k2:=Below.keep k1 w2 (Zk _)
 simp(maxSteps:=4000000) (disch:=first|assumption|omega|(simp -implicitDefEqProofs only[Zu,Zv]<;>first|assumption|omega)|decide) only[hH1,e2,Yd,Zx0,ZC,N8G,Zr,Zs,Zd,Ze,Zf,Nat.reduceEqDiff,reduceCtorEq,TB0,TB1]
 generalize hL:WI (ZcE _) fuel _ _ _=L
 obtain⟨o,tm1,H3,rfl,_,rfl,t3,b3,k3,ro3⟩:=YC (P:=fun T=>QI H s s.length T H2) (Q:=fun o tm' H'=>o= .exit 0∧gt3 tm'= .ptr H.nx 0∧Bld H' H.nx ([34]++s.flatMap qB)∧Keep H H' []∧H'.ro≤H'.nx)
  (fun T hi'=>YE (QI H s) _ (fun m tm H' h'=>ZC4 E hs _ _ _ _ _ m tm H' h') fuel s.length T H2 (by have:=E.big;omega) hi') hL
  ⟨⟨0,rfl,ZX _,rfl,b2⟩,rfl,rfl,rfl,k2,by rw[w2.ro];have:=w2.nx;omega⟩
 simp only[Zfl] at t3
 have hq:=Ztq s
 obtain⟨H4,e4,b4,w4⟩:=Zjp E (k:=1) (n:=n) b3 (x:=34) (by decide) (by simp only[Zq,Zn,Zw];omega) ro3
 obtain⟨H5,e5,w5⟩:=ZAI E (k:=1) (n:=n+2) b4 (by simp only[Zq,Zn,Zw];omega)
 simp(maxSteps:=4000000) (disch:=first|assumption|omega|(simp -implicitDefEqProofs only[Zu,Zv]<;>first|assumption|omega)|decide) only[t3,e4,e5,Zx0,ZC,N8G,Zr,Zs,Zd,Ze,Zf,Nat.reduceEqDiff,reduceCtorEq,TB0,TB1]
 refine⟨_,rfl,?_⟩
 exact Below.keep (Below.keep k3 w4 (Zk _)) w5 (Zk _)
theorem Zyy{Zm:Lib}{fs:T CF}{fuel:Nat}(E:Env Zm fs fuel){k n:Nat}(hk:2≤k){s:List UInt8}{H:Heap}(hs:s.length≤9000)(hro:H.ro≤H.nx):
  ZR (LK Zm fs fuel k) fs fuel (n+1) 113 [.str s] H= .ret (.str (quo s)) H:=by
 obtain⟨H',e,g⟩:=Zsz E (n:=896) (H:=H) hs hro
 exact Y6 (r:=1) rfl rfl e g (rfl) hk
end
end Go.AI
