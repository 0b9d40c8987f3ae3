/- Texts that are split, and looked through: walked: proved without conditions but those that each names. -/
import Derived.Test.YtbdmnfoadmfjpaaGreatDoorP8
set_option maxRecDepth 1000000
set_option maxHeartbeats 0
set_option linter.unusedVariables false
set_option linter.unusedSimpArgs false
namespace Go.AI
open Go
noncomputable section
def mI:Nat->AV
 |0=>.int .i64 (.negSucc 0)
 |m+1=>nI .i64 m
theorem ZbL{m:Nat}(h:m<9223372036854775808)(G:Heap):J8 (nI .i64 m) (nI .i64 1) G=.val (mI m) G:=by
 cases m with
 |zero=>rfl
 |succ m=>exact YR (by omega) h G
theorem X7(j:Nat)(G:Heap):Te Re Vi (mI j) (nI .i64 0) G=.val (.bool (decide (0<j))) G:=by
 cases j with
 |zero=>rfl
 |succ j=>exact ZM .i64 j 0 G
theorem Wc(j:Nat)(G:Heap):Te Wf Xo (mI j) (nI .i64 0) G=.val (.bool (decide (j=0))) G:=by
 cases j with
 |zero=>rfl
 |succ j=>exact Zy .i64 j 0 G
theorem Zhr{j:Nat}(h:j<9223372036854775808)(G:Heap):RI (mI j) (nI .i64 1) G=.val (nI .i64 j) G:=by
 cases j with
 |zero=>rfl
 |succ j=>exact Yy h G
theorem ZdN(m:Nat):mI (m+1)=nI .i64 m:=rfl
theorem Mm(n j:Nat):Wu n (mI j)=true:=by cases j<;>rfl
theorem Zhs(x:Nat)(s:List UInt8):AV.int .i64 (PQ x s 0)=mI (Tg x s):=by
 rw[mE]
 cases h:Tg x s with
 |zero=>rfl
 |succ j=>rw[if_neg (by omega)];show AV.int .i64 ((0+(j+1) - 1:Nat):Int)=_;rw[show 0+(j+1) - 1=j by omega];rfl
structure LBI(s:List UInt8)(x:Nat)(H0:Heap)(m:Nat)(tm:TM)(H:Heap):Prop where
 heap:H=H0
 t0:Y3 tm=.str s
 t1:Wv tm=nI .u8 x
 t5:Wa tm=mI m
 le:m<=s.length
 cut:PH x s=PH x (s.take m)
def LBQ(s:List UInt8)(x:Nat)(H0:Heap)(o:Out)(tm:TM)(H:Heap):Prop:=H=H0∧((o=.ret∧XQ tm=mI (PH x s))∨(o=.exit 0∧PH x s=0))
theorem ZdB{s:List UInt8}{x:Nat}(hs:s.length<=90000){H0:Heap}(cx:Ctx)(X0:X)(m:Nat)(tm:TM)(H:Heap)(hI:LBI s x H0 m tm H):
  ∃o tm' H',Ec cx tm H X0=.ok o tm' H' X0∧((o=.normal∧ ∃k,k<m∧LBI s x H0 k tm' H')∨(o≠.normal∧LBQ s x H0 o tm' H')):=by
 obtain⟨rfl,t0,t1,t5,le,hc⟩:=hI
 have t0':=t0;have t1':=t1
 simp only[Um] at t0
 simp only[Mi] at t1
 simp only[QD] at t5
 cases m with
 |zero=>
  have d1:decide (0<0)=false:=rfl
  simp only[t5,X7,ZL,decide_false,Ec,Yf,Xr,Xq]
  refine⟨_,_,_,rfl,?_⟩
  exact .inr ⟨by simp,rfl,.inr ⟨rfl,by rw[hc];rfl⟩⟩
 |succ m=>
  rw[ZdN] at t5
  by_cases hx:(s.getD m 0).toNat=x
  ·have d2:decide ((s.getD m 0).toNat=x)=true:=Zj hx
   simp(disch:=omega) only[t0,t1,t5,d2,Ye,ZM,YN,ZB,decide_true,Ec,Yf,Xr,Xq]
   refine⟨_,_,_,rfl,?_⟩
   exact .inr ⟨by simp,rfl,.inl ⟨rfl,by rw[hc,ZcF (by omega) hx];rfl⟩⟩
  ·have d2:decide ((s.getD m 0).toNat=x)=false:=Ze hx
   simp(disch:=omega) only[t0,t1,t5,d2,ZbL,Ye,ZM,YN,ZB,decide_true,Ec,Yf,Xr,Xq]
   refine⟨_,_,_,rfl,?_⟩
   exact .inl ⟨rfl,m,by omega,rfl,t0',t1',rfl,by omega,by rw[hc,eR (by omega) hx]⟩
theorem pj{Zo:Lib}{fs:T CF}{fuel:Nat}(E:Env Zo fs fuel){n:Nat}{s:List UInt8}{x:Nat}{H:Heap}(hs:s.length<=90000):
  ∃H',Z8 (LK Zo fs fuel 0) fs fuel (n+2) 72 [.str s,nI .u8 x] H=.ret (mI (PH x s)) H'∧ZE H H' []:=by
 rw[Z7 (Z2 E.n72 (.inl (by decide)) _ _) E.f72]
 simp(disch:=omega) only[ZbL,ZP,c72,Yf,Xr,Xq]
 generalize hL:WP (Ec _) fuel _ _ _=L
 obtain⟨o,KO,H1,rfl,_,rfl,z⟩:=Wd (P:=λT=>LBI s x H s.length T H) (Q:=LBQ s x H)
  (λT hi=>Wo (LBI s x H) (LBQ s x H) (λm tm H1 h=>ZdB hs _ _ m tm H1 h) fuel s.length T H (by have:=E.big;omega) hi) hL
  ⟨rfl,rfl,rfl,rfl,Zq _,by rw[WO]⟩
 rcases z with⟨rfl,t4⟩|⟨rfl,e⟩
 ·simp only[TG] at t4
  simp only[t4,Yf,ZV,Xq]
  refine⟨_,rfl,?_⟩
  exact ZE.refl _ _
 ·rw[e]
  simp only[Yf,Xr,ZV,Xq]
  refine⟨_,rfl,?_⟩
  exact ZE.refl _ _
theorem Zhj{Zo:Lib}{fs:T CF}{fuel:Nat}(E:Env Zo fs fuel){k n:Nat}(hk:1<=k){s:List UInt8}{x:Nat}{H:Heap}(hs:s.length<=90000):
  Z8 (LK Zo fs fuel k) fs fuel (n+1) 72 [.str s,nI .u8 x] H=.ret (mI (PH x s)) H:=by
 obtain⟨H',e,g⟩:=pj E (n:=898) (H:=H) hs
 exact Xp (r:=0) rfl rfl e g (Mm _ _) hk
theorem jU{Zo:Lib}{fs:T CF}{fuel:Nat}(E:Env Zo fs fuel){n:Nat}{s:List UInt8}{x:Nat}{H:Heap}(hs:s.length<=90000):
  ∃H',Z8 (LK Zo fs fuel 1) fs fuel (n+2) 52 [.str s,nI .u8 x] H=.ret (mI (PH x s)) H'∧ZE H H' []:=by
 rw[Z7 (Z2 E.n52 (.inl (by decide)) _ _) E.f52]
 have e1:=λ{j}=>Zhj E (k:=1) (n:=j) (by decide) (x:=x) (H:=H) hs
 simp only[e1,c52,Yf,Xr,ZV,Xq]
 refine⟨_,rfl,?_⟩
 exact ZE.refl _ _
theorem Zfw{Zo:Lib}{fs:T CF}{fuel:Nat}(E:Env Zo fs fuel){k n:Nat}(hk:2<=k){s:List UInt8}{x:Nat}{H:Heap}(hs:s.length<=90000):
  Z8 (LK Zo fs fuel k) fs fuel (n+1) 52 [.str s,nI .u8 x] H=.ret (mI (PH x s)) H:=by
 obtain⟨H',e,g⟩:=jU E (n:=898) (H:=H) hs
 exact Xp (r:=1) rfl rfl e g (Mm _ _) hk
theorem fL{Zo:Lib}{fs:T CF}{fuel:Nat}(E:Env Zo fs fuel){n:Nat}{s:List UInt8}{H:Heap}(hs:s.length<=90000):
  ∃H',Z8 (LK Zo fs fuel 2) fs fuel (n+2) 29 [.str s] H=.ret (.str (VR s)) H'∧ZE H H' []:=by
 rw[Z7 (Z2 E.n29 (.inl (by decide)) _ _) E.f29]
 have e1:=λ{j}=>Zfw E (k:=2) (n:=j) (by decide) (x:=47) (H:=H) hs
 have hc:=wC 47 s
 unfold VR
 simp(disch:=omega) only[e1,Zhr,Ya,c29,Yf,Xr,ZV,Yv,Xq]
 refine⟨_,rfl,?_⟩
 exact ZE.refl _ _
theorem base{Zo:Lib}{fs:T CF}{fuel:Nat}(E:Env Zo fs fuel){k n:Nat}(hk:3<=k){s:List UInt8}{H:Heap}(hs:s.length<=90000):
  Z8 (LK Zo fs fuel k) fs fuel (n+1) 29 [.str s] H=.ret (.str (VR s)) H:=by
 obtain⟨H',e,g⟩:=fL E (n:=898) (H:=H) hs
 exact Xp (r:=2) rfl rfl e g (rfl) hk
theorem jG{Zo:Lib}{fs:T CF}{fuel:Nat}(E:Env Zo fs fuel){n:Nat}{s p:List UInt8}{H:Heap}(hs:s.length<=90000):
  ∃H',Z8 (LK Zo fs fuel 0) fs fuel (n+2) 73 [.str s,.str p] H=.ret (.bool (zB p s)) H'∧ZE H H' []:=by
 rw[Z7 (Z2 E.n73 (.inl (by decide)) _ _) E.f73]
 unfold zB
 by_cases h:p.length<=s.length
 ·rw[Zj h]
  have d1:decide (p.length<=s.length)=true:=Zj h
  simp(disch:=omega) only[d1,Sm,ZM,YE,ZP,Yb,c73,Yf,Xr,ZV,Yv,Xq]
  refine⟨_,rfl,?_⟩
  exact ZE.refl _ _
 ·rw[Ze h]
  have d1:decide (p.length<=s.length)=false:=Ze h
  simp only[d1,PB,ZM,ZP,c73,Yf,Xr,ZV,Xq]
  refine⟨_,rfl,?_⟩
  exact ZE.refl _ _
theorem ZjV{Zo:Lib}{fs:T CF}{fuel:Nat}(E:Env Zo fs fuel){k n:Nat}(hk:1<=k){s p:List UInt8}{H:Heap}(hs:s.length<=90000):
  Z8 (LK Zo fs fuel k) fs fuel (n+1) 73 [.str s,.str p] H=.ret (.bool (zB p s)) H:=by
 obtain⟨H',e,g⟩:=jG E (n:=898) (H:=H) hs
 exact Xp (r:=0) rfl rfl e g (rfl) hk
theorem bn{Zo:Lib}{fs:T CF}{fuel:Nat}(E:Env Zo fs fuel){n:Nat}{s p:List UInt8}{H:Heap}(hs:s.length<=90000):
  ∃H',Z8 (LK Zo fs fuel 1) fs fuel (n+2) 53 [.str s,.str p] H=.ret (.bool (zB p s)) H'∧ZE H H' []:=by
 rw[Z7 (Z2 E.n53 (.inl (by decide)) _ _) E.f53]
 have e1:=λ{j}=>ZjV E (k:=1) (n:=j) (by decide) (p:=p) (H:=H) hs
 simp only[e1,c53,Yf,Xr,ZV,Xq]
 refine⟨_,rfl,?_⟩
 exact ZE.refl _ _
theorem ZjU{Zo:Lib}{fs:T CF}{fuel:Nat}(E:Env Zo fs fuel){k n:Nat}(hk:2<=k){s p:List UInt8}{H:Heap}(hs:s.length<=90000):
  Z8 (LK Zo fs fuel k) fs fuel (n+1) 53 [.str s,.str p] H=.ret (.bool (zB p s)) H:=by
 obtain⟨H',e,g⟩:=bn E (n:=898) (H:=H) hs
 exact Xp (r:=1) rfl rfl e g (rfl) hk
theorem jV{Zo:Lib}{fs:T CF}{fuel:Nat}(E:Env Zo fs fuel){n:Nat}{s:List UInt8}{H:Heap}(hs:s.length<=90000):
  ∃H',Z8 (LK Zo fs fuel 2) fs fuel (n+2) 30 [.str s] H=.ret (nI .i64 (NB s)) H'∧ZE H H' []:=by
 rw[Z7 (Z2 E.n30 (.inl (by decide)) _ _) E.f30]
 have e1:=λ{j}=>ZjU E (k:=2) (n:=j) (by decide) (p:=[46,119,104,46]) (H:=H) hs
 unfold NB
 have eo:ZkR=[46,119,104,46,46,119,104,46,46,111,112,113]:=rfl
 have ew:whS=[46,119,104,46]:=rfl
 rw[eo,ew]
 by_cases h:s=[46,119,104,46,46,119,104,46,46,111,112,113]
 ·have d1:decide (s=[46,119,104,46,46,119,104,46,46,111,112,113])=true:=Zj h
  rw[if_pos h]
  simp only[d1,YE,c30,Yf,Xr,ZV,Xq]
  refine⟨_,rfl,?_⟩
  exact ZE.refl _ _
 ·have d1:decide (s=[46,119,104,46,46,119,104,46,46,111,112,113])=false:=Ze h
  rw[if_neg h]
  cases hq:zB [46,119,104,46] s with
  |true=>
   rw[hq] at e1
   simp only[d1,e1,YE,c30,Yf,Xr,ZV,Xq]
   refine⟨_,rfl,?_⟩
   exact ZE.refl _ _
  |false=>
   rw[hq] at e1
   simp only[d1,e1,YE,c30,Yf,Xr,ZV,reduceCtorEq,Xq]
   refine⟨_,rfl,?_⟩
   exact ZE.refl _ _
theorem Zkz{Zo:Lib}{fs:T CF}{fuel:Nat}(E:Env Zo fs fuel){k n:Nat}(hk:3<=k){s:List UInt8}{H:Heap}(hs:s.length<=90000):
  Z8 (LK Zo fs fuel k) fs fuel (n+1) 30 [.str s] H=.ret (nI .i64 (NB s)) H:=by
 obtain⟨H',e,g⟩:=jV E (n:=898) (H:=H) hs
 exact Xp (r:=2) rfl rfl e g (rfl) hk
theorem bo{Zo:Lib}{fs:T CF}{fuel:Nat}(E:Env Zo fs fuel){n:Nat}{s p:List UInt8}{H:Heap}(hs:s.length<=90000):
  ∃H',Z8 (LK Zo fs fuel 0) fs fuel (n+2) 74 [.str s,.str p] H=.ret (.bool (decide (p.length<=s.length)&&decide (s.drop (s.length - p.length)=p))) H'∧ZE H H' []:=by
 rw[Z7 (Z2 E.n74 (.inl (by decide)) _ _) E.f74]
 by_cases h:p.length<=s.length
 ·rw[Zj h]
  have d1:decide (p.length<=s.length)=true:=Zj h
  simp(disch:=omega) only[d1,Sm,ZM,YE,YR,ZP,Ya,c74,Yf,Xr,ZV,Yv,Xq]
  refine⟨_,rfl,?_⟩
  exact ZE.refl _ _
 ·rw[Ze h]
  have d1:decide (p.length<=s.length)=false:=Ze h
  simp only[d1,PB,ZM,ZP,c74,Yf,Xr,ZV,Xq]
  refine⟨_,rfl,?_⟩
  exact ZE.refl _ _
theorem Zn6{Zo:Lib}{fs:T CF}{fuel:Nat}(E:Env Zo fs fuel){k n:Nat}(hk:1<=k){s p:List UInt8}{H:Heap}(hs:s.length<=90000):
  Z8 (LK Zo fs fuel k) fs fuel (n+1) 74 [.str s,.str p] H=.ret (.bool (decide (p.length<=s.length)&&decide (s.drop (s.length - p.length)=p))) H:=by
 obtain⟨H',e,g⟩:=bo E (n:=898) (H:=H) hs
 exact Xp (r:=0) rfl rfl e g (rfl) hk
theorem oM{Zo:Lib}{fs:T CF}{fuel:Nat}(E:Env Zo fs fuel){n:Nat}{s p:List UInt8}{H:Heap}(hs:s.length<=90000):
  ∃H',Z8 (LK Zo fs fuel 1) fs fuel (n+2) 54 [.str s,.str p] H=.ret (.str (if p.length<=s.length∧s.drop (s.length - p.length)=p then s.take (s.length - p.length) else s)) H'∧ZE H H' []:=by
 rw[Z7 (Z2 E.n54 (.inl (by decide)) _ _) E.f54]
 have e1:=λ{j}=>Zn6 E (k:=1) (n:=j) (by decide) (p:=p) (H:=H) hs
 by_cases h:p.length<=s.length∧s.drop (s.length - p.length)=p
 ·rw[if_pos h]
  rw[Zj h.1,Zj h.2] at e1
  simp(disch:=omega) only[e1,Bool.and_self,YR,ZP,Yb,c54,Yf,Xr,ZV,Yv,Xq]
  refine⟨_,rfl,?_⟩
  exact ZE.refl _ _
 ·rw[if_neg h]
  have:(decide (p.length<=s.length)&&decide (s.drop (s.length - p.length)=p))=false:=by
   rw[Bool.eq_false_iff]
   intro e
   rw[Xn] at e
   exact h ⟨Zp e.1,Zp e.2⟩
  rw[this] at e1
  simp only[e1,c54,Yf,Xr,ZV,Xq]
  refine⟨_,rfl,?_⟩
  exact ZE.refl _ _
theorem Zih{Zo:Lib}{fs:T CF}{fuel:Nat}(E:Env Zo fs fuel){k n:Nat}(hk:2<=k){s p:List UInt8}{H:Heap}(hs:s.length<=90000):
  Z8 (LK Zo fs fuel k) fs fuel (n+1) 54 [.str s,.str p] H=.ret (.str (if p.length<=s.length∧s.drop (s.length - p.length)=p then s.take (s.length - p.length) else s)) H:=by
 obtain⟨H',e,g⟩:=oM E (n:=898) (H:=H) hs
 exact Xp (r:=1) rfl rfl e g (rfl) hk
theorem fe{Zo:Lib}{fs:T CF}{fuel:Nat}(E:Env Zo fs fuel){n:Nat}{s p:List UInt8}{H:Heap}(hs:s.length<=90000):
  ∃H',Z8 (LK Zo fs fuel 2) fs fuel (n+2) 31 [.str s,.str p] H=.ret (.str (if p.length<=s.length∧s.drop (s.length - p.length)=p then s.take (s.length - p.length) else s)) H'∧ZE H H' []:=by
 rw[Z7 (Z2 E.n31 (.inl (by decide)) _ _) E.f31]
 have e1:=λ{j}=>Zih E (k:=2) (n:=j) (by decide) (p:=p) (H:=H) hs
 simp only[e1,c31,Yf,Xr,ZV,Xq]
 refine⟨_,rfl,?_⟩
 exact ZE.refl _ _
theorem ZfR{Zo:Lib}{fs:T CF}{fuel:Nat}(E:Env Zo fs fuel){k n:Nat}(hk:3<=k){s p:List UInt8}{H:Heap}(hs:s.length<=90000):
  Z8 (LK Zo fs fuel k) fs fuel (n+1) 31 [.str s,.str p] H=.ret (.str (if p.length<=s.length∧s.drop (s.length - p.length)=p then s.take (s.length - p.length) else s)) H:=by
 obtain⟨H',e,g⟩:=fe E (n:=898) (H:=H) hs
 exact Xp (r:=2) rfl rfl e g (rfl) hk
theorem fh(p:List UInt8):(if (VR p).length<=p.length∧p.drop (p.length - (VR p).length)=VR p then p.take (p.length - (VR p).length) else p)=RJ p:=by
 have hc:=wC 47 p
 unfold VR RJ
 rw[YW,show p.length - (p.length - PH 47 p)=PH 47 p by omega,if_pos ⟨by omega,rfl⟩]
theorem ZeO(d:List UInt8):(if ([47]:List UInt8).length<=d.length∧d.drop (d.length - ([47]:List UInt8).length)=[47] then d.take (d.length - ([47]:List UInt8).length) else d)=vw d:=rfl
theorem jN{Zo:Lib}{fs:T CF}{fuel:Nat}(E:Env Zo fs fuel){n:Nat}{s:List UInt8}{x:Nat}{H:Heap}(hx:x<256):
  ∃H',Z8 (LK Zo fs fuel 0) fs fuel (n+2) 78 [.str s,nI .u8 x] H=.ret (mI (Tg x s)) H'∧ZE H H' []:=by
 rw[Z7 (Z2 E.n78 (.inl (by decide)) _ _) E.f78]
 have ec: ∀{j},Z8 (LK Zo fs fuel 0) fs fuel (j+1) 97 [.str s,nI .u8 x] H=.ret (mI (Tg x s)) H:=λ{j}=>by
  rw[OW rfl (E.ix s x H hx),Zhs]
 simp only[ec,c78,Yf,Xr,ZV,Xq]
 refine⟨_,rfl,?_⟩
 exact ZE.refl _ _
theorem bK{Zo:Lib}{fs:T CF}{fuel:Nat}(E:Env Zo fs fuel){k n:Nat}(hk:1<=k){s:List UInt8}{x:Nat}{H:Heap}(hx:x<256):
  Z8 (LK Zo fs fuel k) fs fuel (n+1) 78 [.str s,nI .u8 x] H=.ret (mI (Tg x s)) H:=by
 obtain⟨H',e,g⟩:=jN E (n:=898) (H:=H) hx
 exact Xp (r:=0) rfl rfl e g (Mm _ _) hk
theorem bL{Zo:Lib}{fs:T CF}{fuel:Nat}(E:Env Zo fs fuel){n:Nat}{s:List UInt8}{x:Nat}{H:Heap}(hx:x<256):
  ∃H',Z8 (LK Zo fs fuel 1) fs fuel (n+2) 59 [.str s,nI .u8 x] H=.ret (mI (Tg x s)) H'∧ZE H H' []:=by
 rw[Z7 (Z2 E.n59 (.inl (by decide)) _ _) E.f59]
 have e1:=λ{j}=>bK E (k:=1) (n:=j) (by decide) (s:=s) (H:=H) hx
 simp only[e1,c59,Yf,Xr,ZV,Xq]
 refine⟨_,rfl,?_⟩
 exact ZE.refl _ _
theorem Zg6{Zo:Lib}{fs:T CF}{fuel:Nat}(E:Env Zo fs fuel){k n:Nat}(hk:2<=k){s:List UInt8}{x:Nat}{H:Heap}(hx:x<256):
  Z8 (LK Zo fs fuel k) fs fuel (n+1) 59 [.str s,nI .u8 x] H=.ret (mI (Tg x s)) H:=by
 obtain⟨H',e,g⟩:=bL E (n:=898) (H:=H) hx
 exact Xp (r:=1) rfl rfl e g (Mm _ _) hk
theorem q8{Zo:Lib}{fs:T CF}{fuel:Nat}(E:Env Zo fs fuel){n:Nat}{s:List UInt8}{H:Heap}:
  ∃H',Z8 (LK Zo fs fuel 1) fs fuel (n+2) 102 [.str s,.str [47]] H=.ret (mI (Tg 47 s)) H'∧ZE H H' []:=by
 rw[Z7 (Z2 E.n102 (.inl (by decide)) _ _) E.f102]
 have e1:=λ{j}=>bK E (k:=1) (n:=j) (by decide) (s:=s) (x:=47) (H:=H) (by decide)
 have wl:([47]:List UInt8).length=1:=rfl
 have w0:([47]:List UInt8).getD 0 0=47:=rfl
 have w1:(47:UInt8).toNat=47:=rfl
 by_cases h:([47]:List UInt8)=s
 ·have d_h:decide (([47]:List UInt8)=s)=true:=Zj h
  simp only[wl,d_h,YN,YE,ZP,decide_false,qA,Yf,Xr,ZV,reduceCtorEq,Xq]
  subst h
  refine⟨_,rfl,?_⟩
  exact ZE.refl _ _
 ·have d_h:decide (([47]:List UInt8)=s)=false:=Ze h
  simp(disch:=omega) only[wl,w0,w1,e1,d_h,Ye,YN,YE,ZP,decide_true,decide_false,qA,Yf,Xr,ZV,reduceCtorEq,Xq]
  refine⟨_,rfl,?_⟩
  exact ZE.refl _ _
theorem Zg7{Zo:Lib}{fs:T CF}{fuel:Nat}(E:Env Zo fs fuel){k n:Nat}(hk:2<=k){s:List UInt8}{H:Heap}:
  Z8 (LK Zo fs fuel k) fs fuel (n+1) 102 [.str s,.str [47]] H=.ret (mI (Tg 47 s)) H:=by
 obtain⟨H',e,g⟩:=q8 E (n:=898) (H:=H)
 exact Xp (r:=1) rfl rfl e g (Mm _ _) hk
theorem jP{Zo:Lib}{fs:T CF}{fuel:Nat}(E:Env Zo fs fuel){n:Nat}{s:List UInt8}{H:Heap}:
  ∃H',Z8 (LK Zo fs fuel 2) fs fuel (n+2) 82 [.str s,.str [47]] H=.ret (mI (Tg 47 s)) H'∧ZE H H' []:=by
 rw[Z7 (Z2 E.n82 (.inl (by decide)) _ _) E.f82]
 have e1:=λ{j}=>Zg7 E (k:=2) (n:=j) (by decide) (s:=s) (H:=H)
 simp only[e1,c82,Yf,Xr,ZV,Xq]
 refine⟨_,rfl,?_⟩
 exact ZE.refl _ _
theorem index{Zo:Lib}{fs:T CF}{fuel:Nat}(E:Env Zo fs fuel){k n:Nat}(hk:3<=k){s:List UInt8}{H:Heap}:
  Z8 (LK Zo fs fuel k) fs fuel (n+1) 82 [.str s,.str [47]] H=.ret (mI (Tg 47 s)) H:=by
 obtain⟨H',e,g⟩:=jP E (n:=898) (H:=H)
 exact Xp (r:=2) rfl rfl e g (Mm _ _) hk
theorem jh{Zo:Lib}{fs:T CF}{fuel:Nat}(E:Env Zo fs fuel){n:Nat}{s:List UInt8}{H:Heap}:
  ∃H',Z8 (LK Zo fs fuel 0) fs fuel (n+2) 110 [.str s,.str [47]] H=.ret (nI .i64 (XS 47 s 0)) H'∧ZE H H' []:=by
 rw[Z7 (Z2 E.n110 (.inl (by decide)) _ _) E.f110]
 have ec: ∀{j},Z8 (LK Zo fs fuel 0) fs fuel (j+1) 124 [.str s,nI .u8 47] H=.ret (nI .i64 (XS 47 s 0)) H:=λ{j}=>by
  rw[OW rfl (E.cn s 47 H (by omega))]
 have wl:([47]:List UInt8).length=1:=rfl
 have w0:([47]:List UInt8).getD 0 0=47:=rfl
 have w1:(47:UInt8).toNat=47:=rfl
 simp(disch:=omega) only[wl,w0,w1,ec,Ye,YN,ZP,decide_true,decide_false,Zct,Yf,Xr,ZV,reduceCtorEq,Xq]
 refine⟨_,rfl,?_⟩
 exact ZE.refl _ _
theorem count{Zo:Lib}{fs:T CF}{fuel:Nat}(E:Env Zo fs fuel){k n:Nat}(hk:1<=k){s:List UInt8}{H:Heap}:
  Z8 (LK Zo fs fuel k) fs fuel (n+1) 110 [.str s,.str [47]] H=.ret (nI .i64 (XS 47 s 0)) H:=by
 obtain⟨H',e,g⟩:=jh E (n:=898) (H:=H)
 exact Xp (r:=0) rfl rfl e g (rfl) hk
theorem qI{Zo:Lib}{fs:T CF}{fuel:Nat}(E:Env Zo fs fuel){n:Nat}{a s:List UInt8}{H:Heap}(hs:a.length+s.length<=90000):
  ∃H',Z8 (LK Zo fs fuel 0) fs fuel (n+2) 147 [.str a,.str s] H=.ret (.str (a++s)) H'∧ZE H H' []:=by
 rw[Z7 (Z2 E.n147 (.inl (by decide)) _ _) E.f147]
 have ad:=λG=>Lu (a:=a) (b:=s) (by omega) G
 simp only[ad,Zcz,Yf,Xr,ZV,Xq]
 refine⟨_,rfl,?_⟩
 exact ZE.refl _ _
theorem Zgh{Zo:Lib}{fs:T CF}{fuel:Nat}(E:Env Zo fs fuel){k n:Nat}(hk:1<=k){a s:List UInt8}{H:Heap}(hs:a.length+s.length<=90000):
  Z8 (LK Zo fs fuel k) fs fuel (n+1) 147 [.str a,.str s] H=.ret (.str (a++s)) H:=by
 obtain⟨H',e,g⟩:=qI E (n:=898) (H:=H) hs
 exact Xp (r:=0) rfl rfl e g (rfl) hk
theorem qJ{Zo:Lib}{fs:T CF}{fuel:Nat}(E:Env Zo fs fuel){n:Nat}{a s:List UInt8}{H:Heap}(hs:a.length+s.length<=90000)(h4:4<=s.length):
  ∃H',Z8 (LK Zo fs fuel 0) fs fuel (n+2) 148 [.str a,.str s] H=.ret (.str (a++s.drop 4)) H'∧ZE H H' []:=by
 rw[Z7 (Z2 E.n148 (.inl (by decide)) _ _) E.f148]
 have ad:=λG=>Lu (a:=a) (b:=s.drop 4) (by rw[YW];omega) G
 simp(disch:=omega) only[ad,Ya,ZcA,Yf,Xr,ZV,Yv,Xq]
 refine⟨_,rfl,?_⟩
 exact ZE.refl _ _
theorem Zgi{Zo:Lib}{fs:T CF}{fuel:Nat}(E:Env Zo fs fuel){k n:Nat}(hk:1<=k){a s:List UInt8}{H:Heap}(hs:a.length+s.length<=90000)(h4:4<=s.length):
  Z8 (LK Zo fs fuel k) fs fuel (n+1) 148 [.str a,.str s] H=.ret (.str (a++s.drop 4)) H:=by
 obtain⟨H',e,g⟩:=qJ E (n:=898) (H:=H) hs h4
 exact Xp (r:=0) rfl rfl e g (rfl) hk
theorem qK{Zo:Lib}{fs:T CF}{fuel:Nat}(E:Env Zo fs fuel){n:Nat}{a s:List UInt8}{H:Heap}(hs:a.length<=90000):
  ∃H',Z8 (LK Zo fs fuel 3) fs fuel (n+2) 149 [.str a,.str s] H=.ret (.str (vw a)) H'∧ZE H H' []:=by
 rw[Z7 (Z2 E.n149 (.inl (by decide)) _ _) E.f149]
 have e1:=λ{j}=>ZfR E (k:=3) (n:=j) (by decide) (s:=a) (p:=[47]) (H:=H) hs
 rw[ZeO] at e1
 simp only[e1,ZcB,Yf,Xr,ZV,Xq]
 refine⟨_,rfl,?_⟩
 exact ZE.refl _ _
theorem Zgj{Zo:Lib}{fs:T CF}{fuel:Nat}(E:Env Zo fs fuel){k n:Nat}(hk:4<=k){a s:List UInt8}{H:Heap}(hs:a.length<=90000):
  Z8 (LK Zo fs fuel k) fs fuel (n+1) 149 [.str a,.str s] H=.ret (.str (vw a)) H:=by
 obtain⟨H',e,g⟩:=qK E (n:=898) (H:=H) hs
 exact Xp (r:=3) rfl rfl e g (rfl) hk
def Zhw(e sz bytes:Nat)(zs:List AV)(l c:AV)(H:Heap):OR:=SX l λl=>SX c λc=>Z3 (Nat.ble 1 sz)<|Z3 (Nat.ble l c) (Z3 (Nat.ble c 140737488355328)<|Z3 (Nat.ble (Nat.mul c bytes) 140737488355328) (mZ H e sz l c zs))
theorem DI(e sz bytes:Nat)(zs:List AV)(l c:YG)(tm:TM)(H:Heap):Fe e sz bytes zs l c tm H=Zhw e sz bytes zs (l tm) (c tm) H:=rfl
theorem aC{e bytes n:Nat}{z:AV}(h:n*bytes<=140737488355328)(h1:n<=140737488355328)(k k':IntKind)(H:Heap):Zhw e 1 bytes [z] (nI k n) (nI k' n) H=.val (.slice H.nx 0 n none) (H.new (.row ⟨e,1,n,.leaf,z,0,false,true,true⟩)):=by
 show Z3 (Nat.ble 1 1) (Z3 (Nat.ble n n) (Z3 (Nat.ble n 140737488355328) (Z3 (Nat.ble (n*bytes) 140737488355328) (mZ H e 1 n n [z]))))=_
 rw[Zg (Zq n),Zg h1,Zg h];rfl
def kM(H:Heap)(b:Nat)(l:List (List UInt8)):Prop:= ∃r,H.t.get b=some (.row r)∧r.sz=1∧r.size=l.length∧r.own=true∧b<H.nx∧ ∀i,i<l.length->r.get i=.str (l.getD i [])
theorem kM.keep{H H':Heap}{b:Nat}{l:List (List UInt8)}(h:kM H b l)(k:ZE H H' []):kM H' b l:=by
 obtain⟨r,h1,h2,h3,h4,h5,h6⟩:=h
 exact⟨r,by rw[k.get _ h5 (by simp)];exact h1,h2,h3,h4,ZZ h5 k.nx,h6⟩
theorem gL{H:Heap}{b n m:Nat}{r:Row}(g:H.t.get b=some (.row r))(hz:r.sz=1)(hs:r.size=n)(hm:m<=n)(h0:0<n)(k:IntKind):Ss 1 (.slice b 0 n none) none (some (nI k m)) H=.val (.slice b 0 m none) H:=by
 show Xv H b _=_
 unfold Xv
 rw[g]
 have e1:L9 r 1 none=true:=by show Nat.beq r.sz 1=true;rw[hz];rfl
 have e2:W4 r 0 none=n:=by show cond (Nat.beq r.sz 1) (r.size - 0) _=_;rw[hz,hs];rfl
 show Z3 (L9 r 1 none) (Nj (some (nI k m)) n (W4 r 0 none) λh=>Nj none 0 h λl=>Z3 (Nat.ble l (W4 r 0 none)) (cond (Nat.beq l (W4 r 0 none)) _ _))=_
 rw[e1,e2]
 show Z3 (Nat.ble m n) (Z3 (Nat.ble 0 n) (cond (Nat.beq 0 n) _ (OR.val (.slice b (0+0*1) (m - 0) none) H)))=_
 rw[Zg hm,Zg (ZB n),show Nat.beq 0 n=false by rw[Y1];exact Ze (by omega)]
 rfl
structure GSI(s:List UInt8)(H0:Heap)(m:Nat)(tm:TM)(H:Heap):Prop where
 t1:Wv tm=.str [47]
 t2:Uv tm=nI .i64 0
 t3:VL tm=nI .i64 (XS 47 s 0)
 t9:Vc tm=.slice H0.nx 0 (XS 47 s 0+1) none
 i: ∃i u,XF tm=nI .i64 i∧Y3 tm=.str u∧i+m=XS 47 s 0∧(UI s).drop i=UI u∧u.length<=s.length∧
  ∃r,H.t.get H0.nx=some (.row r)∧r.sz=1∧r.size=XS 47 s 0+1∧r.fz=0∧r.own=true∧ ∀k,k<i->r.get k=.str ((UI s).getD k [])
 k:ZE H0 H []
 nx:H.nx=H0.nx+1
def GSQ(s:List UInt8)(H0:Heap)(o:Out)(tm:TM)(H:Heap):Prop:=o=.exit 0∧GSI s H0 0 tm H
theorem yb{α:Type}{l:List α}{i:Nat}{a:α}{b:List α}(d:α)(h:l.drop i=a::b):l.getD i d=a∧l.drop (i+1)=b:=by
 have h1:(l.drop i)[0]? =some a:=by rw[h];rfl
 rw[XV,Zd] at h1
 refine⟨by rw[Zf,h1];rfl,?_⟩
 rw[<-SE,h];rfl
theorem ZcX{Zo:Lib}{fs:T CF}{fuel:Nat}(E:Env Zo fs fuel){k n:Nat}(hk:3<=k){s:List UInt8}(hs:s.length<=90000){H0:Heap}(hro:H0.ro<=H0.nx)(y f dd q)(X0:X)(m:Nat)(tm:TM)(H:Heap)(hI:GSI s H0 m tm H):
  ∃o tm' H',Bq ⟨Z8 (LK Zo fs fuel k) fs fuel (n+1),y,f,dd,q⟩ tm H X0=.ok o tm' H' X0∧((o=.normal∧ ∃k,k<m∧GSI s H0 k tm' H')∨(o≠.normal∧GSQ s H0 o tm' H')):=by
 have hI':=hI
 obtain⟨t1,t2,t3,t9,⟨i,u,t10,t0,him,hd,hul,r,g,hz,hsz,hfz,how,hg⟩,k0,hnx⟩:=hI
 have t1':=t1;have t2':=t2;have vW:=t3;have ql:=t9
 simp only[Um] at t0
 simp only[Mi] at t1
 simp only[Oa] at t2
 simp only[RK] at t3
 simp only[IK] at t9
 simp only[LD] at t10
 have hc:=wB 47 s
 cases m with
 |zero=>
  have d1:decide (i<XS 47 s 0)=false:=Ze (by omega)
  simp only[t3,t10,d1,Zy,Bq,Yf,Xr,Xq,TB]
  refine⟨_,_,_,rfl,.inr ⟨by simp,?_⟩⟩
  obtain⟨a,b,cc,dx,⟨i',u',e1,e2,rest⟩,ee,ff⟩:=hI'
  exact⟨rfl,a,b,cc,dx,⟨i',u',e1,e2,rest⟩,ee,ff⟩
 |succ m=>
  have d1:decide (i<XS 47 s 0)=true:=Zj (by omega)
  have hlen:(UI u).length=XS 47 s 0+1 - i:=by rw[<-hd,YW,OJ]
  cases hj:Tg 47 u with
  |zero=>rw[Gf hj] at hlen;simp at hlen;omega
  |succ j=>
   obtain⟨j1,_⟩:=nE hj
   have e1:=λ{q}=>index E (k:=k) (n:=q) hk (H:=H) (s:=u)
   rw[hj,ZdN] at e1
   have d2:decide (j<0)=false:=Ze (by omega)
   have sp:=EQ hj
   rw[sp] at hd
   obtain⟨hd1,hd2⟩:=yb [] hd
   have wl:([47]:List UInt8).length=1:=rfl
   have sf:=λ(G:Heap) (hG:G.ro<=H0.nx)=>U6 (r:=r) (b:=H0.nx) (o:=i) (v:=.str (u.take j)) (H:=G) rfl (by omega) how hG (by omega)
   have sf:=sf H (by rw[k0.ro];exact hro)
   simp(disch:=omega) only[t0,t1,t2,t3,t9,t10,d1,d2,e1,wl,g,sf,ZY,Zb,Zd,Zy,Yy,ZP,Ya,Yb,Bq,Yf,Xr,Yv,Xq,TB]
   refine⟨_,_,_,rfl,.inl ⟨rfl,m,by omega,t1',t2',vW,ql,⟨i+1,u.drop (j+1),rfl,rfl,by omega,hd2,by rw[YW];omega,r.st i (.str (u.take j)),XY ..,hz,hsz,hfz,how,λq hq=>?_⟩,k0.then_put (λh=>by omega),by rw[Ll];exact hnx⟩⟩
   rw[Row.st_get]
   by_cases h:i=q
   ·subst h;rw[if_pos rfl,hd1]
   ·rw[if_neg h,hg q (by omega)]
theorem jw{Zo:Lib}{fs:T CF}{fuel:Nat}(E:Env Zo fs fuel){k n:Nat}(hk:3<=k){s:List UInt8}(hs:s.length<=90000){H:Heap}(hro:H.ro<=H.nx):
  ∃H',Z8 (LK Zo fs fuel k) fs fuel (n+2) 92 [.str s,.str [47],nI .i64 0,.int .i64 (.negSucc 0)] H=.ret (.slice H.nx 0 (UI s).length none) H'∧kM H' H.nx (UI s)∧ZE H H' []∧H'.nx=H.nx+1:=by
 rw[Z7 (Z2 E.n92 (.inr rfl) _ _) E.f92]
 have hc:=wB 47 s
 have ec:=λ{j}=>count E (k:=k) (n:=j) (by omega) (H:=H) (s:=s)
 have ZoZ: ∀G,MU UB false (.int .i64 (.negSucc 0)) (nI .i64 0) G=.val (.bool false) G:=λ_=>rfl
 have negl: ∀G,Te Wf Xo (.int .i64 (.negSucc 0)) (nI .i64 0) G=.val (.bool true) G:=λ_=>rfl
 have mn:min (XS 47 s 0+1) (s.length+1)=XS 47 s 0+1:=by omega
 have ml:=λG=>aC (e:=9) (bytes:=16) (n:=XS 47 s 0+1) (z:=.str []) (by omega) (by omega) .i64 .i64 G
 simp(disch:=omega) only[ec,ZoZ,negl,TJ,mn,DI,ml,T8,YE,YR,Yy,ZP,decide_false,c92,Yf,Xr,reduceCtorEq,Xq,TB]
 generalize hL:WP (Bq _) fuel _ _ _=L
 obtain⟨o,KO,H1,rfl,_,rfl,z⟩:=Wd (P:=λT=>GSI s H (XS 47 s 0) T (H.new (.row ⟨9,1,XS 47 s 0+1,.leaf,.str [],0,false,true,true⟩))) (Q:=GSQ s H)
  (λT hi=>Wo (GSI s H) (GSQ s H) (λm tm H1 h=>ZcX E hk hs hro _ _ _ _ _ m tm H1 h) fuel (XS 47 s 0) T _ (by have:=E.big;omega) hi) hL
  (by exact⟨rfl,rfl,rfl,rfl,⟨0,s,rfl,rfl,by omega,rfl,Zq _,_,YB rfl _,rfl,rfl,rfl,rfl,λk hk=>by omega⟩,ZE.new _ _ _,rfl⟩)
 obtain⟨t1,t2,t3,t9,⟨i,u,t10,t0,him,hd,hul,r,g,hz,hsz,hfz,how,hg⟩,k0,hnx⟩:=z
 simp only[Um] at t0
 simp only[IK] at t9
 simp only[LD] at t10
 obtain rfl:i=XS 47 s 0:=by omega
 have hlen:(UI u).length=1:=by rw[<-hd,YW,OJ];omega
 have hu:UI u=[u]:=by
  cases hj:Tg 47 u with
  |zero=>exact Gf hj
  |succ j=>
   have:=EQ hj
   have h2:=Uy.2 (FF (u.drop (j+1)))
   rw[this,Zl] at hlen;omega
 rw[hu] at hd
 obtain⟨hd1,_⟩:=yb [] hd
 have sf:=U6 (r:=r) (b:=H.nx) (o:=XS 47 s 0) (v:=.str u) (H:=H1) rfl (by omega) how (by rw[k0.ro];exact hro) (by omega)
 have sl:=gL (H:=H1.put H.nx (.row (r.st (XS 47 s 0) (.str u)))) (b:=H.nx) (n:=XS 47 s 0+1) (m:=XS 47 s 0+1) (r:=r.st (XS 47 s 0) (.str u)) (XY ..) hz hsz (Zq _) (by omega) .i64
 simp(disch:=omega) only[t0,t9,t10,g,sf,sl,ZY,Zb,Yy,Yf,Xr,ZV,Yv,Xq,TB,K1]
 rw[OJ]
 refine⟨_,rfl,⟨_,XY ..,hz,by rw[OJ];exact hsz,how,by rw[Ll];omega,λq hq=>?_⟩,k0.then_put (λh=>by omega),by rw[Ll];exact hnx⟩
 rw[OJ] at hq
 rw[Row.st_get]
 by_cases h:XS 47 s 0=q
 ·subst h;rw[if_pos rfl,hd1]
 ·rw[if_neg h,hg q (by omega)]
theorem Zh3{Zo:Lib}{fs:T CF}{fuel:Nat}(E:Env Zo fs fuel){k n:Nat}(hk:3<=k){s:List UInt8}(hs:s.length<=90000){H:Heap}(hro:H.ro<=H.nx):
  ∃H',Z8 (LK Zo fs fuel k) fs fuel (n+3) 75 [.str s,.str [47]] H=.ret (.slice H.nx 0 (UI s).length none) H'∧kM H' H.nx (UI s)∧ZE H H' []∧H'.nx=H.nx+1:=by
 rw[Z7 (Z2 E.n75 (.inr rfl) _ _) E.f75]
 obtain⟨H',e1,r1⟩:=jw E (n:=n) hk hs hro
 refine⟨H',?_,r1⟩
 simp only[e1,c75,Yf,Xr,ZV,Xq]
def wg(H:Heap)(v:AV)(l:List (List UInt8)):Prop:=(v=.nils∧l=[])∨ ∃b,v=.slice b 0 l.length none∧0<l.length∧kM H b l
theorem wg.keep{H H':Heap}{v:AV}{l:List (List UInt8)}(h:wg H v l)(k:ZE H H' []):wg H' v l:=by
 rcases h with h|⟨b,h1,h2,h3⟩
 ·exact .inl h
 ·exact .inr ⟨b,h1,h2,h3.keep k⟩
theorem wg.len{H:Heap}{v:AV}{l:List (List UInt8)}(h:wg H v l)(G:Heap):lenV v G=.val (nI .i64 l.length) G:=by
 rcases h with⟨rfl,rfl⟩|⟨b,rfl,_⟩
 ·rfl
 ·exact V8 ..
theorem pU{Zo:Lib}{fs:T CF}{fuel:Nat}(E:Env Zo fs fuel){k n:Nat}(hk:3<=k){s:List UInt8}(hs:s.length<=90000){H:Heap}(hro:H.ro<=H.nx):
  ∃v H',Z8 (LK Zo fs fuel k) fs fuel (n+4) 55 [.str s] H=.ret v H'∧wg H' v (Pa s)∧ZE H H' []:=by
 rw[Z7 (Z2 E.n55 (.inr rfl) _ _) E.f55]
 unfold Pa
 by_cases h:s=[]
 ·have d1:decide (s=[])=true:=Zj h
  rw[if_pos h]
  simp only[d1,YE,c55,Yf,Xr,ZV,Xq]
  exact⟨_,_,rfl,.inl ⟨rfl,rfl⟩,ZE.refl _ _⟩
 ·have d1:decide (s=[])=false:=Ze h
  rw[if_neg h]
  obtain⟨H',e1,r1,k1,_⟩:=Zh3 E (n:=n) hk hs hro
  simp only[d1,e1,YE,c55,Yf,Xr,ZV,Xq]
  exact⟨_,_,rfl,.inr ⟨_,rfl,Uy.2 (FF s),r1⟩,k1⟩
theorem tS(e:Nat)(tm:TM)(H:Heap):V9 e Jg tm H=.val (.ptr H.nx 0) (H.new (rG e 1 Jg 0 false true true)):=by
 rw[Al _ _ (by rw[Xb];unfold Jg;rw[Yu];decide)];rfl
theorem tH{n:Nat}{v:AV}(hv:Wu n v=true): ∀{l:List AV} {i:Nat},RL n l=true->RL n (l.set i v)=true
 |[],_,h=>h
 |a::l,0,h=>by
  have h:cond (Wu n a) (RL n l) false=true:=h
  show cond (Wu n v) (RL n l) false=true
  rw[hv]
  cases ha:Wu n a with
  |false=>rw[ha] at h;cases h
  |true=>rw[ha] at h;exact h
 |a::l,i+1,h=>by
  have h:cond (Wu n a) (RL n l) false=true:=h
  show cond (Wu n a) (RL n (l.set i v)) false=true
  cases ha:Wu n a with
  |false=>rw[ha] at h;cases h
  |true=>rw[ha] at h;exact tH hv h
theorem ZaG(n:Nat)(cs:List UInt8):RL n (Od cs)=true:=by
 unfold Od
 have: ∀(cs:List UInt8) (L:List AV),RL n L=true->RL n (cs.foldl (λL c=>L.set c.toNat (.bool true)) L)=true:=by
  intro cs
  induction cs with
  |nil=>intro L h;exact h
  |cons c cs ih=>intro L h;exact ih _ (tH rfl h)
 refine this cs Jg ?_
 unfold Jg
 have r: ∀m,RL n (List.replicate m (AV.bool false))=true:=by
  intro m
  induction m with
  |zero=>rfl
  |succ m ih=>rw[Wl];exact ih
 exact r 256
structure Px(cs:List UInt8):Prop where
 lo:2<=cs.length
 hi:cs.length<=3
 lt: ∀c∈cs,c.toNat<128
theorem Px.at_{cs:List UInt8}(h:Px cs){i:Nat}(hi:i<cs.length):(cs.getD i 0).toNat<128:=by
 rw[Zf,Zn hi];exact h.lt _ (WN hi)
theorem Px.fst{cs:List UInt8}(h:Px cs){x:Nat}(hx:128<=x):Tg x cs=0:=N9.2 λc hc=>by have:=h.lt c hc;omega
theorem Px.fstd{cs:List UInt8}(h:Px cs){x i:Nat}(hx:128<=x):Tg x (cs.drop i)=0:=N9.2 λc hc=>by have:=h.lt c (TE hc);omega
structure MSI(cs:List UInt8)(H0:Heap)(m:Nat)(tm:TM)(H:Heap):Prop where
 t0:Y3 tm=.str cs
 t2:Uv tm=.ptr H0.nx 0
 i: ∃i,XQ tm=nI .i64 i∧i+m=cs.length∧H.t.get H0.nx=some (rG 151 1 (Od (cs.take i)) 0 false true true)
 k:ZE H0 H []
 nx:H0.nx<H.nx
def MSQ(cs:List UInt8)(H0:Heap)(o:Out)(tm:TM)(H:Heap):Prop:=o=.exit 0∧Uv tm=.ptr H0.nx 0∧H.t.get H0.nx=some (rG 151 1 (Od cs) 0 false true true)∧ZE H0 H []∧H0.nx<H.nx
theorem ZdU{cs:List UInt8}(ha:Px cs){H0:Heap}(hro:H0.ro<=H0.nx)(cx:Ctx)(X0:X)(m:Nat)(tm:TM)(H:Heap)(hI:MSI cs H0 m tm H):
  ∃o tm' H',Bs cx tm H X0=.ok o tm' H' X0∧((o=.normal∧ ∃k,k<m∧MSI cs H0 k tm' H')∨(o≠.normal∧MSQ cs H0 o tm' H')):=by
 obtain⟨t0,t2,⟨i,t4,him,g⟩,k0,hnx⟩:=hI
 have t0':=t0;have t2':=t2
 simp only[Um] at t0
 simp only[Oa] at t2
 simp only[TG] at t4
 have h3:=ha.hi
 cases m with
 |zero=>
  have d1:decide (i<cs.length)=false:=Ze (by omega)
  simp only[t0,t4,d1,Zy,ZP,Bs,Yf,Xr,Xq]
  rw[YS (by omega)] at g
  refine⟨_,_,_,rfl,?_⟩
  exact .inr ⟨by simp,rfl,t2',g,k0,hnx⟩
 |succ m=>
  have d1:decide (i<cs.length)=true:=Zj (by omega)
  have hx:=ha.at_ (i:=i) (by omega)
  have d2:decide (128<=(cs.getD i 0).toNat)=false:=Ze (by omega)
  have hl:=FA (cs.take i)
  have hl2:(cs.getD i 0).toNat<(Od (cs.take i)).length:=by rw[hl];omega
  have sf:=KK (v:=.bool true) (b:=H0.nx) (H:=H) rfl hl2 (by rw[k0.ro];exact hro) (ZB _) 151 1 false true
  simp(disch:=omega) only[t0,t2,t4,d1,d2,g,sf,Ye,ZM,Zy,Yy,ZP,Yq,Zb,Bs,Yf,Xr,Xq]
  refine⟨_,_,_,rfl,?_⟩
  exact .inl ⟨rfl,m,by omega,t0',t2',⟨i+1,rfl,by omega,by rw[EY (by omega),gD];exact XY ..⟩,k0.then_put (λh=>by omega),by rw[Ll];exact hnx⟩
theorem ij{Zo:Lib}{fs:T CF}{fuel:Nat}(E:Env Zo fs fuel){n:Nat}{cs:List UInt8}{H:Heap}(ha:Px cs)(hro:H.ro<=H.nx):
  ∃H',Z8 (LK Zo fs fuel 0) fs fuel (n+2) 95 [.str cs] H=.ret (.tup [.agg (Od cs),.bool true]) H'∧ZE H H' []:=by
 rw[Z7 (Z2 E.n95 (.inl (by decide)) _ _) E.f95]
 simp only[tS,c95,Yf,Xq]
 generalize hL:WP (Bs _) fuel _ _ _=L
 have h3:=ha.hi
 obtain⟨o,KO,H1,rfl,_,rfl,t2,g,k0,hnx⟩:=Wd (P:=λT=>MSI cs H cs.length T (H.new (rG 151 1 Jg 0 false true true))) (Q:=MSQ cs H)
  (λT hi=>Wo (MSI cs H) (MSQ cs H) (λm tm H1 h=>ZdU ha hro _ _ m tm H1 h) fuel cs.length T _ (by have:=E.big;omega) hi) hL
  (by exact⟨rfl,rfl,⟨0,rfl,by omega,YB rfl _⟩,ZE.new _ _ _,YK _⟩)
 simp only[Oa] at t2
 have hl:=FA cs
 have sf:=SB (n:=256) (b:=H.nx) (l:=Od cs) (vs:=Od cs) (H:=H1) hl hl (by decide) (by rw[k0.ro];exact hro) 151 1 false true
 have ld: ∀G,wZ 256 (some (rG 151 1 (Od cs) 0 false true true)) 0 G=.val (.agg (Od cs)) G:=λG=>by
  rw[To (by rw[hl];decide)]
  rw[ZC,YS (by rw[hl];decide)]
 have rv: ∀k,rV 256 true (some (rG 151 1 (Od cs) 0 false true true)) 0 k=k (.agg (Od cs)):=λk=>ZhU hl k
 simp only[t2,g,sf,ld,rv,Yf,Xr,ZV,Xq]
 refine⟨_,rfl,?_⟩
 exact k0.then_put (λh=>by omega)
theorem ZkH{Zo:Lib}{fs:T CF}{fuel:Nat}(E:Env Zo fs fuel){k n:Nat}(hk:1<=k){cs:List UInt8}{H:Heap}(ha:Px cs)(hro:H.ro<=H.nx):
  Z8 (LK Zo fs fuel k) fs fuel (n+1) 95 [.str cs] H=.ret (.tup [.agg (Od cs),.bool true]) H:=by
 obtain⟨H',e,g⟩:=ij E (n:=898) (H:=H) ha hro
 exact Xp (r:=0) rfl rfl e g (by
  show cond (RL 0 (Od cs)) _ false=true
  rw[ZaG];rfl) hk
theorem jg{Zo:Lib}{fs:T CF}{fuel:Nat}(E:Env Zo fs fuel){n:Nat}{cs:List UInt8}{b:Nat}{x:UInt8}{H:Heap}(g:H.t.get b=some (rG 151 1 (Od cs) 0 false true true)):
  ∃H',Z8 (LK Zo fs fuel 0) fs fuel (n+2) 96 [.ptr b 0,nI .u8 x.toNat] H=.ret (.bool (decide (x∈cs))) H'∧ZE H H' []:=by
 rw[Z7 (Z2 E.n96 (.inl (by decide)) _ _) E.f96]
 have hx:=x.toNat_lt
 have hl:=FA cs
 have hl2:x.toNat<(Od cs).length:=by rw[hl];exact hx
 have sg:=ZaF cs (x:=x)
 have ld: ∀G,ld1 (some (rG 151 1 (Od cs) 0 false true true)) x.toNat G=.val (.bool (decide (x∈cs))) G:=λG=>by rw[Vo hl2,sg]
 simp(disch:=omega) only[g,ld,Yq,Zb,c96,Yf,Xr,ZV,Xq]
 refine⟨_,rfl,?_⟩
 exact ZE.refl _ _
theorem Zjl{Zo:Lib}{fs:T CF}{fuel:Nat}(E:Env Zo fs fuel){k n:Nat}(hk:1<=k){cs:List UInt8}{b:Nat}{x:UInt8}{H:Heap}(g:H.t.get b=some (rG 151 1 (Od cs) 0 false true true)):
  Z8 (LK Zo fs fuel k) fs fuel (n+1) 96 [.ptr b 0,nI .u8 x.toNat] H=.ret (.bool (decide (x∈cs))) H:=by
 obtain⟨H',e,g⟩:=jg E (n:=898) (H:=H) g
 exact Xp (r:=0) rfl rfl e g (rfl) hk
theorem oo{Zo:Lib}{fs:T CF}{fuel:Nat}(E:Env Zo fs fuel){n:Nat}{x:Nat}{H:Heap}:
  ∃H',Z8 (LK Zo fs fuel 0) fs fuel (n+2) 94 [nI .i64 x] H=.ret (.bool (decide (8<x))) H'∧ZE H H' []:=by
 rw[Z7 (Z2 E.n94 (.inl (by decide)) _ _) E.f94]
 simp only[ZJ,c94,Yf,Xr,ZV,Xq]
 refine⟨_,rfl,?_⟩
 exact ZE.refl _ _
theorem Zh1{Zo:Lib}{fs:T CF}{fuel:Nat}(E:Env Zo fs fuel){k n:Nat}(hk:1<=k){x:Nat}{H:Heap}:
  Z8 (LK Zo fs fuel k) fs fuel (n+1) 94 [nI .i64 x] H=.ret (.bool (decide (8<x))) H:=by
 obtain⟨H',e,g⟩:=oo E (n:=898) (H:=H)
 exact Xp (r:=0) rfl rfl e g (rfl) hk
theorem oN{Zo:Lib}{fs:T CF}{fuel:Nat}(E:Env Zo fs fuel){n:Nat}{x:Nat}{H:Heap}(h1:128<=x)(h2:x<=1114111):
  ∃H',Z8 (LK Zo fs fuel 0) fs fuel (n+2) 111 [nI .i32 x] H=.ret (.bool (decide (x<55296)||decide (57343<x))) H'∧ZE H H' []:=by
 rw[Z7 (Z2 E.n111 (.inl (by decide)) _ _) E.f111]
 have d3:decide (x<=1114111)=true:=Zj h2
 by_cases h:x<55296
 ·have d1:decide (x<55296)=true:=Zj h
  rw[d1,Bool.true_or]
  simp only[d1,ZK,Zy,ZB,decide_true,kW,Yf,Xr,ZV,Xq]
  refine⟨_,rfl,?_⟩
  exact ZE.refl _ _
 ·have d1:decide (x<55296)=false:=Ze h
  rw[d1,Bool.false_or]
  by_cases h':57343<x
  ·have d2:decide (57343<x)=true:=Zj h'
   rw[d2]
   simp only[d1,d2,d3,ZK,Zy,ZB,decide_true,kW,Yf,Xr,ZV,Xq]
   refine⟨_,rfl,?_⟩
   exact ZE.refl _ _
  ·have d2:decide (57343<x)=false:=Ze h'
   rw[d2]
   simp only[d1,d2,ZK,Zy,ZB,decide_true,kW,Yf,Xr,ZV,Xq]
   refine⟨_,rfl,?_⟩
   exact ZE.refl _ _
theorem Zim{Zo:Lib}{fs:T CF}{fuel:Nat}(E:Env Zo fs fuel){k n:Nat}(hk:1<=k){x:Nat}{H:Heap}(h1:128<=x)(h2:x<=1114111):
  Z8 (LK Zo fs fuel k) fs fuel (n+1) 111 [nI .i32 x] H=.ret (.bool (decide (x<55296)||decide (57343<x))) H:=by
 obtain⟨H',e,g⟩:=oN E (n:=898) (H:=H) h1 h2
 exact Xp (r:=0) rfl rfl e g (rfl) hk
def ZfE(a:AV)(H:Heap):OR:=Pp a λ_ n=>.val (.str (Utf8.encode n).data.toList) H
theorem Y0(x:YG)(tm:TM)(H:Heap):lh x tm H=ZfE (x tm) H:=rfl
def lI(a:AV)(H:Heap):OR:=O9 a λs=>.val (.ptr H.nx 0) (H.new (.siter s 0))
theorem Yw(x:YG)(tm:TM)(H:Heap):CJ x tm H=lI (x tm) H:=rfl
theorem Yk(s:List UInt8)(H:Heap):lI (.str s) H=.val (.ptr H.nx 0) (H.new (.siter s 0)):=rfl
def m9(o:Option Obj)(b:Nat)(H:Heap):OR:=Z3 (Nat.ble H.ro b)<|match o with
 |some o=>oZ o λs pos=>cond (Nat.ble (Nat.succ pos) (Xc s)) (match Utf8.decode ⟨s.toArray⟩ pos with|(c,w)=>.val (.tup [.bool true,.int .i64 (.ofNat pos),.int .i32 c]) (H.put b (.siter s (Nat.add pos w)))) (.val (.tup [.bool false]) H)
 |none=>.fail
def ZfA(a:AV)(H:Heap):OR:=Qx a λb o=>Z3 (Nat.beq o 0)<|m9 (H.t.get b) b H
theorem YQ(x:YG)(tm:TM)(H:Heap):lf x tm H=ZfA (x tm) H:=by
 show Qx (x tm) _=Qx (x tm) _
 congr 1
theorem YP(b:Nat)(H:Heap):ZfA (.ptr b 0) H=m9 (H.t.get b) b H:=rfl
theorem Ai{H:Heap}{b:Nat}{s:List UInt8}{i r w:Nat}(hro:H.ro<=b)(h:i<s.length)(hd:Utf8.decode ⟨s.toArray⟩ i=(r,w)):
  m9 (some (.siter s i)) b H=.val (.tup [.bool true,nI .i64 i,nI .i32 r]) (H.put b (.siter s (i+w))):=by
 show Z3 (Nat.ble H.ro b) (cond (Nat.ble (Nat.succ i) (Xc s)) (match Utf8.decode ⟨s.toArray⟩ i with|(c,w)=>OR.val (.tup [.bool true,.int .i64 (.ofNat i),.int .i32 c]) (H.put b (.siter s (Nat.add i w)))) _)=_
 rw[Zg hro,Xb,Zg (show Nat.succ i<=s.length from h),hd]
 rfl
theorem y3{H:Heap}{b:Nat}{s:List UInt8}{i:Nat}(hro:H.ro<=b)(h:s.length<=i):m9 (some (.siter s i)) b H=.val (.tup [.bool false]) H:=by
 have e:Nat.ble (Nat.succ i) s.length=false:=by
  cases hq:Nat.ble (Nat.succ i) s.length with
  |false=>rfl
  |true=>have:=Yh hq;have:i+1<=s.length:=this;omega
 show Z3 (Nat.ble H.ro b) (cond (Nat.ble (Nat.succ i) (Xc s)) _ _)=_
 rw[Zg hro,Xb,e];rfl
structure SI0(cs:List UInt8)(H0:Heap)(m:Nat)(tm:TM)(H:Heap):Prop where
 t175:uU tm=.ptr H0.nx 0
 g: ∃i,i+m=cs.length∧H.t.get H0.nx=some (.siter cs i)
 k:ZE H0 H []
def SQ0(H0:Heap)(o:Out)(tm:TM)(H:Heap):Prop:=o=.exit 9∧ZE H0 H []
theorem Zdf{cs:List UInt8}(ha:Px cs){H0:Heap}(hro:H0.ro<=H0.nx)(cx:Ctx)(X0:X)(m:Nat)(tm:TM)(H:Heap)(hI:SI0 cs H0 m tm H):
  ∃o tm' H',Br cx tm H X0=.ok o tm' H' X0∧((o=.normal∧ ∃k,k<m∧SI0 cs H0 k tm' H')∨(o≠.normal∧SQ0 H0 o tm' H')):=by
 obtain⟨t,⟨i,him,g⟩,k0⟩:=hI
 have t':=t
 simp only[ZgL] at t
 have hr:H.ro<=H0.nx:=by rw[k0.ro];exact hro
 cases m with
 |zero=>
  have ne:=y3 (H:=H) (b:=H0.nx) (s:=cs) (i:=i) hr (by omega)
  simp only[t,g,ne,YQ,YP,Br,Yf,Xr,zN]
  refine⟨_,_,_,rfl,?_⟩
  exact .inr ⟨by simp,rfl,k0⟩
 |succ m=>
  have hx:=ha.at_ (i:=i) (by omega)
  have ne:=Ai (H:=H) (b:=H0.nx) (s:=cs) (i:=i) hr (by omega) (nv hx)
  have d1:decide ((cs.getD i 0).toNat=65533)=false:=Ze (by omega)
  simp only[t,g,ne,d1,YN,YQ,YP,Br,Yf,Xr,Xq,zN]
  refine⟨_,_,_,rfl,?_⟩
  exact .inl ⟨rfl,m,by omega,t',⟨i+1,by omega,XY ..⟩,k0.then_put (λh=>by omega)⟩
theorem bM{Zo:Lib}{fs:T CF}{fuel:Nat}(E:Env Zo fs fuel){n:Nat}{cs:List UInt8}{x:Nat}{H:Heap}(hx:x<128):
  ∃H',Z8 (LK Zo fs fuel 2) fs fuel (n+2) 93 [.str cs,nI .i32 x] H=.ret (mI (Tg x cs)) H'∧ZE H H' []:=by
 rw[Z7 (Z2 E.n93 (.inl (by decide)) _ _) E.f93]
 have e1:=λ{j}=>Zg6 E (k:=2) (n:=j) (by decide) (s:=cs) (x:=x) (H:=H) (by omega)
 have d1:decide (x<128)=true:=Zj hx
 simp(disch:=omega) only[e1,d1,ZK,Zy,YV,ZB,decide_true,c93,Yf,Xr,ZV,Xq,zN]
 refine⟨_,rfl,?_⟩
 exact ZE.refl _ _
theorem ZoG{Zo:Lib}{fs:T CF}{fuel:Nat}(E:Env Zo fs fuel){k n:Nat}(hk:3<=k){cs:List UInt8}{x:Nat}{H:Heap}(hx:x<128):
  Z8 (LK Zo fs fuel k) fs fuel (n+1) 93 [.str cs,nI .i32 x] H=.ret (mI (Tg x cs)) H:=by
 obtain⟨H',e,g⟩:=bM E (n:=898) (H:=H) hx
 exact Xp (r:=2) rfl rfl e g (Mm _ _) hk
theorem jO{Zo:Lib}{fs:T CF}{fuel:Nat}(E:Env Zo fs fuel){n:Nat}{cs:List UInt8}{x:Nat}{H:Heap}(ha:Px cs)(h1:128<=x)(h2:x<=1114111)(hro:H.ro<=H.nx):
  ∃H',Z8 (LK Zo fs fuel 2) fs fuel (n+2) 93 [.str cs,nI .i32 x] H=.ret (mI 0) H'∧ZE H H' []:=by
 rw[Z7 (Z2 E.n93 (.inl (by decide)) _ _) E.f93]
 have d1:decide (x<128)=false:=Ze (by omega)
 by_cases hx:x=65533
 ·have d2:decide (x=65533)=true:=Zj hx
  simp only[d1,d2,ZK,Zy,YN,ZB,decide_true,Yw,Yk,c93,Yf,Xr,Xq,zN]
  generalize hL:WP (Br _) fuel _ _ _=L
  have h3:=ha.hi
  obtain⟨o,KO,H1,rfl,_,rfl,k0⟩:=Wd (P:=λT=>SI0 cs H cs.length T (H.new (.siter cs 0))) (Q:=SQ0 H)
   (λT hi=>Wo (SI0 cs H) (SQ0 H) (λm tm H1 h=>Zdf ha hro _ _ m tm H1 h) fuel cs.length T _ (by have:=E.big;omega) hi) hL
   (by exact⟨rfl,⟨0,by omega,YB rfl _⟩,ZE.new _ _ _⟩)
  simp only[Yf,Xr,ZV,Xq,]
  refine⟨_,rfl,?_⟩
  exact k0
 ·have d2:decide (x=65533)=false:=Ze hx
  have ev:=λ{j}=>Zim E (k:=2) (n:=j) (by decide) (H:=H) h1 h2
  cases hv:(decide (x<55296)||decide (57343<x)) with
  |false=>
   rw[hv] at ev
   simp only[d1,d2,ev,ZK,Zy,YN,ZB,decide_true,c93,Yf,Xr,ZV,Yv,Xq,zN]
   refine⟨_,rfl,?_⟩
   exact ZE.refl _ _
  |true=>
   rw[hv] at ev
   obtain⟨rs,er0,r1,r2,r3⟩:=eZ h1
   have er: ∀G,ZfE (nI .i32 x) G=.val (.str rs) G:=λG=>by
    show OR.val (.str (Utf8.encode (Int.ofNat x)).data.toList) G=_
    rw[show(Int.ofNat x)=(x:Int) from rfl,er0]
   obtain⟨q,hq⟩: ∃q,rs.length=q+1:=⟨rs.length - 1,by omega⟩
   rw[hq,T8] at r3
   have r3':=(rs.getD q 0).toNat_lt
   have eb:=λ{j}=>Zg6 E (k:=2) (n:=j) (by decide) (H:=H) (s:=cs.drop (q+1)) (x:=(rs.getD q 0).toNat) (by omega)
   rw[ha.fstd r3] at eb
   obtain⟨m,rfl⟩: ∃m,fuel=m+2:=⟨fuel - 2,by have:=E.big;omega⟩
   by_cases hl:q<cs.length
   ·have d3:decide (q<cs.length)=true:=Zj hl
    have hc:=ha.at_ hl
    have d4:decide ((cs.getD q 0).toNat≠(rs.getD q 0).toNat)=true:=Zj (by omega)
    simp(disch:=omega) only[d1,d2,d3,d4,ev,er,hq,eb,Ml,T8,Ye,ZK,Zy,YN,Y7,YR,Yy,ZP,Ya,ZB,decide_true,Wc,Y0,c93,qC,Yf,Xr,ZV,Yv,Z0,Xq,TB,zN]
    refine⟨_,rfl,?_⟩
    exact ZE.refl _ _
   ·have d3:decide (q<cs.length)=false:=Ze hl
    simp(disch:=omega) only[d1,d2,d3,ev,er,hq,Ml,T8,ZK,Zy,YN,YR,ZP,ZB,decide_true,Y0,c93,qC,Yf,Xr,ZV,Yv,Xq,zN]
    refine⟨_,rfl,?_⟩
    exact ZE.refl _ _
theorem Zks{Zo:Lib}{fs:T CF}{fuel:Nat}(E:Env Zo fs fuel){k n:Nat}(hk:3<=k){cs:List UInt8}{x:Nat}{H:Heap}(ha:Px cs)(h1:128<=x)(h2:x<=1114111)(hro:H.ro<=H.nx):
  Z8 (LK Zo fs fuel k) fs fuel (n+1) 93 [.str cs,nI .i32 x] H=.ret (mI 0) H:=by
 obtain⟨H',e,g⟩:=jO E (n:=898) (H:=H) ha h1 h2 hro
 exact Xp (r:=2) rfl rfl e g (Mm _ _) hk
structure IA0(s cs:List UInt8)(b:Nat)(H0:Heap)(m:Nat)(tm:TM)(H:Heap):Prop where
 heap:H=H0
 t0:Y3 tm=.str s
 t6:Ve tm=.ptr b 0
 i: ∃i,WD tm=nI .i64 i∧i+m=s.length∧ ∀j,j<i->s.getD j 0∉cs
def IQ(s cs:List UInt8)(e:Nat)(o:Out)(tm:TM):Prop:=(o=.ret∧ ∃p,XQ tm=nI .i64 p∧Gr cs s=p+1)∨(o=.exit e∧Gr cs s=0)
theorem bG{Zo:Lib}{fs:T CF}{fuel:Nat}(E:Env Zo fs fuel){n:Nat}{s cs:List UInt8}(hs:s.length<=90000){b:Nat}{H0:Heap}(g:H0.t.get b=some (rG 151 1 (Od cs) 0 false true true))(y f dd q)(X0:X)(m:Nat)(tm:TM)(H:Heap)(hI:IA0 s cs b H0 m tm H):
  ∃o tm' H',Ee ⟨Z8 (LK Zo fs fuel 3) fs fuel (n+1),y,f,dd,q⟩ tm H X0=.ok o tm' H' X0∧((o=.normal∧ ∃k,k<m∧IA0 s cs b H0 k tm' H')∨(o≠.normal∧(H'=H0∧IQ s cs 0 o tm'))):=by
 obtain⟨rfl,t0,t6,i,t8,him,hn⟩:=hI
 have t0':=t0;have x8:=t6
 simp only[Um] at t0
 simp only[JC] at t6
 simp only[HH] at t8
 cases m with
 |zero=>
  have d1:decide (i<s.length)=false:=Ze (by omega)
  simp only[t0,t8,d1,Zy,ZP,Ee,Yf,Xr,Xq,TB]
  refine⟨_,_,_,rfl,?_⟩
  exact .inr ⟨by simp,rfl,.inr ⟨rfl,C6 λj hj=>hn j (by omega)⟩⟩
 |succ m=>
  have d1:decide (i<s.length)=true:=Zj (by omega)
  have e1:=λ{j}=>Zjl E (k:=3) (n:=j) (by decide) (H:=H) (x:=s.getD i 0) g
  by_cases hx:s.getD i 0∈cs
  ·rw[Zj hx] at e1
   simp(disch:=omega) only[t0,t6,t8,d1,e1,Ye,Zy,ZP,Ee,Yf,Xr,Xq,TB]
   refine⟨_,_,_,rfl,?_⟩
   exact .inr ⟨by simp,rfl,.inl ⟨rfl,i,rfl,wj (by omega) hx hn⟩⟩
  ·rw[Ze hx] at e1
   simp(disch:=omega) only[t0,t6,t8,d1,e1,Ye,Zy,Yy,ZP,Ee,Yf,Xr,Xq,TB]
   refine⟨_,_,_,rfl,.inl ⟨rfl,m,by omega,rfl,t0',x8,i+1,rfl,by omega,λj hj=>?_⟩⟩
   by_cases h:j=i
   ·rw[h];exact hx
   ·exact hn j (by omega)
structure IA1(s cs:List UInt8)(H0:Heap)(m:Nat)(tm:TM)(H:Heap):Prop where
 t1:Wv tm=.str cs
 t45:PP tm=.ptr H0.nx 0
 i: ∃i,i+m=s.length∧H.t.get H0.nx=some (.siter s i)∧ ∀j,j<i->s.getD j 0∉cs
 k:ZE H0 H []
 nx:H0.nx<H.nx
theorem bH{Zo:Lib}{fs:T CF}{fuel:Nat}(E:Env Zo fs fuel){n:Nat}{s cs:List UInt8}(ha:Px cs)(hs:s.length<=90000){H0:Heap}(hro:H0.ro<=H0.nx)(y f dd q)(X0:X)(m:Nat)(tm:TM)(H:Heap)(hI:IA1 s cs H0 m tm H):
  ∃o tm' H',Hv ⟨Z8 (LK Zo fs fuel 3) fs fuel (n+1),y,f,dd,q⟩ tm H X0=.ok o tm' H' X0∧((o=.normal∧ ∃k,k<m∧IA1 s cs H0 k tm' H')∨(o≠.normal∧(ZE H0 H' []∧IQ s cs 2 o tm'))):=by
 obtain⟨t1,t45,⟨i,him,g,hn⟩,k0,hnx⟩:=hI
 have t1':=t1;have ZlA:=t45
 simp only[Mi] at t1
 simp only[n7] at t45
 have hr:H.ro<=H0.nx:=by rw[k0.ro];exact hro
 cases m with
 |zero=>
  have ne:=y3 (H:=H) (b:=H0.nx) (s:=s) (i:=i) hr (by omega)
  simp only[t45,g,ne,YQ,YP,Hv,Yf,Xr,TB]
  refine⟨_,_,_,rfl,?_⟩
  exact .inr ⟨by simp,k0,.inr ⟨rfl,C6 λj hj=>hn j (by omega)⟩⟩
 |succ m=>
  obtain⟨HP,hP⟩: ∃G,H.put H0.nx (.siter s (i+1))=G:=⟨_,rfl⟩
  by_cases hlo:(s.getD i 0).toNat<128
  ·have ne:=Ai (H:=H) (b:=H0.nx) (s:=s) (i:=i) hr (by omega) (nv hlo)
   have e1:=λ{j}=>ZoG E (k:=3) (n:=j) (by decide) (H:=HP) (cs:=cs) (x:=(s.getD i 0).toNat) hlo
   have kp:ZE H0 HP []:=by rw[<-hP];exact k0.then_put (λh=>by omega)
   by_cases hx:s.getD i 0∈cs
   ·have d1:decide (0<Tg (s.getD i 0).toNat cs)=true:=Zj (by
     cases h:Tg (s.getD i 0).toNat cs with
     |zero=>exact absurd rfl (N9.1 h _ hx)
     |succ j=>omega)
    simp only[t1,t45,g,ne,hP,e1,d1,X7,YQ,YP,Hv,Yf,Xr,Xq,TB]
    refine⟨_,_,_,rfl,?_⟩
    exact .inr ⟨by simp,kp,.inl ⟨rfl,i,rfl,wj (by omega) hx hn⟩⟩
   ·have d1:decide (0<Tg (s.getD i 0).toNat cs)=false:=Ze (by
     have:Tg (s.getD i 0).toNat cs=0:=N9.2 λc hc e=>hx (by rw[<-Rj.1 e];exact hc)
     omega)
    simp only[t1,t45,g,ne,hP,e1,d1,X7,YQ,YP,Hv,Yf,Xr,Xq,TB]
    refine⟨_,_,_,rfl,.inl ⟨rfl,m,by omega,t1',ZlA,⟨i+1,by omega,by rw[<-hP];exact XY ..,λj hj=>?_⟩,kp,by rw[<-hP,Ll];exact hnx⟩⟩
    by_cases h:j=i
    ·rw[h];exact hx
    ·exact hn j (by omega)
  ·obtain⟨r,w,hd,r1,r2,w1,hw⟩:=Zgo (s:=s) (i:=i) (by omega) (by omega)
   have ne:=Ai (H:=H) (b:=H0.nx) (s:=s) (i:=i) hr (by omega) hd
   have hwl:=hw (w - 1) (by omega)
   obtain⟨HQ,hQ⟩: ∃G,H.put H0.nx (.siter s (i+w))=G:=⟨_,rfl⟩
   have kp:ZE H0 HQ []:=by rw[<-hQ];exact k0.then_put (λh=>by omega)
   have e1:=λ{j}=>Zks E (k:=3) (n:=j) (by decide) (H:=HQ) (cs:=cs) (x:=r) ha r1 r2 (by rw[kp.ro,<-hQ,Ll];omega)
   simp only[t1,t45,g,ne,hQ,e1,ZL,decide_false,X7,YQ,YP,Hv,Yf,Xr,Xq,TB]
   refine⟨_,_,_,rfl,.inl ⟨rfl,m+1 - w,by omega,t1',ZlA,⟨i+w,by omega,by rw[<-hQ];exact XY ..,λj hj hm=>?_⟩,kp,by rw[<-hQ,Ll];exact hnx⟩⟩
   by_cases h:j<i
   ·exact hn j h hm
   ·have h2:=hw (j - i) (by omega)
    rw[show i+(j - i)=j by omega] at h2
    have:=ha.lt _ hm;omega
theorem bJ{Zo:Lib}{fs:T CF}{fuel:Nat}(E:Env Zo fs fuel){n:Nat}{s cs:List UInt8}{H:Heap}(ha:Px cs)(hs:s.length<=90000)(hro:H.ro<=H.nx):
  ∃H',Z8 (LK Zo fs fuel 3) fs fuel (n+2) 77 [.str s,.str cs] H=.ret (mI (Gr cs s)) H'∧ZE H H' []:=by
 rw[Z7 (Z2 E.n77 (.inl (by decide)) _ _) E.f77]
 have h2:=ha.lo
 have n0:decide (cs=[])=false:=Ze λe=>by rw[e] at h2;simp at h2
 have n1:decide (cs.length=1)=false:=Ze (by omega)
 have es:=λ{j}=>Zh1 E (k:=3) (n:=j) (by decide) (H:=H) (x:=s.length)
 by_cases h8:8<s.length
 ·rw[Zj h8] at es
  have em:=λ{j}=>ZkH E (k:=3) (n:=j) (by decide) (H:=H) ha hro
  have hl:=FA cs
  have hz:Jg.length=256:=by unfold Jg;rw[Yu]
  have sf:=λ(G:Heap) (hG:G.ro<=H.nx)=>SB (n:=256) (b:=H.nx) (l:=Jg) (vs:=Od cs) (H:=G) hz hl (by decide) hG 151 1 false true
  have sf:=sf (H.new (rG 151 1 Jg 0 false true true)) hro
  rw[Sy rfl] at sf
  obtain⟨H1,hH1⟩: ∃G,H.new (rG 151 1 (Od cs) 0 false true true)=G:=⟨_,rfl⟩
  rw[hH1] at sf
  simp only[n0,n1,es,em,tS,sf,YN,YE,ZP,c77,Yf,Xr,ZV,Xq,TB]
  generalize hL:WP (Ee _) fuel _ _ _=L
  obtain⟨o,KO,H2,rfl,_,rfl,z⟩:=Wd (P:=λT=>IA0 s cs H.nx H1 s.length T H1) (Q:=λo tm' H'=>H'=H1∧IQ s cs 0 o tm')
   (λT hi=>Wo (IA0 s cs H.nx H1) (λo tm' H'=>H'=H1∧IQ s cs 0 o tm') (λm tm H2 h=>bG E hs (by rw[<-hH1];exact YB rfl _) _ _ _ _ _ m tm H2 h) fuel s.length T H1 (by have:=E.big;omega) hi) hL
   (by exact⟨rfl,rfl,rfl,0,rfl,by omega,λj hj=>by omega⟩)
  rcases z with⟨rfl,p,t4,e⟩|⟨rfl,e⟩
  ·simp only[TG] at t4
   rw[e,ZdN]
   simp only[t4,Yf,ZV,Xq]
   refine⟨_,rfl,?_⟩
   exact by rw[<-hH1];exact ZE.new _ _ _
  ·rw[e]
   simp only[Yf,Xr,ZV,Xq]
   refine⟨_,rfl,?_⟩
   exact by rw[<-hH1];exact ZE.new _ _ _
 ·rw[Ze h8] at es
  simp only[n0,n1,es,YN,YE,ZP,Yw,Yk,c77,Yf,Xr,Xq,TB]
  generalize hL:WP (Hv _) fuel _ _ _=L
  obtain⟨o,KO,H2,rfl,_,k2,z⟩:=Wd (P:=λT=>IA1 s cs H s.length T (H.new (.siter s 0))) (Q:=λo tm' H'=>ZE H H' []∧IQ s cs 2 o tm')
   (λT hi=>Wo (IA1 s cs H) (λo tm' H'=>ZE H H' []∧IQ s cs 2 o tm') (λm tm H2 h=>bH E ha hs hro _ _ _ _ _ m tm H2 h) fuel s.length T _ (by have:=E.big;omega) hi) hL
   (by exact⟨rfl,rfl,⟨0,by omega,YB rfl _,λj hj=>by omega⟩,ZE.new _ _ _,YK _⟩)
  rcases z with⟨rfl,p,t4,e⟩|⟨rfl,e⟩
  ·simp only[TG] at t4
   rw[e,ZdN]
   simp only[t4,Yf,ZV,Xq]
   refine⟨_,rfl,?_⟩
   exact k2
  ·rw[e]
   simp only[Yf,Xr,ZV,Xq]
   refine⟨_,rfl,?_⟩
   exact k2
theorem ZoF{Zo:Lib}{fs:T CF}{fuel:Nat}(E:Env Zo fs fuel){k n:Nat}(hk:4<=k){s cs:List UInt8}{H:Heap}(ha:Px cs)(hs:s.length<=90000)(hro:H.ro<=H.nx):
  Z8 (LK Zo fs fuel k) fs fuel (n+1) 77 [.str s,.str cs] H=.ret (mI (Gr cs s)) H:=by
 obtain⟨H',e,g⟩:=bJ E (n:=898) (H:=H) ha hs hro
 exact Xp (r:=3) rfl rfl e g (Mm _ _) hk
theorem jf{Zo:Lib}{fs:T CF}{fuel:Nat}(E:Env Zo fs fuel){n:Nat}{s cs:List UInt8}{H:Heap}(ha:Px cs)(hs:s.length<=90000)(hro:H.ro<=H.nx):
  ∃H',Z8 (LK Zo fs fuel 4) fs fuel (n+2) 58 [.str s,.str cs] H=.ret (.bool (Jj cs s)) H'∧ZE H H' []:=by
 rw[Z7 (Z2 E.n58 (.inl (by decide)) _ _) E.f58]
 have e1:=λ{j}=>ZoF E (k:=4) (n:=j) (by decide) (H:=H) ha hs hro
 rw[<-oV cs s]
 simp only[e1,X7,c58,Yf,Xr,ZV,Xq]
 refine⟨_,rfl,?_⟩
 exact ZE.refl _ _
theorem eO{Zo:Lib}{fs:T CF}{fuel:Nat}(E:Env Zo fs fuel){k n:Nat}(hk:5<=k){s cs:List UInt8}{H:Heap}(ha:Px cs)(hs:s.length<=90000)(hro:H.ro<=H.nx):
  Z8 (LK Zo fs fuel k) fs fuel (n+1) 58 [.str s,.str cs] H=.ret (.bool (Jj cs s)) H:=by
 obtain⟨H',e,g⟩:=jf E (n:=898) (H:=H) ha hs hro
 exact Xp (r:=4) rfl rfl e g (rfl) hk
end
end Go.AI
