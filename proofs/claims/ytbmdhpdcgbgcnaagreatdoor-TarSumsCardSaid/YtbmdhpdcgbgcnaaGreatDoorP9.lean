/- Texts that are split, and looked through: walked: proved without conditions but those that each names. -/
import Derived.Test.YtbmdhpdcgbgcnaaGreatDoorP8
set_option maxRecDepth 1000000
set_option maxHeartbeats 0
set_option linter.unusedVariables false
set_option linter.unusedSimpArgs false
namespace Go.AI
open Go
noncomputable section
section
variable {Zx:Lib} {fs:T CF} {fuel k n i h b:Nat} {H H0:Heap} {s:List UInt8} {cs:List AV}
def mI:Nat->AV
 |0=>.int .i64 (.negSucc 0)
 |m+1=>nI .i64 m
theorem hJ{m:Nat}(h:m<9223372036854775808)(G:Heap):O3 (nI .i64 m) (nI .i64 1) G=.val (mI m) G:=by
 cases m with
 |zero=>rfl
 |succ m=>exact YQ (by omega) h G
theorem XV(j:Nat)(G:Heap):Tl Tp WT (mI j) (nI .i64 0) G=.val (.bool (decide (0<j))) G:=by
 cases j with
 |zero=>rfl
 |succ j=>exact ZR .i64 j 0 G
theorem X1(j:Nat)(G:Heap):Tl Wd Xl (mI j) (nI .i64 0) G=.val (.bool (decide (j=0))) G:=by
 cases j with
 |zero=>rfl
 |succ j=>exact Zu .i64 j 0 G
theorem Zcc{j:Nat}(h:j<9223372036854775808)(G:Heap):SG (mI j) (nI .i64 1) G=.val (nI .i64 j) G:=by
 cases j with
 |zero=>rfl
 |succ j=>exact YB h G
theorem ja(m:Nat):mI (m+1)=nI .i64 m:=rfl
theorem PZ(n j:Nat):WC n (mI j)=true:=by cases j<;>rfl
theorem Zcd(x:Nat)(s:List UInt8):AV.int .i64 (QC x s 0)=mI (Vk x s):=by
 rw[sX]
 cases h:Vk x s with
 |zero=>rfl
 |succ j=>rw[if_neg (by omega)];show AV.int .i64 ((0+(j+1) - 1:Nat):Int)=_;rw[show 0+(j+1) - 1=j by omega];rfl
structure LBI(s:List UInt8)(x:Nat)(H0:Heap)(m:Nat)(tm:TM)(H:Heap):Prop where
 heap:H=H0
 t0:YX tm=.str s
 t1:Wj tm=nI .u8 x
 t5:X2 tm=mI m
 le:m<=s.length
 cut:Qv x s=Qv x (s.take m)
def LBQ(s:List UInt8)(x:Nat)(H0:Heap)(o:Out)(tm:TM)(H:Heap):Prop:=H=H0∧((o=.ret∧XY tm=mI (Qv x s))∨(o=.exit 0∧Qv x s=0))
theorem dF{x:Nat}(hs:s.length<=90000)(cx:Ctx)(X0:X)(m:Nat)(tm:TM)(H:Heap)(hI:LBI s x H0 m tm H):
  ∃o tm' H',I9 cx tm H X0=.ok o tm' H' X0∧((o=.normal∧ ∃k,k<m∧LBI s x H0 k tm' H')∨(o≠.normal∧LBQ s x H0 o tm' H')):=by
 obtain⟨rfl,t0,t1,t5,le,hc⟩:=hI
 have t0':=t0;have t1':=t1
 simp only[Mc,E2,A8] at t0 t1 t5
 cases m with
 |zero=>
  have d1:decide (0<0)=false:=rfl
  simp only[t5,XV,ZT,decide_false,I9,Z9,Xg,Xe]
  refine⟨_,_,_,rfl,?_⟩
  exact .inr ⟨by simp,rfl,.inr ⟨rfl,by rw[hc];rfl⟩⟩
 |succ m=>
  rw[ja] at t5
  by_cases hx:(s.getD m 0).toNat=x
  ·have d2:decide ((s.getD m 0).toNat=x)=true:=Zi hx
   simp(disch:=omega) only[t0,t1,t5,d2,Yl,ZR,YL,ZA,decide_true,I9,Z9,Xg,Xe]
   refine⟨_,_,_,rfl,?_⟩
   exact .inr ⟨by simp,rfl,.inl ⟨rfl,by rw[hc,fS (by omega) hx];rfl⟩⟩
  ·have d2:decide ((s.getD m 0).toNat=x)=false:=Ze hx
   simp(disch:=omega) only[t0,t1,t5,d2,hJ,Yl,ZR,YL,ZA,decide_true,I9,Z9,Xg,Xe]
   refine⟨_,_,_,rfl,?_⟩
   exact .inl ⟨rfl,m,by omega,rfl,t0',t1',rfl,by omega,by rw[hc,mM (by omega) hx]⟩
theorem uf(E:Env Zx fs fuel){x:Nat}(hs:s.length<=90000):
  ∃H',Z7 (LK Zx fs fuel 0) fs fuel (n+2) 87 [.str s,nI .u8 x] H=.ret (mI (Qv x s)) H'∧ZK H H' []:=by
 rw[Z1 (ZU E.n87 (.inl (by decide)) _ _) E.f87]
 simp(disch:=omega) only[hJ,ZP,c87,Z9,Xg,Xe]
 generalize hL:Ue (I9 _) fuel _ _ _=L
 obtain⟨o,Ny,H1,rfl,_,rfl,z⟩:=XZ (P:=λT=>LBI s x H s.length T H) (Q:=LBQ s x H)
  (λT hi=>We (LBI s x H) (LBQ s x H) (λm tm H1 h=>dF hs _ _ m tm H1 h) fuel s.length T H (by have:=E.big;omega) hi) hL
  ⟨rfl,rfl,rfl,rfl,Zz _,by rw[Vh]⟩
 rcases z with⟨rfl,t4⟩|⟨rfl,e⟩
 ·simp only[PD] at t4
  simp only[t4,Z9,ZY,Xe]
  refine⟨_,rfl,?_⟩
  exact ZK.refl _ _
 ·rw[e]
  simp only[Z9,Xg,ZY,Xe]
  refine⟨_,rfl,?_⟩
  exact ZK.refl _ _
theorem Zb4(E:Env Zx fs fuel)(hk:1<=k){x:Nat}(hs:s.length<=90000):
  Z7 (LK Zx fs fuel k) fs fuel (n+1) 87 [.str s,nI .u8 x] H=.ret (mI (Qv x s)) H:=by
 obtain⟨H',e,g⟩:=uf E (n:=898) (H:=H) hs
 exact Xc (r:=0) rfl rfl e g (PZ _ _) hk
theorem px(E:Env Zx fs fuel){x:Nat}(hs:s.length<=90000):
  ∃H',Z7 (LK Zx fs fuel 1) fs fuel (n+2) 56 [.str s,nI .u8 x] H=.ret (mI (Qv x s)) H'∧ZK H H' []:=by
 rw[Z1 (ZU E.n56 (.inl (by decide)) _ _) E.f56]
 have e1:=λ{j}=>Zb4 E (k:=1) (n:=j) (by decide) (x:=x) (H:=H) hs
 simp only[e1,c56,Z9,Xg,ZY,Xe]
 refine⟨_,rfl,?_⟩
 exact ZK.refl _ _
theorem aU(E:Env Zx fs fuel)(hk:2<=k){x:Nat}(hs:s.length<=90000):
  Z7 (LK Zx fs fuel k) fs fuel (n+1) 56 [.str s,nI .u8 x] H=.ret (mI (Qv x s)) H:=by
 obtain⟨H',e,g⟩:=px E (n:=898) (H:=H) hs
 exact Xc (r:=1) rfl rfl e g (PZ _ _) hk
theorem nZ(E:Env Zx fs fuel)(hs:s.length<=90000):
  ∃H',Z7 (LK Zx fs fuel 2) fs fuel (n+2) 49 [.str s] H=.ret (.str (VN s)) H'∧ZK H H' []:=by
 rw[Z1 (ZU E.n49 (.inl (by decide)) _ _) E.f49]
 have e1:=λ{j}=>aU E (k:=2) (n:=j) (by decide) (x:=47) (H:=H) hs
 have hc:=AW 47 s
 unfold VN
 simp(disch:=omega) only[e1,Zcc,Yc,c49,Z9,Xg,ZY,Yu,Xe]
 refine⟨_,rfl,?_⟩
 exact ZK.refl _ _
theorem base(E:Env Zx fs fuel)(hk:3<=k)(hs:s.length<=90000):
  Z7 (LK Zx fs fuel k) fs fuel (n+1) 49 [.str s] H=.ret (.str (VN s)) H:=by
 obtain⟨H',e,g⟩:=nZ E (n:=898) (H:=H) hs
 exact Xc (r:=2) rfl rfl e g (rfl) hk
theorem pc(E:Env Zx fs fuel){p:List UInt8}(hs:s.length<=90000):
  ∃H',Z7 (LK Zx fs fuel 0) fs fuel (n+2) 109 [.str s,.str p] H=.ret (.bool (Ct p s)) H'∧ZK H H' []:=by
 rw[Z1 (ZU E.n109 (.inl (by decide)) _ _) E.f109]
 unfold Ct
 by_cases h:p.length<=s.length
 ·rw[Zi h]
  have d1:decide (p.length<=s.length)=true:=Zi h
  simp(disch:=omega) only[d1,Sv,ZR,YM,ZP,Yd,fC,Z9,Xg,ZY,Yu,Xe]
  refine⟨_,rfl,?_⟩
  exact ZK.refl _ _
 ·rw[Ze h]
  have d1:decide (p.length<=s.length)=false:=Ze h
  simp only[d1,Ov,ZR,ZP,fC,Z9,Xg,ZY,Xe]
  refine⟨_,rfl,?_⟩
  exact ZK.refl _ _
theorem Zd8(E:Env Zx fs fuel)(hk:1<=k){p:List UInt8}(hs:s.length<=90000):
  Z7 (LK Zx fs fuel k) fs fuel (n+1) 109 [.str s,.str p] H=.ret (.bool (Ct p s)) H:=by
 obtain⟨H',e,g⟩:=pc E (n:=898) (H:=H) hs
 exact Xc (r:=0) rfl rfl e g (rfl) hk
theorem lY(E:Env Zx fs fuel){p:List UInt8}(hs:s.length<=90000):
  ∃H',Z7 (LK Zx fs fuel 1) fs fuel (n+2) 80 [.str s,.str p] H=.ret (.bool (Ct p s)) H'∧ZK H H' []:=by
 rw[Z1 (ZU E.n80 (.inl (by decide)) _ _) E.f80]
 have e1:=λ{j}=>Zd8 E (k:=1) (n:=j) (by decide) (p:=p) (H:=H) hs
 simp only[e1,c80,Z9,Xg,ZY,Xe]
 refine⟨_,rfl,?_⟩
 exact ZK.refl _ _
theorem Zd7(E:Env Zx fs fuel)(hk:2<=k){p:List UInt8}(hs:s.length<=90000):
  Z7 (LK Zx fs fuel k) fs fuel (n+1) 80 [.str s,.str p] H=.ret (.bool (Ct p s)) H:=by
 obtain⟨H',e,g⟩:=lY E (n:=898) (H:=H) hs
 exact Xc (r:=1) rfl rfl e g (rfl) hk
theorem py(E:Env Zx fs fuel)(hs:s.length<=90000):
  ∃H',Z7 (LK Zx fs fuel 2) fs fuel (n+2) 50 [.str s] H=.ret (nI .i64 (P8 s)) H'∧ZK H H' []:=by
 rw[Z1 (ZU E.n50 (.inl (by decide)) _ _) E.f50]
 have e1:=λ{j}=>Zd7 E (k:=2) (n:=j) (by decide) (p:=[46,119,104,46]) (H:=H) hs
 unfold P8
 have eo:Ze1=[46,119,104,46,46,119,104,46,46,111,112,113]:=rfl
 have ew:gM=[46,119,104,46]:=rfl
 rw[eo,ew]
 by_cases h:s=[46,119,104,46,46,119,104,46,46,111,112,113]
 ·have d1:decide (s=[46,119,104,46,46,119,104,46,46,111,112,113])=true:=Zi h
  rw[if_pos h]
  simp only[d1,YM,c50,Z9,Xg,ZY,Xe]
  refine⟨_,rfl,?_⟩
  exact ZK.refl _ _
 ·have d1:decide (s=[46,119,104,46,46,119,104,46,46,111,112,113])=false:=Ze h
  rw[if_neg h]
  cases hq:Ct [46,119,104,46] s with
  |true=>
   rw[hq] at e1
   simp only[d1,e1,YM,c50,Z9,Xg,ZY,Xe]
   refine⟨_,rfl,?_⟩
   exact ZK.refl _ _
  |false=>
   rw[hq] at e1
   simp only[d1,e1,YM,c50,Z9,Xg,ZY,reduceCtorEq,Xe]
   refine⟨_,rfl,?_⟩
   exact ZK.refl _ _
theorem ZeI(E:Env Zx fs fuel)(hk:3<=k)(hs:s.length<=90000):
  Z7 (LK Zx fs fuel k) fs fuel (n+1) 50 [.str s] H=.ret (nI .i64 (P8 s)) H:=by
 obtain⟨H',e,g⟩:=py E (n:=898) (H:=H) hs
 exact Xc (r:=2) rfl rfl e g (rfl) hk
theorem lZ(E:Env Zx fs fuel){p:List UInt8}(hs:s.length<=90000):
  ∃H',Z7 (LK Zx fs fuel 0) fs fuel (n+2) 110 [.str s,.str p] H=.ret (.bool (decide (p.length<=s.length)&&decide (s.drop (s.length - p.length)=p))) H'∧ZK H H' []:=by
 rw[Z1 (ZU E.n110 (.inl (by decide)) _ _) E.f110]
 by_cases h:p.length<=s.length
 ·rw[Zi h]
  have d1:decide (p.length<=s.length)=true:=Zi h
  simp(disch:=omega) only[d1,Sv,ZR,YM,YQ,ZP,Yc,fD,Z9,Xg,ZY,Yu,Xe]
  refine⟨_,rfl,?_⟩
  exact ZK.refl _ _
 ·rw[Ze h]
  have d1:decide (p.length<=s.length)=false:=Ze h
  simp only[d1,Ov,ZR,ZP,fD,Z9,Xg,ZY,Xe]
  refine⟨_,rfl,?_⟩
  exact ZK.refl _ _
theorem ZhU(E:Env Zx fs fuel)(hk:1<=k){p:List UInt8}(hs:s.length<=90000):
  Z7 (LK Zx fs fuel k) fs fuel (n+1) 110 [.str s,.str p] H=.ret (.bool (decide (p.length<=s.length)&&decide (s.drop (s.length - p.length)=p))) H:=by
 obtain⟨H',e,g⟩:=lZ E (n:=898) (H:=H) hs
 exact Xc (r:=0) rfl rfl e g (rfl) hk
theorem tO(E:Env Zx fs fuel){p:List UInt8}(hs:s.length<=90000):
  ∃H',Z7 (LK Zx fs fuel 1) fs fuel (n+2) 81 [.str s,.str p] H=.ret (.str (if p.length<=s.length∧s.drop (s.length - p.length)=p then s.take (s.length - p.length) else s)) H'∧ZK H H' []:=by
 rw[Z1 (ZU E.n81 (.inl (by decide)) _ _) E.f81]
 have e1:=λ{j}=>ZhU E (k:=1) (n:=j) (by decide) (p:=p) (H:=H) hs
 by_cases h:p.length<=s.length∧s.drop (s.length - p.length)=p
 ·rw[if_pos h]
  rw[Zi h.1,Zi h.2] at e1
  simp(disch:=omega) only[e1,Bool.and_self,YQ,ZP,Yd,c81,Z9,Xg,ZY,Yu,Xe]
  refine⟨_,rfl,?_⟩
  exact ZK.refl _ _
 ·rw[if_neg h]
  have:(decide (p.length<=s.length)&&decide (s.drop (s.length - p.length)=p))=false:=by
   rw[Bool.eq_false_iff]
   intro e
   rw[Xf] at e
   exact h ⟨Zm e.1,Zm e.2⟩
  rw[this] at e1
  simp only[e1,c81,Z9,Xg,ZY,Xe]
  refine⟨_,rfl,?_⟩
  exact ZK.refl _ _
theorem ZcW(E:Env Zx fs fuel)(hk:2<=k){p:List UInt8}(hs:s.length<=90000):
  Z7 (LK Zx fs fuel k) fs fuel (n+1) 81 [.str s,.str p] H=.ret (.str (if p.length<=s.length∧s.drop (s.length - p.length)=p then s.take (s.length - p.length) else s)) H:=by
 obtain⟨H',e,g⟩:=tO E (n:=898) (H:=H) hs
 exact Xc (r:=1) rfl rfl e g (rfl) hk
theorem nC(E:Env Zx fs fuel){p:List UInt8}(hs:s.length<=90000):
  ∃H',Z7 (LK Zx fs fuel 2) fs fuel (n+2) 51 [.str s,.str p] H=.ret (.str (if p.length<=s.length∧s.drop (s.length - p.length)=p then s.take (s.length - p.length) else s)) H'∧ZK H H' []:=by
 rw[Z1 (ZU E.n51 (.inl (by decide)) _ _) E.f51]
 have e1:=λ{j}=>ZcW E (k:=2) (n:=j) (by decide) (p:=p) (H:=H) hs
 simp only[e1,c51,Z9,Xg,ZY,Xe]
 refine⟨_,rfl,?_⟩
 exact ZK.refl _ _
theorem ZaC(E:Env Zx fs fuel)(hk:3<=k){p:List UInt8}(hs:s.length<=90000):
  Z7 (LK Zx fs fuel k) fs fuel (n+1) 51 [.str s,.str p] H=.ret (.str (if p.length<=s.length∧s.drop (s.length - p.length)=p then s.take (s.length - p.length) else s)) H:=by
 obtain⟨H',e,g⟩:=nC E (n:=898) (H:=H) hs
 exact Xc (r:=2) rfl rfl e g (rfl) hk
theorem nD(p:List UInt8):(if (VN p).length<=p.length∧p.drop (p.length - (VN p).length)=VN p then p.take (p.length - (VN p).length) else p)=SH p:=by
 have hc:=AW 47 p
 unfold VN SH
 rw[Xt,show p.length - (p.length - Qv 47 p)=Qv 47 p by omega,if_pos ⟨by omega,rfl⟩]
theorem bH(d:List UInt8):(if ([47]:List UInt8).length<=d.length∧d.drop (d.length - ([47]:List UInt8).length)=[47] then d.take (d.length - ([47]:List UInt8).length) else d)=zI d:=rfl
theorem pj(E:Env Zx fs fuel){x:Nat}(hx:x<256):
  ∃H',Z7 (LK Zx fs fuel 0) fs fuel (n+2) 86 [.str s,nI .u8 x] H=.ret (mI (Vk x s)) H'∧ZK H H' []:=by
 rw[Z1 (ZU E.n86 (.inl (by decide)) _ _) E.f86]
 have ec: ∀{j},Z7 (LK Zx fs fuel 0) fs fuel (j+1) 117 [.str s,nI .u8 x] H=.ret (mI (Vk x s)) H:=λ{j}=>by
  rw[NA rfl (E.ix s x H hx),Zcd]
 simp only[ec,c86,Z9,Xg,ZY,Xe]
 refine⟨_,rfl,?_⟩
 exact ZK.refl _ _
theorem sZ(E:Env Zx fs fuel)(hk:1<=k){x:Nat}(hx:x<256):
  Z7 (LK Zx fs fuel k) fs fuel (n+1) 86 [.str s,nI .u8 x] H=.ret (mI (Vk x s)) H:=by
 obtain⟨H',e,g⟩:=pj E (n:=898) (H:=H) hx
 exact Xc (r:=0) rfl rfl e g (PZ _ _) hk
theorem ku(E:Env Zx fs fuel){x:Nat}(hx:x<256):
  ∃H',Z7 (LK Zx fs fuel 1) fs fuel (n+2) 55 [.str s,nI .u8 x] H=.ret (mI (Vk x s)) H'∧ZK H H' []:=by
 rw[Z1 (ZU E.n55 (.inl (by decide)) _ _) E.f55]
 have e1:=λ{j}=>sZ E (k:=1) (n:=j) (by decide) (s:=s) (H:=H) hx
 simp only[e1,c55,Z9,Xg,ZY,Xe]
 refine⟨_,rfl,?_⟩
 exact ZK.refl _ _
theorem ZbX(E:Env Zx fs fuel)(hk:2<=k){x:Nat}(hx:x<256):
  Z7 (LK Zx fs fuel k) fs fuel (n+1) 55 [.str s,nI .u8 x] H=.ret (mI (Vk x s)) H:=by
 obtain⟨H',e,g⟩:=ku E (n:=898) (H:=H) hx
 exact Xc (r:=1) rfl rfl e g (PZ _ _) hk
theorem v8(E:Env Zx fs fuel):
  ∃H',Z7 (LK Zx fs fuel 1) fs fuel (n+2) 122 [.str s,.str [47]] H=.ret (mI (Vk 47 s)) H'∧ZK H H' []:=by
 rw[Z1 (ZU E.n122 (.inl (by decide)) _ _) E.f122]
 have e1:=λ{j}=>sZ E (k:=1) (n:=j) (by decide) (s:=s) (x:=47) (H:=H) (by decide)
 have wl:([47]:List UInt8).length=1:=rfl
 have w0:([47]:List UInt8).getD 0 0=47:=rfl
 have w1:(47:UInt8).toNat=47:=rfl
 by_cases h:([47]:List UInt8)=s
 ·have d_h:decide (([47]:List UInt8)=s)=true:=Zi h
  simp only[wl,d_h,YL,YM,ZP,decide_false,yG,Z9,Xg,ZY,reduceCtorEq,Xe]
  subst h
  refine⟨_,rfl,?_⟩
  exact ZK.refl _ _
 ·have d_h:decide (([47]:List UInt8)=s)=false:=Ze h
  simp(disch:=omega) only[wl,w0,w1,e1,d_h,Yl,YL,YM,ZP,decide_true,decide_false,yG,Z9,Xg,ZY,reduceCtorEq,Xe]
  refine⟨_,rfl,?_⟩
  exact ZK.refl _ _
theorem ZbY(E:Env Zx fs fuel)(hk:2<=k):
  Z7 (LK Zx fs fuel k) fs fuel (n+1) 122 [.str s,.str [47]] H=.ret (mI (Vk 47 s)) H:=by
 obtain⟨H',e,g⟩:=v8 E (n:=898) (H:=H)
 exact Xc (r:=1) rfl rfl e g (PZ _ _) hk
theorem pm(E:Env Zx fs fuel):
  ∃H',Z7 (LK Zx fs fuel 2) fs fuel (n+2) 91 [.str s,.str [47]] H=.ret (mI (Vk 47 s)) H'∧ZK H H' []:=by
 rw[Z1 (ZU E.n91 (.inl (by decide)) _ _) E.f91]
 have e1:=λ{j}=>ZbY E (k:=2) (n:=j) (by decide) (s:=s) (H:=H)
 simp only[e1,c91,Z9,Xg,ZY,Xe]
 refine⟨_,rfl,?_⟩
 exact ZK.refl _ _
theorem index(E:Env Zx fs fuel)(hk:3<=k):
  Z7 (LK Zx fs fuel k) fs fuel (n+1) 91 [.str s,.str [47]] H=.ret (mI (Vk 47 s)) H:=by
 obtain⟨H',e,g⟩:=pm E (n:=898) (H:=H)
 exact Xc (r:=2) rfl rfl e g (PZ _ _) hk
theorem qA(E:Env Zx fs fuel):
  ∃H',Z7 (LK Zx fs fuel 0) fs fuel (n+2) 167 [.str s,.str [47]] H=.ret (nI .i64 (XT 47 s 0)) H'∧ZK H H' []:=by
 rw[Z1 (ZU E.n167 (.inl (by decide)) _ _) E.f167]
 have ec: ∀{j},Z7 (LK Zx fs fuel 0) fs fuel (j+1) 191 [.str s,nI .u8 47] H=.ret (nI .i64 (XT 47 s 0)) H:=λ{j}=>by
  rw[NA rfl (E.cn s 47 H (by omega))]
 have wl:([47]:List UInt8).length=1:=rfl
 have w0:([47]:List UInt8).getD 0 0=47:=rfl
 have w1:(47:UInt8).toNat=47:=rfl
 simp(disch:=omega) only[wl,w0,w1,ec,Yl,YL,ZP,decide_true,decide_false,Za5,Z9,Xg,ZY,reduceCtorEq,Xe]
 refine⟨_,rfl,?_⟩
 exact ZK.refl _ _
theorem count(E:Env Zx fs fuel)(hk:1<=k):
  Z7 (LK Zx fs fuel k) fs fuel (n+1) 167 [.str s,.str [47]] H=.ret (nI .i64 (XT 47 s 0)) H:=by
 obtain⟨H',e,g⟩:=qA E (n:=898) (H:=H)
 exact Xc (r:=0) rfl rfl e g (rfl) hk
theorem vI(E:Env Zx fs fuel){a:List UInt8}(hs:a.length+s.length<=90000):
  ∃H',Z7 (LK Zx fs fuel 0) fs fuel (n+2) 225 [.str a,.str s] H=.ret (.str (a++s)) H'∧ZK H H' []:=by
 rw[Z1 (ZU E.n225 (.inl (by decide)) _ _) E.f225]
 have ad:=λG=>Nz (a:=a) (b:=s) (by omega) G
 simp only[ad,Za7,Z9,Xg,ZY,Xe]
 refine⟨_,rfl,?_⟩
 exact ZK.refl _ _
theorem Zbb(E:Env Zx fs fuel)(hk:1<=k){a:List UInt8}(hs:a.length+s.length<=90000):
  Z7 (LK Zx fs fuel k) fs fuel (n+1) 225 [.str a,.str s] H=.ret (.str (a++s)) H:=by
 obtain⟨H',e,g⟩:=vI E (n:=898) (H:=H) hs
 exact Xc (r:=0) rfl rfl e g (rfl) hk
theorem vJ(E:Env Zx fs fuel){a:List UInt8}(hs:a.length+s.length<=90000)(h4:4<=s.length):
  ∃H',Z7 (LK Zx fs fuel 0) fs fuel (n+2) 226 [.str a,.str s] H=.ret (.str (a++s.drop 4)) H'∧ZK H H' []:=by
 rw[Z1 (ZU E.n226 (.inl (by decide)) _ _) E.f226]
 have ad:=λG=>Nz (a:=a) (b:=s.drop 4) (by rw[Xt];omega) G
 simp(disch:=omega) only[ad,Yc,Za8,Z9,Xg,ZY,Yu,Xe]
 refine⟨_,rfl,?_⟩
 exact ZK.refl _ _
theorem Zbc(E:Env Zx fs fuel)(hk:1<=k){a:List UInt8}(hs:a.length+s.length<=90000)(h4:4<=s.length):
  Z7 (LK Zx fs fuel k) fs fuel (n+1) 226 [.str a,.str s] H=.ret (.str (a++s.drop 4)) H:=by
 obtain⟨H',e,g⟩:=vJ E (n:=898) (H:=H) hs h4
 exact Xc (r:=0) rfl rfl e g (rfl) hk
theorem vK(E:Env Zx fs fuel){a:List UInt8}(hs:a.length<=90000):
  ∃H',Z7 (LK Zx fs fuel 3) fs fuel (n+2) 227 [.str a,.str s] H=.ret (.str (zI a)) H'∧ZK H H' []:=by
 rw[Z1 (ZU E.n227 (.inl (by decide)) _ _) E.f227]
 have e1:=λ{j}=>ZaC E (k:=3) (n:=j) (by decide) (s:=a) (p:=[47]) (H:=H) hs
 rw[bH] at e1
 simp only[e1,Za9,Z9,Xg,ZY,Xe]
 refine⟨_,rfl,?_⟩
 exact ZK.refl _ _
theorem Zbd(E:Env Zx fs fuel)(hk:4<=k){a:List UInt8}(hs:a.length<=90000):
  Z7 (LK Zx fs fuel k) fs fuel (n+1) 227 [.str a,.str s] H=.ret (.str (zI a)) H:=by
 obtain⟨H',e,g⟩:=vK E (n:=898) (H:=H) hs
 exact Xc (r:=3) rfl rfl e g (rfl) hk
def dW(e sz bytes:Nat)(zs:List AV)(l c:AV)(H:Heap):OR:=T8 l λl=>T8 c λc=>Yb (Nat.ble 1 sz)<|Yb (Nat.ble l c) (Yb (Nat.ble c 140737488355328)<|Yb (Nat.ble (Nat.mul c bytes) 140737488355328) (rx H e sz l c zs))
theorem Ly(e sz bytes:Nat)(zs:List AV)(l c:YF)(tm:TM)(H:Heap):Lx e sz bytes zs l c tm H=dW e sz bytes zs (l tm) (c tm) H:=rfl
theorem uz{e bytes:Nat}{z:AV}(h:n*bytes<=140737488355328)(h1:n<=140737488355328)(k k':IntKind)(H:Heap):dW e 1 bytes [z] (nI k n) (nI k' n) H=.val (.slice H.nx 0 n none) (H.new (.row ⟨e,1,n,.leaf,z,0,false,true,true⟩)):=by
 show Yb (Nat.ble 1 1) (Yb (Nat.ble n n) (Yb (Nat.ble n 140737488355328) (Yb (Nat.ble (n*bytes) 140737488355328) (rx H e 1 n n [z]))))=_
 rw[Zj (Zz n),Zj h1,Zj h];rfl
def qi(H:Heap)(b:Nat)(l:List (List UInt8)):Prop:= ∃r,H.t.get b=some (.row r)∧r.sz=1∧r.size=l.length∧r.own=true∧b<H.nx∧ ∀i,i<l.length->r.get i=.str (l.getD i [])
theorem qi.keep{H H':Heap}{l:List (List UInt8)}(h:qi H b l)(k:ZK H H' []):qi H' b l:=by
 obtain⟨r,h1,h2,h3,h4,h5,h6⟩:=h
 exact⟨r,by rw[k.get _ h5 (by simp)];exact h1,h2,h3,h4,Yk h5 k.nx,h6⟩
theorem o8{m:Nat}{r:Row}(g:H.t.get b=some (.row r))(hz:r.sz=1)(hs:r.size=n)(hm:m<=n)(h0:0<n)(k:IntKind):Th 1 (.slice b 0 n none) none (some (nI k m)) H=.val (.slice b 0 m none) H:=by
 show XA H b _=_
 unfold XA
 rw[g]
 have e1:MU r 1 none=true:=by show Nat.beq r.sz 1=true;rw[hz];rfl
 have e2:VO r 0 none=n:=by show cond (Nat.beq r.sz 1) (r.size - 0) _=_;rw[hz,hs];rfl
 show Yb (MU r 1 none) (PU (some (nI k m)) n (VO r 0 none) λh=>PU none 0 h λl=>Yb (Nat.ble l (VO r 0 none)) (cond (Nat.beq l (VO r 0 none)) _ _))=_
 rw[e1,e2]
 show Yb (Nat.ble m n) (Yb (Nat.ble 0 n) (cond (Nat.beq 0 n) _ (OR.val (.slice b (0+0*1) (m - 0) none) H)))=_
 rw[Zj hm,Zj (ZA n),show Nat.beq 0 n=false by rw[YZ];exact Ze (by omega)]
 rfl
structure GSI(s:List UInt8)(H0:Heap)(m:Nat)(tm:TM)(H:Heap):Prop where
 t1:Wj tm=.str [47]
 t2:VE tm=nI .i64 0
 t3:V5 tm=nI .i64 (XT 47 s 0)
 t9:WV tm=.slice H0.nx 0 (XT 47 s 0+1) none
 i: ∃i u,XD tm=nI .i64 i∧YX tm=.str u∧i+m=XT 47 s 0∧(Up s).drop i=Up u∧u.length<=s.length∧
  ∃r,H.t.get H0.nx=some (.row r)∧r.sz=1∧r.size=XT 47 s 0+1∧r.fz=0∧r.own=true∧ ∀k,k<i->r.get k=.str ((Up s).getD k [])
 k:ZK H0 H []
 nx:H.nx=H0.nx+1
def GSQ(s:List UInt8)(H0:Heap)(o:Out)(tm:TM)(H:Heap):Prop:=o=.exit 0∧GSI s H0 0 tm H
theorem C8{α:Type}{l:List α}{a:α}{b:List α}(d:α)(h:l.drop i=a::b):l.getD i d=a∧l.drop (i+1)=b:=by
 have h1:(l.drop i)[0]? =some a:=by rw[h];rfl
 rw[XN,Zd] at h1
 refine⟨by rw[Zh,h1];rfl,?_⟩
 rw[<-TS,h];rfl
theorem eH(E:Env Zx fs fuel)(hk:3<=k)(hs:s.length<=90000)(hro:H0.ro<=H0.nx)(y f dd q)(X0:X)(m:Nat)(tm:TM)(H:Heap)(hI:GSI s H0 m tm H):
  ∃o tm' H',JD ⟨Z7 (LK Zx fs fuel k) fs fuel (n+1),y,f,dd,q⟩ tm H X0=.ok o tm' H' X0∧((o=.normal∧ ∃k,k<m∧GSI s H0 k tm' H')∨(o≠.normal∧GSQ s H0 o tm' H')):=by
 have hI':=hI
 obtain⟨t1,t2,t3,t9,⟨i,u,t10,t0,him,hd,hul,r,g,hz,hsz,hfz,how,hg⟩,k0,hnx⟩:=hI
 have t1':=t1;have t2':=t2;have tJ:=t3;have t9':=t9
 simp only[Mc,E2,Cl,FC,eJ,xh] at t0 t1 t2 t3 t9 t10
 have hc:=AU 47 s
 cases m with
 |zero=>
  have d1:decide (i<XT 47 s 0)=false:=Ze (by omega)
  simp only[t3,t10,d1,Zu,JD,Z9,Xg,Xe,U4]
  refine⟨_,_,_,rfl,.inr ⟨by simp,?_⟩⟩
  obtain⟨a,b,cc,dx,⟨i',u',e1,e2,rest⟩,ee,ff⟩:=hI'
  exact⟨rfl,a,b,cc,dx,⟨i',u',e1,e2,rest⟩,ee,ff⟩
 |succ m=>
  have d1:decide (i<XT 47 s 0)=true:=Zi (by omega)
  have hlen:(Up u).length=XT 47 s 0+1 - i:=by rw[<-hd,Xt,Pr]
  cases hj:Vk 47 u with
  |zero=>rw[Jk hj] at hlen;simp at hlen;omega
  |succ j=>
   obtain⟨j1,_⟩:=A5 hj
   have e1:=λ{q}=>index E (k:=k) (n:=q) hk (H:=H) (s:=u)
   rw[hj,ja] at e1
   have d2:decide (j<0)=false:=Ze (by omega)
   have sp:=Gc hj
   rw[sp] at hd
   obtain⟨hd1,hd2⟩:=C8 [] hd
   have wl:([47]:List UInt8).length=1:=rfl
   have sf:=λ(G:Heap) (hG:G.ro<=H0.nx)=>TF (r:=r) (b:=H0.nx) (o:=i) (v:=.str (u.take j)) (H:=G) rfl (by omega) how hG (by omega)
   have sf:=sf H (by rw[k0.ro];exact hro)
   simp(disch:=omega) only[t0,t1,t2,t3,t9,t10,d1,d2,e1,wl,g,sf,Z0,Zb,Zd,Zu,YB,ZP,Yc,Yd,JD,Z9,Xg,Yu,Xe,U4]
   refine⟨_,_,_,rfl,.inl ⟨rfl,m,by omega,t1',t2',tJ,t9',⟨i+1,u.drop (j+1),rfl,rfl,by omega,hd2,by rw[Xt];omega,r.st i (.str (u.take j)),Xv ..,hz,hsz,hfz,how,λq hq=>?_⟩,k0.then_put (λh=>by omega),by rw[Mk];exact hnx⟩⟩
   rw[Row.st_get]
   by_cases h:i=q
   ·subst h;rw[if_pos rfl,hd1]
   ·rw[if_neg h,hg q (by omega)]
theorem qR(E:Env Zx fs fuel)(hk:3<=k)(hs:s.length<=90000)(hro:H.ro<=H.nx):
  ∃H',Z7 (LK Zx fs fuel k) fs fuel (n+2) 143 [.str s,.str [47],nI .i64 0,.int .i64 (.negSucc 0)] H=.ret (.slice H.nx 0 (Up s).length none) H'∧qi H' H.nx (Up s)∧ZK H H' []∧H'.nx=H.nx+1:=by
 rw[Z1 (ZU E.n143 (.inr rfl) _ _) E.f143]
 have hc:=AU 47 s
 have ec:=λ{j}=>count E (k:=k) (n:=j) (by omega) (H:=H) (s:=s)
 have ZiR: ∀G,ND VU false (.int .i64 (.negSucc 0)) (nI .i64 0) G=.val (.bool false) G:=λ_=>rfl
 have negl: ∀G,Tl Wd Xl (.int .i64 (.negSucc 0)) (nI .i64 0) G=.val (.bool true) G:=λ_=>rfl
 have mn:min (XT 47 s 0+1) (s.length+1)=XT 47 s 0+1:=by omega
 have ml:=λG=>uz (e:=9) (bytes:=16) (n:=XT 47 s 0+1) (z:=.str []) (by omega) (by omega) .i64 .i64 G
 simp(disch:=omega) only[ec,ZiR,negl,NN,mn,Ly,ml,Vq,YM,YQ,YB,ZP,decide_false,Za0,Z9,Xg,reduceCtorEq,Xe,U4]
 generalize hL:Ue (JD _) fuel _ _ _=L
 obtain⟨o,Ny,H1,rfl,_,rfl,z⟩:=XZ (P:=λT=>GSI s H (XT 47 s 0) T (H.new (.row ⟨9,1,XT 47 s 0+1,.leaf,.str [],0,false,true,true⟩))) (Q:=GSQ s H)
  (λT hi=>We (GSI s H) (GSQ s H) (λm tm H1 h=>eH E hk hs hro _ _ _ _ _ m tm H1 h) fuel (XT 47 s 0) T _ (by have:=E.big;omega) hi) hL
  (by exact⟨rfl,rfl,rfl,rfl,⟨0,s,rfl,rfl,by omega,rfl,Zz _,_,YD rfl _,rfl,rfl,rfl,rfl,λk hk=>by omega⟩,ZK.new _ _ _,rfl⟩)
 obtain⟨t1,t2,t3,t9,⟨i,u,t10,t0,him,hd,hul,r,g,hz,hsz,hfz,how,hg⟩,k0,hnx⟩:=z
 simp only[Mc,eJ,xh] at t0 t9 t10
 obtain rfl:i=XT 47 s 0:=by omega
 have hlen:(Up u).length=1:=by rw[<-hd,Xt,Pr];omega
 have hu:Up u=[u]:=by
  cases hj:Vk 47 u with
  |zero=>exact Jk hj
  |succ j=>
   have:=Gc hj
   have h2:=Sb.2 (IE (u.drop (j+1)))
   rw[this,Zl] at hlen;omega
 rw[hu] at hd
 obtain⟨hd1,_⟩:=C8 [] hd
 have sf:=TF (r:=r) (b:=H.nx) (o:=XT 47 s 0) (v:=.str u) (H:=H1) rfl (by omega) how (by rw[k0.ro];exact hro) (by omega)
 have sl:=o8 (H:=H1.put H.nx (.row (r.st (XT 47 s 0) (.str u)))) (b:=H.nx) (n:=XT 47 s 0+1) (m:=XT 47 s 0+1) (r:=r.st (XT 47 s 0) (.str u)) (Xv ..) hz hsz (Zz _) (by omega) .i64
 simp(disch:=omega) only[t0,t9,t10,g,sf,sl,Z0,Zb,YB,Z9,Xg,ZY,Yu,Xe,U4,CK]
 rw[Pr]
 refine⟨_,rfl,⟨_,Xv ..,hz,by rw[Pr];exact hsz,how,by rw[Mk];omega,λq hq=>?_⟩,k0.then_put (λh=>by omega),by rw[Mk];exact hnx⟩
 rw[Pr] at hq
 rw[Row.st_get]
 by_cases h:XT 47 s 0=q
 ·subst h;rw[if_pos rfl,hd1]
 ·rw[if_neg h,hg q (by omega)]
theorem ZcR(E:Env Zx fs fuel)(hk:3<=k)(hs:s.length<=90000)(hro:H.ro<=H.nx):
  ∃H',Z7 (LK Zx fs fuel k) fs fuel (n+3) 111 [.str s,.str [47]] H=.ret (.slice H.nx 0 (Up s).length none) H'∧qi H' H.nx (Up s)∧ZK H H' []∧H'.nx=H.nx+1:=by
 rw[Z1 (ZU E.n111 (.inr rfl) _ _) E.f111]
 obtain⟨H',e1,r1⟩:=qR E (n:=n) hk hs hro
 refine⟨H',?_,r1⟩
 simp only[e1,ZaS,Z9,Xg,ZY,Xe]
def AH(H:Heap)(v:AV)(l:List (List UInt8)):Prop:=(v=.nils∧l=[])∨ ∃b,v=.slice b 0 l.length none∧0<l.length∧qi H b l
theorem AH.keep{H H':Heap}{v:AV}{l:List (List UInt8)}(h:AH H v l)(k:ZK H H' []):AH H' v l:=by
 rcases h with h|⟨b,h1,h2,h3⟩
 ·exact .inl h
 ·exact .inr ⟨b,h1,h2,h3.keep k⟩
theorem AH.len{v:AV}{l:List (List UInt8)}(h:AH H v l)(G:Heap):Ll v G=.val (nI .i64 l.length) G:=by
 rcases h with⟨rfl,rfl⟩|⟨b,rfl,_⟩
 ·rfl
 ·exact SU ..
theorem uU(E:Env Zx fs fuel)(hk:3<=k)(hs:s.length<=90000)(hro:H.ro<=H.nx):
  ∃v H',Z7 (LK Zx fs fuel k) fs fuel (n+4) 82 [.str s] H=.ret v H'∧AH H' v (RY s)∧ZK H H' []:=by
 rw[Z1 (ZU E.n82 (.inr rfl) _ _) E.f82]
 unfold RY
 by_cases h:s=[]
 ·have d1:decide (s=[])=true:=Zi h
  rw[if_pos h]
  simp only[d1,YM,c82,Z9,Xg,ZY,Xe]
  exact⟨_,_,rfl,.inl ⟨rfl,rfl⟩,ZK.refl _ _⟩
 ·have d1:decide (s=[])=false:=Ze h
  rw[if_neg h]
  obtain⟨H',e1,r1,k1,_⟩:=ZcR E (n:=n) hk hs hro
  simp only[d1,e1,YM,c82,Z9,Xg,ZY,Xe]
  exact⟨_,_,rfl,.inr ⟨_,rfl,Sb.2 (IE s),r1⟩,k1⟩
theorem xM(e:Nat)(tm:TM)(H:Heap):V9 e Mu tm H=.val (.ptr H.nx 0) (H.new (rG e 1 Mu 0 false true true)):=by
 rw[Dl _ _ (by rw[Y6];unfold Mu;rw[Z5];decide)];rfl
theorem xB{v:AV}(hv:WC n v=true): ∀{l:List AV} {i:Nat},Rv n l=true->Rv n (l.set i v)=true
 |[],_,h=>h
 |a::l,0,h=>by
  have h:cond (WC n a) (Rv n l) false=true:=h
  show cond (WC n v) (Rv n l) false=true
  rw[hv]
  cases ha:WC n a with
  |false=>rw[ha] at h;cases h
  |true=>rw[ha] at h;exact h
 |a::l,i+1,h=>by
  have h:cond (WC n a) (Rv n l) false=true:=h
  show cond (WC n a) (Rv n (l.set i v)) false=true
  cases ha:WC n a with
  |false=>rw[ha] at h;cases h
  |true=>rw[ha] at h;exact xB hv h
theorem iM(n:Nat)(cs:List UInt8):Rv n (QW cs)=true:=by
 unfold QW
 have: ∀(cs:List UInt8) (L:List AV),Rv n L=true->Rv n (cs.foldl (λL c=>L.set c.toNat (.bool true)) L)=true:=by
  intro cs
  induction cs with
  |nil=>intro L h;exact h
  |cons c cs ih=>intro L h;exact ih _ (xB rfl h)
 refine this cs Mu ?_
 unfold Mu
 have r: ∀m,Rv n (List.replicate m (AV.bool false))=true:=by
  intro m
  induction m with
  |zero=>rfl
  |succ m ih=>rw[Ww];exact ih
 exact r 256
structure Qn(cs:List UInt8):Prop where
 lo:2<=cs.length
 hi:cs.length<=3
 lt: ∀c∈cs,c.toNat<128
theorem Qn.at_{cs:List UInt8}(h:Qn cs)(hi:i<cs.length):(cs.getD i 0).toNat<128:=by
 rw[Zh,Zp hi];exact h.lt _ (Wz hi)
theorem Qn.fst{cs:List UInt8}(h:Qn cs){x:Nat}(hx:128<=x):Vk x cs=0:=Oz.2 λc hc=>by have:=h.lt c hc;omega
theorem Qn.fstd{cs:List UInt8}(h:Qn cs){x:Nat}(hx:128<=x):Vk x (cs.drop i)=0:=Oz.2 λc hc=>by have:=h.lt c (Tb hc);omega
structure MSI(cs:List UInt8)(H0:Heap)(m:Nat)(tm:TM)(H:Heap):Prop where
 t0:YX tm=.str cs
 t2:VE tm=.ptr H0.nx 0
 i: ∃i,XY tm=nI .i64 i∧i+m=cs.length∧H.t.get H0.nx=some (rH 169 (QW (cs.take i)))
 k:ZK H0 H []
 nx:H0.nx<H.nx
def MSQ(cs:List UInt8)(H0:Heap)(o:Out)(tm:TM)(H:Heap):Prop:=o=.exit 0∧VE tm=.ptr H0.nx 0∧H.t.get H0.nx=some (rH 169 (QW cs))∧ZK H0 H []∧H0.nx<H.nx
theorem dZ{cs:List UInt8}(ha:Qn cs)(hro:H0.ro<=H0.nx)(cx:Ctx)(X0:X)(m:Nat)(tm:TM)(H:Heap)(hI:MSI cs H0 m tm H):
  ∃o tm' H',JA cx tm H X0=.ok o tm' H' X0∧((o=.normal∧ ∃k,k<m∧MSI cs H0 k tm' H')∨(o≠.normal∧MSQ cs H0 o tm' H')):=by
 obtain⟨t0,t2,⟨i,t4,him,g⟩,k0,hnx⟩:=hI
 have t0':=t0;have t2':=t2
 simp only[Mc,Cl,PD] at t0 t2 t4
 have h3:=ha.hi
 cases m with
 |zero=>
  have d1:decide (i<cs.length)=false:=Ze (by omega)
  simp only[t0,t4,d1,Zu,ZP,JA,Z9,Xg,Xe]
  rw[Y1 (by omega)] at g
  refine⟨_,_,_,rfl,?_⟩
  exact .inr ⟨by simp,rfl,t2',g,k0,hnx⟩
 |succ m=>
  have d1:decide (i<cs.length)=true:=Zi (by omega)
  have hx:=ha.at_ (i:=i) (by omega)
  have d2:decide (128<=(cs.getD i 0).toNat)=false:=Ze (by omega)
  have hl:=Ix (cs.take i)
  have hl2:(cs.getD i 0).toNat<(QW (cs.take i)).length:=by rw[hl];omega
  have sf:=SE (v:=.bool true) (b:=H0.nx) (H:=H) rfl hl2 (by rw[k0.ro];exact hro) (ZA _) 169 1 false true
  simp(disch:=omega) only[t0,t2,t4,d1,d2,g,sf,Yl,ZR,Zu,YB,ZP,Yt,Zb,JA,Z9,Xg,Xe]
  refine⟨_,_,_,rfl,?_⟩
  exact .inl ⟨rfl,m,by omega,t0',t2',⟨i+1,rfl,by omega,by rw[Gq (by omega),oW];exact Xv ..⟩,k0.then_put (λh=>by omega),by rw[Mk];exact hnx⟩
theorem pP(E:Env Zx fs fuel){cs:List UInt8}(ha:Qn cs)(hro:H.ro<=H.nx):
  ∃H',Z7 (LK Zx fs fuel 0) fs fuel (n+2) 115 [.str cs] H=.ret (.tup [.agg (QW cs),.bool true]) H'∧ZK H H' []:=by
 rw[Z1 (ZU E.n115 (.inl (by decide)) _ _) E.f115]
 simp only[xM,ZaV,Z9,Xe]
 generalize hL:Ue (JA _) fuel _ _ _=L
 have h3:=ha.hi
 obtain⟨o,Ny,H1,rfl,_,rfl,t2,g,k0,hnx⟩:=XZ (P:=λT=>MSI cs H cs.length T (H.new (rH 169 Mu))) (Q:=MSQ cs H)
  (λT hi=>We (MSI cs H) (MSQ cs H) (λm tm H1 h=>dZ ha hro _ _ m tm H1 h) fuel cs.length T _ (by have:=E.big;omega) hi) hL
  (by exact⟨rfl,rfl,⟨0,rfl,by omega,YD rfl _⟩,ZK.new _ _ _,YP _⟩)
 simp only[Cl] at t2
 have hl:=Ix cs
 have sf:=SD (n:=256) (b:=H.nx) (l:=QW cs) (vs:=QW cs) (H:=H1) hl hl (by decide) (by rw[k0.ro];exact hro) 169 1 false true
 have ld: ∀G,zq 256 (some (rH 169 (QW cs))) 0 G=.val (.agg (QW cs)) G:=λG=>by
  rw[TJ (by rw[hl];decide)]
  rw[ZC,Y1 (by rw[hl];decide)]
 have rv: ∀k,rV 256 true (some (rH 169 (QW cs))) 0 k=k (.agg (QW cs)):=λk=>j6 hl k
 simp only[t2,g,sf,ld,rv,Z9,Xg,ZY,Xe]
 refine⟨_,rfl,?_⟩
 exact k0.then_put (λh=>by omega)
theorem ZeR(E:Env Zx fs fuel)(hk:1<=k){cs:List UInt8}(ha:Qn cs)(hro:H.ro<=H.nx):
  Z7 (LK Zx fs fuel k) fs fuel (n+1) 115 [.str cs] H=.ret (.tup [.agg (QW cs),.bool true]) H:=by
 obtain⟨H',e,g⟩:=pP E (n:=898) (H:=H) ha hro
 exact Xc (r:=0) rfl rfl e g (by
  show cond (Rv 0 (QW cs)) _ false=true
  rw[iM];rfl) hk
theorem qz(E:Env Zx fs fuel){cs:List UInt8}{x:UInt8}(g:H.t.get b=some (rH 169 (QW cs))):
  ∃H',Z7 (LK Zx fs fuel 0) fs fuel (n+2) 116 [.ptr b 0,nI .u8 x.toNat] H=.ret (.bool (decide (x∈cs))) H'∧ZK H H' []:=by
 rw[Z1 (ZU E.n116 (.inl (by decide)) _ _) E.f116]
 have hx:=x.toNat_lt
 have hl:=Ix cs
 have hl2:x.toNat<(QW cs).length:=by rw[hl];exact hx
 have sg:=iL cs (x:=x)
 have ld: ∀G,ld1 (some (rH 169 (QW cs))) x.toNat G=.val (.bool (decide (x∈cs))) G:=λG=>by rw[Un hl2,sg]
 simp(disch:=omega) only[g,ld,Yt,Zb,ZaW,Z9,Xg,ZY,Xe]
 refine⟨_,rfl,?_⟩
 exact ZK.refl _ _
theorem ZdH(E:Env Zx fs fuel)(hk:1<=k){cs:List UInt8}{x:UInt8}(g:H.t.get b=some (rH 169 (QW cs))):
  Z7 (LK Zx fs fuel k) fs fuel (n+1) 116 [.ptr b 0,nI .u8 x.toNat] H=.ret (.bool (decide (x∈cs))) H:=by
 obtain⟨H',e,g⟩:=qz E (n:=898) (H:=H) g
 exact Xc (r:=0) rfl rfl e g (rfl) hk
theorem tu(E:Env Zx fs fuel){x:Nat}:
  ∃H',Z7 (LK Zx fs fuel 0) fs fuel (n+2) 114 [nI .i64 x] H=.ret (.bool (decide (8<x))) H'∧ZK H H' []:=by
 rw[Z1 (ZU E.n114 (.inl (by decide)) _ _) E.f114]
 simp only[ZM,ZaU,Z9,Xg,ZY,Xe]
 refine⟨_,rfl,?_⟩
 exact ZK.refl _ _
theorem ZcP(E:Env Zx fs fuel)(hk:1<=k){x:Nat}:
  Z7 (LK Zx fs fuel k) fs fuel (n+1) 114 [nI .i64 x] H=.ret (.bool (decide (8<x))) H:=by
 obtain⟨H',e,g⟩:=tu E (n:=898) (H:=H)
 exact Xc (r:=0) rfl rfl e g (rfl) hk
theorem tQ(E:Env Zx fs fuel){x:Nat}(h1:128<=x)(h2:x<=1114111):
  ∃H',Z7 (LK Zx fs fuel 0) fs fuel (n+2) 144 [nI .i32 x] H=.ret (.bool (decide (x<55296)||decide (57343<x))) H'∧ZK H H' []:=by
 rw[Z1 (ZU E.n144 (.inl (by decide)) _ _) E.f144]
 have d3:decide (x<=1114111)=true:=Zi h2
 by_cases h:x<55296
 ·have d1:decide (x<55296)=true:=Zi h
  rw[d1,Bool.true_or]
  simp only[d1,ZO,Zu,ZA,decide_true,mh,Z9,Xg,ZY,Xe]
  refine⟨_,rfl,?_⟩
  exact ZK.refl _ _
 ·have d1:decide (x<55296)=false:=Ze h
  rw[d1,Bool.false_or]
  by_cases h':57343<x
  ·have d2:decide (57343<x)=true:=Zi h'
   rw[d2]
   simp only[d1,d2,d3,ZO,Zu,ZA,decide_true,mh,Z9,Xg,ZY,Xe]
   refine⟨_,rfl,?_⟩
   exact ZK.refl _ _
  ·have d2:decide (57343<x)=false:=Ze h'
   rw[d2]
   simp only[d1,d2,ZO,Zu,ZA,decide_true,mh,Z9,Xg,ZY,Xe]
   refine⟨_,rfl,?_⟩
   exact ZK.refl _ _
theorem Zc0(E:Env Zx fs fuel)(hk:1<=k){x:Nat}(h1:128<=x)(h2:x<=1114111):
  Z7 (LK Zx fs fuel k) fs fuel (n+1) 144 [nI .i32 x] H=.ret (.bool (decide (x<55296)||decide (57343<x))) H:=by
 obtain⟨H',e,g⟩:=tQ E (n:=898) (H:=H) h1 h2
 exact Xc (r:=0) rfl rfl e g (rfl) hk
def Zag(a:AV)(H:Heap):OR:=Qh a λ_ n=>.val (.str (Utf8.encode n).data.toList) H
theorem YO(x:YF)(tm:TM)(H:Heap):rF x tm H=Zag (x tm) H:=rfl
def rU(a:AV)(H:Heap):OR:=PL a λs=>.val (.ptr H.nx 0) (H.new (.siter s 0))
theorem Yq(x:YF)(tm:TM)(H:Heap):F0 x tm H=rU (x tm) H:=rfl
theorem Yj(s:List UInt8)(H:Heap):rU (.str s) H=.val (.ptr H.nx 0) (H.new (.siter s 0)):=rfl
def rC(o:Option Obj)(b:Nat)(H:Heap):OR:=Yb (Nat.ble H.ro b)<|match o with
 |some o=>tY o λs pos=>cond (Nat.ble (Nat.succ pos) (Xa s)) (match Utf8.decode ⟨s.toArray⟩ pos with|(c,w)=>.val (.tup [.bool true,.int .i64 (.ofNat pos),.int .i32 c]) (H.put b (.siter s (Nat.add pos w)))) (.val (.tup [.bool false]) H)
 |none=>.fail
def aZ(a:AV)(H:Heap):OR:=Rq a λb o=>Yb (Nat.beq o 0)<|rC (H.t.get b) b H
theorem YK(x:YF)(tm:TM)(H:Heap):rE x tm H=aZ (x tm) H:=by
 show Rq (x tm) _=Rq (x tm) _
 congr 1
theorem YJ(b:Nat)(H:Heap):aZ (.ptr b 0) H=rC (H.t.get b) b H:=rfl
theorem Dk{r w:Nat}(hro:H.ro<=b)(h:i<s.length)(hd:Utf8.decode ⟨s.toArray⟩ i=(r,w)):
  rC (some (.siter s i)) b H=.val (.tup [.bool true,nI .i64 i,nI .i32 r]) (H.put b (.siter s (i+w))):=by
 show Yb (Nat.ble H.ro b) (cond (Nat.ble (Nat.succ i) (Xa s)) (match Utf8.decode ⟨s.toArray⟩ i with|(c,w)=>OR.val (.tup [.bool true,.int .i64 (.ofNat i),.int .i32 c]) (H.put b (.siter s (Nat.add i w)))) _)=_
 rw[Zj hro,Y6,Zj (show Nat.succ i<=s.length from h),hd]
 rfl
theorem BU(hro:H.ro<=b)(h:s.length<=i):rC (some (.siter s i)) b H=.val (.tup [.bool false]) H:=by
 have e:Nat.ble (Nat.succ i) s.length=false:=by
  cases hq:Nat.ble (Nat.succ i) s.length with
  |false=>rfl
  |true=>have:=Yn hq;have:i+1<=s.length:=this;omega
 show Yb (Nat.ble H.ro b) (cond (Nat.ble (Nat.succ i) (Xa s)) _ _)=_
 rw[Zj hro,Y6,e];rfl
structure SI0(cs:List UInt8)(H0:Heap)(m:Nat)(tm:TM)(H:Heap):Prop where
 t175:sO tm=.ptr H0.nx 0
 g: ∃i,i+m=cs.length∧H.t.get H0.nx=some (.siter cs i)
 k:ZK H0 H []
def SQ0(H0:Heap)(o:Out)(tm:TM)(H:Heap):Prop:=o=.exit 9∧ZK H0 H []
theorem dq{cs:List UInt8}(ha:Qn cs)(hro:H0.ro<=H0.nx)(cx:Ctx)(X0:X)(m:Nat)(tm:TM)(H:Heap)(hI:SI0 cs H0 m tm H):
  ∃o tm' H',Jz cx tm H X0=.ok o tm' H' X0∧((o=.normal∧ ∃k,k<m∧SI0 cs H0 k tm' H')∨(o≠.normal∧SQ0 H0 o tm' H')):=by
 obtain⟨t,⟨i,him,g⟩,k0⟩:=hI
 have t':=t
 simp only[ZbH] at t
 have hr:H.ro<=H0.nx:=by rw[k0.ro];exact hro
 cases m with
 |zero=>
  have ne:=BU (H:=H) (b:=H0.nx) (s:=cs) (i:=i) hr (by omega)
  simp only[t,g,ne,YK,YJ,Jz,Z9,Xg,vi]
  refine⟨_,_,_,rfl,?_⟩
  exact .inr ⟨by simp,rfl,k0⟩
 |succ m=>
  have hx:=ha.at_ (i:=i) (by omega)
  have ne:=Dk (H:=H) (b:=H0.nx) (s:=cs) (i:=i) hr (by omega) (sC hx)
  have d1:decide ((cs.getD i 0).toNat=65533)=false:=Ze (by omega)
  simp only[t,g,ne,d1,YL,YK,YJ,Jz,Z9,Xg,Xe,vi]
  refine⟨_,_,_,rfl,?_⟩
  exact .inl ⟨rfl,m,by omega,t',⟨i+1,by omega,Xv ..⟩,k0.then_put (λh=>by omega)⟩
theorem kw(E:Env Zx fs fuel){cs:List UInt8}{x:Nat}(hx:x<128):
  ∃H',Z7 (LK Zx fs fuel 2) fs fuel (n+2) 113 [.str cs,nI .i32 x] H=.ret (mI (Vk x cs)) H'∧ZK H H' []:=by
 rw[Z1 (ZU E.n113 (.inl (by decide)) _ _) E.f113]
 have e1:=λ{j}=>ZbX E (k:=2) (n:=j) (by decide) (s:=cs) (x:=x) (H:=H) (by omega)
 have d1:decide (x<128)=true:=Zi hx
 simp(disch:=omega) only[e1,d1,ZO,Zu,YT,ZA,decide_true,vz,Z9,Xg,ZY,Xe,vi]
 refine⟨_,rfl,?_⟩
 exact ZK.refl _ _
theorem Ziu(E:Env Zx fs fuel)(hk:3<=k){cs:List UInt8}{x:Nat}(hx:x<128):
  Z7 (LK Zx fs fuel k) fs fuel (n+1) 113 [.str cs,nI .i32 x] H=.ret (mI (Vk x cs)) H:=by
 obtain⟨H',e,g⟩:=kw E (n:=898) (H:=H) hx
 exact Xc (r:=2) rfl rfl e g (PZ _ _) hk
theorem pk(E:Env Zx fs fuel){cs:List UInt8}{x:Nat}(ha:Qn cs)(h1:128<=x)(h2:x<=1114111)(hro:H.ro<=H.nx):
  ∃H',Z7 (LK Zx fs fuel 2) fs fuel (n+2) 113 [.str cs,nI .i32 x] H=.ret (mI 0) H'∧ZK H H' []:=by
 rw[Z1 (ZU E.n113 (.inl (by decide)) _ _) E.f113]
 have d1:decide (x<128)=false:=Ze (by omega)
 by_cases hx:x=65533
 ·have d2:decide (x=65533)=true:=Zi hx
  simp only[d1,d2,ZO,Zu,YL,ZA,decide_true,Yq,Yj,vz,Z9,Xg,Xe,vi]
  generalize hL:Ue (Jz _) fuel _ _ _=L
  have h3:=ha.hi
  obtain⟨o,Ny,H1,rfl,_,rfl,k0⟩:=XZ (P:=λT=>SI0 cs H cs.length T (H.new (.siter cs 0))) (Q:=SQ0 H)
   (λT hi=>We (SI0 cs H) (SQ0 H) (λm tm H1 h=>dq ha hro _ _ m tm H1 h) fuel cs.length T _ (by have:=E.big;omega) hi) hL
   (by exact⟨rfl,⟨0,by omega,YD rfl _⟩,ZK.new _ _ _⟩)
  simp only[Z9,Xg,ZY,Xe,]
  refine⟨_,rfl,?_⟩
  exact k0
 ·have d2:decide (x=65533)=false:=Ze hx
  have ev:=λ{j}=>Zc0 E (k:=2) (n:=j) (by decide) (H:=H) h1 h2
  cases hv:(decide (x<55296)||decide (57343<x)) with
  |false=>
   rw[hv] at ev
   simp only[d1,d2,ev,ZO,Zu,YL,ZA,decide_true,vz,Z9,Xg,ZY,Yu,Xe,vi]
   refine⟨_,rfl,?_⟩
   exact ZK.refl _ _
  |true=>
   rw[hv] at ev
   obtain⟨rs,er0,r1,r2,r3⟩:=mT h1
   have er: ∀G,Zag (nI .i32 x) G=.val (.str rs) G:=λG=>by
    show OR.val (.str (Utf8.encode (Int.ofNat x)).data.toList) G=_
    rw[show(Int.ofNat x)=(x:Int) from rfl,er0]
   obtain⟨q,hq⟩: ∃q,rs.length=q+1:=⟨rs.length - 1,by omega⟩
   rw[hq,Vq] at r3
   have r3':=(rs.getD q 0).toNat_lt
   have eb:=λ{j}=>ZbX E (k:=2) (n:=j) (by decide) (H:=H) (s:=cs.drop (q+1)) (x:=(rs.getD q 0).toNat) (by omega)
   rw[ha.fstd r3] at eb
   obtain⟨m,rfl⟩: ∃m,fuel=m+2:=⟨fuel - 2,by have:=E.big;omega⟩
   by_cases hl:q<cs.length
   ·have d3:decide (q<cs.length)=true:=Zi hl
    have hc:=ha.at_ hl
    have d4:decide ((cs.getD q 0).toNat≠(rs.getD q 0).toNat)=true:=Zi (by omega)
    simp(disch:=omega) only[d1,d2,d3,d4,ev,er,hq,eb,Pk,Vq,Yl,ZO,Zu,YL,Y9,YQ,YB,ZP,Yc,ZA,decide_true,X1,YO,vz,AT,Z9,Xg,ZY,Yu,Z3,Xe,U4,vi]
    refine⟨_,rfl,?_⟩
    exact ZK.refl _ _
   ·have d3:decide (q<cs.length)=false:=Ze hl
    simp(disch:=omega) only[d1,d2,d3,ev,er,hq,Pk,Vq,ZO,Zu,YL,YQ,ZP,ZA,decide_true,YO,vz,AT,Z9,Xg,ZY,Yu,Xe,vi]
    refine⟨_,rfl,?_⟩
    exact ZK.refl _ _
theorem ZeC(E:Env Zx fs fuel)(hk:3<=k){cs:List UInt8}{x:Nat}(ha:Qn cs)(h1:128<=x)(h2:x<=1114111)(hro:H.ro<=H.nx):
  Z7 (LK Zx fs fuel k) fs fuel (n+1) 113 [.str cs,nI .i32 x] H=.ret (mI 0) H:=by
 obtain⟨H',e,g⟩:=pk E (n:=898) (H:=H) ha h1 h2 hro
 exact Xc (r:=2) rfl rfl e g (PZ _ _) hk
structure IA0(s cs:List UInt8)(b:Nat)(H0:Heap)(m:Nat)(tm:TM)(H:Heap):Prop where
 heap:H=H0
 t0:YX tm=.str s
 t6:WA tm=.ptr b 0
 i: ∃i,Wi tm=nI .i64 i∧i+m=s.length∧ ∀j,j<i->s.getD j 0∉cs
def IQ(s cs:List UInt8)(e:Nat)(o:Out)(tm:TM):Prop:=(o=.ret∧ ∃p,XY tm=nI .i64 p∧Jw cs s=p+1)∨(o=.exit e∧Jw cs s=0)
theorem ko(E:Env Zx fs fuel){cs:List UInt8}(hs:s.length<=90000)(g:H0.t.get b=some (rH 169 (QW cs)))(y f dd q)(X0:X)(m:Nat)(tm:TM)(H:Heap)(hI:IA0 s cs b H0 m tm H):
  ∃o tm' H',I8 ⟨Z7 (LK Zx fs fuel 3) fs fuel (n+1),y,f,dd,q⟩ tm H X0=.ok o tm' H' X0∧((o=.normal∧ ∃k,k<m∧IA0 s cs b H0 k tm' H')∨(o≠.normal∧(H'=H0∧IQ s cs 0 o tm'))):=by
 obtain⟨rfl,t0,t6,i,t8,him,hn⟩:=hI
 have t0':=t0;have CG:=t6
 simp only[Mc,lX,qY] at t0 t6 t8
 cases m with
 |zero=>
  have d1:decide (i<s.length)=false:=Ze (by omega)
  simp only[t0,t8,d1,Zu,ZP,I8,Z9,Xg,Xe,U4]
  refine⟨_,_,_,rfl,?_⟩
  exact .inr ⟨by simp,rfl,.inr ⟨rfl,Ee λj hj=>hn j (by omega)⟩⟩
 |succ m=>
  have d1:decide (i<s.length)=true:=Zi (by omega)
  have e1:=λ{j}=>ZdH E (k:=3) (n:=j) (by decide) (H:=H) (x:=s.getD i 0) g
  by_cases hx:s.getD i 0∈cs
  ·rw[Zi hx] at e1
   simp(disch:=omega) only[t0,t6,t8,d1,e1,Yl,Zu,ZP,I8,Z9,Xg,Xe,U4]
   refine⟨_,_,_,rfl,?_⟩
   exact .inr ⟨by simp,rfl,.inl ⟨rfl,i,rfl,AL (by omega) hx hn⟩⟩
  ·rw[Ze hx] at e1
   simp(disch:=omega) only[t0,t6,t8,d1,e1,Yl,Zu,YB,ZP,I8,Z9,Xg,Xe,U4]
   refine⟨_,_,_,rfl,.inl ⟨rfl,m,by omega,rfl,t0',CG,i+1,rfl,by omega,λj hj=>?_⟩⟩
   by_cases h:j=i
   ·rw[h];exact hx
   ·exact hn j (by omega)
structure IA1(s cs:List UInt8)(H0:Heap)(m:Nat)(tm:TM)(H:Heap):Prop where
 t1:Wj tm=.str cs
 t45:Oc tm=.ptr H0.nx 0
 i: ∃i,i+m=s.length∧H.t.get H0.nx=some (.siter s i)∧ ∀j,j<i->s.getD j 0∉cs
 k:ZK H0 H []
 nx:H0.nx<H.nx
theorem kq(E:Env Zx fs fuel){cs:List UInt8}(ha:Qn cs)(hs:s.length<=90000)(hro:H0.ro<=H0.nx)(y f dd q)(X0:X)(m:Nat)(tm:TM)(H:Heap)(hI:IA1 s cs H0 m tm H):
  ∃o tm' H',KS ⟨Z7 (LK Zx fs fuel 3) fs fuel (n+1),y,f,dd,q⟩ tm H X0=.ok o tm' H' X0∧((o=.normal∧ ∃k,k<m∧IA1 s cs H0 k tm' H')∨(o≠.normal∧(ZK H0 H' []∧IQ s cs 2 o tm'))):=by
 obtain⟨t1,t45,⟨i,him,g,hn⟩,k0,hnx⟩:=hI
 have t1':=t1;have Zfr:=t45
 simp only[E2,ZdZ] at t1 t45
 have hr:H.ro<=H0.nx:=by rw[k0.ro];exact hro
 cases m with
 |zero=>
  have ne:=BU (H:=H) (b:=H0.nx) (s:=s) (i:=i) hr (by omega)
  simp only[t45,g,ne,YK,YJ,KS,Z9,Xg,U4]
  refine⟨_,_,_,rfl,?_⟩
  exact .inr ⟨by simp,k0,.inr ⟨rfl,Ee λj hj=>hn j (by omega)⟩⟩
 |succ m=>
  obtain⟨HP,hP⟩:=SK (H.put H0.nx (.siter s (i+1)))
  by_cases hlo:(s.getD i 0).toNat<128
  ·have ne:=Dk (H:=H) (b:=H0.nx) (s:=s) (i:=i) hr (by omega) (sC hlo)
   have e1:=λ{j}=>Ziu E (k:=3) (n:=j) (by decide) (H:=HP) (cs:=cs) (x:=(s.getD i 0).toNat) hlo
   have kp:ZK H0 HP []:=by rw[<-hP];exact k0.then_put (λh=>by omega)
   by_cases hx:s.getD i 0∈cs
   ·have d1:decide (0<Vk (s.getD i 0).toNat cs)=true:=Zi (by
     cases h:Vk (s.getD i 0).toNat cs with
     |zero=>exact absurd rfl (Oz.1 h _ hx)
     |succ j=>omega)
    simp only[t1,t45,g,ne,hP,e1,d1,XV,YK,YJ,KS,Z9,Xg,Xe,U4]
    refine⟨_,_,_,rfl,?_⟩
    exact .inr ⟨by simp,kp,.inl ⟨rfl,i,rfl,AL (by omega) hx hn⟩⟩
   ·have d1:decide (0<Vk (s.getD i 0).toNat cs)=false:=Ze (by
     have:Vk (s.getD i 0).toNat cs=0:=Oz.2 λc hc e=>hx (by rw[<-UJ.1 e];exact hc)
     omega)
    simp only[t1,t45,g,ne,hP,e1,d1,XV,YK,YJ,KS,Z9,Xg,Xe,U4]
    refine⟨_,_,_,rfl,.inl ⟨rfl,m,by omega,t1',Zfr,⟨i+1,by omega,by rw[<-hP];exact Xv ..,λj hj=>?_⟩,kp,by rw[<-hP,Mk];exact hnx⟩⟩
    by_cases h:j=i
    ·rw[h];exact hx
    ·exact hn j (by omega)
  ·obtain⟨r,w,hd,r1,r2,w1,hw⟩:=Zbj (s:=s) (i:=i) (by omega) (by omega)
   have ne:=Dk (H:=H) (b:=H0.nx) (s:=s) (i:=i) hr (by omega) hd
   have hwl:=hw (w - 1) (by omega)
   obtain⟨HQ,hQ⟩:=SK (H.put H0.nx (.siter s (i+w)))
   have kp:ZK H0 HQ []:=by rw[<-hQ];exact k0.then_put (λh=>by omega)
   have e1:=λ{j}=>ZeC E (k:=3) (n:=j) (by decide) (H:=HQ) (cs:=cs) (x:=r) ha r1 r2 (by rw[kp.ro,<-hQ,Mk];omega)
   simp only[t1,t45,g,ne,hQ,e1,ZT,decide_false,XV,YK,YJ,KS,Z9,Xg,Xe,U4]
   refine⟨_,_,_,rfl,.inl ⟨rfl,m+1 - w,by omega,t1',Zfr,⟨i+w,by omega,by rw[<-hQ];exact Xv ..,λj hj hm=>?_⟩,kp,by rw[<-hQ,Mk];exact hnx⟩⟩
   by_cases h:j<i
   ·exact hn j h hm
   ·have h2:=hw (j - i) (by omega)
    rw[show i+(j - i)=j by omega] at h2
    have:=ha.lt _ hm;omega
theorem kr(E:Env Zx fs fuel){cs:List UInt8}(ha:Qn cs)(hs:s.length<=90000)(hro:H.ro<=H.nx):
  ∃H',Z7 (LK Zx fs fuel 3) fs fuel (n+2) 85 [.str s,.str cs] H=.ret (mI (Jw cs s)) H'∧ZK H H' []:=by
 rw[Z1 (ZU E.n85 (.inl (by decide)) _ _) E.f85]
 have h2:=ha.lo
 have n0:decide (cs=[])=false:=Ze λe=>by rw[e] at h2;simp at h2
 have n1:decide (cs.length=1)=false:=Ze (by omega)
 have es:=λ{j}=>ZcP E (k:=3) (n:=j) (by decide) (H:=H) (x:=s.length)
 by_cases h8:8<s.length
 ·rw[Zi h8] at es
  have em:=λ{j}=>ZeR E (k:=3) (n:=j) (by decide) (H:=H) ha hro
  have hl:=Ix cs
  have hz:Mu.length=256:=by unfold Mu;rw[Z5]
  have sf:=λ(G:Heap) (hG:G.ro<=H.nx)=>SD (n:=256) (b:=H.nx) (l:=Mu) (vs:=QW cs) (H:=G) hz hl (by decide) hG 169 1 false true
  have sf:=sf (H.new (rH 169 Mu)) hro
  rw[SC rfl] at sf
  obtain⟨H1,hH1⟩:=SK (H.new (rH 169 (QW cs)))
  rw[hH1] at sf
  simp only[n0,n1,es,em,xM,sf,YL,YM,ZP,c85,Z9,Xg,ZY,Xe,U4]
  generalize hL:Ue (I8 _) fuel _ _ _=L
  obtain⟨o,Ny,H2,rfl,_,rfl,z⟩:=XZ (P:=λT=>IA0 s cs H.nx H1 s.length T H1) (Q:=λo tm' H'=>H'=H1∧IQ s cs 0 o tm')
   (λT hi=>We (IA0 s cs H.nx H1) (λo tm' H'=>H'=H1∧IQ s cs 0 o tm') (λm tm H2 h=>ko E hs (by rw[<-hH1];exact YD rfl _) _ _ _ _ _ m tm H2 h) fuel s.length T H1 (by have:=E.big;omega) hi) hL
   (by exact⟨rfl,rfl,rfl,0,rfl,by omega,λj hj=>by omega⟩)
  rcases z with⟨rfl,p,t4,e⟩|⟨rfl,e⟩
  ·simp only[PD] at t4
   rw[e,ja]
   simp only[t4,Z9,ZY,Xe]
   refine⟨_,rfl,?_⟩
   exact by rw[<-hH1];exact ZK.new _ _ _
  ·rw[e]
   simp only[Z9,Xg,ZY,Xe]
   refine⟨_,rfl,?_⟩
   exact by rw[<-hH1];exact ZK.new _ _ _
 ·rw[Ze h8] at es
  simp only[n0,n1,es,YL,YM,ZP,Yq,Yj,c85,Z9,Xg,Xe,U4]
  generalize hL:Ue (KS _) fuel _ _ _=L
  obtain⟨o,Ny,H2,rfl,_,k2,z⟩:=XZ (P:=λT=>IA1 s cs H s.length T (H.new (.siter s 0))) (Q:=λo tm' H'=>ZK H H' []∧IQ s cs 2 o tm')
   (λT hi=>We (IA1 s cs H) (λo tm' H'=>ZK H H' []∧IQ s cs 2 o tm') (λm tm H2 h=>kq E ha hs hro _ _ _ _ _ m tm H2 h) fuel s.length T _ (by have:=E.big;omega) hi) hL
   (by exact⟨rfl,rfl,⟨0,by omega,YD rfl _,λj hj=>by omega⟩,ZK.new _ _ _,YP _⟩)
  rcases z with⟨rfl,p,t4,e⟩|⟨rfl,e⟩
  ·simp only[PD] at t4
   rw[e,ja]
   simp only[t4,Z9,ZY,Xe]
   refine⟨_,rfl,?_⟩
   exact k2
  ·rw[e]
   simp only[Z9,Xg,ZY,Xe]
   refine⟨_,rfl,?_⟩
   exact k2
theorem Zit(E:Env Zx fs fuel)(hk:4<=k){cs:List UInt8}(ha:Qn cs)(hs:s.length<=90000)(hro:H.ro<=H.nx):
  Z7 (LK Zx fs fuel k) fs fuel (n+1) 85 [.str s,.str cs] H=.ret (mI (Jw cs s)) H:=by
 obtain⟨H',e,g⟩:=kr E (n:=898) (H:=H) ha hs hro
 exact Xc (r:=3) rfl rfl e g (PZ _ _) hk
theorem qy(E:Env Zx fs fuel){cs:List UInt8}(ha:Qn cs)(hs:s.length<=90000)(hro:H.ro<=H.nx):
  ∃H',Z7 (LK Zx fs fuel 4) fs fuel (n+2) 54 [.str s,.str cs] H=.ret (.bool (MH cs s)) H'∧ZK H H' []:=by
 rw[Z1 (ZU E.n54 (.inl (by decide)) _ _) E.f54]
 have e1:=λ{j}=>Zit E (k:=4) (n:=j) (by decide) (H:=H) ha hs hro
 rw[<-tW cs s]
 simp only[e1,XV,c54,Z9,Xg,ZY,Xe]
 refine⟨_,rfl,?_⟩
 exact ZK.refl _ _
theorem mJ(E:Env Zx fs fuel)(hk:5<=k){cs:List UInt8}(ha:Qn cs)(hs:s.length<=90000)(hro:H.ro<=H.nx):
  Z7 (LK Zx fs fuel k) fs fuel (n+1) 54 [.str s,.str cs] H=.ret (.bool (MH cs s)) H:=by
 obtain⟨H',e,g⟩:=qy E (n:=898) (H:=H) ha hs hro
 exact Xc (r:=4) rfl rfl e g (rfl) hk
end
end
end Go.AI
