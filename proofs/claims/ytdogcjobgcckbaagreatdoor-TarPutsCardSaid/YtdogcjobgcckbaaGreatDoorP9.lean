/- Texts that are split, and looked through: walked: proved without conditions but those that each names. -/
import Derived.Test.YtdogcjobgcckbaaGreatDoorP8
set_option maxRecDepth 1000000
set_option maxHeartbeats 0
set_option linter.unusedVariables false
set_option linter.unusedSimpArgs false
namespace Go.AI
open Go
noncomputable section
section
variable {Zn:Lib} {fs:T CF} {fuel k n i h b:Nat} {H H0:Heap} {s:List UInt8} {cs:List AV}
def mI:Nat->AV
 |0=>.int .i64 (.negSucc 0)
 |m+1=>nI .i64 m
theorem bT{m:Nat}(h:m<9223372036854775808)(G:Heap):M6 (nI .i64 m) (nI .i64 1) G=.val (mI m) G:=by
 cases m with
 |zero=>rfl
 |succ m=>exact XL (by omega) h G
theorem CU(j:Nat)(G:Heap):Tf Sc W5 (mI j) (nI .i64 0) G=.val (.bool (decide (0<j))) G:=by
 cases j with
 |zero=>rfl
 |succ j=>exact Xu .i64 j 0 G
theorem eV(j:Nat)(G:Heap):Tf XE YH (mI j) (nI .i64 0) G=.val (.bool (decide (j=0))) G:=by
 cases j with
 |zero=>rfl
 |succ j=>exact Zy .i64 j 0 G
theorem ZfM{j:Nat}(h:j<9223372036854775808)(G:Heap):Ty (mI j) (nI .i64 1) G=.val (nI .i64 j) G:=by
 cases j with
 |zero=>rfl
 |succ j=>exact YI h G
theorem Zbr(m:Nat):mI (m+1)=nI .i64 m:=rfl
theorem Nx(n j:Nat):Wx n (mI j)=true:=by cases j<;>rfl
theorem ZfN(x:Nat)(s:List UInt8):AV.int .i64 (Q8 x s 0)=mI (V6 x s):=by
 rw[pV]
 cases h:V6 x s with
 |zero=>rfl
 |succ j=>rw[if_neg (by omega)];show AV.int .i64 ((0+(j+1) - 1:Nat):Int)=_;rw[show 0+(j+1) - 1=j by omega];rfl
structure LBI(s:List UInt8)(x:Nat)(H0:Heap)(m:Nat)(tm:TM)(H:Heap):Prop where
 heap:H=H0
 t0:Yb tm=.str s
 t1:Wc tm=nI .u8 x
 t5:YW tm=mI m
 le:m<=s.length
 cut:VF x s=VF x (s.take m)
def LBQ(s:List UInt8)(x:Nat)(H0:Heap)(o:Out)(tm:TM)(H:Heap):Prop:=H=H0∧((o=.ret∧Y4 tm=mI (VF x s))∨(o=.exit 0∧VF x s=0))
theorem Za8{x:Nat}(hs:s.length<=90000)(cx:Ctx)(X0:X)(m:Nat)(tm:TM)(H:Heap)(hI:LBI s x H0 m tm H):
  ∃o tm' H',Fo cx tm H X0=.ok o tm' H' X0∧((o=.normal∧ ∃k,k<m∧LBI s x H0 k tm' H')∨(o≠.normal∧LBQ s x H0 o tm' H')):=by
 obtain⟨rfl,t0,t1,t5,le,hc⟩:=hI
 have t0':=t0;have t1':=t1
 simp only[Sb,Kn,QP] at t0 t1 t5
 cases m with
 |zero=>
  have d1:decide (0<0)=false:=rfl
  simp only[t5,CU,U5,decide_false,Fo,Zu,Ye,Z6]
  refine⟨_,_,_,rfl,?_⟩
  exact .inr ⟨by simp,rfl,.inr ⟨rfl,by rw[hc];rfl⟩⟩
 |succ m=>
  rw[Zbr] at t5
  by_cases hx:(s.getD m 0).toNat=x
  ·have d2:decide ((s.getD m 0).toNat=x)=true:=Ze hx
   simp(disch:=omega) only[t0,t1,t5,d2,XD,Xu,YL,ZZ,decide_true,Fo,Zu,Ye,Z6]
   refine⟨_,_,_,rfl,?_⟩
   exact .inr ⟨by simp,rfl,.inl ⟨rfl,by rw[hc,pp (by omega) hx];rfl⟩⟩
  ·have d2:decide ((s.getD m 0).toNat=x)=false:=Zb hx
   simp(disch:=omega) only[t0,t1,t5,d2,bT,XD,Xu,YL,ZZ,decide_true,Fo,Zu,Ye,Z6]
   refine⟨_,_,_,rfl,?_⟩
   exact .inl ⟨rfl,m,by omega,rfl,t0',t1',rfl,by omega,by rw[hc,wQ (by omega) hx]⟩
theorem rk(E:Env Zn fs fuel){x:Nat}(hs:s.length<=90000):
  ∃H',ZE (LK Zn fs fuel 0) fs fuel (n+2) 90 [.str s,nI .u8 x] H=.ret (mI (VF x s)) H'∧Zs H H' []:=by
 rw[ZI (ZA E.n90 (.inl (by decide)) _ _) E.f90]
 simp(disch:=omega) only[bT,ZG,c90,Zu,Ye,Z6]
 generalize hL:Wv (Fo _) fuel _ _ _=L
 obtain⟨o,Pu,H1,rfl,_,rfl,z⟩:=YA (P:=λT=>LBI s x H s.length T H) (Q:=LBQ s x H)
  (λT hi=>YP (LBI s x H) (LBQ s x H) (λm tm H1 h=>Za8 hs _ _ m tm H1 h) fuel s.length T H (by have:=E.big;omega) hi) hL
  ⟨rfl,rfl,rfl,rfl,Zp _,by rw[XV]⟩
 rcases z with⟨rfl,t4⟩|⟨rfl,e⟩
 ·simp only[Tp] at t4
  simp only[t4,Zu,Zw,Z6]
  refine⟨_,rfl,?_⟩
  exact Zs.refl _ _
 ·rw[e]
  simp only[Zu,Ye,Zw,Z6]
  refine⟨_,rfl,?_⟩
  exact Zs.refl _ _
theorem ZfE(E:Env Zn fs fuel)(hk:1<=k){x:Nat}(hs:s.length<=90000):
  ZE (LK Zn fs fuel k) fs fuel (n+1) 90 [.str s,nI .u8 x] H=.ret (mI (VF x s)) H:=by
 obtain⟨H',e,g⟩:=rk E (n:=898) (H:=H) hs
 exact Yl (r:=0) rfl rfl e g (Nx _ _) hk
theorem mX(E:Env Zn fs fuel){x:Nat}(hs:s.length<=90000):
  ∃H',ZE (LK Zn fs fuel 1) fs fuel (n+2) 70 [.str s,nI .u8 x] H=.ret (mI (VF x s)) H'∧Zs H H' []:=by
 rw[ZI (ZA E.n70 (.inl (by decide)) _ _) E.f70]
 have e1:=λ{j}=>ZfE E (k:=1) (n:=j) (by decide) (x:=x) (H:=H) hs
 simp only[e1,c70,Zu,Ye,Zw,Z6]
 refine⟨_,rfl,?_⟩
 exact Zs.refl _ _
theorem ZdG(E:Env Zn fs fuel)(hk:2<=k){x:Nat}(hs:s.length<=90000):
  ZE (LK Zn fs fuel k) fs fuel (n+1) 70 [.str s,nI .u8 x] H=.ret (mI (VF x s)) H:=by
 obtain⟨H',e,g⟩:=mX E (n:=898) (H:=H) hs
 exact Yl (r:=1) rfl rfl e g (Nx _ _) hk
theorem jM(E:Env Zn fs fuel)(hs:s.length<=90000):
  ∃H',ZE (LK Zn fs fuel 2) fs fuel (n+2) 58 [.str s] H=.ret (.str (Xk s)) H'∧Zs H H' []:=by
 rw[ZI (ZA E.n58 (.inl (by decide)) _ _) E.f58]
 have e1:=λ{j}=>ZdG E (k:=2) (n:=j) (by decide) (x:=47) (H:=H) hs
 have hc:=IC 47 s
 unfold Xk
 simp(disch:=omega) only[e1,ZfM,Ur,c58,Zu,Ye,Zw,Z8,Z6]
 refine⟨_,rfl,?_⟩
 exact Zs.refl _ _
theorem base(E:Env Zn fs fuel)(hk:3<=k)(hs:s.length<=90000):
  ZE (LK Zn fs fuel k) fs fuel (n+1) 58 [.str s] H=.ret (.str (Xk s)) H:=by
 obtain⟨H',e,g⟩:=jM E (n:=898) (H:=H) hs
 exact Yl (r:=2) rfl rfl e g (rfl) hk
theorem mF(E:Env Zn fs fuel){p:List UInt8}(hs:s.length<=90000):
  ∃H',ZE (LK Zn fs fuel 0) fs fuel (n+2) 101 [.str s,.str p] H=.ret (.bool (Pm p s)) H'∧Zs H H' []:=by
 rw[ZI (ZA E.n101 (.inl (by decide)) _ _) E.f101]
 unfold Pm
 by_cases h:p.length<=s.length
 ·rw[Ze h]
  have d1:decide (p.length<=s.length)=true:=Ze h
  simp(disch:=omega) only[d1,X9,Xu,YT,ZG,Us,aT,Zu,Ye,Zw,Z8,Z6]
  refine⟨_,rfl,?_⟩
  exact Zs.refl _ _
 ·rw[Zb h]
  have d1:decide (p.length<=s.length)=false:=Zb h
  simp only[d1,Z7,Xu,ZG,aT,Zu,Ye,Zw,Z6]
  refine⟨_,rfl,?_⟩
  exact Zs.refl _ _
theorem ZhP(E:Env Zn fs fuel)(hk:1<=k){p:List UInt8}(hs:s.length<=90000):
  ZE (LK Zn fs fuel k) fs fuel (n+1) 101 [.str s,.str p] H=.ret (.bool (Pm p s)) H:=by
 obtain⟨H',e,g⟩:=mF E (n:=898) (H:=H) hs
 exact Yl (r:=0) rfl rfl e g (rfl) hk
theorem fp(E:Env Zn fs fuel){p:List UInt8}(hs:s.length<=90000):
  ∃H',ZE (LK Zn fs fuel 1) fs fuel (n+2) 82 [.str s,.str p] H=.ret (.bool (Pm p s)) H'∧Zs H H' []:=by
 rw[ZI (ZA E.n82 (.inl (by decide)) _ _) E.f82]
 have e1:=λ{j}=>ZhP E (k:=1) (n:=j) (by decide) (p:=p) (H:=H) hs
 simp only[e1,c82,Zu,Ye,Zw,Z6]
 refine⟨_,rfl,?_⟩
 exact Zs.refl _ _
theorem ZhO(E:Env Zn fs fuel)(hk:2<=k){p:List UInt8}(hs:s.length<=90000):
  ZE (LK Zn fs fuel k) fs fuel (n+1) 82 [.str s,.str p] H=.ret (.bool (Pm p s)) H:=by
 obtain⟨H',e,g⟩:=fp E (n:=898) (H:=H) hs
 exact Yl (r:=1) rfl rfl e g (rfl) hk
theorem mY(E:Env Zn fs fuel)(hs:s.length<=90000):
  ∃H',ZE (LK Zn fs fuel 2) fs fuel (n+2) 59 [.str s] H=.ret (nI .i64 (TE s)) H'∧Zs H H' []:=by
 rw[ZI (ZA E.n59 (.inl (by decide)) _ _) E.f59]
 have e1:=λ{j}=>ZhO E (k:=2) (n:=j) (by decide) (p:=[46,119,104,46]) (H:=H) hs
 unfold TE
 have eo:xJ=[46,119,104,46,46,119,104,46,46,111,112,113]:=rfl
 have ew:B5=[46,119,104,46]:=rfl
 rw[eo,ew]
 by_cases h:s=[46,119,104,46,46,119,104,46,46,111,112,113]
 ·have d1:decide (s=[46,119,104,46,46,119,104,46,46,111,112,113])=true:=Ze h
  rw[if_pos h]
  simp only[d1,YT,c59,Zu,Ye,Zw,Z6]
  refine⟨_,rfl,?_⟩
  exact Zs.refl _ _
 ·have d1:decide (s=[46,119,104,46,46,119,104,46,46,111,112,113])=false:=Zb h
  rw[if_neg h]
  cases hq:Pm [46,119,104,46] s with
  |true=>
   rw[hq] at e1
   simp only[d1,e1,YT,c59,Zu,Ye,Zw,Z6]
   refine⟨_,rfl,?_⟩
   exact Zs.refl _ _
  |false=>
   rw[hq] at e1
   simp only[d1,e1,YT,c59,Zu,Ye,Zw,reduceCtorEq,Z6]
   refine⟨_,rfl,?_⟩
   exact Zs.refl _ _
theorem Zim(E:Env Zn fs fuel)(hk:3<=k)(hs:s.length<=90000):
  ZE (LK Zn fs fuel k) fs fuel (n+1) 59 [.str s] H=.ret (nI .i64 (TE s)) H:=by
 obtain⟨H',e,g⟩:=mY E (n:=898) (H:=H) hs
 exact Yl (r:=2) rfl rfl e g (rfl) hk
theorem fq(E:Env Zn fs fuel){p:List UInt8}(hs:s.length<=90000):
  ∃H',ZE (LK Zn fs fuel 0) fs fuel (n+2) 102 [.str s,.str p] H=.ret (.bool (decide (p.length<=s.length)&&decide (s.drop (s.length - p.length)=p))) H'∧Zs H H' []:=by
 rw[ZI (ZA E.n102 (.inl (by decide)) _ _) E.f102]
 by_cases h:p.length<=s.length
 ·rw[Ze h]
  have d1:decide (p.length<=s.length)=true:=Ze h
  simp(disch:=omega) only[d1,X9,Xu,YT,XL,ZG,Ur,aU,Zu,Ye,Zw,Z8,Z6]
  refine⟨_,rfl,?_⟩
  exact Zs.refl _ _
 ·rw[Zb h]
  have d1:decide (p.length<=s.length)=false:=Zb h
  simp only[d1,Z7,Xu,ZG,aU,Zu,Ye,Zw,Z6]
  refine⟨_,rfl,?_⟩
  exact Zs.refl _ _
theorem Zmq(E:Env Zn fs fuel)(hk:1<=k){p:List UInt8}(hs:s.length<=90000):
  ZE (LK Zn fs fuel k) fs fuel (n+1) 102 [.str s,.str p] H=.ret (.bool (decide (p.length<=s.length)&&decide (s.drop (s.length - p.length)=p))) H:=by
 obtain⟨H',e,g⟩:=fq E (n:=898) (H:=H) hs
 exact Yl (r:=0) rfl rfl e g (rfl) hk
theorem qO(E:Env Zn fs fuel){p:List UInt8}(hs:s.length<=90000):
  ∃H',ZE (LK Zn fs fuel 1) fs fuel (n+2) 83 [.str s,.str p] H=.ret (.str (if p.length<=s.length∧s.drop (s.length - p.length)=p then s.take (s.length - p.length) else s)) H'∧Zs H H' []:=by
 rw[ZI (ZA E.n83 (.inl (by decide)) _ _) E.f83]
 have e1:=λ{j}=>Zmq E (k:=1) (n:=j) (by decide) (p:=p) (H:=H) hs
 by_cases h:p.length<=s.length∧s.drop (s.length - p.length)=p
 ·rw[if_pos h]
  rw[Ze h.1,Ze h.2] at e1
  simp(disch:=omega) only[e1,Bool.and_self,XL,ZG,Us,c83,Zu,Ye,Zw,Z8,Z6]
  refine⟨_,rfl,?_⟩
  exact Zs.refl _ _
 ·rw[if_neg h]
  have:(decide (p.length<=s.length)&&decide (s.drop (s.length - p.length)=p))=false:=by
   rw[TZ]
   intro e
   rw[Yw] at e
   exact h ⟨Zm e.1,Zm e.2⟩
  rw[this] at e1
  simp only[e1,c83,Zu,Ye,Zw,Z6]
  refine⟨_,rfl,?_⟩
  exact Zs.refl _ _
theorem Zgw(E:Env Zn fs fuel)(hk:2<=k){p:List UInt8}(hs:s.length<=90000):
  ZE (LK Zn fs fuel k) fs fuel (n+1) 83 [.str s,.str p] H=.ret (.str (if p.length<=s.length∧s.drop (s.length - p.length)=p then s.take (s.length - p.length) else s)) H:=by
 obtain⟨H',e,g⟩:=qO E (n:=898) (H:=H) hs
 exact Yl (r:=1) rfl rfl e g (rfl) hk
theorem js(E:Env Zn fs fuel){p:List UInt8}(hs:s.length<=90000):
  ∃H',ZE (LK Zn fs fuel 2) fs fuel (n+2) 60 [.str s,.str p] H=.ret (.str (if p.length<=s.length∧s.drop (s.length - p.length)=p then s.take (s.length - p.length) else s)) H'∧Zs H H' []:=by
 rw[ZI (ZA E.n60 (.inl (by decide)) _ _) E.f60]
 have e1:=λ{j}=>Zgw E (k:=2) (n:=j) (by decide) (p:=p) (H:=H) hs
 simp only[e1,c60,Zu,Ye,Zw,Z6]
 refine⟨_,rfl,?_⟩
 exact Zs.refl _ _
theorem Zea(E:Env Zn fs fuel)(hk:3<=k){p:List UInt8}(hs:s.length<=90000):
  ZE (LK Zn fs fuel k) fs fuel (n+1) 60 [.str s,.str p] H=.ret (.str (if p.length<=s.length∧s.drop (s.length - p.length)=p then s.take (s.length - p.length) else s)) H:=by
 obtain⟨H',e,g⟩:=js E (n:=898) (H:=H) hs
 exact Yl (r:=2) rfl rfl e g (rfl) hk
theorem jt(p:List UInt8):(if (Xk p).length<=p.length∧p.drop (p.length - (Xk p).length)=Xk p then p.take (p.length - (Xk p).length) else p)=VP p:=by
 have hc:=IC 47 p
 unfold Xk VP
 rw[Ym,show p.length - (p.length - VF 47 p)=VF 47 p by omega,if_pos ⟨by omega,rfl⟩]
theorem ZcH(d:List UInt8):(if ([47]:List UInt8).length<=d.length∧d.drop (d.length - ([47]:List UInt8).length)=[47] then d.take (d.length - ([47]:List UInt8).length) else d)=Gm d:=rfl
theorem mM(E:Env Zn fs fuel){x:Nat}(hx:x<256):
  ∃H',ZE (LK Zn fs fuel 0) fs fuel (n+2) 88 [.str s,nI .u8 x] H=.ret (mI (V6 x s)) H'∧Zs H H' []:=by
 rw[ZI (ZA E.n88 (.inl (by decide)) _ _) E.f88]
 have ec: ∀{j},ZE (LK Zn fs fuel 0) fs fuel (j+1) 109 [.str s,nI .u8 x] H=.ret (mI (V6 x s)) H:=λ{j}=>by
  rw[MA rfl (E.ix s x H hx),ZfN]
 simp only[ec,c88,Zu,Ye,Zw,Z6]
 refine⟨_,rfl,?_⟩
 exact Zs.refl _ _
theorem fM(E:Env Zn fs fuel)(hk:1<=k){x:Nat}(hx:x<256):
  ZE (LK Zn fs fuel k) fs fuel (n+1) 88 [.str s,nI .u8 x] H=.ret (mI (V6 x s)) H:=by
 obtain⟨H',e,g⟩:=mM E (n:=898) (H:=H) hx
 exact Yl (r:=0) rfl rfl e g (Nx _ _) hk
theorem fN(E:Env Zn fs fuel){x:Nat}(hx:x<256):
  ∃H',ZE (LK Zn fs fuel 1) fs fuel (n+2) 64 [.str s,nI .u8 x] H=.ret (mI (V6 x s)) H'∧Zs H H' []:=by
 rw[ZI (ZA E.n64 (.inl (by decide)) _ _) E.f64]
 have e1:=λ{j}=>fM E (k:=1) (n:=j) (by decide) (s:=s) (H:=H) hx
 simp only[e1,c64,Zu,Ye,Zw,Z6]
 refine⟨_,rfl,?_⟩
 exact Zs.refl _ _
theorem Zfu(E:Env Zn fs fuel)(hk:2<=k){x:Nat}(hx:x<256):
  ZE (LK Zn fs fuel k) fs fuel (n+1) 64 [.str s,nI .u8 x] H=.ret (mI (V6 x s)) H:=by
 obtain⟨H',e,g⟩:=fN E (n:=898) (H:=H) hx
 exact Yl (r:=1) rfl rfl e g (Nx _ _) hk
theorem s7(E:Env Zn fs fuel):
  ∃H',ZE (LK Zn fs fuel 1) fs fuel (n+2) 114 [.str s,.str [47]] H=.ret (mI (V6 47 s)) H'∧Zs H H' []:=by
 rw[ZI (ZA E.n114 (.inl (by decide)) _ _) E.f114]
 have e1:=λ{j}=>fM E (k:=1) (n:=j) (by decide) (s:=s) (x:=47) (H:=H) (by decide)
 have wl:([47]:List UInt8).length=1:=rfl
 have w0:([47]:List UInt8).getD 0 0=47:=rfl
 have w1:(47:UInt8).toNat=47:=rfl
 by_cases h:([47]:List UInt8)=s
 ·have d_h:decide (([47]:List UInt8)=s)=true:=Ze h
  simp only[wl,d_h,YL,YT,ZG,decide_false,nz,Zu,Ye,Zw,reduceCtorEq,Z6]
  subst h
  refine⟨_,rfl,?_⟩
  exact Zs.refl _ _
 ·have d_h:decide (([47]:List UInt8)=s)=false:=Zb h
  simp(disch:=omega) only[wl,w0,w1,e1,d_h,XD,YL,YT,ZG,decide_true,decide_false,nz,Zu,Ye,Zw,reduceCtorEq,Z6]
  refine⟨_,rfl,?_⟩
  exact Zs.refl _ _
theorem Zfv(E:Env Zn fs fuel)(hk:2<=k):
  ZE (LK Zn fs fuel k) fs fuel (n+1) 114 [.str s,.str [47]] H=.ret (mI (V6 47 s)) H:=by
 obtain⟨H',e,g⟩:=s7 E (n:=898) (H:=H)
 exact Yl (r:=1) rfl rfl e g (Nx _ _) hk
theorem mO(E:Env Zn fs fuel):
  ∃H',ZE (LK Zn fs fuel 2) fs fuel (n+2) 94 [.str s,.str [47]] H=.ret (mI (V6 47 s)) H'∧Zs H H' []:=by
 rw[ZI (ZA E.n94 (.inl (by decide)) _ _) E.f94]
 have e1:=λ{j}=>Zfv E (k:=2) (n:=j) (by decide) (s:=s) (H:=H)
 simp only[e1,c94,Zu,Ye,Zw,Z6]
 refine⟨_,rfl,?_⟩
 exact Zs.refl _ _
theorem index(E:Env Zn fs fuel)(hk:3<=k):
  ZE (LK Zn fs fuel k) fs fuel (n+1) 94 [.str s,.str [47]] H=.ret (mI (V6 47 s)) H:=by
 obtain⟨H',e,g⟩:=mO E (n:=898) (H:=H)
 exact Yl (r:=2) rfl rfl e g (Nx _ _) hk
theorem nJ(E:Env Zn fs fuel):
  ∃H',ZE (LK Zn fs fuel 0) fs fuel (n+2) 131 [.str s,.str [47]] H=.ret (nI .i64 (Xy 47 s 0)) H'∧Zs H H' []:=by
 rw[ZI (ZA E.n131 (.inl (by decide)) _ _) E.f131]
 have ec: ∀{j},ZE (LK Zn fs fuel 0) fs fuel (j+1) 137 [.str s,nI .u8 47] H=.ret (nI .i64 (Xy 47 s 0)) H:=λ{j}=>by
  rw[MA rfl (E.cn s 47 H (by omega))]
 have wl:([47]:List UInt8).length=1:=rfl
 have w0:([47]:List UInt8).getD 0 0=47:=rfl
 have w1:(47:UInt8).toNat=47:=rfl
 simp(disch:=omega) only[wl,w0,w1,ec,XD,YL,ZG,decide_true,decide_false,Zez,Zu,Ye,Zw,reduceCtorEq,Z6]
 refine⟨_,rfl,?_⟩
 exact Zs.refl _ _
theorem count(E:Env Zn fs fuel)(hk:1<=k):
  ZE (LK Zn fs fuel k) fs fuel (n+1) 131 [.str s,.str [47]] H=.ret (nI .i64 (Xy 47 s 0)) H:=by
 obtain⟨H',e,g⟩:=nJ E (n:=898) (H:=H)
 exact Yl (r:=0) rfl rfl e g (rfl) hk
theorem sy(E:Env Zn fs fuel){a:List UInt8}(hs:a.length+s.length<=90000):
  ∃H',ZE (LK Zn fs fuel 0) fs fuel (n+2) 156 [.str a,.str s] H=.ret (.str (a++s)) H'∧Zs H H' []:=by
 rw[ZI (ZA E.n156 (.inl (by decide)) _ _) E.f156]
 have ad:=λG=>VU (a:=a) (b:=s) (by omega) G
 simp only[ad,ZeB,Zu,Ye,Zw,Z6]
 refine⟨_,rfl,?_⟩
 exact Zs.refl _ _
theorem ZeF(E:Env Zn fs fuel)(hk:1<=k){a:List UInt8}(hs:a.length+s.length<=90000):
  ZE (LK Zn fs fuel k) fs fuel (n+1) 156 [.str a,.str s] H=.ret (.str (a++s)) H:=by
 obtain⟨H',e,g⟩:=sy E (n:=898) (H:=H) hs
 exact Yl (r:=0) rfl rfl e g (rfl) hk
theorem sA(E:Env Zn fs fuel){a:List UInt8}(hs:a.length+s.length<=90000)(h4:4<=s.length):
  ∃H',ZE (LK Zn fs fuel 0) fs fuel (n+2) 157 [.str a,.str s] H=.ret (.str (a++s.drop 4)) H'∧Zs H H' []:=by
 rw[ZI (ZA E.n157 (.inl (by decide)) _ _) E.f157]
 have ad:=λG=>VU (a:=a) (b:=s.drop 4) (by rw[Ym];omega) G
 simp(disch:=omega) only[ad,Ur,ZeC,Zu,Ye,Zw,Z8,Z6]
 refine⟨_,rfl,?_⟩
 exact Zs.refl _ _
theorem ZeG(E:Env Zn fs fuel)(hk:1<=k){a:List UInt8}(hs:a.length+s.length<=90000)(h4:4<=s.length):
  ZE (LK Zn fs fuel k) fs fuel (n+1) 157 [.str a,.str s] H=.ret (.str (a++s.drop 4)) H:=by
 obtain⟨H',e,g⟩:=sA E (n:=898) (H:=H) hs h4
 exact Yl (r:=0) rfl rfl e g (rfl) hk
theorem sB(E:Env Zn fs fuel){a:List UInt8}(hs:a.length<=90000):
  ∃H',ZE (LK Zn fs fuel 3) fs fuel (n+2) 158 [.str a,.str s] H=.ret (.str (Gm a)) H'∧Zs H H' []:=by
 rw[ZI (ZA E.n158 (.inl (by decide)) _ _) E.f158]
 have e1:=λ{j}=>Zea E (k:=3) (n:=j) (by decide) (s:=a) (p:=[47]) (H:=H) hs
 rw[ZcH] at e1
 simp only[e1,ZeD,Zu,Ye,Zw,Z6]
 refine⟨_,rfl,?_⟩
 exact Zs.refl _ _
theorem ZeH(E:Env Zn fs fuel)(hk:4<=k){a:List UInt8}(hs:a.length<=90000):
  ZE (LK Zn fs fuel k) fs fuel (n+1) 158 [.str a,.str s] H=.ret (.str (Gm a)) H:=by
 obtain⟨H',e,g⟩:=sB E (n:=898) (H:=H) hs
 exact Yl (r:=3) rfl rfl e g (rfl) hk
def eZ(e sz bytes:Nat)(zs:List AV)(l c:AV)(H:Heap):OR:=Sf l λl=>Sf c λc=>ZP (Nat.ble 1 sz)<|ZP (Nat.ble l c) (ZP (Nat.ble c 140737488355328)<|ZP (Nat.ble (Nat.mul c bytes) 140737488355328) (oj H e sz l c zs))
theorem QG(e sz bytes:Nat)(zs:List AV)(l c:Z1)(tm:TM)(H:Heap):NA e sz bytes zs l c tm H=eZ e sz bytes zs (l tm) (c tm) H:=rfl
theorem xq{e bytes:Nat}{z:AV}(h:n*bytes<=140737488355328)(h1:n<=140737488355328)(k k':IntKind)(H:Heap):eZ e 1 bytes [z] (nI k n) (nI k' n) H=.val (.slice H.nx 0 n none) (H.new (.row ⟨e,1,n,.leaf,z,0,false,true,true⟩)):=by
 show ZP (Nat.ble 1 1) (ZP (Nat.ble n n) (ZP (Nat.ble n 140737488355328) (ZP (Nat.ble (n*bytes) 140737488355328) (oj H e 1 n n [z]))))=_
 rw[Zk (Zp n),Zk h1,Zk h];rfl
def nk(H:Heap)(b:Nat)(l:List (List UInt8)):Prop:= ∃r,H.t.get b=some (.row r)∧r.sz=1∧r.size=l.length∧r.own=true∧b<H.nx∧ ∀i,i<l.length->r.get i=.str (l.getD i [])
theorem nk.keep{H H':Heap}{l:List (List UInt8)}(h:nk H b l)(k:Zs H H' []):nk H' b l:=by
 obtain⟨r,h1,h2,h3,h4,h5,h6⟩:=h
 exact⟨r,by rw[k.get _ h5 (by simp)];exact h1,h2,h3,h4,ZT h5 k.nx,h6⟩
theorem z4{m:Nat}{r:Row}(g:H.t.get b=some (.row r))(hz:r.sz=1)(hs:r.size=n)(hm:m<=n)(h0:0<n)(k:IntKind):Pq 1 (.slice b 0 n none) none (some (nI k m)) H=.val (.slice b 0 m none) H:=by
 show Xg H b _=_
 unfold Xg
 rw[g]
 have e1:GX r 1 none=true:=by show Nat.beq r.sz 1=true;rw[hz];rfl
 have e2:Te r 0 none=n:=by show cond (Nat.beq r.sz 1) (r.size - 0) _=_;rw[hz,hs];rfl
 show ZP (GX r 1 none) (OA (some (nI k m)) n (Te r 0 none) λh=>OA none 0 h λl=>ZP (Nat.ble l (Te r 0 none)) (cond (Nat.beq l (Te r 0 none)) _ _))=_
 rw[e1,e2]
 show ZP (Nat.ble m n) (ZP (Nat.ble 0 n) (cond (Nat.beq 0 n) _ (OR.val (.slice b (0+0*1) (m - 0) none) H)))=_
 rw[Zk hm,Zk (ZZ n),show Nat.beq 0 n=false by rw[Yy];exact Zb (by omega)]
 rfl
structure GSI(s:List UInt8)(H0:Heap)(m:Nat)(tm:TM)(H:Heap):Prop where
 t1:Wc tm=.str [47]
 t2:VX tm=nI .i64 0
 t3:W8 tm=nI .i64 (Xy 47 s 0)
 t9:WG tm=.slice H0.nx 0 (Xy 47 s 0+1) none
 i: ∃i u,YY tm=nI .i64 i∧Yb tm=.str u∧i+m=Xy 47 s 0∧(YU s).drop i=YU u∧u.length<=s.length∧
  ∃r,H.t.get H0.nx=some (.row r)∧r.sz=1∧r.size=Xy 47 s 0+1∧r.fz=0∧r.own=true∧ ∀k,k<i->r.get k=.str ((YU s).getD k [])
 k:Zs H0 H []
 nx:H.nx=H0.nx+1
def GSQ(s:List UInt8)(H0:Heap)(o:Out)(tm:TM)(H:Heap):Prop:=o=.exit 0∧GSI s H0 0 tm H
theorem Fp{α:Type}{l:List α}{a:α}{b:List α}(d:α)(h:l.drop i=a::b):l.getD i d=a∧l.drop (i+1)=b:=by
 have h1:(l.drop i)[0]? =some a:=by rw[h];rfl
 rw[Xa,Zg] at h1
 refine⟨by rw[Zf,h1];rfl,?_⟩
 rw[<-SW,h];rfl
theorem Zaz(E:Env Zn fs fuel)(hk:3<=k)(hs:s.length<=90000)(hro:H0.ro<=H0.nx)(y f dd q)(X0:X)(m:Nat)(tm:TM)(H:Heap)(hI:GSI s H0 m tm H):
  ∃o tm' H',Hw ⟨ZE (LK Zn fs fuel k) fs fuel (n+1),y,f,dd,q⟩ tm H X0=.ok o tm' H' X0∧((o=.normal∧ ∃k,k<m∧GSI s H0 k tm' H')∨(o≠.normal∧GSQ s H0 o tm' H')):=by
 have hI':=hI
 obtain⟨t1,t2,t3,t9,⟨i,u,t10,t0,him,hd,hul,r,g,hz,hsz,hfz,how,hg⟩,k0,hnx⟩:=hI
 have t1':=t1;have t2':=t2;have GY:=t3;have t9':=t9
 simp only[Sb,Kn,IN,Px,fj,pN] at t0 t1 t2 t3 t9 t10
 have hc:=yL 47 s
 cases m with
 |zero=>
  have d1:decide (i<Xy 47 s 0)=false:=Zb (by omega)
  simp only[t3,t10,d1,Zy,Hw,Zu,Ye,Z6,Vk]
  refine⟨_,_,_,rfl,.inr ⟨by simp,?_⟩⟩
  obtain⟨a,b,cc,dx,⟨i',u',e1,e2,rest⟩,ee,ff⟩:=hI'
  exact⟨rfl,a,b,cc,dx,⟨i',u',e1,e2,rest⟩,ee,ff⟩
 |succ m=>
  have d1:decide (i<Xy 47 s 0)=true:=Ze (by omega)
  have hlen:(YU u).length=Xy 47 s 0+1 - i:=by rw[<-hd,Ym,PY]
  cases hj:V6 47 u with
  |zero=>rw[Qv hj] at hlen;simp at hlen;omega
  |succ j=>
   obtain⟨j1,_⟩:=yV hj
   have e1:=λ{q}=>index E (k:=k) (n:=q) hk (H:=H) (s:=u)
   rw[hj,Zbr] at e1
   have d2:decide (j<0)=false:=Zb (by omega)
   have sp:=M0 hj
   rw[sp] at hd
   obtain⟨hd1,hd2⟩:=Fp [] hd
   have wl:([47]:List UInt8).length=1:=rfl
   have sf:=λ(G:Heap) (hG:G.ro<=H0.nx)=>To (r:=r) (b:=H0.nx) (o:=i) (v:=.str (u.take j)) (H:=G) rfl (by omega) how hG (by omega)
   have sf:=sf H (by rw[k0.ro];exact hro)
   simp(disch:=omega) only[t0,t1,t2,t3,t9,t10,d1,d2,e1,wl,g,sf,Xb,Zd,Zg,Zy,YI,ZG,Ur,Us,Hw,Zu,Ye,Z8,Z6,Vk]
   refine⟨_,_,_,rfl,.inl ⟨rfl,m,by omega,t1',t2',GY,t9',⟨i+1,u.drop (j+1),rfl,rfl,by omega,hd2,by rw[Ym];omega,r.st i (.str (u.take j)),Xw ..,hz,hsz,hfz,how,λq hq=>?_⟩,k0.then_put (λh=>by omega),by rw[LA];exact hnx⟩⟩
   rw[Row.st_get]
   by_cases h:i=q
   ·subst h;rw[if_pos rfl,hd1]
   ·rw[if_neg h,hg q (by omega)]
theorem mh(E:Env Zn fs fuel)(hk:3<=k)(hs:s.length<=90000)(hro:H.ro<=H.nx):
  ∃H',ZE (LK Zn fs fuel k) fs fuel (n+2) 119 [.str s,.str [47],nI .i64 0,.int .i64 (.negSucc 0)] H=.ret (.slice H.nx 0 (YU s).length none) H'∧nk H' H.nx (YU s)∧Zs H H' []∧H'.nx=H.nx+1:=by
 rw[ZI (ZA E.n119 (.inr rfl) _ _) E.f119]
 have hc:=yL 47 s
 have ec:=λ{j}=>count E (k:=k) (n:=j) (by omega) (H:=H) (s:=s)
 have Znk: ∀G,N6 Vp false (.int .i64 (.negSucc 0)) (nI .i64 0) G=.val (.bool false) G:=λ_=>rfl
 have negl: ∀G,Tf XE YH (.int .i64 (.negSucc 0)) (nI .i64 0) G=.val (.bool true) G:=λ_=>rfl
 have mn:min (Xy 47 s 0+1) (s.length+1)=Xy 47 s 0+1:=by omega
 have ml:=λG=>xq (e:=9) (bytes:=16) (n:=Xy 47 s 0+1) (z:=.str []) (by omega) (by omega) .i64 .i64 G
 simp(disch:=omega) only[ec,Znk,negl,MM,mn,QG,ml,Wk,YT,XL,YI,ZG,decide_false,Zev,Zu,Ye,reduceCtorEq,Z6,Vk]
 generalize hL:Wv (Hw _) fuel _ _ _=L
 obtain⟨o,Pu,H1,rfl,_,rfl,z⟩:=YA (P:=λT=>GSI s H (Xy 47 s 0) T (H.new (.row ⟨9,1,Xy 47 s 0+1,.leaf,.str [],0,false,true,true⟩))) (Q:=GSQ s H)
  (λT hi=>YP (GSI s H) (GSQ s H) (λm tm H1 h=>Zaz E hk hs hro _ _ _ _ _ m tm H1 h) fuel (Xy 47 s 0) T _ (by have:=E.big;omega) hi) hL
  (by exact⟨rfl,rfl,rfl,rfl,⟨0,s,rfl,rfl,by omega,rfl,Zp _,_,ZW rfl _,rfl,rfl,rfl,rfl,λk hk=>by omega⟩,Zs.new _ _ _,rfl⟩)
 obtain⟨t1,t2,t3,t9,⟨i,u,t10,t0,him,hd,hul,r,g,hz,hsz,hfz,how,hg⟩,k0,hnx⟩:=z
 simp only[Sb,fj,pN] at t0 t9 t10
 obtain rfl:i=Xy 47 s 0:=by omega
 have hlen:(YU u).length=1:=by rw[<-hd,Ym,PY];omega
 have hu:YU u=[u]:=by
  cases hj:V6 47 u with
  |zero=>exact Qv hj
  |succ j=>
   have:=M0 hj
   have h2:=Tc.2 (SH (u.drop (j+1)))
   rw[this,ZS] at hlen;omega
 rw[hu] at hd
 obtain⟨hd1,_⟩:=Fp [] hd
 have sf:=To (r:=r) (b:=H.nx) (o:=Xy 47 s 0) (v:=.str u) (H:=H1) rfl (by omega) how (by rw[k0.ro];exact hro) (by omega)
 have sl:=z4 (H:=H1.put H.nx (.row (r.st (Xy 47 s 0) (.str u)))) (b:=H.nx) (n:=Xy 47 s 0+1) (m:=Xy 47 s 0+1) (r:=r.st (Xy 47 s 0) (.str u)) (Xw ..) hz hsz (Zp _) (by omega) .i64
 simp(disch:=omega) only[t0,t9,t10,g,sf,sl,Xb,Zd,YI,Zu,Ye,Zw,Z8,Z6,Vk,QS]
 rw[PY]
 refine⟨_,rfl,⟨_,Xw ..,hz,by rw[PY];exact hsz,how,by rw[LA];omega,λq hq=>?_⟩,k0.then_put (λh=>by omega),by rw[LA];exact hnx⟩
 rw[PY] at hq
 rw[Row.st_get]
 by_cases h:Xy 47 s 0=q
 ·subst h;rw[if_pos rfl,hd1]
 ·rw[if_neg h,hg q (by omega)]
theorem Zgs(E:Env Zn fs fuel)(hk:3<=k)(hs:s.length<=90000)(hro:H.ro<=H.nx):
  ∃H',ZE (LK Zn fs fuel k) fs fuel (n+3) 103 [.str s,.str [47]] H=.ret (.slice H.nx 0 (YU s).length none) H'∧nk H' H.nx (YU s)∧Zs H H' []∧H'.nx=H.nx+1:=by
 rw[ZI (ZA E.n103 (.inr rfl) _ _) E.f103]
 obtain⟨H',e1,r1⟩:=mh E (n:=n) hk hs hro
 refine⟨H',?_,r1⟩
 simp only[e1,Zep,Zu,Ye,Zw,Z6]
def yw(H:Heap)(v:AV)(l:List (List UInt8)):Prop:=(v=.nils∧l=[])∨ ∃b,v=.slice b 0 l.length none∧0<l.length∧nk H b l
theorem yw.keep{H H':Heap}{v:AV}{l:List (List UInt8)}(h:yw H v l)(k:Zs H H' []):yw H' v l:=by
 rcases h with h|⟨b,h1,h2,h3⟩
 ·exact .inl h
 ·exact .inr ⟨b,h1,h2,h3.keep k⟩
theorem yw.len{v:AV}{l:List (List UInt8)}(h:yw H v l)(G:Heap):NV v G=.val (nI .i64 l.length) G:=by
 rcases h with⟨rfl,rfl⟩|⟨b,rfl,_⟩
 ·rfl
 ·exact Sr ..
theorem qg(E:Env Zn fs fuel)(hk:3<=k)(hs:s.length<=90000)(hro:H.ro<=H.nx):
  ∃v H',ZE (LK Zn fs fuel k) fs fuel (n+4) 84 [.str s] H=.ret v H'∧yw H' v (Z4 s)∧Zs H H' []:=by
 rw[ZI (ZA E.n84 (.inr rfl) _ _) E.f84]
 unfold Z4
 by_cases h:s=[]
 ·have d1:decide (s=[])=true:=Ze h
  rw[if_pos h]
  simp only[d1,YT,c84,Zu,Ye,Zw,Z6]
  exact⟨_,_,rfl,.inl ⟨rfl,rfl⟩,Zs.refl _ _⟩
 ·have d1:decide (s=[])=false:=Zb h
  rw[if_neg h]
  obtain⟨H',e1,r1,k1,_⟩:=Zgs E (n:=n) hk hs hro
  simp only[d1,e1,YT,c84,Zu,Ye,Zw,Z6]
  exact⟨_,_,rfl,.inr ⟨_,rfl,Tc.2 (SH s),r1⟩,k1⟩
theorem v7(e:Nat)(tm:TM)(H:Heap):Ue e L0 tm H=.val (.ptr H.nx 0) (H.new (rG e 1 L0 0 false true true)):=by
 rw[C7 _ _ (by rw[YF];unfold L0;rw[ZH];decide)];rfl
theorem vS{v:AV}(hv:Wx n v=true): ∀{l:List AV} {i:Nat},RS n l=true->RS n (l.set i v)=true
 |[],_,h=>h
 |a::l,0,h=>by
  have h:cond (Wx n a) (RS n l) false=true:=h
  show cond (Wx n v) (RS n l) false=true
  rw[hv]
  cases ha:Wx n a with
  |false=>rw[ha] at h;cases h
  |true=>rw[ha] at h;exact h
 |a::l,i+1,h=>by
  have h:cond (Wx n a) (RS n l) false=true:=h
  show cond (Wx n a) (RS n (l.set i v)) false=true
  cases ha:Wx n a with
  |false=>rw[ha] at h;cases h
  |true=>rw[ha] at h;exact vS hv h
theorem be(n:Nat)(cs:List UInt8):RS n (Pz cs)=true:=by
 unfold Pz
 have: ∀(cs:List UInt8) (L:List AV),RS n L=true->RS n (cs.foldl (λL c=>L.set c.toNat (.bool true)) L)=true:=by
  intro cs
  induction cs with
  |nil=>intro L h;exact h
  |cons c cs ih=>intro L h;exact ih _ (vS rfl h)
 refine this cs L0 ?_
 unfold L0
 have r: ∀m,RS n (List.replicate m (AV.bool false))=true:=by
  intro m
  induction m with
  |zero=>rfl
  |succ m ih=>rw[Wa];exact ih
 exact r 256
structure QT(cs:List UInt8):Prop where
 lo:2<=cs.length
 hi:cs.length<=3
 lt: ∀c∈cs,c.toNat<128
theorem QT.at_{cs:List UInt8}(h:QT cs)(hi:i<cs.length):(cs.getD i 0).toNat<128:=by
 rw[Zf,Zl hi];exact h.lt _ (Xd hi)
theorem QT.fst{cs:List UInt8}(h:QT cs){x:Nat}(hx:128<=x):V6 x cs=0:=T5.2 λc hc=>by have:=h.lt c hc;omega
theorem QT.fstd{cs:List UInt8}(h:QT cs){x:Nat}(hx:128<=x):V6 x (cs.drop i)=0:=T5.2 λc hc=>by have:=h.lt c (VC hc);omega
structure MSI(cs:List UInt8)(H0:Heap)(m:Nat)(tm:TM)(H:Heap):Prop where
 t0:Yb tm=.str cs
 t2:VX tm=.ptr H0.nx 0
 i: ∃i,Y4 tm=nI .i64 i∧i+m=cs.length∧H.t.get H0.nx=some (rH 140 (Pz (cs.take i)))
 k:Zs H0 H []
 nx:H0.nx<H.nx
def MSQ(cs:List UInt8)(H0:Heap)(o:Out)(tm:TM)(H:Heap):Prop:=o=.exit 0∧VX tm=.ptr H0.nx 0∧H.t.get H0.nx=some (rH 140 (Pz cs))∧Zs H0 H []∧H0.nx<H.nx
theorem Zbx{cs:List UInt8}(ha:QT cs)(hro:H0.ro<=H0.nx)(cx:Ctx)(X0:X)(m:Nat)(tm:TM)(H:Heap)(hI:MSI cs H0 m tm H):
  ∃o tm' H',Hu cx tm H X0=.ok o tm' H' X0∧((o=.normal∧ ∃k,k<m∧MSI cs H0 k tm' H')∨(o≠.normal∧MSQ cs H0 o tm' H')):=by
 obtain⟨t0,t2,⟨i,t4,him,g⟩,k0,hnx⟩:=hI
 have t0':=t0;have t2':=t2
 simp only[Sb,IN,Tp] at t0 t2 t4
 have h3:=ha.hi
 cases m with
 |zero=>
  have d1:decide (i<cs.length)=false:=Zb (by omega)
  simp only[t0,t4,d1,Zy,ZG,Hu,Zu,Ye,Z6]
  rw[Z9 (by omega)] at g
  refine⟨_,_,_,rfl,?_⟩
  exact .inr ⟨by simp,rfl,t2',g,k0,hnx⟩
 |succ m=>
  have d1:decide (i<cs.length)=true:=Ze (by omega)
  have hx:=ha.at_ (i:=i) (by omega)
  have d2:decide (128<=(cs.getD i 0).toNat)=false:=Zb (by omega)
  have hl:=GJ (cs.take i)
  have hl2:(cs.getD i 0).toNat<(Pz (cs.take i)).length:=by rw[hl];omega
  have sf:=LH (v:=.bool true) (b:=H0.nx) (H:=H) rfl hl2 (by rw[k0.ro];exact hro) (ZZ _) 140 1 false true
  simp(disch:=omega) only[t0,t2,t4,d1,d2,g,sf,XD,Xu,Zy,YI,ZG,Rz,Zd,Hu,Zu,Ye,Z6]
  refine⟨_,_,_,rfl,?_⟩
  exact .inl ⟨rfl,m,by omega,t0',t2',⟨i+1,rfl,by omega,by rw[F8 (by omega),kV];exact Xw ..⟩,k0.then_put (λh=>by omega),by rw[LA];exact hnx⟩
theorem lG(E:Env Zn fs fuel){cs:List UInt8}(ha:QT cs)(hro:H.ro<=H.nx):
  ∃H',ZE (LK Zn fs fuel 0) fs fuel (n+2) 107 [.str cs] H=.ret (.tup [.agg (Pz cs),.bool true]) H'∧Zs H H' []:=by
 rw[ZI (ZA E.n107 (.inl (by decide)) _ _) E.f107]
 simp only[v7,Zes,Zu,Z6]
 generalize hL:Wv (Hu _) fuel _ _ _=L
 have h3:=ha.hi
 obtain⟨o,Pu,H1,rfl,_,rfl,t2,g,k0,hnx⟩:=YA (P:=λT=>MSI cs H cs.length T (H.new (rH 140 L0))) (Q:=MSQ cs H)
  (λT hi=>YP (MSI cs H) (MSQ cs H) (λm tm H1 h=>Zbx ha hro _ _ m tm H1 h) fuel cs.length T _ (by have:=E.big;omega) hi) hL
  (by exact⟨rfl,rfl,⟨0,rfl,by omega,ZW rfl _⟩,Zs.new _ _ _,YM _⟩)
 simp only[IN] at t2
 have hl:=GJ cs
 have sf:=Tn (n:=256) (b:=H.nx) (l:=Pz cs) (vs:=Pz cs) (H:=H1) hl hl (by decide) (by rw[k0.ro];exact hro) 140 1 false true
 have ld: ∀G,EW 256 (some (rH 140 (Pz cs))) 0 G=.val (.agg (Pz cs)) G:=λG=>by
  rw[Vr (by rw[hl];decide)]
  rw[Yk,Z9 (by rw[hl];decide)]
 have rv: ∀k,rV 256 true (some (rH 140 (Pz cs))) 0 k=k (.agg (Pz cs)):=λk=>Zgg hl k
 simp only[t2,g,sf,ld,rv,Zu,Ye,Zw,Z6]
 refine⟨_,rfl,?_⟩
 exact k0.then_put (λh=>by omega)
theorem Ziz(E:Env Zn fs fuel)(hk:1<=k){cs:List UInt8}(ha:QT cs)(hro:H.ro<=H.nx):
  ZE (LK Zn fs fuel k) fs fuel (n+1) 107 [.str cs] H=.ret (.tup [.agg (Pz cs),.bool true]) H:=by
 obtain⟨H',e,g⟩:=lG E (n:=898) (H:=H) ha hro
 exact Yl (r:=0) rfl rfl e g (by
  show cond (RS 0 (Pz cs)) _ false=true
  rw[be];rfl) hk
theorem nH(E:Env Zn fs fuel){cs:List UInt8}{x:UInt8}(g:H.t.get b=some (rH 140 (Pz cs))):
  ∃H',ZE (LK Zn fs fuel 0) fs fuel (n+2) 108 [.ptr b 0,nI .u8 x.toNat] H=.ret (.bool (decide (x∈cs))) H'∧Zs H H' []:=by
 rw[ZI (ZA E.n108 (.inl (by decide)) _ _) E.f108]
 have hx:=x.toNat_lt
 have hl:=GJ cs
 have hl2:x.toNat<(Pz cs).length:=by rw[hl];exact hx
 have sg:=bc cs (x:=x)
 have ld: ∀G,ld1 (some (rH 140 (Pz cs))) x.toNat G=.val (.bool (decide (x∈cs))) G:=λG=>by rw[WH hl2,sg]
 simp(disch:=omega) only[g,ld,Rz,Zd,Zet,Zu,Ye,Zw,Z6]
 refine⟨_,rfl,?_⟩
 exact Zs.refl _ _
theorem Zg8(E:Env Zn fs fuel)(hk:1<=k){cs:List UInt8}{x:UInt8}(g:H.t.get b=some (rH 140 (Pz cs))):
  ZE (LK Zn fs fuel k) fs fuel (n+1) 108 [.ptr b 0,nI .u8 x.toNat] H=.ret (.bool (decide (x∈cs))) H:=by
 obtain⟨H',e,g⟩:=nH E (n:=898) (H:=H) g
 exact Yl (r:=0) rfl rfl e g (rfl) hk
theorem qy(E:Env Zn fs fuel){x:Nat}:
  ∃H',ZE (LK Zn fs fuel 0) fs fuel (n+2) 106 [nI .i64 x] H=.ret (.bool (decide (8<x))) H'∧Zs H H' []:=by
 rw[ZI (ZA E.n106 (.inl (by decide)) _ _) E.f106]
 simp only[Z3,Zer,Zu,Ye,Zw,Z6]
 refine⟨_,rfl,?_⟩
 exact Zs.refl _ _
theorem Zgq(E:Env Zn fs fuel)(hk:1<=k){x:Nat}:
  ZE (LK Zn fs fuel k) fs fuel (n+1) 106 [nI .i64 x] H=.ret (.bool (decide (8<x))) H:=by
 obtain⟨H',e,g⟩:=qy E (n:=898) (H:=H)
 exact Yl (r:=0) rfl rfl e g (rfl) hk
theorem qP(E:Env Zn fs fuel){x:Nat}(h1:128<=x)(h2:x<=1114111):
  ∃H',ZE (LK Zn fs fuel 0) fs fuel (n+2) 120 [nI .i32 x] H=.ret (.bool (decide (x<55296)||decide (57343<x))) H'∧Zs H H' []:=by
 rw[ZI (ZA E.n120 (.inl (by decide)) _ _) E.f120]
 have d3:decide (x<=1114111)=true:=Ze h2
 by_cases h:x<55296
 ·have d1:decide (x<55296)=true:=Ze h
  rw[d1,QV]
  simp only[d1,Yt,Zy,ZZ,decide_true,jU,Zu,Ye,Zw,Z6]
  refine⟨_,rfl,?_⟩
  exact Zs.refl _ _
 ·have d1:decide (x<55296)=false:=Zb h
  rw[d1,Bool.false_or]
  by_cases h':57343<x
  ·have d2:decide (57343<x)=true:=Ze h'
   rw[d2]
   simp only[d1,d2,d3,Yt,Zy,ZZ,decide_true,jU,Zu,Ye,Zw,Z6]
   refine⟨_,rfl,?_⟩
   exact Zs.refl _ _
  ·have d2:decide (57343<x)=false:=Zb h'
   rw[d2]
   simp only[d1,d2,Yt,Zy,ZZ,decide_true,jU,Zu,Ye,Zw,Z6]
   refine⟨_,rfl,?_⟩
   exact Zs.refl _ _
theorem Zgz(E:Env Zn fs fuel)(hk:1<=k){x:Nat}(h1:128<=x)(h2:x<=1114111):
  ZE (LK Zn fs fuel k) fs fuel (n+1) 120 [nI .i32 x] H=.ret (.bool (decide (x<55296)||decide (57343<x))) H:=by
 obtain⟨H',e,g⟩:=qP E (n:=898) (H:=H) h1 h2
 exact Yl (r:=0) rfl rfl e g (rfl) hk
def ZdP(a:AV)(H:Heap):OR:=QH a λ_ n=>.val (.str (Utf8.encode n).data.toList) H
theorem ud(x:Z1)(tm:TM)(H:Heap):ow x tm H=ZdP (x tm) H:=rfl
def oG(a:AV)(H:Heap):OR:=Oo a λs=>.val (.ptr H.nx 0) (H.new (.siter s 0))
theorem Bc(x:Z1)(tm:TM)(H:Heap):Dh x tm H=oG (x tm) H:=rfl
theorem EM(s:List UInt8)(H:Heap):oG (.str s) H=.val (.ptr H.nx 0) (H.new (.siter s 0)):=rfl
def ot(o:Option Obj)(b:Nat)(H:Heap):OR:=ZP (Nat.ble H.ro b)<|match o with
 |some o=>q8 o λs pos=>cond (Nat.ble (Nat.succ pos) (YK s)) (match Utf8.decode ⟨s.toArray⟩ pos with|(c,w)=>.val (.tup [.bool true,.int .i64 (.ofNat pos),.int .i32 c]) (H.put b (.siter s (Nat.add pos w)))) (.val (.tup [.bool false]) H)
 |none=>.fail
def ZdL(a:AV)(H:Heap):OR:=RK a λb o=>ZP (Nat.beq o 0)<|ot (H.t.get b) b H
theorem MP(x:Z1)(tm:TM)(H:Heap):ov x tm H=ZdL (x tm) H:=by
 show RK (x tm) _=RK (x tm) _
 congr 1
theorem MN(b:Nat)(H:Heap):ZdL (.ptr b 0) H=ot (H.t.get b) b H:=rfl
theorem CZ{r w:Nat}(hro:H.ro<=b)(h:i<s.length)(hd:Utf8.decode ⟨s.toArray⟩ i=(r,w)):
  ot (some (.siter s i)) b H=.val (.tup [.bool true,nI .i64 i,nI .i32 r]) (H.put b (.siter s (i+w))):=by
 show ZP (Nat.ble H.ro b) (cond (Nat.ble (Nat.succ i) (YK s)) (match Utf8.decode ⟨s.toArray⟩ i with|(c,w)=>OR.val (.tup [.bool true,.int .i64 (.ofNat i),.int .i32 c]) (H.put b (.siter s (Nat.add i w)))) _)=_
 rw[Zk hro,YF,Zk (show Nat.succ i<=s.length from h),hd]
 rfl
theorem zA(hro:H.ro<=b)(h:s.length<=i):ot (some (.siter s i)) b H=.val (.tup [.bool false]) H:=by
 have e:Nat.ble (Nat.succ i) s.length=false:=by
  cases hq:Nat.ble (Nat.succ i) s.length with
  |false=>rfl
  |true=>have:=ZR hq;have:i+1<=s.length:=this;omega
 show ZP (Nat.ble H.ro b) (cond (Nat.ble (Nat.succ i) (YK s)) _ _)=_
 rw[Zk hro,YF,e];rfl
structure SI0(cs:List UInt8)(H0:Heap)(m:Nat)(tm:TM)(H:Heap):Prop where
 t175:vu tm=.ptr H0.nx 0
 g: ∃i,i+m=cs.length∧H.t.get H0.nx=some (.siter cs i)
 k:Zs H0 H []
def SQ0(H0:Heap)(o:Out)(tm:TM)(H:Heap):Prop:=o=.exit 9∧Zs H0 H []
theorem ZaY{cs:List UInt8}(ha:QT cs)(hro:H0.ro<=H0.nx)(cx:Ctx)(X0:X)(m:Nat)(tm:TM)(H:Heap)(hI:SI0 cs H0 m tm H):
  ∃o tm' H',Ht cx tm H X0=.ok o tm' H' X0∧((o=.normal∧ ∃k,k<m∧SI0 cs H0 k tm' H')∨(o≠.normal∧SQ0 H0 o tm' H')):=by
 obtain⟨t,⟨i,him,g⟩,k0⟩:=hI
 have t':=t
 simp only[Zfb] at t
 have hr:H.ro<=H0.nx:=by rw[k0.ro];exact hro
 cases m with
 |zero=>
  have ne:=zA (H:=H) (b:=H0.nx) (s:=cs) (i:=i) hr (by omega)
  simp only[t,g,ne,MP,MN,Ht,Zu,Ye,Ad]
  refine⟨_,_,_,rfl,?_⟩
  exact .inr ⟨by simp,rfl,k0⟩
 |succ m=>
  have hx:=ha.at_ (i:=i) (by omega)
  have ne:=CZ (H:=H) (b:=H0.nx) (s:=cs) (i:=i) hr (by omega) (pq hx)
  have d1:decide ((cs.getD i 0).toNat=65533)=false:=Zb (by omega)
  simp only[t,g,ne,d1,YL,MP,MN,Ht,Zu,Ye,Z6,Ad]
  refine⟨_,_,_,rfl,?_⟩
  exact .inl ⟨rfl,m,by omega,t',⟨i+1,by omega,Xw ..⟩,k0.then_put (λh=>by omega)⟩
theorem fO(E:Env Zn fs fuel){cs:List UInt8}{x:Nat}(hx:x<128):
  ∃H',ZE (LK Zn fs fuel 2) fs fuel (n+2) 105 [.str cs,nI .i32 x] H=.ret (mI (V6 x cs)) H'∧Zs H H' []:=by
 rw[ZI (ZA E.n105 (.inl (by decide)) _ _) E.f105]
 have e1:=λ{j}=>Zfu E (k:=2) (n:=j) (by decide) (s:=cs) (x:=x) (H:=H) (by omega)
 have d1:decide (x<128)=true:=Ze hx
 simp(disch:=omega) only[e1,d1,Yt,Zy,RA,ZZ,decide_true,tY,Zu,Ye,Zw,Z6,Ad]
 refine⟨_,rfl,?_⟩
 exact Zs.refl _ _
theorem ZmY(E:Env Zn fs fuel)(hk:3<=k){cs:List UInt8}{x:Nat}(hx:x<128):
  ZE (LK Zn fs fuel k) fs fuel (n+1) 105 [.str cs,nI .i32 x] H=.ret (mI (V6 x cs)) H:=by
 obtain⟨H',e,g⟩:=fO E (n:=898) (H:=H) hx
 exact Yl (r:=2) rfl rfl e g (Nx _ _) hk
theorem mN(E:Env Zn fs fuel){cs:List UInt8}{x:Nat}(ha:QT cs)(h1:128<=x)(h2:x<=1114111)(hro:H.ro<=H.nx):
  ∃H',ZE (LK Zn fs fuel 2) fs fuel (n+2) 105 [.str cs,nI .i32 x] H=.ret (mI 0) H'∧Zs H H' []:=by
 rw[ZI (ZA E.n105 (.inl (by decide)) _ _) E.f105]
 have d1:decide (x<128)=false:=Zb (by omega)
 by_cases hx:x=65533
 ·have d2:decide (x=65533)=true:=Ze hx
  simp only[d1,d2,Yt,Zy,YL,ZZ,decide_true,Bc,EM,tY,Zu,Ye,Z6,Ad]
  generalize hL:Wv (Ht _) fuel _ _ _=L
  have h3:=ha.hi
  obtain⟨o,Pu,H1,rfl,_,rfl,k0⟩:=YA (P:=λT=>SI0 cs H cs.length T (H.new (.siter cs 0))) (Q:=SQ0 H)
   (λT hi=>YP (SI0 cs H) (SQ0 H) (λm tm H1 h=>ZaY ha hro _ _ m tm H1 h) fuel cs.length T _ (by have:=E.big;omega) hi) hL
   (by exact⟨rfl,⟨0,by omega,ZW rfl _⟩,Zs.new _ _ _⟩)
  simp only[Zu,Ye,Zw,Z6,]
  refine⟨_,rfl,?_⟩
  exact k0
 ·have d2:decide (x=65533)=false:=Zb hx
  have ev:=λ{j}=>Zgz E (k:=2) (n:=j) (by decide) (H:=H) h1 h2
  cases hv:(decide (x<55296)||decide (57343<x)) with
  |false=>
   rw[hv] at ev
   simp only[d1,d2,ev,Yt,Zy,YL,ZZ,decide_true,tY,Zu,Ye,Zw,Z8,Z6,Ad]
   refine⟨_,rfl,?_⟩
   exact Zs.refl _ _
  |true=>
   rw[hv] at ev
   obtain⟨rs,er0,r1,r2,r3⟩:=iO h1
   have er: ∀G,ZdP (nI .i32 x) G=.val (.str rs) G:=λG=>by
    show OR.val (.str (Utf8.encode (Int.ofNat x)).data.toList) G=_
    rw[show(Int.ofNat x)=(x:Int) from rfl,er0]
   obtain⟨q,hq⟩: ∃q,rs.length=q+1:=⟨rs.length - 1,by omega⟩
   rw[hq,Wk] at r3
   have r3':=(rs.getD q 0).toNat_lt
   have eb:=λ{j}=>Zfu E (k:=2) (n:=j) (by decide) (H:=H) (s:=cs.drop (q+1)) (x:=(rs.getD q 0).toNat) (by omega)
   rw[ha.fstd r3] at eb
   obtain⟨m,rfl⟩: ∃m,fuel=m+2:=⟨fuel - 2,by have:=E.big;omega⟩
   by_cases hl:q<cs.length
   ·have d3:decide (q<cs.length)=true:=Ze hl
    have hc:=ha.at_ hl
    have d4:decide ((cs.getD q 0).toNat≠(rs.getD q 0).toNat)=true:=Ze (by omega)
    simp(disch:=omega) only[d1,d2,d3,d4,ev,er,hq,eb,Nw,Wk,XD,Yt,Zy,YL,Vi,XL,YI,ZG,Ur,ZZ,decide_true,eV,ud,tY,yK,Zu,Ye,Zw,Z8,Yp,Z6,Vk,Ad]
    refine⟨_,rfl,?_⟩
    exact Zs.refl _ _
   ·have d3:decide (q<cs.length)=false:=Zb hl
    simp(disch:=omega) only[d1,d2,d3,ev,er,hq,Nw,Wk,Yt,Zy,YL,XL,ZG,ZZ,decide_true,ud,tY,yK,Zu,Ye,Zw,Z8,Z6,Ad]
    refine⟨_,rfl,?_⟩
    exact Zs.refl _ _
theorem Zih(E:Env Zn fs fuel)(hk:3<=k){cs:List UInt8}{x:Nat}(ha:QT cs)(h1:128<=x)(h2:x<=1114111)(hro:H.ro<=H.nx):
  ZE (LK Zn fs fuel k) fs fuel (n+1) 105 [.str cs,nI .i32 x] H=.ret (mI 0) H:=by
 obtain⟨H',e,g⟩:=mN E (n:=898) (H:=H) ha h1 h2 hro
 exact Yl (r:=2) rfl rfl e g (Nx _ _) hk
structure IA0(s cs:List UInt8)(b:Nat)(H0:Heap)(m:Nat)(tm:TM)(H:Heap):Prop where
 heap:H=H0
 t0:Yb tm=.str s
 t6:XI tm=.ptr b 0
 i: ∃i,Wi tm=nI .i64 i∧i+m=s.length∧ ∀j,j<i->s.getD j 0∉cs
def IQ(s cs:List UInt8)(e:Nat)(o:Out)(tm:TM):Prop:=(o=.ret∧ ∃p,Y4 tm=nI .i64 p∧Hp cs s=p+1)∨(o=.exit e∧Hp cs s=0)
theorem fJ(E:Env Zn fs fuel){cs:List UInt8}(hs:s.length<=90000)(g:H0.t.get b=some (rH 140 (Pz cs)))(y f dd q)(X0:X)(m:Nat)(tm:TM)(H:Heap)(hI:IA0 s cs b H0 m tm H):
  ∃o tm' H',Fm ⟨ZE (LK Zn fs fuel 3) fs fuel (n+1),y,f,dd,q⟩ tm H X0=.ok o tm' H' X0∧((o=.normal∧ ∃k,k<m∧IA0 s cs b H0 k tm' H')∨(o≠.normal∧(H'=H0∧IQ s cs 0 o tm'))):=by
 obtain⟨rfl,t0,t6,i,t8,him,hn⟩:=hI
 have t0':=t0;have Dr:=t6
 simp only[Sb,EU,sW] at t0 t6 t8
 cases m with
 |zero=>
  have d1:decide (i<s.length)=false:=Zb (by omega)
  simp only[t0,t8,d1,Zy,ZG,Fm,Zu,Ye,Z6,Vk]
  refine⟨_,_,_,rfl,?_⟩
  exact .inr ⟨by simp,rfl,.inr ⟨rfl,DB λj hj=>hn j (by omega)⟩⟩
 |succ m=>
  have d1:decide (i<s.length)=true:=Ze (by omega)
  have e1:=λ{j}=>Zg8 E (k:=3) (n:=j) (by decide) (H:=H) (x:=s.getD i 0) g
  by_cases hx:s.getD i 0∈cs
  ·rw[Ze hx] at e1
   simp(disch:=omega) only[t0,t6,t8,d1,e1,XD,Zy,ZG,Fm,Zu,Ye,Z6,Vk]
   refine⟨_,_,_,rfl,?_⟩
   exact .inr ⟨by simp,rfl,.inl ⟨rfl,i,rfl,yz (by omega) hx hn⟩⟩
  ·rw[Zb hx] at e1
   simp(disch:=omega) only[t0,t6,t8,d1,e1,XD,Zy,YI,ZG,Fm,Zu,Ye,Z6,Vk]
   refine⟨_,_,_,rfl,.inl ⟨rfl,m,by omega,rfl,t0',Dr,i+1,rfl,by omega,λj hj=>?_⟩⟩
   by_cases h:j=i
   ·rw[h];exact hx
   ·exact hn j (by omega)
structure IA1(s cs:List UInt8)(H0:Heap)(m:Nat)(tm:TM)(H:Heap):Prop where
 t1:Wc tm=.str cs
 t45:Rx tm=.ptr H0.nx 0
 i: ∃i,i+m=s.length∧H.t.get H0.nx=some (.siter s i)∧ ∀j,j<i->s.getD j 0∉cs
 k:Zs H0 H []
 nx:H0.nx<H.nx
theorem fK(E:Env Zn fs fuel){cs:List UInt8}(ha:QT cs)(hs:s.length<=90000)(hro:H0.ro<=H0.nx)(y f dd q)(X0:X)(m:Nat)(tm:TM)(H:Heap)(hI:IA1 s cs H0 m tm H):
  ∃o tm' H',Iy ⟨ZE (LK Zn fs fuel 3) fs fuel (n+1),y,f,dd,q⟩ tm H X0=.ok o tm' H' X0∧((o=.normal∧ ∃k,k<m∧IA1 s cs H0 k tm' H')∨(o≠.normal∧(Zs H0 H' []∧IQ s cs 2 o tm'))):=by
 obtain⟨t1,t45,⟨i,him,g,hn⟩,k0,hnx⟩:=hI
 have t1':=t1;have Zjp:=t45
 simp only[Kn,ZhG] at t1 t45
 have hr:H.ro<=H0.nx:=by rw[k0.ro];exact hro
 cases m with
 |zero=>
  have ne:=zA (H:=H) (b:=H0.nx) (s:=s) (i:=i) hr (by omega)
  simp only[t45,g,ne,MP,MN,Iy,Zu,Ye,Vk]
  refine⟨_,_,_,rfl,?_⟩
  exact .inr ⟨by simp,k0,.inr ⟨rfl,DB λj hj=>hn j (by omega)⟩⟩
 |succ m=>
  obtain⟨HP,hP⟩:=Sa (H.put H0.nx (.siter s (i+1)))
  by_cases hlo:(s.getD i 0).toNat<128
  ·have ne:=CZ (H:=H) (b:=H0.nx) (s:=s) (i:=i) hr (by omega) (pq hlo)
   have e1:=λ{j}=>ZmY E (k:=3) (n:=j) (by decide) (H:=HP) (cs:=cs) (x:=(s.getD i 0).toNat) hlo
   have kp:Zs H0 HP []:=by rw[<-hP];exact k0.then_put (λh=>by omega)
   by_cases hx:s.getD i 0∈cs
   ·have d1:decide (0<V6 (s.getD i 0).toNat cs)=true:=Ze (by
     cases h:V6 (s.getD i 0).toNat cs with
     |zero=>exact absurd rfl (T5.1 h _ hx)
     |succ j=>omega)
    simp only[t1,t45,g,ne,hP,e1,d1,CU,MP,MN,Iy,Zu,Ye,Z6,Vk]
    refine⟨_,_,_,rfl,?_⟩
    exact .inr ⟨by simp,kp,.inl ⟨rfl,i,rfl,yz (by omega) hx hn⟩⟩
   ·have d1:decide (0<V6 (s.getD i 0).toNat cs)=false:=Zb (by
     have:V6 (s.getD i 0).toNat cs=0:=T5.2 λc hc e=>hx (by rw[<-UN.1 e];exact hc)
     omega)
    simp only[t1,t45,g,ne,hP,e1,d1,CU,MP,MN,Iy,Zu,Ye,Z6,Vk]
    refine⟨_,_,_,rfl,.inl ⟨rfl,m,by omega,t1',Zjp,⟨i+1,by omega,by rw[<-hP];exact Xw ..,λj hj=>?_⟩,kp,by rw[<-hP,LA];exact hnx⟩⟩
    by_cases h:j=i
    ·rw[h];exact hx
    ·exact hn j (by omega)
  ·obtain⟨r,w,hd,r1,r2,w1,hw⟩:=ZeP (s:=s) (i:=i) (by omega) (by omega)
   have ne:=CZ (H:=H) (b:=H0.nx) (s:=s) (i:=i) hr (by omega) hd
   have hwl:=hw (w - 1) (by omega)
   obtain⟨HQ,hQ⟩:=Sa (H.put H0.nx (.siter s (i+w)))
   have kp:Zs H0 HQ []:=by rw[<-hQ];exact k0.then_put (λh=>by omega)
   have e1:=λ{j}=>Zih E (k:=3) (n:=j) (by decide) (H:=HQ) (cs:=cs) (x:=r) ha r1 r2 (by rw[kp.ro,<-hQ,LA];omega)
   simp only[t1,t45,g,ne,hQ,e1,U5,decide_false,CU,MP,MN,Iy,Zu,Ye,Z6,Vk]
   refine⟨_,_,_,rfl,.inl ⟨rfl,m+1 - w,by omega,t1',Zjp,⟨i+w,by omega,by rw[<-hQ];exact Xw ..,λj hj hm=>?_⟩,kp,by rw[<-hQ,LA];exact hnx⟩⟩
   by_cases h:j<i
   ·exact hn j h hm
   ·have h2:=hw (j - i) (by omega)
    rw[show i+(j - i)=j by omega] at h2
    have:=ha.lt _ hm;omega
theorem fL(E:Env Zn fs fuel){cs:List UInt8}(ha:QT cs)(hs:s.length<=90000)(hro:H.ro<=H.nx):
  ∃H',ZE (LK Zn fs fuel 3) fs fuel (n+2) 87 [.str s,.str cs] H=.ret (mI (Hp cs s)) H'∧Zs H H' []:=by
 rw[ZI (ZA E.n87 (.inl (by decide)) _ _) E.f87]
 have h2:=ha.lo
 have n0:decide (cs=[])=false:=Zb λe=>by rw[e] at h2;simp at h2
 have n1:decide (cs.length=1)=false:=Zb (by omega)
 have es:=λ{j}=>Zgq E (k:=3) (n:=j) (by decide) (H:=H) (x:=s.length)
 by_cases h8:8<s.length
 ·rw[Ze h8] at es
  have em:=λ{j}=>Ziz E (k:=3) (n:=j) (by decide) (H:=H) ha hro
  have hl:=GJ cs
  have hz:L0.length=256:=by unfold L0;rw[ZH]
  have sf:=λ(G:Heap) (hG:G.ro<=H.nx)=>Tn (n:=256) (b:=H.nx) (l:=L0) (vs:=Pz cs) (H:=G) hz hl (by decide) hG 140 1 false true
  have sf:=sf (H.new (rH 140 L0)) hro
  rw[Tm rfl] at sf
  obtain⟨H1,hH1⟩:=Sa (H.new (rH 140 (Pz cs)))
  rw[hH1] at sf
  simp only[n0,n1,es,em,v7,sf,YL,YT,ZG,c87,Zu,Ye,Zw,Z6,Vk]
  generalize hL:Wv (Fm _) fuel _ _ _=L
  obtain⟨o,Pu,H2,rfl,_,rfl,z⟩:=YA (P:=λT=>IA0 s cs H.nx H1 s.length T H1) (Q:=λo tm' H'=>H'=H1∧IQ s cs 0 o tm')
   (λT hi=>YP (IA0 s cs H.nx H1) (λo tm' H'=>H'=H1∧IQ s cs 0 o tm') (λm tm H2 h=>fJ E hs (by rw[<-hH1];exact ZW rfl _) _ _ _ _ _ m tm H2 h) fuel s.length T H1 (by have:=E.big;omega) hi) hL
   (by exact⟨rfl,rfl,rfl,0,rfl,by omega,λj hj=>by omega⟩)
  rcases z with⟨rfl,p,t4,e⟩|⟨rfl,e⟩
  ·simp only[Tp] at t4
   rw[e,Zbr]
   simp only[t4,Zu,Zw,Z6]
   refine⟨_,rfl,?_⟩
   exact by rw[<-hH1];exact Zs.new _ _ _
  ·rw[e]
   simp only[Zu,Ye,Zw,Z6]
   refine⟨_,rfl,?_⟩
   exact by rw[<-hH1];exact Zs.new _ _ _
 ·rw[Zb h8] at es
  simp only[n0,n1,es,YL,YT,ZG,Bc,EM,c87,Zu,Ye,Z6,Vk]
  generalize hL:Wv (Iy _) fuel _ _ _=L
  obtain⟨o,Pu,H2,rfl,_,k2,z⟩:=YA (P:=λT=>IA1 s cs H s.length T (H.new (.siter s 0))) (Q:=λo tm' H'=>Zs H H' []∧IQ s cs 2 o tm')
   (λT hi=>YP (IA1 s cs H) (λo tm' H'=>Zs H H' []∧IQ s cs 2 o tm') (λm tm H2 h=>fK E ha hs hro _ _ _ _ _ m tm H2 h) fuel s.length T _ (by have:=E.big;omega) hi) hL
   (by exact⟨rfl,rfl,⟨0,by omega,ZW rfl _,λj hj=>by omega⟩,Zs.new _ _ _,YM _⟩)
  rcases z with⟨rfl,p,t4,e⟩|⟨rfl,e⟩
  ·simp only[Tp] at t4
   rw[e,Zbr]
   simp only[t4,Zu,Zw,Z6]
   refine⟨_,rfl,?_⟩
   exact k2
  ·rw[e]
   simp only[Zu,Ye,Zw,Z6]
   refine⟨_,rfl,?_⟩
   exact k2
theorem ZmX(E:Env Zn fs fuel)(hk:4<=k){cs:List UInt8}(ha:QT cs)(hs:s.length<=90000)(hro:H.ro<=H.nx):
  ZE (LK Zn fs fuel k) fs fuel (n+1) 87 [.str s,.str cs] H=.ret (mI (Hp cs s)) H:=by
 obtain⟨H',e,g⟩:=fL E (n:=898) (H:=H) ha hs hro
 exact Yl (r:=3) rfl rfl e g (Nx _ _) hk
theorem nG(E:Env Zn fs fuel){cs:List UInt8}(ha:QT cs)(hs:s.length<=90000)(hro:H.ro<=H.nx):
  ∃H',ZE (LK Zn fs fuel 4) fs fuel (n+2) 63 [.str s,.str cs] H=.ret (.bool (Ts cs s)) H'∧Zs H H' []:=by
 rw[ZI (ZA E.n63 (.inl (by decide)) _ _) E.f63]
 have e1:=λ{j}=>ZmX E (k:=4) (n:=j) (by decide) (H:=H) ha hs hro
 rw[<-qY cs s]
 simp only[e1,CU,c63,Zu,Ye,Zw,Z6]
 refine⟨_,rfl,?_⟩
 exact Zs.refl _ _
theorem iw(E:Env Zn fs fuel)(hk:5<=k){cs:List UInt8}(ha:QT cs)(hs:s.length<=90000)(hro:H.ro<=H.nx):
  ZE (LK Zn fs fuel k) fs fuel (n+1) 63 [.str s,.str cs] H=.ret (.bool (Ts cs s)) H:=by
 obtain⟨H',e,g⟩:=nG E (n:=898) (H:=H) ha hs hro
 exact Yl (r:=4) rfl rfl e g (rfl) hk
end
end
end Go.AI
