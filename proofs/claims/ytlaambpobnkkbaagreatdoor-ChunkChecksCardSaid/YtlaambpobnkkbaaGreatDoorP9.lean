/- Texts that are split, and looked through: walked: proved without conditions but those that each names. -/
import Derived.Test.YtlaambpobnkkbaaGreatDoorP8
set_option maxRecDepth 1000000
set_option maxHeartbeats 0
set_option linter.unusedVariables false
set_option linter.unusedSimpArgs false
namespace Go.AI
open Go
noncomputable section
def mI:Nat->AV
 |0=>.int .i64 (.negSucc 0)
 |m+1=>nI .i64 m
theorem bE{m:Nat}(h:m<9223372036854775808)(G:Heap):Di (nI .i64 m) (nI .i64 1) G=.val (mI m) G:=by
 cases m with
 |zero=>rfl
 |succ m=>exact Vp (by omega) h G
theorem vH(j:Nat)(G:Heap):OM SA Wx (mI j) (nI .i64 0) G=.val (.bool (decide (0<j))) G:=by
 cases j with
 |zero=>rfl
 |succ j=>exact Wh .i64 j 0 G
theorem Zdk(j:Nat)(G:Heap):OM X1 YK (mI j) (nI .i64 0) G=.val (.bool (decide (j=0))) G:=by
 cases j with
 |zero=>rfl
 |succ j=>exact Zv .i64 j 0 G
theorem Zfx{j:Nat}(h:j<9223372036854775808)(G:Heap):DP (mI j) (nI .i64 1) G=.val (nI .i64 j) G:=by
 cases j with
 |zero=>rfl
 |succ j=>exact YU h G
theorem Zbe(m:Nat):mI (m+1)=nI .i64 m:=rfl
theorem LS(n j:Nat):Wl n (mI j)=true:=by cases j<;>rfl
theorem Zfy(x:Nat)(s:List UInt8):AV.int .i64 (PY x s 0)=mI (TJ x s):=by
 rw[pH]
 cases h:TJ x s with
 |zero=>rfl
 |succ j=>rw[if_neg (by omega)];show AV.int .i64 ((0+(j+1) - 1:Nat):Int)=_;rw[show 0+(j+1) - 1=j by omega];rfl
structure LBI(s:List UInt8)(x:Nat)(H0:Heap)(m:Nat)(tm:TM)(H:Heap):Prop where
 heap:H=H0
 t0:Yu tm=.str s
 t1:XR tm=nI .u8 x
 t5:YT tm=mI m
 le:m<=s.length
 cut:Tk x s=Tk x (s.take m)
def LBQ(s:List UInt8)(x:Nat)(H0:Heap)(o:Out)(tm:TM)(H:Heap):Prop:=H=H0∧((o=.ret∧Xu tm=mI (Tk x s))∨(o=.exit 0∧Tk x s=0))
theorem Za6{s:List UInt8}{x:Nat}(hs:s.length<=90000){H0:Heap}(cx:Ctx)(X0:X)(m:Nat)(tm:TM)(H:Heap)(hI:LBI s x H0 m tm H):
  ∃o tm' H',Fr cx tm H X0=.ok o tm' H' X0∧((o=.normal∧ ∃k,k<m∧LBI s x H0 k tm' H')∨(o≠.normal∧LBQ s x H0 o tm' H')):=by
 obtain⟨rfl,t0,t1,t5,le,hc⟩:=hI
 have t0':=t0;have t1':=t1
 simp only[VF] at t0
 simp only[Ov] at t1
 simp only[Ss] at t5
 cases m with
 |zero=>
  have d1:decide (0<0)=false:=rfl
  simp only[t5,vH,XT,decide_false,Fr,ZI,Yw,Yt]
  refine⟨_,_,_,rfl,?_⟩
  exact .inr ⟨by simp,rfl,.inr ⟨rfl,by rw[hc];rfl⟩⟩
 |succ m=>
  rw[Zbe] at t5
  by_cases hx:(s.getD m 0).toNat=x
  ·have d2:decide ((s.getD m 0).toNat=x)=true:=Zd hx
   simp(disch:=omega) only[t0,t1,t5,d2,U1,Wh,YW,Ym,decide_true,Fr,ZI,Yw,Yt]
   refine⟨_,_,_,rfl,?_⟩
   exact .inr ⟨by simp,rfl,.inl ⟨rfl,by rw[hc,aT (by omega) hx];rfl⟩⟩
  ·have d2:decide ((s.getD m 0).toNat=x)=false:=Zb hx
   simp(disch:=omega) only[t0,t1,t5,d2,bE,U1,Wh,YW,Ym,decide_true,Fr,ZI,Yw,Yt]
   refine⟨_,_,_,rfl,?_⟩
   exact .inl ⟨rfl,m,by omega,rfl,t0',t1',rfl,by omega,by rw[hc,jH (by omega) hx]⟩
theorem sV{Zr:Lib}{fs:T CF}{fuel:Nat}(E:Env Zr fs fuel){n:Nat}{s:List UInt8}{x:Nat}{H:Heap}(hs:s.length<=90000):
  ∃H',ZU (LK Zr fs fuel 0) fs fuel (n+2) 90 [.str s,nI .u8 x] H=.ret (mI (Tk x s)) H'∧Zw H H' []:=by
 rw[Z4 (Z3 E.n90 (.inl (by decide)) _ _) E.f90]
 simp(disch:=omega) only[bE,Z0,c90,ZI,Yw,Yt]
 generalize hL:XD (Fr _) fuel _ _ _=L
 obtain⟨o,Nb,H1,rfl,_,rfl,z⟩:=YG (P:=λT=>LBI s x H s.length T H) (Q:=LBQ s x H)
  (λT hi=>YX (LBI s x H) (LBQ s x H) (λm tm H1 h=>Za6 hs _ _ m tm H1 h) fuel s.length T H (by have:=E.big;omega) hi) hL
  ⟨rfl,rfl,rfl,rfl,Zo _,by rw[Xg]⟩
 rcases z with⟨rfl,t4⟩|⟨rfl,e⟩
 ·simp only[Tb] at t4
  simp only[t4,ZI,ZG,Yt]
  refine⟨_,rfl,?_⟩
  exact Zw.refl _ _
 ·rw[e]
  simp only[ZI,Yw,ZG,Yt]
  refine⟨_,rfl,?_⟩
  exact Zw.refl _ _
theorem Zfr{Zr:Lib}{fs:T CF}{fuel:Nat}(E:Env Zr fs fuel){k n:Nat}(hk:1<=k){s:List UInt8}{x:Nat}{H:Heap}(hs:s.length<=90000):
  ZU (LK Zr fs fuel k) fs fuel (n+1) 90 [.str s,nI .u8 x] H=.ret (mI (Tk x s)) H:=by
 obtain⟨H',e,g⟩:=sV E (n:=898) (H:=H) hs
 exact YI (r:=0) rfl rfl e g (LS _ _) hk
theorem mp{Zr:Lib}{fs:T CF}{fuel:Nat}(E:Env Zr fs fuel){n:Nat}{s:List UInt8}{x:Nat}{H:Heap}(hs:s.length<=90000):
  ∃H',ZU (LK Zr fs fuel 1) fs fuel (n+2) 65 [.str s,nI .u8 x] H=.ret (mI (Tk x s)) H'∧Zw H H' []:=by
 rw[Z4 (Z3 E.n65 (.inl (by decide)) _ _) E.f65]
 have e1:=λ{j}=>Zfr E (k:=1) (n:=j) (by decide) (x:=x) (H:=H) hs
 simp only[e1,c65,ZI,Yw,ZG,Yt]
 refine⟨_,rfl,?_⟩
 exact Zw.refl _ _
theorem Zi3{Zr:Lib}{fs:T CF}{fuel:Nat}(E:Env Zr fs fuel){k n:Nat}(hk:2<=k){s:List UInt8}{x:Nat}{H:Heap}(hs:s.length<=90000):
  ZU (LK Zr fs fuel k) fs fuel (n+1) 65 [.str s,nI .u8 x] H=.ret (mI (Tk x s)) H:=by
 obtain⟨H',e,g⟩:=mp E (n:=898) (H:=H) hs
 exact YI (r:=1) rfl rfl e g (LS _ _) hk
theorem ji{Zr:Lib}{fs:T CF}{fuel:Nat}(E:Env Zr fs fuel){n:Nat}{s:List UInt8}{H:Heap}(hs:s.length<=90000):
  ∃H',ZU (LK Zr fs fuel 2) fs fuel (n+2) 47 [.str s] H=.ret (.str (XC s)) H'∧Zw H H' []:=by
 rw[Z4 (Z3 E.n47 (.inl (by decide)) _ _) E.f47]
 have e1:=λ{j}=>Zi3 E (k:=2) (n:=j) (by decide) (x:=47) (H:=H) hs
 have hc:=su 47 s
 unfold XC
 simp(disch:=omega) only[e1,Zfx,Rg,c47,ZI,Yw,ZG,Yl,Yt]
 refine⟨_,rfl,?_⟩
 exact Zw.refl _ _
theorem base{Zr:Lib}{fs:T CF}{fuel:Nat}(E:Env Zr fs fuel){k n:Nat}(hk:3<=k){s:List UInt8}{H:Heap}(hs:s.length<=90000):
  ZU (LK Zr fs fuel k) fs fuel (n+1) 47 [.str s] H=.ret (.str (XC s)) H:=by
 obtain⟨H',e,g⟩:=ji E (n:=898) (H:=H) hs
 exact YI (r:=2) rfl rfl e g (rfl) hk
theorem nZ{Zr:Lib}{fs:T CF}{fuel:Nat}(E:Env Zr fs fuel){n:Nat}{s p:List UInt8}{H:Heap}(hs:s.length<=90000):
  ∃H',ZU (LK Zr fs fuel 0) fs fuel (n+2) 91 [.str s,.str p] H=.ret (.bool (O6 p s)) H'∧Zw H H' []:=by
 rw[Z4 (Z3 E.n91 (.inl (by decide)) _ _) E.f91]
 unfold O6
 by_cases h:p.length<=s.length
 ·rw[Zd h]
  have d1:decide (p.length<=s.length)=true:=Zd h
  simp(disch:=omega) only[d1,Xf,Wh,Xc,Z0,N4,c91,ZI,Yw,ZG,Yl,Yt]
  refine⟨_,rfl,?_⟩
  exact Zw.refl _ _
 ·rw[Zb h]
  have d1:decide (p.length<=s.length)=false:=Zb h
  simp only[d1,Y0,Wh,Z0,c91,ZI,Yw,ZG,Yt]
  refine⟨_,rfl,?_⟩
  exact Zw.refl _ _
theorem Zis{Zr:Lib}{fs:T CF}{fuel:Nat}(E:Env Zr fs fuel){k n:Nat}(hk:1<=k){s p:List UInt8}{H:Heap}(hs:s.length<=90000):
  ZU (LK Zr fs fuel k) fs fuel (n+1) 91 [.str s,.str p] H=.ret (.bool (O6 p s)) H:=by
 obtain⟨H',e,g⟩:=nZ E (n:=898) (H:=H) hs
 exact YI (r:=0) rfl rfl e g (rfl) hk
theorem gF{Zr:Lib}{fs:T CF}{fuel:Nat}(E:Env Zr fs fuel){n:Nat}{s p:List UInt8}{H:Heap}(hs:s.length<=90000):
  ∃H',ZU (LK Zr fs fuel 1) fs fuel (n+2) 66 [.str s,.str p] H=.ret (.bool (O6 p s)) H'∧Zw H H' []:=by
 rw[Z4 (Z3 E.n66 (.inl (by decide)) _ _) E.f66]
 have e1:=λ{j}=>Zis E (k:=1) (n:=j) (by decide) (p:=p) (H:=H) hs
 simp only[e1,c66,ZI,Yw,ZG,Yt]
 refine⟨_,rfl,?_⟩
 exact Zw.refl _ _
theorem Zir{Zr:Lib}{fs:T CF}{fuel:Nat}(E:Env Zr fs fuel){k n:Nat}(hk:2<=k){s p:List UInt8}{H:Heap}(hs:s.length<=90000):
  ZU (LK Zr fs fuel k) fs fuel (n+1) 66 [.str s,.str p] H=.ret (.bool (O6 p s)) H:=by
 obtain⟨H',e,g⟩:=gF E (n:=898) (H:=H) hs
 exact YI (r:=1) rfl rfl e g (rfl) hk
theorem mq{Zr:Lib}{fs:T CF}{fuel:Nat}(E:Env Zr fs fuel){n:Nat}{s:List UInt8}{H:Heap}(hs:s.length<=90000):
  ∃H',ZU (LK Zr fs fuel 2) fs fuel (n+2) 48 [.str s] H=.ret (nI .i64 (RE s)) H'∧Zw H H' []:=by
 rw[Z4 (Z3 E.n48 (.inl (by decide)) _ _) E.f48]
 have e1:=λ{j}=>Zir E (k:=2) (n:=j) (by decide) (p:=[46,119,104,46]) (H:=H) hs
 unfold RE
 have eo:lD=[46,119,104,46,46,119,104,46,46,111,112,113]:=rfl
 have ew:yy=[46,119,104,46]:=rfl
 rw[eo,ew]
 by_cases h:s=[46,119,104,46,46,119,104,46,46,111,112,113]
 ·have d1:decide (s=[46,119,104,46,46,119,104,46,46,111,112,113])=true:=Zd h
  rw[if_pos h]
  simp only[d1,Xc,c48,ZI,Yw,ZG,Yt]
  refine⟨_,rfl,?_⟩
  exact Zw.refl _ _
 ·have d1:decide (s=[46,119,104,46,46,119,104,46,46,111,112,113])=false:=Zb h
  rw[if_neg h]
  cases hq:O6 [46,119,104,46] s with
  |true=>
   rw[hq] at e1
   simp only[d1,e1,Xc,c48,ZI,Yw,ZG,Yt]
   refine⟨_,rfl,?_⟩
   exact Zw.refl _ _
  |false=>
   rw[hq] at e1
   simp only[d1,e1,Xc,c48,ZI,Yw,ZG,reduceCtorEq,Yt]
   refine⟨_,rfl,?_⟩
   exact Zw.refl _ _
theorem Zi4{Zr:Lib}{fs:T CF}{fuel:Nat}(E:Env Zr fs fuel){k n:Nat}(hk:3<=k){s:List UInt8}{H:Heap}(hs:s.length<=90000):
  ZU (LK Zr fs fuel k) fs fuel (n+1) 48 [.str s] H=.ret (nI .i64 (RE s)) H:=by
 obtain⟨H',e,g⟩:=mq E (n:=898) (H:=H) hs
 exact YI (r:=2) rfl rfl e g (rfl) hk
theorem gG{Zr:Lib}{fs:T CF}{fuel:Nat}(E:Env Zr fs fuel){n:Nat}{s p:List UInt8}{H:Heap}(hs:s.length<=90000):
  ∃H',ZU (LK Zr fs fuel 0) fs fuel (n+2) 92 [.str s,.str p] H=.ret (.bool (decide (p.length<=s.length)&&decide (s.drop (s.length - p.length)=p))) H'∧Zw H H' []:=by
 rw[Z4 (Z3 E.n92 (.inl (by decide)) _ _) E.f92]
 by_cases h:p.length<=s.length
 ·rw[Zd h]
  have d1:decide (p.length<=s.length)=true:=Zd h
  simp(disch:=omega) only[d1,Xf,Wh,Xc,Vp,Z0,Rg,c92,ZI,Yw,ZG,Yl,Yt]
  refine⟨_,rfl,?_⟩
  exact Zw.refl _ _
 ·rw[Zb h]
  have d1:decide (p.length<=s.length)=false:=Zb h
  simp only[d1,Y0,Wh,Z0,c92,ZI,Yw,ZG,Yt]
  refine⟨_,rfl,?_⟩
  exact Zw.refl _ _
theorem Zmm{Zr:Lib}{fs:T CF}{fuel:Nat}(E:Env Zr fs fuel){k n:Nat}(hk:1<=k){s p:List UInt8}{H:Heap}(hs:s.length<=90000):
  ZU (LK Zr fs fuel k) fs fuel (n+1) 92 [.str s,.str p] H=.ret (.bool (decide (p.length<=s.length)&&decide (s.drop (s.length - p.length)=p))) H:=by
 obtain⟨H',e,g⟩:=gG E (n:=898) (H:=H) hs
 exact YI (r:=0) rfl rfl e g (rfl) hk
theorem qy{Zr:Lib}{fs:T CF}{fuel:Nat}(E:Env Zr fs fuel){n:Nat}{s p:List UInt8}{H:Heap}(hs:s.length<=90000):
  ∃H',ZU (LK Zr fs fuel 1) fs fuel (n+2) 67 [.str s,.str p] H=.ret (.str (if p.length<=s.length∧s.drop (s.length - p.length)=p then s.take (s.length - p.length) else s)) H'∧Zw H H' []:=by
 rw[Z4 (Z3 E.n67 (.inl (by decide)) _ _) E.f67]
 have e1:=λ{j}=>Zmm E (k:=1) (n:=j) (by decide) (p:=p) (H:=H) hs
 by_cases h:p.length<=s.length∧s.drop (s.length - p.length)=p
 ·rw[if_pos h]
  rw[Zd h.1,Zd h.2] at e1
  simp(disch:=omega) only[e1,Bool.and_self,Vp,Z0,N4,c67,ZI,Yw,ZG,Yl,Yt]
  refine⟨_,rfl,?_⟩
  exact Zw.refl _ _
 ·rw[if_neg h]
  have:(decide (p.length<=s.length)&&decide (s.drop (s.length - p.length)=p))=false:=by
   rw[Ty]
   intro e
   rw[Yv] at e
   exact h ⟨Zm e.1,Zm e.2⟩
  rw[this] at e1
  simp only[e1,c67,ZI,Yw,ZG,Yt]
  refine⟨_,rfl,?_⟩
  exact Zw.refl _ _
theorem Zgr{Zr:Lib}{fs:T CF}{fuel:Nat}(E:Env Zr fs fuel){k n:Nat}(hk:2<=k){s p:List UInt8}{H:Heap}(hs:s.length<=90000):
  ZU (LK Zr fs fuel k) fs fuel (n+1) 67 [.str s,.str p] H=.ret (.str (if p.length<=s.length∧s.drop (s.length - p.length)=p then s.take (s.length - p.length) else s)) H:=by
 obtain⟨H',e,g⟩:=qy E (n:=898) (H:=H) hs
 exact YI (r:=1) rfl rfl e g (rfl) hk
theorem kE{Zr:Lib}{fs:T CF}{fuel:Nat}(E:Env Zr fs fuel){n:Nat}{s p:List UInt8}{H:Heap}(hs:s.length<=90000):
  ∃H',ZU (LK Zr fs fuel 2) fs fuel (n+2) 49 [.str s,.str p] H=.ret (.str (if p.length<=s.length∧s.drop (s.length - p.length)=p then s.take (s.length - p.length) else s)) H'∧Zw H H' []:=by
 rw[Z4 (Z3 E.n49 (.inl (by decide)) _ _) E.f49]
 have e1:=λ{j}=>Zgr E (k:=2) (n:=j) (by decide) (p:=p) (H:=H) hs
 simp only[e1,c49,ZI,Yw,ZG,Yt]
 refine⟨_,rfl,?_⟩
 exact Zw.refl _ _
theorem Zd5{Zr:Lib}{fs:T CF}{fuel:Nat}(E:Env Zr fs fuel){k n:Nat}(hk:3<=k){s p:List UInt8}{H:Heap}(hs:s.length<=90000):
  ZU (LK Zr fs fuel k) fs fuel (n+1) 49 [.str s,.str p] H=.ret (.str (if p.length<=s.length∧s.drop (s.length - p.length)=p then s.take (s.length - p.length) else s)) H:=by
 obtain⟨H',e,g⟩:=kE E (n:=898) (H:=H) hs
 exact YI (r:=2) rfl rfl e g (rfl) hk
theorem kF(p:List UInt8):(if (XC p).length<=p.length∧p.drop (p.length - (XC p).length)=XC p then p.take (p.length - (XC p).length) else p)=Uw p:=by
 have hc:=su 47 p
 unfold XC Uw
 rw[Ya,show p.length - (p.length - Tk 47 p)=Tk 47 p by omega,if_pos ⟨by omega,rfl⟩]
theorem Zb9(d:List UInt8):(if ([47]:List UInt8).length<=d.length∧d.drop (d.length - ([47]:List UInt8).length)=[47] then d.take (d.length - ([47]:List UInt8).length) else d)=FP d:=rfl
theorem mf{Zr:Lib}{fs:T CF}{fuel:Nat}(E:Env Zr fs fuel){n:Nat}{s:List UInt8}{x:Nat}{H:Heap}(hx:x<256):
  ∃H',ZU (LK Zr fs fuel 0) fs fuel (n+2) 96 [.str s,nI .u8 x] H=.ret (mI (TJ x s)) H'∧Zw H H' []:=by
 rw[Z4 (Z3 E.n96 (.inl (by decide)) _ _) E.f96]
 have ec: ∀{j},ZU (LK Zr fs fuel 0) fs fuel (j+1) 112 [.str s,nI .u8 x] H=.ret (mI (TJ x s)) H:=λ{j}=>by
  rw[KL rfl (E.ix s x H hx),Zfy]
 simp only[ec,c96,ZI,Yw,ZG,Yt]
 refine⟨_,rfl,?_⟩
 exact Zw.refl _ _
theorem Zde{Zr:Lib}{fs:T CF}{fuel:Nat}(E:Env Zr fs fuel){k n:Nat}(hk:1<=k){s:List UInt8}{x:Nat}{H:Heap}(hx:x<256):
  ZU (LK Zr fs fuel k) fs fuel (n+1) 96 [.str s,nI .u8 x] H=.ret (mI (TJ x s)) H:=by
 obtain⟨H',e,g⟩:=mf E (n:=898) (H:=H) hx
 exact YI (r:=0) rfl rfl e g (LS _ _) hk
theorem fb{Zr:Lib}{fs:T CF}{fuel:Nat}(E:Env Zr fs fuel){n:Nat}{s:List UInt8}{x:Nat}{H:Heap}(hx:x<256):
  ∃H',ZU (LK Zr fs fuel 1) fs fuel (n+2) 72 [.str s,nI .u8 x] H=.ret (mI (TJ x s)) H'∧Zw H H' []:=by
 rw[Z4 (Z3 E.n72 (.inl (by decide)) _ _) E.f72]
 have e1:=λ{j}=>Zde E (k:=1) (n:=j) (by decide) (s:=s) (H:=H) hx
 simp only[e1,c72,ZI,Yw,ZG,Yt]
 refine⟨_,rfl,?_⟩
 exact Zw.refl _ _
theorem Zfh{Zr:Lib}{fs:T CF}{fuel:Nat}(E:Env Zr fs fuel){k n:Nat}(hk:2<=k){s:List UInt8}{x:Nat}{H:Heap}(hx:x<256):
  ZU (LK Zr fs fuel k) fs fuel (n+1) 72 [.str s,nI .u8 x] H=.ret (mI (TJ x s)) H:=by
 obtain⟨H',e,g⟩:=fb E (n:=898) (H:=H) hx
 exact YI (r:=1) rfl rfl e g (LS _ _) hk
theorem sN{Zr:Lib}{fs:T CF}{fuel:Nat}(E:Env Zr fs fuel){n:Nat}{s:List UInt8}{H:Heap}:
  ∃H',ZU (LK Zr fs fuel 1) fs fuel (n+2) 132 [.str s,.str [47]] H=.ret (mI (TJ 47 s)) H'∧Zw H H' []:=by
 rw[Z4 (Z3 E.n132 (.inl (by decide)) _ _) E.f132]
 have e1:=λ{j}=>Zde E (k:=1) (n:=j) (by decide) (s:=s) (x:=47) (H:=H) (by decide)
 have wl:([47]:List UInt8).length=1:=rfl
 have w0:([47]:List UInt8).getD 0 0=47:=rfl
 have w1:(47:UInt8).toNat=47:=rfl
 by_cases h:([47]:List UInt8)=s
 ·have d_h:decide (([47]:List UInt8)=s)=true:=Zd h
  simp only[wl,d_h,YW,Xc,Z0,decide_false,jq,ZI,Yw,ZG,reduceCtorEq,Yt]
  subst h
  refine⟨_,rfl,?_⟩
  exact Zw.refl _ _
 ·have d_h:decide (([47]:List UInt8)=s)=false:=Zb h
  simp(disch:=omega) only[wl,w0,w1,e1,d_h,U1,YW,Xc,Z0,decide_true,decide_false,jq,ZI,Yw,ZG,reduceCtorEq,Yt]
  refine⟨_,rfl,?_⟩
  exact Zw.refl _ _
theorem Zfi{Zr:Lib}{fs:T CF}{fuel:Nat}(E:Env Zr fs fuel){k n:Nat}(hk:2<=k){s:List UInt8}{H:Heap}:
  ZU (LK Zr fs fuel k) fs fuel (n+1) 132 [.str s,.str [47]] H=.ret (mI (TJ 47 s)) H:=by
 obtain⟨H',e,g⟩:=sN E (n:=898) (H:=H)
 exact YI (r:=1) rfl rfl e g (LS _ _) hk
theorem mh{Zr:Lib}{fs:T CF}{fuel:Nat}(E:Env Zr fs fuel){n:Nat}{s:List UInt8}{H:Heap}:
  ∃H',ZU (LK Zr fs fuel 2) fs fuel (n+2) 116 [.str s,.str [47]] H=.ret (mI (TJ 47 s)) H'∧Zw H H' []:=by
 rw[Z4 (Z3 E.n116 (.inl (by decide)) _ _) E.f116]
 have e1:=λ{j}=>Zfi E (k:=2) (n:=j) (by decide) (s:=s) (H:=H)
 simp only[e1,aG,ZI,Yw,ZG,Yt]
 refine⟨_,rfl,?_⟩
 exact Zw.refl _ _
theorem index{Zr:Lib}{fs:T CF}{fuel:Nat}(E:Env Zr fs fuel){k n:Nat}(hk:3<=k){s:List UInt8}{H:Heap}:
  ZU (LK Zr fs fuel k) fs fuel (n+1) 116 [.str s,.str [47]] H=.ret (mI (TJ 47 s)) H:=by
 obtain⟨H',e,g⟩:=mh E (n:=898) (H:=H)
 exact YI (r:=2) rfl rfl e g (LS _ _) hk
theorem nq{Zr:Lib}{fs:T CF}{fuel:Nat}(E:Env Zr fs fuel){n:Nat}{s:List UInt8}{H:Heap}:
  ∃H',ZU (LK Zr fs fuel 0) fs fuel (n+2) 124 [.str s,.str [47]] H=.ret (nI .i64 (Xs 47 s 0)) H'∧Zw H H' []:=by
 rw[Z4 (Z3 E.n124 (.inl (by decide)) _ _) E.f124]
 have ec: ∀{j},ZU (LK Zr fs fuel 0) fs fuel (j+1) 139 [.str s,nI .u8 47] H=.ret (nI .i64 (Xs 47 s 0)) H:=λ{j}=>by
  rw[KL rfl (E.cn s 47 H (by omega))]
 have wl:([47]:List UInt8).length=1:=rfl
 have w0:([47]:List UInt8).getD 0 0=47:=rfl
 have w1:(47:UInt8).toNat=47:=rfl
 simp(disch:=omega) only[wl,w0,w1,ec,U1,YW,Z0,decide_true,decide_false,aH,ZI,Yw,ZG,reduceCtorEq,Yt]
 refine⟨_,rfl,?_⟩
 exact Zw.refl _ _
theorem count{Zr:Lib}{fs:T CF}{fuel:Nat}(E:Env Zr fs fuel){k n:Nat}(hk:1<=k){s:List UInt8}{H:Heap}:
  ZU (LK Zr fs fuel k) fs fuel (n+1) 124 [.str s,.str [47]] H=.ret (nI .i64 (Xs 47 s 0)) H:=by
 obtain⟨H',e,g⟩:=nq E (n:=898) (H:=H)
 exact YI (r:=0) rfl rfl e g (rfl) hk
theorem tZ{Zr:Lib}{fs:T CF}{fuel:Nat}(E:Env Zr fs fuel){n:Nat}{a s:List UInt8}{H:Heap}(hs:a.length+s.length<=90000):
  ∃H',ZU (LK Zr fs fuel 0) fs fuel (n+2) 172 [.str a,.str s] H=.ret (.str (a++s)) H'∧Zw H H' []:=by
 rw[Z4 (Z3 E.n172 (.inl (by decide)) _ _) E.f172]
 have ad:=λG=>KH (a:=a) (b:=s) (by omega) G
 simp only[ad,aK,ZI,Yw,ZG,Yt]
 refine⟨_,rfl,?_⟩
 exact Zw.refl _ _
theorem Zei{Zr:Lib}{fs:T CF}{fuel:Nat}(E:Env Zr fs fuel){k n:Nat}(hk:1<=k){a s:List UInt8}{H:Heap}(hs:a.length+s.length<=90000):
  ZU (LK Zr fs fuel k) fs fuel (n+1) 172 [.str a,.str s] H=.ret (.str (a++s)) H:=by
 obtain⟨H',e,g⟩:=tZ E (n:=898) (H:=H) hs
 exact YI (r:=0) rfl rfl e g (rfl) hk
theorem sa{Zr:Lib}{fs:T CF}{fuel:Nat}(E:Env Zr fs fuel){n:Nat}{a s:List UInt8}{H:Heap}(hs:a.length+s.length<=90000)(h4:4<=s.length):
  ∃H',ZU (LK Zr fs fuel 0) fs fuel (n+2) 173 [.str a,.str s] H=.ret (.str (a++s.drop 4)) H'∧Zw H H' []:=by
 rw[Z4 (Z3 E.n173 (.inl (by decide)) _ _) E.f173]
 have ad:=λG=>KH (a:=a) (b:=s.drop 4) (by rw[Ya];omega) G
 simp(disch:=omega) only[ad,Rg,aL,ZI,Yw,ZG,Yl,Yt]
 refine⟨_,rfl,?_⟩
 exact Zw.refl _ _
theorem Zej{Zr:Lib}{fs:T CF}{fuel:Nat}(E:Env Zr fs fuel){k n:Nat}(hk:1<=k){a s:List UInt8}{H:Heap}(hs:a.length+s.length<=90000)(h4:4<=s.length):
  ZU (LK Zr fs fuel k) fs fuel (n+1) 173 [.str a,.str s] H=.ret (.str (a++s.drop 4)) H:=by
 obtain⟨H',e,g⟩:=sa E (n:=898) (H:=H) hs h4
 exact YI (r:=0) rfl rfl e g (rfl) hk
theorem si{Zr:Lib}{fs:T CF}{fuel:Nat}(E:Env Zr fs fuel){n:Nat}{a s:List UInt8}{H:Heap}(hs:a.length<=90000):
  ∃H',ZU (LK Zr fs fuel 3) fs fuel (n+2) 174 [.str a,.str s] H=.ret (.str (FP a)) H'∧Zw H H' []:=by
 rw[Z4 (Z3 E.n174 (.inl (by decide)) _ _) E.f174]
 have e1:=λ{j}=>Zd5 E (k:=3) (n:=j) (by decide) (s:=a) (p:=[47]) (H:=H) hs
 rw[Zb9] at e1
 simp only[e1,aM,ZI,Yw,ZG,Yt]
 refine⟨_,rfl,?_⟩
 exact Zw.refl _ _
theorem Zek{Zr:Lib}{fs:T CF}{fuel:Nat}(E:Env Zr fs fuel){k n:Nat}(hk:4<=k){a s:List UInt8}{H:Heap}(hs:a.length<=90000):
  ZU (LK Zr fs fuel k) fs fuel (n+1) 174 [.str a,.str s] H=.ret (.str (FP a)) H:=by
 obtain⟨H',e,g⟩:=si E (n:=898) (H:=H) hs
 exact YI (r:=3) rfl rfl e g (rfl) hk
def Zja(e sz bytes:Nat)(zs:List AV)(l c:AV)(H:Heap):OR:=R6 l λl=>R6 c λc=>ZP (Nat.ble 1 sz)<|ZP (Nat.ble l c) (ZP (Nat.ble c 140737488355328)<|ZP (Nat.ble (Nat.mul c bytes) 140737488355328) (pU H e sz l c zs))
theorem vT(e sz bytes:Nat)(zs:List AV)(l c:Z2)(tm:TM)(H:Heap):Gi e sz bytes zs l c tm H=Zja e sz bytes zs (l tm) (c tm) H:=rfl
theorem ZfC{e bytes n:Nat}{z:AV}(h:n*bytes<=140737488355328)(h1:n<=140737488355328)(k k':IntKind)(H:Heap):Zja e 1 bytes [z] (nI k n) (nI k' n) H=.val (.slice H.nx 0 n none) (H.new (.row ⟨e,1,n,.leaf,z,0,false,true,true⟩)):=by
 show ZP (Nat.ble 1 1) (ZP (Nat.ble n n) (ZP (Nat.ble n 140737488355328) (ZP (Nat.ble (n*bytes) 140737488355328) (pU H e 1 n n [z]))))=_
 rw[Zl (Zo n),Zl h1,Zl h];rfl
def oR(H:Heap)(b:Nat)(l:List (List UInt8)):Prop:= ∃r,H.t.get b=some (.row r)∧r.sz=1∧r.size=l.length∧r.own=true∧b<H.nx∧ ∀i,i<l.length->r.get i=.str (l.getD i [])
theorem oR.keep{H H':Heap}{b:Nat}{l:List (List UInt8)}(h:oR H b l)(k:Zw H H' []):oR H' b l:=by
 obtain⟨r,h1,h2,h3,h4,h5,h6⟩:=h
 exact⟨r,by rw[k.get _ h5 (by simp)];exact h1,h2,h3,h4,ZF h5 k.nx,h6⟩
theorem z0{H:Heap}{b n m:Nat}{r:Row}(g:H.t.get b=some (.row r))(hz:r.sz=1)(hs:r.size=n)(hm:m<=n)(h0:0<n)(k:IntKind):Pp 1 (.slice b 0 n none) none (some (nI k m)) H=.val (.slice b 0 m none) H:=by
 show XB H b _=_
 unfold XB
 rw[g]
 have e1:Js r 1 none=true:=by show Nat.beq r.sz 1=true;rw[hz];rfl
 have e2:VI r 0 none=n:=by show cond (Nat.beq r.sz 1) (r.size - 0) _=_;rw[hz,hs];rfl
 show ZP (Js r 1 none) (Nf (some (nI k m)) n (VI r 0 none) λh=>Nf none 0 h λl=>ZP (Nat.ble l (VI r 0 none)) (cond (Nat.beq l (VI r 0 none)) _ _))=_
 rw[e1,e2]
 show ZP (Nat.ble m n) (ZP (Nat.ble 0 n) (cond (Nat.beq 0 n) _ (OR.val (.slice b (0+0*1) (m - 0) none) H)))=_
 rw[Zl hm,Zl (Ym n),show Nat.beq 0 n=false by rw[Yp];exact Zb (by omega)]
 rfl
structure GSI(s:List UInt8)(H0:Heap)(m:Nat)(tm:TM)(H:Heap):Prop where
 t1:XR tm=.str [47]
 t2:Vt tm=nI .i64 0
 t3:Xx tm=nI .i64 (Xs 47 s 0)
 t9:WO tm=.slice H0.nx 0 (Xs 47 s 0+1) none
 i: ∃i u,YB tm=nI .i64 i∧Yu tm=.str u∧i+m=Xs 47 s 0∧(Y9 s).drop i=Y9 u∧u.length<=s.length∧
  ∃r,H.t.get H0.nx=some (.row r)∧r.sz=1∧r.size=Xs 47 s 0+1∧r.fz=0∧r.own=true∧ ∀k,k<i->r.get k=.str ((Y9 s).getD k [])
 k:Zw H0 H []
 nx:H.nx=H0.nx+1
def GSQ(s:List UInt8)(H0:Heap)(o:Out)(tm:TM)(H:Heap):Prop:=o=.exit 0∧GSI s H0 0 tm H
theorem Fv{α:Type}{l:List α}{i:Nat}{a:α}{b:List α}(d:α)(h:l.drop i=a::b):l.getD i d=a∧l.drop (i+1)=b:=by
 have h1:(l.drop i)[0]? =some a:=by rw[h];rfl
 rw[Xl,Zj] at h1
 refine⟨by rw[Ze,h1];rfl,?_⟩
 rw[<-SG,h];rfl
theorem Zao{Zr:Lib}{fs:T CF}{fuel:Nat}(E:Env Zr fs fuel){k n:Nat}(hk:3<=k){s:List UInt8}(hs:s.length<=90000){H0:Heap}(hro:H0.ro<=H0.nx)(y f dd q)(X0:X)(m:Nat)(tm:TM)(H:Heap)(hI:GSI s H0 m tm H):
  ∃o tm' H',Hk ⟨ZU (LK Zr fs fuel k) fs fuel (n+1),y,f,dd,q⟩ tm H X0=.ok o tm' H' X0∧((o=.normal∧ ∃k,k<m∧GSI s H0 k tm' H')∨(o≠.normal∧GSQ s H0 o tm' H')):=by
 have hI':=hI
 obtain⟨t1,t2,t3,t9,⟨i,u,t10,t0,him,hd,hul,r,g,hz,hsz,hfz,how,hg⟩,k0,hnx⟩:=hI
 have t1':=t1;have t2':=t2;have My:=t3;have t9':=t9
 simp only[VF] at t0
 simp only[Ov] at t1
 simp only[Sk] at t2
 simp only[UN] at t3
 simp only[FF] at t9
 simp only[Mm] at t10
 have hc:=yS 47 s
 cases m with
 |zero=>
  have d1:decide (i<Xs 47 s 0)=false:=Zb (by omega)
  simp only[t3,t10,d1,Zv,Hk,ZI,Yw,Yt,Vf]
  refine⟨_,_,_,rfl,.inr ⟨by simp,?_⟩⟩
  obtain⟨a,b,cc,dx,⟨i',u',e1,e2,rest⟩,ee,ff⟩:=hI'
  exact⟨rfl,a,b,cc,dx,⟨i',u',e1,e2,rest⟩,ee,ff⟩
 |succ m=>
  have d1:decide (i<Xs 47 s 0)=true:=Zd (by omega)
  have hlen:(Y9 u).length=Xs 47 s 0+1 - i:=by rw[<-hd,Ya,OF]
  cases hj:TJ 47 u with
  |zero=>rw[Pq hj] at hlen;simp at hlen;omega
  |succ j=>
   obtain⟨j1,_⟩:=y5 hj
   have e1:=λ{q}=>index E (k:=k) (n:=q) hk (H:=H) (s:=u)
   rw[hj,Zbe] at e1
   have d2:decide (j<0)=false:=Zb (by omega)
   have sp:=Lj hj
   rw[sp] at hd
   obtain⟨hd1,hd2⟩:=Fv [] hd
   have wl:([47]:List UInt8).length=1:=rfl
   have sf:=λ(G:Heap) (hG:G.ro<=H0.nx)=>G1 (r:=r) (b:=H0.nx) (o:=i) (v:=.str (u.take j)) (H:=G) rfl (by omega) how hG (by omega)
   have sf:=sf H (by rw[k0.ro];exact hro)
   simp(disch:=omega) only[t0,t1,t2,t3,t9,t10,d1,d2,e1,wl,g,sf,RY,Zf,Zj,Zv,YU,Z0,Rg,N4,Hk,ZI,Yw,Yl,Yt,Vf]
   refine⟨_,_,_,rfl,.inl ⟨rfl,m,by omega,t1',t2',My,t9',⟨i+1,u.drop (j+1),rfl,rfl,by omega,hd2,by rw[Ya];omega,r.st i (.str (u.take j)),X9 ..,hz,hsz,hfz,how,λq hq=>?_⟩,k0.then_put (λh=>by omega),by rw[Nn];exact hnx⟩⟩
   rw[Row.st_get]
   by_cases h:i=q
   ·subst h;rw[if_pos rfl,hd1]
   ·rw[if_neg h,hg q (by omega)]
theorem nN{Zr:Lib}{fs:T CF}{fuel:Nat}(E:Env Zr fs fuel){k n:Nat}(hk:3<=k){s:List UInt8}(hs:s.length<=90000){H:Heap}(hro:H.ro<=H.nx):
  ∃H',ZU (LK Zr fs fuel k) fs fuel (n+2) 107 [.str s,.str [47],nI .i64 0,.int .i64 (.negSucc 0)] H=.ret (.slice H.nx 0 (Y9 s).length none) H'∧oR H' H.nx (Y9 s)∧Zw H H' []∧H'.nx=H.nx+1:=by
 rw[Z4 (Z3 E.n107 (.inr rfl) _ _) E.f107]
 have hc:=yS 47 s
 have ec:=λ{j}=>count E (k:=k) (n:=j) (by omega) (H:=H) (s:=s)
 have Zm3: ∀G,Iz Uk false (.int .i64 (.negSucc 0)) (nI .i64 0) G=.val (.bool false) G:=λ_=>rfl
 have negl: ∀G,OM X1 YK (.int .i64 (.negSucc 0)) (nI .i64 0) G=.val (.bool true) G:=λ_=>rfl
 have mn:min (Xs 47 s 0+1) (s.length+1)=Xs 47 s 0+1:=by omega
 have ml:=λG=>ZfC (e:=9) (bytes:=16) (n:=Xs 47 s 0+1) (z:=.str []) (by omega) (by omega) .i64 .i64 G
 simp(disch:=omega) only[ec,Zm3,negl,Ge,mn,vT,ml,W3,Xc,Vp,YU,Z0,decide_false,az,ZI,Yw,reduceCtorEq,Yt,Vf]
 generalize hL:XD (Hk _) fuel _ _ _=L
 obtain⟨o,Nb,H1,rfl,_,rfl,z⟩:=YG (P:=λT=>GSI s H (Xs 47 s 0) T (H.new (.row ⟨9,1,Xs 47 s 0+1,.leaf,.str [],0,false,true,true⟩))) (Q:=GSQ s H)
  (λT hi=>YX (GSI s H) (GSQ s H) (λm tm H1 h=>Zao E hk hs hro _ _ _ _ _ m tm H1 h) fuel (Xs 47 s 0) T _ (by have:=E.big;omega) hi) hL
  (by exact⟨rfl,rfl,rfl,rfl,⟨0,s,rfl,rfl,by omega,rfl,Zo _,_,Yi rfl _,rfl,rfl,rfl,rfl,λk hk=>by omega⟩,Zw.new _ _ _,rfl⟩)
 obtain⟨t1,t2,t3,t9,⟨i,u,t10,t0,him,hd,hul,r,g,hz,hsz,hfz,how,hg⟩,k0,hnx⟩:=z
 simp only[VF] at t0
 simp only[FF] at t9
 simp only[Mm] at t10
 obtain rfl:i=Xs 47 s 0:=by omega
 have hlen:(Y9 u).length=1:=by rw[<-hd,Ya,OF];omega
 have hu:Y9 u=[u]:=by
  cases hj:TJ 47 u with
  |zero=>exact Pq hj
  |succ j=>
   have:=Lj hj
   have h2:=Uz.2 (Q0 (u.drop (j+1)))
   rw[this,Ye] at hlen;omega
 rw[hu] at hd
 obtain⟨hd1,_⟩:=Fv [] hd
 have sf:=G1 (r:=r) (b:=H.nx) (o:=Xs 47 s 0) (v:=.str u) (H:=H1) rfl (by omega) how (by rw[k0.ro];exact hro) (by omega)
 have sl:=z0 (H:=H1.put H.nx (.row (r.st (Xs 47 s 0) (.str u)))) (b:=H.nx) (n:=Xs 47 s 0+1) (m:=Xs 47 s 0+1) (r:=r.st (Xs 47 s 0) (.str u)) (X9 ..) hz hsz (Zo _) (by omega) .i64
 simp(disch:=omega) only[t0,t9,t10,g,sf,sl,RY,Zf,YU,ZI,Yw,ZG,Yl,Yt,Vf,PE]
 rw[OF]
 refine⟨_,rfl,⟨_,X9 ..,hz,by rw[OF];exact hsz,how,by rw[Nn];omega,λq hq=>?_⟩,k0.then_put (λh=>by omega),by rw[Nn];exact hnx⟩
 rw[OF] at hq
 rw[Row.st_get]
 by_cases h:Xs 47 s 0=q
 ·subst h;rw[if_pos rfl,hd1]
 ·rw[if_neg h,hg q (by omega)]
theorem Zgb{Zr:Lib}{fs:T CF}{fuel:Nat}(E:Env Zr fs fuel){k n:Nat}(hk:3<=k){s:List UInt8}(hs:s.length<=90000){H:Heap}(hro:H.ro<=H.nx):
  ∃H',ZU (LK Zr fs fuel k) fs fuel (n+3) 93 [.str s,.str [47]] H=.ret (.slice H.nx 0 (Y9 s).length none) H'∧oR H' H.nx (Y9 s)∧Zw H H' []∧H'.nx=H.nx+1:=by
 rw[Z4 (Z3 E.n93 (.inr rfl) _ _) E.f93]
 obtain⟨H',e1,r1⟩:=nN E (n:=n) hk hs hro
 refine⟨H',?_,r1⟩
 simp only[e1,c93,ZI,Yw,ZG,Yt]
def yE(H:Heap)(v:AV)(l:List (List UInt8)):Prop:=(v=.nils∧l=[])∨ ∃b,v=.slice b 0 l.length none∧0<l.length∧oR H b l
theorem yE.keep{H H':Heap}{v:AV}{l:List (List UInt8)}(h:yE H v l)(k:Zw H H' []):yE H' v l:=by
 rcases h with h|⟨b,h1,h2,h3⟩
 ·exact .inl h
 ·exact .inr ⟨b,h1,h2,h3.keep k⟩
theorem yE.len{H:Heap}{v:AV}{l:List (List UInt8)}(h:yE H v l)(G:Heap):Oy v G=.val (nI .i64 l.length) G:=by
 rcases h with⟨rfl,rfl⟩|⟨b,rfl,_⟩
 ·rfl
 ·exact Vz ..
theorem rO{Zr:Lib}{fs:T CF}{fuel:Nat}(E:Env Zr fs fuel){k n:Nat}(hk:3<=k){s:List UInt8}(hs:s.length<=90000){H:Heap}(hro:H.ro<=H.nx):
  ∃v H',ZU (LK Zr fs fuel k) fs fuel (n+4) 68 [.str s] H=.ret v H'∧yE H' v (Z6 s)∧Zw H H' []:=by
 rw[Z4 (Z3 E.n68 (.inr rfl) _ _) E.f68]
 unfold Z6
 by_cases h:s=[]
 ·have d1:decide (s=[])=true:=Zd h
  rw[if_pos h]
  simp only[d1,Xc,c68,ZI,Yw,ZG,Yt]
  exact⟨_,_,rfl,.inl ⟨rfl,rfl⟩,Zw.refl _ _⟩
 ·have d1:decide (s=[])=false:=Zb h
  rw[if_neg h]
  obtain⟨H',e1,r1,k1,_⟩:=Zgb E (n:=n) hk hs hro
  simp only[d1,e1,Xc,c68,ZI,Yw,ZG,Yt]
  exact⟨_,_,rfl,.inr ⟨_,rfl,Uz.2 (Q0 s),r1⟩,k1⟩
theorem vO(e:Nat)(tm:TM)(H:Heap):WF e KF tm H=.val (.ptr H.nx 0) (H.new (rG e 1 KF 0 false true true)):=by
 rw[C9 _ _ (by rw[Yz];unfold KF;rw[Y5];decide)];rfl
theorem vG{n:Nat}{v:AV}(hv:Wl n v=true): ∀{l:List AV} {i:Nat},RJ n l=true->RJ n (l.set i v)=true
 |[],_,h=>h
 |a::l,0,h=>by
  have h:cond (Wl n a) (RJ n l) false=true:=h
  show cond (Wl n v) (RJ n l) false=true
  rw[hv]
  cases ha:Wl n a with
  |false=>rw[ha] at h;cases h
  |true=>rw[ha] at h;exact h
 |a::l,i+1,h=>by
  have h:cond (Wl n a) (RJ n l) false=true:=h
  show cond (Wl n a) (RJ n (l.set i v)) false=true
  cases ha:Wl n a with
  |false=>rw[ha] at h;cases h
  |true=>rw[ha] at h;exact vG hv h
theorem dE(n:Nat)(cs:List UInt8):RJ n (Oc cs)=true:=by
 unfold Oc
 have: ∀(cs:List UInt8) (L:List AV),RJ n L=true->RJ n (cs.foldl (λL c=>L.set c.toNat (.bool true)) L)=true:=by
  intro cs
  induction cs with
  |nil=>intro L h;exact h
  |cons c cs ih=>intro L h;exact ih _ (vG rfl h)
 refine this cs KF ?_
 unfold KF
 have r: ∀m,RJ n (List.replicate m (AV.bool false))=true:=by
  intro m
  induction m with
  |zero=>rfl
  |succ m ih=>rw[Wo];exact ih
 exact r 256
structure PL(cs:List UInt8):Prop where
 lo:2<=cs.length
 hi:cs.length<=3
 lt: ∀c∈cs,c.toNat<128
theorem PL.at_{cs:List UInt8}(h:PL cs){i:Nat}(hi:i<cs.length):(cs.getD i 0).toNat<128:=by
 rw[Ze,Zk hi];exact h.lt _ (Xp hi)
theorem PL.fst{cs:List UInt8}(h:PL cs){x:Nat}(hx:128<=x):TJ x cs=0:=RT.2 λc hc=>by have:=h.lt c hc;omega
theorem PL.fstd{cs:List UInt8}(h:PL cs){x i:Nat}(hx:128<=x):TJ x (cs.drop i)=0:=RT.2 λc hc=>by have:=h.lt c (UA hc);omega
structure MSI(cs:List UInt8)(H0:Heap)(m:Nat)(tm:TM)(H:Heap):Prop where
 t0:Yu tm=.str cs
 t2:Vt tm=.ptr H0.nx 0
 i: ∃i,Xu tm=nI .i64 i∧i+m=cs.length∧H.t.get H0.nx=some (rG 166 1 (Oc (cs.take i)) 0 false true true)
 k:Zw H0 H []
 nx:H0.nx<H.nx
def MSQ(cs:List UInt8)(H0:Heap)(o:Out)(tm:TM)(H:Heap):Prop:=o=.exit 0∧Vt tm=.ptr H0.nx 0∧H.t.get H0.nx=some (rG 166 1 (Oc cs) 0 false true true)∧Zw H0 H []∧H0.nx<H.nx
theorem Zbj{cs:List UInt8}(ha:PL cs){H0:Heap}(hro:H0.ro<=H0.nx)(cx:Ctx)(X0:X)(m:Nat)(tm:TM)(H:Heap)(hI:MSI cs H0 m tm H):
  ∃o tm' H',Hm cx tm H X0=.ok o tm' H' X0∧((o=.normal∧ ∃k,k<m∧MSI cs H0 k tm' H')∨(o≠.normal∧MSQ cs H0 o tm' H')):=by
 obtain⟨t0,t2,⟨i,t4,him,g⟩,k0,hnx⟩:=hI
 have t0':=t0;have t2':=t2
 simp only[VF] at t0
 simp only[Sk] at t2
 simp only[Tb] at t4
 have h3:=ha.hi
 cases m with
 |zero=>
  have d1:decide (i<cs.length)=false:=Zb (by omega)
  simp only[t0,t4,d1,Zv,Z0,Hm,ZI,Yw,Yt]
  rw[Xq (by omega)] at g
  refine⟨_,_,_,rfl,?_⟩
  exact .inr ⟨by simp,rfl,t2',g,k0,hnx⟩
 |succ m=>
  have d1:decide (i<cs.length)=true:=Zd (by omega)
  have hx:=ha.at_ (i:=i) (by omega)
  have d2:decide (128<=(cs.getD i 0).toNat)=false:=Zb (by omega)
  have hl:=GG (cs.take i)
  have hl2:(cs.getD i 0).toNat<(Oc (cs.take i)).length:=by rw[hl];omega
  have sf:=NF (v:=.bool true) (b:=H0.nx) (H:=H) rfl hl2 (by rw[k0.ro];exact hro) (Ym _) 166 1 false true
  simp(disch:=omega) only[t0,t2,t4,d1,d2,g,sf,U1,Wh,Zv,YU,Z0,UE,Zf,Hm,ZI,Yw,Yt]
  refine⟨_,_,_,rfl,?_⟩
  exact .inl ⟨rfl,m,by omega,t0',t2',⟨i+1,rfl,by omega,by rw[Ej (by omega),lX];exact X9 ..⟩,k0.then_put (λh=>by omega),by rw[Nn];exact hnx⟩
theorem mL{Zr:Lib}{fs:T CF}{fuel:Nat}(E:Env Zr fs fuel){n:Nat}{cs:List UInt8}{H:Heap}(ha:PL cs)(hro:H.ro<=H.nx):
  ∃H',ZU (LK Zr fs fuel 0) fs fuel (n+2) 110 [.str cs] H=.ret (.tup [.agg (Oc cs),.bool true]) H'∧Zw H H' []:=by
 rw[Z4 (Z3 E.n110 (.inl (by decide)) _ _) E.f110]
 simp only[vO,aE,ZI,Yt]
 generalize hL:XD (Hm _) fuel _ _ _=L
 have h3:=ha.hi
 obtain⟨o,Nb,H1,rfl,_,rfl,t2,g,k0,hnx⟩:=YG (P:=λT=>MSI cs H cs.length T (H.new (rG 166 1 KF 0 false true true))) (Q:=MSQ cs H)
  (λT hi=>YX (MSI cs H) (MSQ cs H) (λm tm H1 h=>Zbj ha hro _ _ m tm H1 h) fuel cs.length T _ (by have:=E.big;omega) hi) hL
  (by exact⟨rfl,rfl,⟨0,rfl,by omega,Yi rfl _⟩,Zw.new _ _ _,Yo _⟩)
 simp only[Sk] at t2
 have hl:=GG cs
 have sf:=U4 (n:=256) (b:=H.nx) (l:=Oc cs) (vs:=Oc cs) (H:=H1) hl hl (by decide) (by rw[k0.ro];exact hro) 166 1 false true
 have ld: ∀G,wh 256 (some (rG 166 1 (Oc cs) 0 false true true)) 0 G=.val (.agg (Oc cs)) G:=λG=>by
  rw[Xo (by rw[hl];decide)]
  rw[Zz,Xq (by rw[hl];decide)]
 have rv: ∀k,rV 256 true (some (rG 166 1 (Oc cs) 0 false true true)) 0 k=k (.agg (Oc cs)):=λk=>eX hl k
 simp only[t2,g,sf,ld,rv,ZI,Yw,ZG,Yt]
 refine⟨_,rfl,?_⟩
 exact k0.then_put (λh=>by omega)
theorem Zjb{Zr:Lib}{fs:T CF}{fuel:Nat}(E:Env Zr fs fuel){k n:Nat}(hk:1<=k){cs:List UInt8}{H:Heap}(ha:PL cs)(hro:H.ro<=H.nx):
  ZU (LK Zr fs fuel k) fs fuel (n+1) 110 [.str cs] H=.ret (.tup [.agg (Oc cs),.bool true]) H:=by
 obtain⟨H',e,g⟩:=mL E (n:=898) (H:=H) ha hro
 exact YI (r:=0) rfl rfl e g (by
  show cond (RJ 0 (Oc cs)) _ false=true
  rw[dE];rfl) hk
theorem np{Zr:Lib}{fs:T CF}{fuel:Nat}(E:Env Zr fs fuel){n:Nat}{cs:List UInt8}{b:Nat}{x:UInt8}{H:Heap}(g:H.t.get b=some (rG 166 1 (Oc cs) 0 false true true)):
  ∃H',ZU (LK Zr fs fuel 0) fs fuel (n+2) 111 [.ptr b 0,nI .u8 x.toNat] H=.ret (.bool (decide (x∈cs))) H'∧Zw H H' []:=by
 rw[Z4 (Z3 E.n111 (.inl (by decide)) _ _) E.f111]
 have hx:=x.toNat_lt
 have hl:=GG cs
 have hl2:x.toNat<(Oc cs).length:=by rw[hl];exact hx
 have sg:=dD cs (x:=x)
 have ld: ∀G,ld1 (some (rG 166 1 (Oc cs) 0 false true true)) x.toNat G=.val (.bool (decide (x∈cs))) G:=λG=>by rw[Yf hl2,sg]
 simp(disch:=omega) only[g,ld,UE,Zf,aF,ZI,Yw,ZG,Yt]
 refine⟨_,rfl,?_⟩
 exact Zw.refl _ _
theorem ZhI{Zr:Lib}{fs:T CF}{fuel:Nat}(E:Env Zr fs fuel){k n:Nat}(hk:1<=k){cs:List UInt8}{b:Nat}{x:UInt8}{H:Heap}(g:H.t.get b=some (rG 166 1 (Oc cs) 0 false true true)):
  ZU (LK Zr fs fuel k) fs fuel (n+1) 111 [.ptr b 0,nI .u8 x.toNat] H=.ret (.bool (decide (x∈cs))) H:=by
 obtain⟨H',e,g⟩:=np E (n:=898) (H:=H) g
 exact YI (r:=0) rfl rfl e g (rfl) hk
theorem qe{Zr:Lib}{fs:T CF}{fuel:Nat}(E:Env Zr fs fuel){n:Nat}{x:Nat}{H:Heap}:
  ∃H',ZU (LK Zr fs fuel 0) fs fuel (n+2) 109 [nI .i64 x] H=.ret (.bool (decide (8<x))) H'∧Zw H H' []:=by
 rw[Z4 (Z3 E.n109 (.inl (by decide)) _ _) E.f109]
 simp only[Yy,aD,ZI,Yw,ZG,Yt]
 refine⟨_,rfl,?_⟩
 exact Zw.refl _ _
theorem Zga{Zr:Lib}{fs:T CF}{fuel:Nat}(E:Env Zr fs fuel){k n:Nat}(hk:1<=k){x:Nat}{H:Heap}:
  ZU (LK Zr fs fuel k) fs fuel (n+1) 109 [nI .i64 x] H=.ret (.bool (decide (8<x))) H:=by
 obtain⟨H',e,g⟩:=qe E (n:=898) (H:=H)
 exact YI (r:=0) rfl rfl e g (rfl) hk
theorem qA{Zr:Lib}{fs:T CF}{fuel:Nat}(E:Env Zr fs fuel){n:Nat}{x:Nat}{H:Heap}(h1:128<=x)(h2:x<=1114111):
  ∃H',ZU (LK Zr fs fuel 0) fs fuel (n+2) 125 [nI .i32 x] H=.ret (.bool (decide (x<55296)||decide (57343<x))) H'∧Zw H H' []:=by
 rw[Z4 (Z3 E.n125 (.inl (by decide)) _ _) E.f125]
 have d3:decide (x<=1114111)=true:=Zd h2
 by_cases h:x<55296
 ·have d1:decide (x<55296)=true:=Zd h
  rw[d1,PO]
  simp only[d1,Xh,Zv,Ym,decide_true,oY,ZI,Yw,ZG,Yt]
  refine⟨_,rfl,?_⟩
  exact Zw.refl _ _
 ·have d1:decide (x<55296)=false:=Zb h
  rw[d1,Bool.false_or]
  by_cases h':57343<x
  ·have d2:decide (57343<x)=true:=Zd h'
   rw[d2]
   simp only[d1,d2,d3,Xh,Zv,Ym,decide_true,oY,ZI,Yw,ZG,Yt]
   refine⟨_,rfl,?_⟩
   exact Zw.refl _ _
  ·have d2:decide (57343<x)=false:=Zb h'
   rw[d2]
   simp only[d1,d2,Xh,Zv,Ym,decide_true,oY,ZI,Yw,ZG,Yt]
   refine⟨_,rfl,?_⟩
   exact Zw.refl _ _
theorem Zgu{Zr:Lib}{fs:T CF}{fuel:Nat}(E:Env Zr fs fuel){k n:Nat}(hk:1<=k){x:Nat}{H:Heap}(h1:128<=x)(h2:x<=1114111):
  ZU (LK Zr fs fuel k) fs fuel (n+1) 125 [nI .i32 x] H=.ret (.bool (decide (x<55296)||decide (57343<x))) H:=by
 obtain⟨H',e,g⟩:=qA E (n:=898) (H:=H) h1 h2
 exact YI (r:=0) rfl rfl e g (rfl) hk
def Zds(a:AV)(H:Heap):OR:=Pz a λ_ n=>.val (.str (Utf8.encode n).data.toList) H
theorem vY(x:Z2)(tm:TM)(H:Heap):p7 x tm H=Zds (x tm) H:=rfl
def oj(a:AV)(H:Heap):OR:=O3 a λs=>.val (.ptr H.nx 0) (H.new (.siter s 0))
theorem Bd(x:Z2)(tm:TM)(H:Heap):Dx x tm H=oj (x tm) H:=rfl
theorem EZ(s:List UInt8)(H:Heap):oj (.str s) H=.val (.ptr H.nx 0) (H.new (.siter s 0)):=rfl
def pY(o:Option Obj)(b:Nat)(H:Heap):OR:=ZP (Nat.ble H.ro b)<|match o with
 |some o=>qM o λs pos=>cond (Nat.ble (Nat.succ pos) (YL s)) (match Utf8.decode ⟨s.toArray⟩ pos with|(c,w)=>.val (.tup [.bool true,.int .i64 (.ofNat pos),.int .i32 c]) (H.put b (.siter s (Nat.add pos w)))) (.val (.tup [.bool false]) H)
 |none=>.fail
def Zdn(a:AV)(H:Heap):OR:=QC a λb o=>ZP (Nat.beq o 0)<|pY (H.t.get b) b H
theorem Ld(x:Z2)(tm:TM)(H:Heap):p6 x tm H=Zdn (x tm) H:=by
 show QC (x tm) _=QC (x tm) _
 congr 1
theorem M9(b:Nat)(H:Heap):Zdn (.ptr b 0) H=pY (H.t.get b) b H:=rfl
theorem C8{H:Heap}{b:Nat}{s:List UInt8}{i r w:Nat}(hro:H.ro<=b)(h:i<s.length)(hd:Utf8.decode ⟨s.toArray⟩ i=(r,w)):
  pY (some (.siter s i)) b H=.val (.tup [.bool true,nI .i64 i,nI .i32 r]) (H.put b (.siter s (i+w))):=by
 show ZP (Nat.ble H.ro b) (cond (Nat.ble (Nat.succ i) (YL s)) (match Utf8.decode ⟨s.toArray⟩ i with|(c,w)=>OR.val (.tup [.bool true,.int .i64 (.ofNat i),.int .i32 c]) (H.put b (.siter s (Nat.add i w)))) _)=_
 rw[Zl hro,Yz,Zl (show Nat.succ i<=s.length from h),hd]
 rfl
theorem zA{H:Heap}{b:Nat}{s:List UInt8}{i:Nat}(hro:H.ro<=b)(h:s.length<=i):pY (some (.siter s i)) b H=.val (.tup [.bool false]) H:=by
 have e:Nat.ble (Nat.succ i) s.length=false:=by
  cases hq:Nat.ble (Nat.succ i) s.length with
  |false=>rfl
  |true=>have:=ZT hq;have:i+1<=s.length:=this;omega
 show ZP (Nat.ble H.ro b) (cond (Nat.ble (Nat.succ i) (YL s)) _ _)=_
 rw[Zl hro,Yz,e];rfl
structure SI0(cs:List UInt8)(H0:Heap)(m:Nat)(tm:TM)(H:Heap):Prop where
 t175:vk tm=.ptr H0.nx 0
 g: ∃i,i+m=cs.length∧H.t.get H0.nx=some (.siter cs i)
 k:Zw H0 H []
def SQ0(H0:Heap)(o:Out)(tm:TM)(H:Heap):Prop:=o=.exit 9∧Zw H0 H []
theorem ZaH{cs:List UInt8}(ha:PL cs){H0:Heap}(hro:H0.ro<=H0.nx)(cx:Ctx)(X0:X)(m:Nat)(tm:TM)(H:Heap)(hI:SI0 cs H0 m tm H):
  ∃o tm' H',Hl cx tm H X0=.ok o tm' H' X0∧((o=.normal∧ ∃k,k<m∧SI0 cs H0 k tm' H')∨(o≠.normal∧SQ0 H0 o tm' H')):=by
 obtain⟨t,⟨i,him,g⟩,k0⟩:=hI
 have t':=t
 simp only[ZeT] at t
 have hr:H.ro<=H0.nx:=by rw[k0.ro];exact hro
 cases m with
 |zero=>
  have ne:=zA (H:=H) (b:=H0.nx) (s:=cs) (i:=i) hr (by omega)
  simp only[t,g,ne,Ld,M9,Hl,ZI,Yw,qF]
  refine⟨_,_,_,rfl,?_⟩
  exact .inr ⟨by simp,rfl,k0⟩
 |succ m=>
  have hx:=ha.at_ (i:=i) (by omega)
  have ne:=C8 (H:=H) (b:=H0.nx) (s:=cs) (i:=i) hr (by omega) (qU hx)
  have d1:decide ((cs.getD i 0).toNat=65533)=false:=Zb (by omega)
  simp only[t,g,ne,d1,YW,Ld,M9,Hl,ZI,Yw,Yt,qF]
  refine⟨_,_,_,rfl,?_⟩
  exact .inl ⟨rfl,m,by omega,t',⟨i+1,by omega,X9 ..⟩,k0.then_put (λh=>by omega)⟩
theorem fc{Zr:Lib}{fs:T CF}{fuel:Nat}(E:Env Zr fs fuel){n:Nat}{cs:List UInt8}{x:Nat}{H:Heap}(hx:x<128):
  ∃H',ZU (LK Zr fs fuel 2) fs fuel (n+2) 108 [.str cs,nI .i32 x] H=.ret (mI (TJ x cs)) H'∧Zw H H' []:=by
 rw[Z4 (Z3 E.n108 (.inl (by decide)) _ _) E.f108]
 have e1:=λ{j}=>Zfh E (k:=2) (n:=j) (by decide) (s:=cs) (x:=x) (H:=H) (by omega)
 have d1:decide (x<128)=true:=Zd hx
 simp(disch:=omega) only[e1,d1,Xh,Zv,pJ,Ym,decide_true,wC,ZI,Yw,ZG,Yt,qF]
 refine⟨_,rfl,?_⟩
 exact Zw.refl _ _
theorem ZmV{Zr:Lib}{fs:T CF}{fuel:Nat}(E:Env Zr fs fuel){k n:Nat}(hk:3<=k){cs:List UInt8}{x:Nat}{H:Heap}(hx:x<128):
  ZU (LK Zr fs fuel k) fs fuel (n+1) 108 [.str cs,nI .i32 x] H=.ret (mI (TJ x cs)) H:=by
 obtain⟨H',e,g⟩:=fc E (n:=898) (H:=H) hx
 exact YI (r:=2) rfl rfl e g (LS _ _) hk
theorem mg{Zr:Lib}{fs:T CF}{fuel:Nat}(E:Env Zr fs fuel){n:Nat}{cs:List UInt8}{x:Nat}{H:Heap}(ha:PL cs)(h1:128<=x)(h2:x<=1114111)(hro:H.ro<=H.nx):
  ∃H',ZU (LK Zr fs fuel 2) fs fuel (n+2) 108 [.str cs,nI .i32 x] H=.ret (mI 0) H'∧Zw H H' []:=by
 rw[Z4 (Z3 E.n108 (.inl (by decide)) _ _) E.f108]
 have d1:decide (x<128)=false:=Zb (by omega)
 by_cases hx:x=65533
 ·have d2:decide (x=65533)=true:=Zd hx
  simp only[d1,d2,Xh,Zv,YW,Ym,decide_true,Bd,EZ,wC,ZI,Yw,Yt,qF]
  generalize hL:XD (Hl _) fuel _ _ _=L
  have h3:=ha.hi
  obtain⟨o,Nb,H1,rfl,_,rfl,k0⟩:=YG (P:=λT=>SI0 cs H cs.length T (H.new (.siter cs 0))) (Q:=SQ0 H)
   (λT hi=>YX (SI0 cs H) (SQ0 H) (λm tm H1 h=>ZaH ha hro _ _ m tm H1 h) fuel cs.length T _ (by have:=E.big;omega) hi) hL
   (by exact⟨rfl,⟨0,by omega,Yi rfl _⟩,Zw.new _ _ _⟩)
  simp only[ZI,Yw,ZG,Yt,]
  refine⟨_,rfl,?_⟩
  exact k0
 ·have d2:decide (x=65533)=false:=Zb hx
  have ev:=λ{j}=>Zgu E (k:=2) (n:=j) (by decide) (H:=H) h1 h2
  cases hv:(decide (x<55296)||decide (57343<x)) with
  |false=>
   rw[hv] at ev
   simp only[d1,d2,ev,Xh,Zv,YW,Ym,decide_true,wC,ZI,Yw,ZG,Yl,Yt,qF]
   refine⟨_,rfl,?_⟩
   exact Zw.refl _ _
  |true=>
   rw[hv] at ev
   obtain⟨rs,er0,r1,r2,r3⟩:=jS h1
   have er: ∀G,Zds (nI .i32 x) G=.val (.str rs) G:=λG=>by
    show OR.val (.str (Utf8.encode (Int.ofNat x)).data.toList) G=_
    rw[show(Int.ofNat x)=(x:Int) from rfl,er0]
   obtain⟨q,hq⟩: ∃q,rs.length=q+1:=⟨rs.length - 1,by omega⟩
   rw[hq,W3] at r3
   have r3':=(rs.getD q 0).toNat_lt
   have eb:=λ{j}=>Zfh E (k:=2) (n:=j) (by decide) (H:=H) (s:=cs.drop (q+1)) (x:=(rs.getD q 0).toNat) (by omega)
   rw[ha.fstd r3] at eb
   obtain⟨m,rfl⟩: ∃m,fuel=m+2:=⟨fuel - 2,by have:=E.big;omega⟩
   by_cases hl:q<cs.length
   ·have d3:decide (q<cs.length)=true:=Zd hl
    have hc:=ha.at_ hl
    have d4:decide ((cs.getD q 0).toNat≠(rs.getD q 0).toNat)=true:=Zd (by omega)
    simp(disch:=omega) only[d1,d2,d3,d4,ev,er,hq,eb,IM,W3,U1,Xh,Zv,YW,VQ,Vp,YU,Z0,Rg,Ym,decide_true,Zdk,vY,wC,yQ,ZI,Yw,ZG,Yl,Xm,Yt,Vf,qF]
    refine⟨_,rfl,?_⟩
    exact Zw.refl _ _
   ·have d3:decide (q<cs.length)=false:=Zb hl
    simp(disch:=omega) only[d1,d2,d3,ev,er,hq,IM,W3,Xh,Zv,YW,Vp,Z0,Ym,decide_true,vY,wC,yQ,ZI,Yw,ZG,Yl,Yt,qF]
    refine⟨_,rfl,?_⟩
    exact Zw.refl _ _
theorem ZiV{Zr:Lib}{fs:T CF}{fuel:Nat}(E:Env Zr fs fuel){k n:Nat}(hk:3<=k){cs:List UInt8}{x:Nat}{H:Heap}(ha:PL cs)(h1:128<=x)(h2:x<=1114111)(hro:H.ro<=H.nx):
  ZU (LK Zr fs fuel k) fs fuel (n+1) 108 [.str cs,nI .i32 x] H=.ret (mI 0) H:=by
 obtain⟨H',e,g⟩:=mg E (n:=898) (H:=H) ha h1 h2 hro
 exact YI (r:=2) rfl rfl e g (LS _ _) hk
structure IA0(s cs:List UInt8)(b:Nat)(H0:Heap)(m:Nat)(tm:TM)(H:Heap):Prop where
 heap:H=H0
 t0:Yu tm=.str s
 t6:Wm tm=.ptr b 0
 i: ∃i,Xt tm=nI .i64 i∧i+m=s.length∧ ∀j,j<i->s.getD j 0∉cs
def IQ(s cs:List UInt8)(e:Nat)(o:Out)(tm:TM):Prop:=(o=.ret∧ ∃p,Xu tm=nI .i64 p∧I9 cs s=p+1)∨(o=.exit e∧I9 cs s=0)
theorem gY{Zr:Lib}{fs:T CF}{fuel:Nat}(E:Env Zr fs fuel){n:Nat}{s cs:List UInt8}(hs:s.length<=90000){b:Nat}{H0:Heap}(g:H0.t.get b=some (rG 166 1 (Oc cs) 0 false true true))(y f dd q)(X0:X)(m:Nat)(tm:TM)(H:Heap)(hI:IA0 s cs b H0 m tm H):
  ∃o tm' H',Ft ⟨ZU (LK Zr fs fuel 3) fs fuel (n+1),y,f,dd,q⟩ tm H X0=.ok o tm' H' X0∧((o=.normal∧ ∃k,k<m∧IA0 s cs b H0 k tm' H')∨(o≠.normal∧(H'=H0∧IQ s cs 0 o tm'))):=by
 obtain⟨rfl,t0,t6,i,t8,him,hn⟩:=hI
 have t0':=t0;have oK:=t6
 simp only[VF] at t0
 simp only[NA] at t6
 simp only[MI] at t8
 cases m with
 |zero=>
  have d1:decide (i<s.length)=false:=Zb (by omega)
  simp only[t0,t8,d1,Zv,Z0,Ft,ZI,Yw,Yt,Vf]
  refine⟨_,_,_,rfl,?_⟩
  exact .inr ⟨by simp,rfl,.inr ⟨rfl,DU λj hj=>hn j (by omega)⟩⟩
 |succ m=>
  have d1:decide (i<s.length)=true:=Zd (by omega)
  have e1:=λ{j}=>ZhI E (k:=3) (n:=j) (by decide) (H:=H) (x:=s.getD i 0) g
  by_cases hx:s.getD i 0∈cs
  ·rw[Zd hx] at e1
   simp(disch:=omega) only[t0,t6,t8,d1,e1,U1,Zv,Z0,Ft,ZI,Yw,Yt,Vf]
   refine⟨_,_,_,rfl,?_⟩
   exact .inr ⟨by simp,rfl,.inl ⟨rfl,i,rfl,yH (by omega) hx hn⟩⟩
  ·rw[Zb hx] at e1
   simp(disch:=omega) only[t0,t6,t8,d1,e1,U1,Zv,YU,Z0,Ft,ZI,Yw,Yt,Vf]
   refine⟨_,_,_,rfl,.inl ⟨rfl,m,by omega,rfl,t0',oK,i+1,rfl,by omega,λj hj=>?_⟩⟩
   by_cases h:j=i
   ·rw[h];exact hx
   ·exact hn j (by omega)
structure IA1(s cs:List UInt8)(H0:Heap)(m:Nat)(tm:TM)(H:Heap):Prop where
 t1:XR tm=.str cs
 t45:SN tm=.ptr H0.nx 0
 i: ∃i,i+m=s.length∧H.t.get H0.nx=some (.siter s i)∧ ∀j,j<i->s.getD j 0∉cs
 k:Zw H0 H []
 nx:H0.nx<H.nx
theorem gZ{Zr:Lib}{fs:T CF}{fuel:Nat}(E:Env Zr fs fuel){n:Nat}{s cs:List UInt8}(ha:PL cs)(hs:s.length<=90000){H0:Heap}(hro:H0.ro<=H0.nx)(y f dd q)(X0:X)(m:Nat)(tm:TM)(H:Heap)(hI:IA1 s cs H0 m tm H):
  ∃o tm' H',Iw ⟨ZU (LK Zr fs fuel 3) fs fuel (n+1),y,f,dd,q⟩ tm H X0=.ok o tm' H' X0∧((o=.normal∧ ∃k,k<m∧IA1 s cs H0 k tm' H')∨(o≠.normal∧(Zw H0 H' []∧IQ s cs 2 o tm'))):=by
 obtain⟨t1,t45,⟨i,him,g,hn⟩,k0,hnx⟩:=hI
 have t1':=t1;have ZjZ:=t45
 simp only[Ov] at t1
 simp only[pp] at t45
 have hr:H.ro<=H0.nx:=by rw[k0.ro];exact hro
 cases m with
 |zero=>
  have ne:=zA (H:=H) (b:=H0.nx) (s:=s) (i:=i) hr (by omega)
  simp only[t45,g,ne,Ld,M9,Iw,ZI,Yw,Vf]
  refine⟨_,_,_,rfl,?_⟩
  exact .inr ⟨by simp,k0,.inr ⟨rfl,DU λj hj=>hn j (by omega)⟩⟩
 |succ m=>
  obtain⟨HP,hP⟩: ∃G,H.put H0.nx (.siter s (i+1))=G:=⟨_,rfl⟩
  by_cases hlo:(s.getD i 0).toNat<128
  ·have ne:=C8 (H:=H) (b:=H0.nx) (s:=s) (i:=i) hr (by omega) (qU hlo)
   have e1:=λ{j}=>ZmV E (k:=3) (n:=j) (by decide) (H:=HP) (cs:=cs) (x:=(s.getD i 0).toNat) hlo
   have kp:Zw H0 HP []:=by rw[<-hP];exact k0.then_put (λh=>by omega)
   by_cases hx:s.getD i 0∈cs
   ·have d1:decide (0<TJ (s.getD i 0).toNat cs)=true:=Zd (by
     cases h:TJ (s.getD i 0).toNat cs with
     |zero=>exact absurd rfl (RT.1 h _ hx)
     |succ j=>omega)
    simp only[t1,t45,g,ne,hP,e1,d1,vH,Ld,M9,Iw,ZI,Yw,Yt,Vf]
    refine⟨_,_,_,rfl,?_⟩
    exact .inr ⟨by simp,kp,.inl ⟨rfl,i,rfl,yH (by omega) hx hn⟩⟩
   ·have d1:decide (0<TJ (s.getD i 0).toNat cs)=false:=Zb (by
     have:TJ (s.getD i 0).toNat cs=0:=RT.2 λc hc e=>hx (by rw[<-U9.1 e];exact hc)
     omega)
    simp only[t1,t45,g,ne,hP,e1,d1,vH,Ld,M9,Iw,ZI,Yw,Yt,Vf]
    refine⟨_,_,_,rfl,.inl ⟨rfl,m,by omega,t1',ZjZ,⟨i+1,by omega,by rw[<-hP];exact X9 ..,λj hj=>?_⟩,kp,by rw[<-hP,Nn];exact hnx⟩⟩
    by_cases h:j=i
    ·rw[h];exact hx
    ·exact hn j (by omega)
  ·obtain⟨r,w,hd,r1,r2,w1,hw⟩:=Zeq (s:=s) (i:=i) (by omega) (by omega)
   have ne:=C8 (H:=H) (b:=H0.nx) (s:=s) (i:=i) hr (by omega) hd
   have hwl:=hw (w - 1) (by omega)
   obtain⟨HQ,hQ⟩: ∃G,H.put H0.nx (.siter s (i+w))=G:=⟨_,rfl⟩
   have kp:Zw H0 HQ []:=by rw[<-hQ];exact k0.then_put (λh=>by omega)
   have e1:=λ{j}=>ZiV E (k:=3) (n:=j) (by decide) (H:=HQ) (cs:=cs) (x:=r) ha r1 r2 (by rw[kp.ro,<-hQ,Nn];omega)
   simp only[t1,t45,g,ne,hQ,e1,XT,decide_false,vH,Ld,M9,Iw,ZI,Yw,Yt,Vf]
   refine⟨_,_,_,rfl,.inl ⟨rfl,m+1 - w,by omega,t1',ZjZ,⟨i+w,by omega,by rw[<-hQ];exact X9 ..,λj hj hm=>?_⟩,kp,by rw[<-hQ,Nn];exact hnx⟩⟩
   by_cases h:j<i
   ·exact hn j h hm
   ·have h2:=hw (j - i) (by omega)
    rw[show i+(j - i)=j by omega] at h2
    have:=ha.lt _ hm;omega
theorem fa{Zr:Lib}{fs:T CF}{fuel:Nat}(E:Env Zr fs fuel){n:Nat}{s cs:List UInt8}{H:Heap}(ha:PL cs)(hs:s.length<=90000)(hro:H.ro<=H.nx):
  ∃H',ZU (LK Zr fs fuel 3) fs fuel (n+2) 95 [.str s,.str cs] H=.ret (mI (I9 cs s)) H'∧Zw H H' []:=by
 rw[Z4 (Z3 E.n95 (.inl (by decide)) _ _) E.f95]
 have h2:=ha.lo
 have n0:decide (cs=[])=false:=Zb λe=>by rw[e] at h2;simp at h2
 have n1:decide (cs.length=1)=false:=Zb (by omega)
 have es:=λ{j}=>Zga E (k:=3) (n:=j) (by decide) (H:=H) (x:=s.length)
 by_cases h8:8<s.length
 ·rw[Zd h8] at es
  have em:=λ{j}=>Zjb E (k:=3) (n:=j) (by decide) (H:=H) ha hro
  have hl:=GG cs
  have hz:KF.length=256:=by unfold KF;rw[Y5]
  have sf:=λ(G:Heap) (hG:G.ro<=H.nx)=>U4 (n:=256) (b:=H.nx) (l:=KF) (vs:=Oc cs) (H:=G) hz hl (by decide) hG 166 1 false true
  have sf:=sf (H.new (rG 166 1 KF 0 false true true)) hro
  rw[Us rfl] at sf
  obtain⟨H1,hH1⟩: ∃G,H.new (rG 166 1 (Oc cs) 0 false true true)=G:=⟨_,rfl⟩
  rw[hH1] at sf
  simp only[n0,n1,es,em,vO,sf,YW,Xc,Z0,c95,ZI,Yw,ZG,Yt,Vf]
  generalize hL:XD (Ft _) fuel _ _ _=L
  obtain⟨o,Nb,H2,rfl,_,rfl,z⟩:=YG (P:=λT=>IA0 s cs H.nx H1 s.length T H1) (Q:=λo tm' H'=>H'=H1∧IQ s cs 0 o tm')
   (λT hi=>YX (IA0 s cs H.nx H1) (λo tm' H'=>H'=H1∧IQ s cs 0 o tm') (λm tm H2 h=>gY E hs (by rw[<-hH1];exact Yi rfl _) _ _ _ _ _ m tm H2 h) fuel s.length T H1 (by have:=E.big;omega) hi) hL
   (by exact⟨rfl,rfl,rfl,0,rfl,by omega,λj hj=>by omega⟩)
  rcases z with⟨rfl,p,t4,e⟩|⟨rfl,e⟩
  ·simp only[Tb] at t4
   rw[e,Zbe]
   simp only[t4,ZI,ZG,Yt]
   refine⟨_,rfl,?_⟩
   exact by rw[<-hH1];exact Zw.new _ _ _
  ·rw[e]
   simp only[ZI,Yw,ZG,Yt]
   refine⟨_,rfl,?_⟩
   exact by rw[<-hH1];exact Zw.new _ _ _
 ·rw[Zb h8] at es
  simp only[n0,n1,es,YW,Xc,Z0,Bd,EZ,c95,ZI,Yw,Yt,Vf]
  generalize hL:XD (Iw _) fuel _ _ _=L
  obtain⟨o,Nb,H2,rfl,_,k2,z⟩:=YG (P:=λT=>IA1 s cs H s.length T (H.new (.siter s 0))) (Q:=λo tm' H'=>Zw H H' []∧IQ s cs 2 o tm')
   (λT hi=>YX (IA1 s cs H) (λo tm' H'=>Zw H H' []∧IQ s cs 2 o tm') (λm tm H2 h=>gZ E ha hs hro _ _ _ _ _ m tm H2 h) fuel s.length T _ (by have:=E.big;omega) hi) hL
   (by exact⟨rfl,rfl,⟨0,by omega,Yi rfl _,λj hj=>by omega⟩,Zw.new _ _ _,Yo _⟩)
  rcases z with⟨rfl,p,t4,e⟩|⟨rfl,e⟩
  ·simp only[Tb] at t4
   rw[e,Zbe]
   simp only[t4,ZI,ZG,Yt]
   refine⟨_,rfl,?_⟩
   exact k2
  ·rw[e]
   simp only[ZI,Yw,ZG,Yt]
   refine⟨_,rfl,?_⟩
   exact k2
theorem ZmU{Zr:Lib}{fs:T CF}{fuel:Nat}(E:Env Zr fs fuel){k n:Nat}(hk:4<=k){s cs:List UInt8}{H:Heap}(ha:PL cs)(hs:s.length<=90000)(hro:H.ro<=H.nx):
  ZU (LK Zr fs fuel k) fs fuel (n+1) 95 [.str s,.str cs] H=.ret (mI (I9 cs s)) H:=by
 obtain⟨H',e,g⟩:=fa E (n:=898) (H:=H) ha hs hro
 exact YI (r:=3) rfl rfl e g (LS _ _) hk
theorem nm{Zr:Lib}{fs:T CF}{fuel:Nat}(E:Env Zr fs fuel){n:Nat}{s cs:List UInt8}{H:Heap}(ha:PL cs)(hs:s.length<=90000)(hro:H.ro<=H.nx):
  ∃H',ZU (LK Zr fs fuel 4) fs fuel (n+2) 71 [.str s,.str cs] H=.ret (.bool (Pe cs s)) H'∧Zw H H' []:=by
 rw[Z4 (Z3 E.n71 (.inl (by decide)) _ _) E.f71]
 have e1:=λ{j}=>ZmU E (k:=4) (n:=j) (by decide) (H:=H) ha hs hro
 rw[<-qJ cs s]
 simp only[e1,vH,c71,ZI,Yw,ZG,Yt]
 refine⟨_,rfl,?_⟩
 exact Zw.refl _ _
theorem Zcl{Zr:Lib}{fs:T CF}{fuel:Nat}(E:Env Zr fs fuel){k n:Nat}(hk:5<=k){s cs:List UInt8}{H:Heap}(ha:PL cs)(hs:s.length<=90000)(hro:H.ro<=H.nx):
  ZU (LK Zr fs fuel k) fs fuel (n+1) 71 [.str s,.str cs] H=.ret (.bool (Pe cs s)) H:=by
 obtain⟨H',e,g⟩:=nm E (n:=898) (H:=H) ha hs hro
 exact YI (r:=4) rfl rfl e g (rfl) hk
end
end Go.AI
