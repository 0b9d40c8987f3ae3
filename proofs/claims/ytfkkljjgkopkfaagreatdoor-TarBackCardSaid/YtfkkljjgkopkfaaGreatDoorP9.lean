/- Texts that are split, and looked through: walked; proved, conditions as named. -/
import Derived.Test.YtfkkljjgkopkfaaGreatDoorP8
set_option maxRecDepth 1000000
set_option maxHeartbeats 0
set_option linter.all false
namespace Go.AI
open Go
noncomputable section
section
variable {Zq:Lib} {fs:T CF} {Zk k n i h b:Nat} {H H0:Heap} {s:Zd} {cs:List AV}
def mI:Nat->AV
 |0=>.int .i64 (.negSucc 0)
 |m+1=>nI .i64 m
def Zcj{m:Nat}(h:m<9223372036854775808)(G:Heap):Mh (nI .i64 m) (nI .i64 1) G=.val (mI m) G:=by
 cases m with
 |zero=>rfl
 |succ m=>exact Wz (by omega) h G
def DB(j:Nat)(G:Heap):T2 UQ Wd (mI j) (nI .i64 0) G=.val (.bool (decide (0<j))) G:=by
 cases j with
 |zero=>rfl
 |succ j=>exact Yr .i64 j 0 G
def ZaL(j:Nat)(G:Heap):T2 XF Yt (mI j) (nI .i64 0) G=.val (.bool (decide (j=0))) G:=by
 cases j with
 |zero=>rfl
 |succ j=>exact ZE .i64 j 0 G
def ZiB{j:Nat}(h:j<9223372036854775808)(G:Heap):Sr (mI j) (nI .i64 1) G=.val (nI .i64 j) G:=by
 cases j with
 |zero=>rfl
 |succ j=>exact Y0 h G
def ZaM(m:Nat):mI (m+1)=nI .i64 m:=rfl
def O2(n j:Nat):WZ n (mI j)=true:=by cases j<;>rfl
def ZiC(x:Nat)(s:Zd):AV.int .i64 (Pb x s 0)=mI (W2 x s):=by
 rw[jB];cases h:W2 x s with
 |zero=>rfl
 |succ j=>rw[if_neg (by omega)];show AV.int .i64 ((0+(j+1) - 1:Nat):Int)=_;rw[show 0+(j+1) - 1=j by omega];rfl
structure LBI(s:Zd)(x:Nat)(H0:Heap)(m:Nat)(tm:TM)(H:Heap):Prop where
 heap:H=H0
 t0:Z6 tm=.str s
 t1:Xn tm=nI .u8 x
 t5:Xi tm=mI m
 le:m<=s.length
 cut:TE x s=TE x (s.take m)
def LBQ(s:Zd)(x:Nat)(H0:Heap)(o:Out)(tm:TM)(H:Heap):Prop:=H=H0∧((o=.ret∧Xo tm=mI (TE x s))∨(o=.exit 0∧TE x s=0))
def Zea{x:Nat}(hs:s.length<=90000)(cx:Ctx)(X0:X)(m:Nat)(tm:TM)(H:Heap)(hI:LBI s x H0 m tm H):
  ∃o tm' H',Ec cx tm H X0=.ok o tm' H' X0∧((o=.normal∧ ∃k,k<m∧LBI s x H0 k tm' H')∨(o≠.normal∧LBQ s x H0 o tm' H')):=by
 obtain⟨rfl,t0,t1,t5,le,hc⟩:=hI;have t0':=t0;have t1':=t1;simp only[Pa,Kp,G7] at t0 t1 t5;cases m with
 |zero=>
  have d1:decide (0<0)=false:=rfl;simp only[t5,DB,Vc,decide_false,Ec,ZG,Yj,Yg];refine⟨_,_,_,rfl,?_⟩;exact .inr ⟨by simp,rfl,.inr ⟨rfl,by rw[hc];rfl⟩⟩
 |succ m=>
  rw[ZaM] at t5
  by_cases hx:(s.getD m 0).toNat=x
  ·have d2:decide ((s.getD m 0).toNat=x)=true:=Zi hx
   simp(disch:=omega) only[t0,t1,t5,d2,X7,Yr,YQ,ZN,decide_true,Ec,ZG,Yj,Yg];refine⟨_,_,_,rfl,?_⟩;exact .inr ⟨by simp,rfl,.inl ⟨rfl,by rw[hc,Zdj (by omega) hx];rfl⟩⟩
  ·have d2:decide ((s.getD m 0).toNat=x)=false:=Zc hx
   simp(disch:=omega) only[t0,t1,t5,d2,Zcj,X7,Yr,YQ,ZN,decide_true,Ec,ZG,Yj,Yg];refine⟨_,_,_,rfl,?_⟩;exact .inl ⟨rfl,m,by omega,rfl,t0',t1',rfl,by omega,by rw[hc,bI (by omega) hx]⟩
def nX(E:Env Zq fs Zk){x:Nat}(hs:s.length<=90000):
  ∃H',ZA (LK Zq fs Zk 0) fs Zk (n+2) 89 [.str s,nI .u8 x] H=.ret (mI (TE x s)) H'∧Zu H H' []:=by
 rw[Z5 E.f89 (.inl (by decide))];simp(disch:=omega) only[Zcj,ZZ,c89,ZG,Yj,Yg];generalize hL:Vq (Ec _) Zk _ _ _=L;obtain⟨o,OS,H1,rfl,_,rfl,z⟩:=YP (P:=λT=>LBI s x H s.length T H) (Q:=LBQ s x H)
  (λT hi=>Y5 (LBI s x H) (LBQ s x H) (λm tm H1 h=>Zea hs _ _ m tm H1 h) Zk s.length T H (by have:=E.big;omega) hi) hL
  ⟨rfl,rfl,rfl,rfl,Zs _,by rw[Vb]⟩
 rcases z with⟨rfl,t4⟩|⟨rfl,e⟩
 ·simp only[Pt] at t4
  simp only[t4,ZG,Zz,Yg];refine⟨_,rfl,?_⟩;exact Zu.refl _ _
 ·rw[e]
  simp only[ZG,Yj,Zz,Yg];refine⟨_,rfl,?_⟩;exact Zu.refl _ _
def Ziq(E:Env Zq fs Zk)(hk:1<=k){x:Nat}(hs:s.length<=90000):
  ZA (LK Zq fs Zk k) fs Zk (n+1) 89 [.str s,nI .u8 x] H=.ret (mI (TE x s)) H:=by
 obtain⟨H',e,g⟩:=nX E (n:=898) (H:=H) hs;exact Yh (r:=0) rfl rfl e g (O2 _ _) hk
def fS(E:Env Zq fs Zk){x:Nat}(hs:s.length<=90000):
  ∃H',ZA (LK Zq fs Zk 1) fs Zk (n+2) 58 [.str s,nI .u8 x] H=.ret (mI (TE x s)) H'∧Zu H H' []:=by
 rw[Z5 E.f58 (.inl (by decide))];have e1:=λ{j}=>Ziq E (k:=1) (n:=j) (by decide) (x:=x) (H:=H) hs;simp only[e1,c58,ZG,Yj,Zz,Yg];refine⟨_,rfl,?_⟩;exact Zu.refl _ _
def Zgb(E:Env Zq fs Zk)(hk:2<=k){x:Nat}(hs:s.length<=90000):
  ZA (LK Zq fs Zk k) fs Zk (n+1) 58 [.str s,nI .u8 x] H=.ret (mI (TE x s)) H:=by
 obtain⟨H',e,g⟩:=fS E (n:=898) (H:=H) hs;exact Yh (r:=1) rfl rfl e g (O2 _ _) hk
def cV(E:Env Zq fs Zk)(hs:s.length<=90000):
  ∃H',ZA (LK Zq fs Zk 2) fs Zk (n+2) 45 [.str s] H=.ret (.str (XO s)) H'∧Zu H H' []:=by
 rw[Z5 E.f45 (.inl (by decide))];have e1:=λ{j}=>Zgb E (k:=2) (n:=j) (by decide) (x:=47) (H:=H) hs;have hc:=Ed 47 s;unfold XO;simp(disch:=omega) only[e1,ZiB,Vy,c45,ZG,Yj,Zz,Yc,Yg];refine⟨_,rfl,?_⟩;exact Zu.refl _ _
def base(E:Env Zq fs Zk)(hk:3<=k)(hs:s.length<=90000):
  ZA (LK Zq fs Zk k) fs Zk (n+1) 45 [.str s] H=.ret (.str (XO s)) H:=by
 obtain⟨H',e,g⟩:=cV E (n:=898) (H:=H) hs;exact Yh (r:=2) rfl rfl e g (rfl) hk
def fA(E:Env Zq fs Zk){p:Zd}(hs:s.length<=90000):
  ∃H',ZA (LK Zq fs Zk 0) fs Zk (n+2) 100 [.str s,.str p] H=.ret (.bool (Qq p s)) H'∧Zu H H' []:=by
 rw[Z5 E.f100 (.inl (by decide))];unfold Qq
 by_cases h:p.length<=s.length
 ·rw[Zi h]
  have d1:decide (p.length<=s.length)=true:=Zi h;simp(disch:=omega) only[d1,S0,Yr,Wi,ZZ,Tj,ZcY,ZG,Yj,Zz,Yc,Yg];refine⟨_,rfl,?_⟩;exact Zu.refl _ _
 ·rw[Zc h]
  have d1:decide (p.length<=s.length)=false:=Zc h;simp only[d1,Q2,Yr,ZZ,ZcY,ZG,Yj,Zz,Yg];refine⟨_,rfl,?_⟩;exact Zu.refl _ _
def Zf0(E:Env Zq fs Zk)(hk:1<=k){p:Zd}(hs:s.length<=90000):
  ZA (LK Zq fs Zk k) fs Zk (n+1) 100 [.str s,.str p] H=.ret (.bool (Qq p s)) H:=by
 obtain⟨H',e,g⟩:=fA E (n:=898) (H:=H) hs;exact Yh (r:=0) rfl rfl e g (rfl) hk
def Zaa(E:Env Zq fs Zk){p:Zd}(hs:s.length<=90000):
  ∃H',ZA (LK Zq fs Zk 1) fs Zk (n+2) 69 [.str s,.str p] H=.ret (.bool (Qq p s)) H'∧Zu H H' []:=by
 rw[Z5 E.f69 (.inl (by decide))];have e1:=λ{j}=>Zf0 E (k:=1) (n:=j) (by decide) (p:=p) (H:=H) hs;simp only[e1,c69,ZG,Yj,Zz,Yg];refine⟨_,rfl,?_⟩;exact Zu.refl _ _
def ZdH(E:Env Zq fs Zk)(hk:2<=k){p:Zd}(hs:s.length<=90000):
  ZA (LK Zq fs Zk k) fs Zk (n+1) 69 [.str s,.str p] H=.ret (.bool (Qq p s)) H:=by
 obtain⟨H',e,g⟩:=Zaa E (n:=898) (H:=H) hs;exact Yh (r:=1) rfl rfl e g (rfl) hk
def fU(E:Env Zq fs Zk)(hs:s.length<=90000):
  ∃H',ZA (LK Zq fs Zk 2) fs Zk (n+2) 46 [.str s] H=.ret (nI .i64 (Sy s)) H'∧Zu H H' []:=by
 rw[Z5 E.f46 (.inl (by decide))];have e1:=λ{j}=>ZdH E (k:=2) (n:=j) (by decide) (p:=[46,119,104,46]) (H:=H) hs;unfold Sy;have eo:z4=[46,119,104,46,46,119,104,46,46,111,112,113]:=rfl;have ew:uX=[46,119,104,46]:=rfl;rw[eo,ew]
 by_cases h:s=[46,119,104,46,46,119,104,46,46,111,112,113]
 ·have d1:decide (s=[46,119,104,46,46,119,104,46,46,111,112,113])=true:=Zi h
  rw[if_pos h];simp only[d1,Wi,c46,ZG,Yj,Zz,Yg];refine⟨_,rfl,?_⟩;exact Zu.refl _ _
 ·have d1:decide (s=[46,119,104,46,46,119,104,46,46,111,112,113])=false:=Zc h
  rw[if_neg h];cases hq:Qq [46,119,104,46] s with
  |true=>
   rw[hq] at e1;simp only[d1,e1,Wi,c46,ZG,Yj,Zz,Yg];refine⟨_,rfl,?_⟩;exact Zu.refl _ _
  |false=>
   rw[hq] at e1;simp only[d1,e1,Wi,c46,ZG,Yj,Zz,reduceCtorEq,Yg];refine⟨_,rfl,?_⟩;exact Zu.refl _ _
def Zlx(E:Env Zq fs Zk)(hk:3<=k)(hs:s.length<=90000):
  ZA (LK Zq fs Zk k) fs Zk (n+1) 46 [.str s] H=.ret (nI .i64 (Sy s)) H:=by
 obtain⟨H',e,g⟩:=fU E (n:=898) (H:=H) hs;exact Yh (r:=2) rfl rfl e g (rfl) hk
def Zab(E:Env Zq fs Zk){p:Zd}(hs:s.length<=90000):
  ∃H',ZA (LK Zq fs Zk 0) fs Zk (n+2) 101 [.str s,.str p] H=.ret (.bool (decide (p.length<=s.length)&&decide (s.drop (s.length - p.length)=p))) H'∧Zu H H' []:=by
 rw[Z5 E.f101 (.inl (by decide))]
 by_cases h:p.length<=s.length
 ·rw[Zi h]
  have d1:decide (p.length<=s.length)=true:=Zi h;simp(disch:=omega) only[d1,S0,Yr,Wi,Wz,ZZ,Vy,ZcZ,ZG,Yj,Zz,Yc,Yg];refine⟨_,rfl,?_⟩;exact Zu.refl _ _
 ·rw[Zc h]
  have d1:decide (p.length<=s.length)=false:=Zc h;simp only[d1,Q2,Yr,ZZ,ZcZ,ZG,Yj,Zz,Yg];refine⟨_,rfl,?_⟩;exact Zu.refl _ _
def Zpj(E:Env Zq fs Zk)(hk:1<=k){p:Zd}(hs:s.length<=90000):
  ZA (LK Zq fs Zk k) fs Zk (n+1) 101 [.str s,.str p] H=.ret (.bool (decide (p.length<=s.length)&&decide (s.drop (s.length - p.length)=p))) H:=by
 obtain⟨H',e,g⟩:=Zab E (n:=898) (H:=H) hs;exact Yh (r:=0) rfl rfl e g (rfl) hk
def lO(E:Env Zq fs Zk){p:Zd}(hs:s.length<=90000):
  ∃H',ZA (LK Zq fs Zk 1) fs Zk (n+2) 70 [.str s,.str p] H=.ret (.str (if p.length<=s.length∧s.drop (s.length - p.length)=p then s.take (s.length - p.length) else s)) H'∧Zu H H' []:=by
 rw[Z5 E.f70 (.inl (by decide))];have e1:=λ{j}=>Zpj E (k:=1) (n:=j) (by decide) (p:=p) (H:=H) hs
 by_cases h:p.length<=s.length∧s.drop (s.length - p.length)=p
 ·rw[if_pos h]
  rw[Zi h.1,Zi h.2] at e1;simp(disch:=omega) only[e1,Bool.and_self,Wz,ZZ,Tj,c70,ZG,Yj,Zz,Yc,Yg];refine⟨_,rfl,?_⟩;exact Zu.refl _ _
 ·rw[if_neg h]
  have:(decide (p.length<=s.length)&&decide (s.drop (s.length - p.length)=p))=false:=by
   rw[Bool.eq_false_iff];intro e;rw[Z4] at e;exact h ⟨Zr e.1,Zr e.2⟩
  rw[this] at e1;simp only[e1,c70,ZG,Yj,Zz,Yg];refine⟨_,rfl,?_⟩;exact Zu.refl _ _
def Zjz(E:Env Zq fs Zk)(hk:2<=k){p:Zd}(hs:s.length<=90000):
  ZA (LK Zq fs Zk k) fs Zk (n+1) 70 [.str s,.str p] H=.ret (.str (if p.length<=s.length∧s.drop (s.length - p.length)=p then s.take (s.length - p.length) else s)) H:=by
 obtain⟨H',e,g⟩:=lO E (n:=898) (H:=H) hs;exact Yh (r:=1) rfl rfl e g (rfl) hk
def cr(E:Env Zq fs Zk){p:Zd}(hs:s.length<=90000):
  ∃H',ZA (LK Zq fs Zk 2) fs Zk (n+2) 47 [.str s,.str p] H=.ret (.str (if p.length<=s.length∧s.drop (s.length - p.length)=p then s.take (s.length - p.length) else s)) H'∧Zu H H' []:=by
 rw[Z5 E.f47 (.inl (by decide))];have e1:=λ{j}=>Zjz E (k:=2) (n:=j) (by decide) (p:=p) (H:=H) hs;simp only[e1,c47,ZG,Yj,Zz,Yg];refine⟨_,rfl,?_⟩;exact Zu.refl _ _
def ZgJ(E:Env Zq fs Zk)(hk:3<=k){p:Zd}(hs:s.length<=90000):
  ZA (LK Zq fs Zk k) fs Zk (n+1) 47 [.str s,.str p] H=.ret (.str (if p.length<=s.length∧s.drop (s.length - p.length)=p then s.take (s.length - p.length) else s)) H:=by
 obtain⟨H',e,g⟩:=cr E (n:=898) (H:=H) hs;exact Yh (r:=2) rfl rfl e g (rfl) hk
def cu(p:Zd):(if (XO p).length<=p.length∧p.drop (p.length - (XO p).length)=XO p then p.take (p.length - (XO p).length) else p)=Tn p:=by
 have hc:=Ed 47 p;unfold XO Tn;rw[Ye,show p.length - (p.length - TE 47 p)=TE 47 p by omega,if_pos ⟨by omega,rfl⟩]
def Zfj(d:Zd):(if ([47]:Zd).length<=d.length∧d.drop (d.length - ([47]:Zd).length)=[47] then d.take (d.length - ([47]:Zd).length) else d)=Cd d:=rfl
def fJ(E:Env Zq fs Zk){x:Nat}(hx:x<256):
  ∃H',ZA (LK Zq fs Zk 0) fs Zk (n+2) 75 [.str s,nI .u8 x] H=.ret (mI (W2 x s)) H'∧Zu H H' []:=by
 rw[Z5 E.f75 (.inl (by decide))];have ec: ∀{j},ZA (LK Zq fs Zk 0) fs Zk (j+1) 108 [.str s,nI .u8 x] H=.ret (mI (W2 x s)) H:=λ{j}=>by
  rw[Qh rfl (E.ix s x H hx),ZiC]
 simp only[ec,c75,ZG,Yj,Zz,Yg];refine⟨_,rfl,?_⟩;exact Zu.refl _ _
def jD(E:Env Zq fs Zk)(hk:1<=k){x:Nat}(hx:x<256):
  ZA (LK Zq fs Zk k) fs Zk (n+1) 75 [.str s,nI .u8 x] H=.ret (mI (W2 x s)) H:=by
 obtain⟨H',e,g⟩:=fJ E (n:=898) (H:=H) hx;exact Yh (r:=0) rfl rfl e g (O2 _ _) hk
def Zan(E:Env Zq fs Zk){x:Nat}(hx:x<256):
  ∃H',ZA (LK Zq fs Zk 1) fs Zk (n+2) 51 [.str s,nI .u8 x] H=.ret (mI (W2 x s)) H'∧Zu H H' []:=by
 rw[Z5 E.f51 (.inl (by decide))];have e1:=λ{j}=>jD E (k:=1) (n:=j) (by decide) (s:=s) (H:=H) hx;simp only[e1,c51,ZG,Yj,Zz,Yg];refine⟨_,rfl,?_⟩;exact Zu.refl _ _
def ZdW(E:Env Zq fs Zk)(hk:2<=k){x:Nat}(hx:x<256):
  ZA (LK Zq fs Zk k) fs Zk (n+1) 51 [.str s,nI .u8 x] H=.ret (mI (W2 x s)) H:=by
 obtain⟨H',e,g⟩:=Zan E (n:=898) (H:=H) hx;exact Yh (r:=1) rfl rfl e g (O2 _ _) hk
def nP(E:Env Zq fs Zk):
  ∃H',ZA (LK Zq fs Zk 1) fs Zk (n+2) 124 [.str s,.str [47]] H=.ret (mI (W2 47 s)) H'∧Zu H H' []:=by
 rw[Z5 E.f124 (.inl (by decide))];have e1:=λ{j}=>jD E (k:=1) (n:=j) (by decide) (s:=s) (x:=47) (H:=H) (by decide);have wl:([47]:Zd).length=1:=rfl;have w0:([47]:Zd).getD 0 0=47:=rfl;have w1:(47:UInt8).toNat=47:=rfl
 by_cases h:([47]:Zd)=s
 ·have d_h:decide (([47]:Zd)=s)=true:=Zi h
  simp only[wl,d_h,YQ,Wi,ZZ,decide_false,tU,ZG,Yj,Zz,reduceCtorEq,Yg];subst h;refine⟨_,rfl,?_⟩;exact Zu.refl _ _
 ·have d_h:decide (([47]:Zd)=s)=false:=Zc h
  simp(disch:=omega) only[wl,w0,w1,e1,d_h,X7,YQ,Wi,ZZ,decide_true,decide_false,tU,ZG,Yj,Zz,reduceCtorEq,Yg];refine⟨_,rfl,?_⟩;exact Zu.refl _ _
def Zij(E:Env Zq fs Zk)(hk:2<=k):
  ZA (LK Zq fs Zk k) fs Zk (n+1) 124 [.str s,.str [47]] H=.ret (mI (W2 47 s)) H:=by
 obtain⟨H',e,g⟩:=nP E (n:=898) (H:=H);exact Yh (r:=1) rfl rfl e g (O2 _ _) hk
def fL(E:Env Zq fs Zk):
  ∃H',ZA (LK Zq fs Zk 2) fs Zk (n+2) 93 [.str s,.str [47]] H=.ret (mI (W2 47 s)) H'∧Zu H H' []:=by
 rw[Z5 E.f93 (.inl (by decide))];have e1:=λ{j}=>Zij E (k:=2) (n:=j) (by decide) (s:=s) (H:=H);simp only[e1,c93,ZG,Yj,Zz,Yg];refine⟨_,rfl,?_⟩;exact Zu.refl _ _
def index(E:Env Zq fs Zk)(hk:3<=k):
  ZA (LK Zq fs Zk k) fs Zk (n+1) 93 [.str s,.str [47]] H=.ret (mI (W2 47 s)) H:=by
 obtain⟨H',e,g⟩:=fL E (n:=898) (H:=H);exact Yh (r:=2) rfl rfl e g (O2 _ _) hk
def gM(E:Env Zq fs Zk):
  ∃H',ZA (LK Zq fs Zk 0) fs Zk (n+2) 157 [.str s,.str [47]] H=.ret (nI .i64 (Xv 47 s 0)) H'∧Zu H H' []:=by
 rw[Z5 E.f157 (.inl (by decide))];have ec: ∀{j},ZA (LK Zq fs Zk 0) fs Zk (j+1) 175 [.str s,nI .u8 47] H=.ret (nI .i64 (Xv 47 s 0)) H:=λ{j}=>by
  rw[Qh rfl (E.cn s 47 H (by omega))]
 have wl:([47]:Zd).length=1:=rfl;have w0:([47]:Zd).getD 0 0=47:=rfl;have w1:(47:UInt8).toNat=47:=rfl;simp(disch:=omega) only[wl,w0,w1,ec,X7,YQ,ZZ,decide_true,decide_false,Zhq,ZG,Yj,Zz,reduceCtorEq,Yg];refine⟨_,rfl,?_⟩;exact Zu.refl _ _
def count(E:Env Zq fs Zk)(hk:1<=k):
  ZA (LK Zq fs Zk k) fs Zk (n+1) 157 [.str s,.str [47]] H=.ret (nI .i64 (Xv 47 s 0)) H:=by
 obtain⟨H',e,g⟩:=gM E (n:=898) (H:=H);exact Yh (r:=0) rfl rfl e g (rfl) hk
def o8(E:Env Zq fs Zk){a:Zd}(hs:a.length+s.length<=90000):
  ∃H',ZA (LK Zq fs Zk 0) fs Zk (n+2) 227 [.str a,.str s] H=.ret (.str (a++s)) H'∧Zu H H' []:=by
 rw[Z5 E.f227 (.inl (by decide))];have ad:=λG=>Q1 (a:=a) (b:=s) (by omega) G;simp only[ad,Zhv,ZG,Yj,Zz,Yg];refine⟨_,rfl,?_⟩;exact Zu.refl _ _
def ZhA(E:Env Zq fs Zk)(hk:1<=k){a:Zd}(hs:a.length+s.length<=90000):
  ZA (LK Zq fs Zk k) fs Zk (n+1) 227 [.str a,.str s] H=.ret (.str (a++s)) H:=by
 obtain⟨H',e,g⟩:=o8 E (n:=898) (H:=H) hs;exact Yh (r:=0) rfl rfl e g (rfl) hk
def o9(E:Env Zq fs Zk){a:Zd}(hs:a.length+s.length<=90000)(h4:4<=s.length):
  ∃H',ZA (LK Zq fs Zk 0) fs Zk (n+2) 228 [.str a,.str s] H=.ret (.str (a++s.drop 4)) H'∧Zu H H' []:=by
 rw[Z5 E.f228 (.inl (by decide))];have ad:=λG=>Q1 (a:=a) (b:=s.drop 4) (by rw[Ye];omega) G;simp(disch:=omega) only[ad,Vy,Zhw,ZG,Yj,Zz,Yc,Yg];refine⟨_,rfl,?_⟩;exact Zu.refl _ _
def ZhB(E:Env Zq fs Zk)(hk:1<=k){a:Zd}(hs:a.length+s.length<=90000)(h4:4<=s.length):
  ZA (LK Zq fs Zk k) fs Zk (n+1) 228 [.str a,.str s] H=.ret (.str (a++s.drop 4)) H:=by
 obtain⟨H',e,g⟩:=o9 E (n:=898) (H:=H) hs h4;exact Yh (r:=0) rfl rfl e g (rfl) hk
def na(E:Env Zq fs Zk){a:Zd}(hs:a.length<=90000):
  ∃H',ZA (LK Zq fs Zk 3) fs Zk (n+2) 229 [.str a,.str s] H=.ret (.str (Cd a)) H'∧Zu H H' []:=by
 rw[Z5 E.f229 (.inl (by decide))];have e1:=λ{j}=>ZgJ E (k:=3) (n:=j) (by decide) (s:=a) (p:=[47]) (H:=H) hs;rw[Zfj] at e1;simp only[e1,Zhx,ZG,Yj,Zz,Yg];refine⟨_,rfl,?_⟩;exact Zu.refl _ _
def ZhC(E:Env Zq fs Zk)(hk:4<=k){a:Zd}(hs:a.length<=90000):
  ZA (LK Zq fs Zk k) fs Zk (n+1) 229 [.str a,.str s] H=.ret (.str (Cd a)) H:=by
 obtain⟨H',e,g⟩:=na E (n:=898) (H:=H) hs;exact Yh (r:=3) rfl rfl e g (rfl) hk
def Zes(e sz bytes:Nat)(zs:List AV)(l c:AV)(H:Heap):OR:=SA l λl=>SA c λc=>ZJ (Nat.ble 1 sz)<|ZJ (Nat.ble l c) (ZJ (Nat.ble c 140737488355328)<|ZJ (Nat.ble (Nat.mul c bytes) 140737488355328) (jR H e sz l c zs))
def Jd(e sz bytes:Nat)(zs:List AV)(l c:WI)(tm:TM)(H:Heap):Jc e sz bytes zs l c tm H=Zes e sz bytes zs (l tm) (c tm) H:=rfl
def mq{e bytes:Nat}{z:AV}(h:n*bytes<=140737488355328)(h1:n<=140737488355328)(k k':IntKind)(H:Heap):Zes e 1 bytes [z] (nI k n) (nI k' n) H=.val (.slice H.nx 0 n none) (H.new (.row ⟨e,1,n,.leaf,z,0,false,true,true⟩)):=by
 show ZJ (Nat.ble 1 1) (ZJ (Nat.ble n n) (ZJ (Nat.ble n 140737488355328) (ZJ (Nat.ble (n*bytes) 140737488355328) (jR H e 1 n n [z]))))=_;rw[Zj (Zs n),Zj h1,Zj h];rfl
def tx(H:Heap)(b:Nat)(l:List (Zd)):Prop:= ∃r,H.t.get b=some (.row r)∧r.sz=1∧r.size=l.length∧(r.own=true∧r.fz=0)∧b<H.nx∧ ∀i,i<l.length->r.get i=.str (l.getD i [])
def tx.keep{H H':Heap}{l:List (Zd)}(h:tx H b l)(k:Zu H H' []):tx H' b l:=by
 obtain⟨r,h1,h2,h3,h4,h5,h6⟩:=h;exact⟨r,by rw[k.get _ h5 (by simp)];exact h1,h2,h3,h4,ZK h5 k.nx,h6⟩
def wN{m:Nat}{r:Row}(g:H.t.get b=some (.row r))(hz:r.sz=1)(hs:r.size=n)(hm:m<=n)(h0:0<n)(k:IntKind):Uo 1 (.slice b 0 n none) none (some (nI k m)) H=.val (.slice b 0 m none) H:=by
 show Yx H b _=_;unfold Yx;rw[g];have e1:Oa r 1 none=true:=by show Nat.beq r.sz 1=true;rw[hz];rfl
 have e2:Wa r 0 none=n:=by show cond (Nat.beq r.sz 1) (r.size - 0) _=_;rw[hz,hs];rfl
 show ZJ (Oa r 1 none) (OU (some (nI k m)) n (Wa r 0 none) λh=>OU none 0 h λl=>ZJ (Nat.ble l (Wa r 0 none)) (cond (Nat.beq l (Wa r 0 none)) _ _))=_;rw[e1,e2];show ZJ (Nat.ble m n) (ZJ (Nat.ble 0 n) (cond (Nat.beq 0 n) _ (OR.val (.slice b (0+0*1) (m - 0) none) H)))=_;rw[Zj hm,Zj (ZN n),show Nat.beq 0 n=false by rw[Yl];exact Zc (by omega)];rfl
structure GSI(s:Zd)(H0:Heap)(m:Nat)(tm:TM)(H:Heap):Prop where
 t1:Xn tm=.str [47]
 t2:Va tm=nI .i64 0
 t3:V0 tm=nI .i64 (Xv 47 s 0)
 t9:Wv tm=.slice H0.nx 0 (Xv 47 s 0+1) none
 i: ∃i u,YH tm=nI .i64 i∧Z6 tm=.str u∧i+m=Xv 47 s 0∧(Yv s).drop i=Yv u∧u.length<=s.length∧
  ∃r,H.t.get H0.nx=some (.row r)∧r.sz=1∧r.size=Xv 47 s 0+1∧r.fz=0∧r.own=true∧ ∀k,k<i->r.get k=.str ((Yv s).getD k [])
 k:Zu H0 H []
 nx:H.nx=H0.nx+1
def GSQ(s:Zd)(H0:Heap)(o:Out)(tm:TM)(H:Heap):Prop:=o=.exit 0∧GSI s H0 0 tm H
def yF{α:Type}{l:List α}{a:α}{b:List α}(d:α)(h:l.drop i=a::b):l.getD i d=a∧l.drop (i+1)=b:=by
 have h1:(l.drop i)[0]? =some a:=by rw[h];rfl
 rw[Y8,Zo] at h1;refine⟨by rw[Ze,h1];rfl,?_⟩;rw[<-Sj,h];rfl
def ZdD(E:Env Zq fs Zk)(hk:3<=k)(hs:s.length<=90000)(hro:H0.ro<=H0.nx)(y f dd q)(X0:X)(m:Nat)(tm:TM)(H:Heap)(hI:GSI s H0 m tm H):
  ∃o tm' H',GD ⟨ZA (LK Zq fs Zk k) fs Zk (n+1),y,f,dd,q⟩ tm H X0=.ok o tm' H' X0∧((o=.normal∧ ∃k,k<m∧GSI s H0 k tm' H')∨(o≠.normal∧GSQ s H0 o tm' H')):=by
 have hI':=hI;obtain⟨t1,t2,t3,t9,⟨i,u,t10,t0,him,hd,hul,r,g,hz,hsz,hfz,how,hg⟩,k0,hnx⟩:=hI;have t1':=t1;have t2':=t2;have D7:=t3;have t9':=t9;simp only[Pa,Kp,zU,Il,fx,Du] at t0 t1 t2 t3 t9 t10;have hc:=vI 47 s;cases m with
 |zero=>
  have d1:decide (i<Xv 47 s 0)=false:=Zc (by omega);simp only[t3,t10,d1,ZE,GD,ZG,Yj,Yg,UH];refine⟨_,_,_,rfl,.inr ⟨by simp,?_⟩⟩;obtain⟨a,b,cc,dx,⟨i',u',e1,e2,rest⟩,ee,ff⟩:=hI';exact⟨rfl,a,b,cc,dx,⟨i',u',e1,e2,rest⟩,ee,ff⟩
 |succ m=>
  have d1:decide (i<Xv 47 s 0)=true:=Zi (by omega);have hlen:(Yv u).length=Xv 47 s 0+1 - i:=by rw[<-hd,Ye,P9]
  cases hj:W2 47 u with
  |zero=>rw[LX hj] at hlen;simp at hlen;omega
  |succ j=>
   obtain⟨j1,_⟩:=vS hj;have e1:=λ{q}=>index E (k:=k) (n:=q) hk (H:=H) (s:=u);rw[hj,ZaM] at e1;have d2:decide (j<0)=false:=Zc (by omega);have sp:=EU hj;rw[sp] at hd;obtain⟨hd1,hd2⟩:=yF [] hd;have wl:([47]:Zd).length=1:=rfl;have sf:=λ(G:Heap) (hG:G.ro<=H0.nx)=>Qa (r:=r) (b:=H0.nx) (o:=i) (v:=.str (u.take j)) (H:=G) rfl (by omega) how hG (by omega);have sf:=sf H (by rw[k0.ro];exact hro);simp(disch:=omega) only[t0,t1,t2,t3,t9,t10,d1,d2,e1,wl,g,sf,XP,Zl,Zo,ZE,Y0,ZZ,Vy,Tj,GD,ZG,Yj,Yc,Yg,UH];refine⟨_,_,_,rfl,.inl ⟨rfl,m,by omega,t1',t2',D7,t9',⟨i+1,u.drop (j+1),rfl,rfl,by omega,hd2,by rw[Ye];omega,r.st i (.str (u.take j)),Yp ..,hz,hsz,hfz,how,λq hq=>?_⟩,k0.then_put (λh=>by omega),by rw[N9];exact hnx⟩⟩;rw[Row.st_get]
   by_cases h:i=q
   ·subst h;rw[if_pos rfl,hd1]
   ·rw[if_neg h,hg q (by omega)]
def fj(E:Env Zq fs Zk)(hk:3<=k)(hs:s.length<=90000)(hro:H.ro<=H.nx):
  ∃H',ZA (LK Zq fs Zk k) fs Zk (n+2) 129 [.str s,.str [47],nI .i64 0,.int .i64 (.negSucc 0)] H=.ret (.slice H.nx 0 (Yv s).length none) H'∧tx H' H.nx (Yv s)∧Zu H H' []∧H'.nx=H.nx+1:=by
 rw[Z5 E.f129 (.inr rfl)];have hc:=vI 47 s;have ec:=λ{j}=>count E (k:=k) (n:=j) (by omega) (H:=H) (s:=s);have Zp9: ∀G,NL WX false (.int .i64 (.negSucc 0)) (nI .i64 0) G=.val (.bool false) G:=λ_=>rfl;have negl: ∀G,T2 XF Yt (.int .i64 (.negSucc 0)) (nI .i64 0) G=.val (.bool true) G:=λ_=>rfl;have mn:min (Xv 47 s 0+1) (s.length+1)=Xv 47 s 0+1:=by omega
 have ml:=λG=>mq (e:=9) (bytes:=16) (n:=Xv 47 s 0+1) (z:=.str []) (by omega) (by omega) .i64 .i64 G;simp(disch:=omega) only[ec,Zp9,negl,N3,mn,Jd,ml,X8,Wi,Wz,Y0,ZZ,decide_false,Zhf,ZG,Yj,reduceCtorEq,Yg,UH];generalize hL:Vq (GD _) Zk _ _ _=L;obtain⟨o,OS,H1,rfl,_,rfl,z⟩:=YP (P:=λT=>GSI s H (Xv 47 s 0) T (H.new (.row ⟨9,1,Xv 47 s 0+1,.leaf,.str [],0,false,true,true⟩))) (Q:=GSQ s H)
  (λT hi=>Y5 (GSI s H) (GSQ s H) (λm tm H1 h=>ZdD E hk hs hro _ _ _ _ _ m tm H1 h) Zk (Xv 47 s 0) T _ (by have:=E.big;omega) hi) hL
  (by exact⟨rfl,rfl,rfl,rfl,⟨0,s,rfl,rfl,by omega,rfl,Zs _,_,ZR rfl _,rfl,rfl,rfl,rfl,λk hk=>by omega⟩,Zu.new _ _ _,rfl⟩)
 obtain⟨t1,t2,t3,t9,⟨i,u,t10,t0,him,hd,hul,r,g,hz,hsz,hfz,how,hg⟩,k0,hnx⟩:=z;simp only[Pa,fx,Du] at t0 t9 t10;obtain rfl:i=Xv 47 s 0:=by omega
 have hlen:(Yv u).length=1:=by rw[<-hd,Ye,P9];omega
 have hu:Yv u=[u]:=by
  cases hj:W2 47 u with
  |zero=>exact LX hj
  |succ j=>
   have:=EU hj;have h2:=Ws.2 (RA (u.drop (j+1)));rw[this,ZL] at hlen;omega
 rw[hu] at hd;obtain⟨hd1,_⟩:=yF [] hd;have sf:=Qa (r:=r) (b:=H.nx) (o:=Xv 47 s 0) (v:=.str u) (H:=H1) rfl (by omega) how (by rw[k0.ro];exact hro) (by omega);have sl:=wN (H:=H1.put H.nx (.row (r.st (Xv 47 s 0) (.str u)))) (b:=H.nx) (n:=Xv 47 s 0+1) (m:=Xv 47 s 0+1) (r:=r.st (Xv 47 s 0) (.str u)) (Yp ..) hz hsz (Zs _) (by omega) .i64;simp(disch:=omega) only[t0,t9,t10,g,sf,sl,XP,Zl,Y0,ZG,Yj,Zz,Yc,Yg,UH,KA];rw[P9];refine⟨_,rfl,⟨_,Yp ..,hz,by rw[P9];exact hsz,⟨how,hfz⟩,by rw[N9];omega,λq hq=>?_⟩,k0.then_put (λh=>by omega),by rw[N9];exact hnx⟩;rw[P9] at hq;rw[Row.st_get]
 by_cases h:Xv 47 s 0=q
 ·subst h;rw[if_pos rfl,hd1]
 ·rw[if_neg h,hg q (by omega)]
def lF(E:Env Zq fs Zk)(hk:3<=k)(hs:s.length<=90000)(hro:H.ro<=H.nx):
  ∃H',ZA (LK Zq fs Zk k) fs Zk (n+3) 102 [.str s,.str [47]] H=.ret (.slice H.nx 0 (Yv s).length none) H'∧tx H' H.nx (Yv s)∧Zu H H' []∧H'.nx=H.nx+1:=by
 rw[Z5 E.f102 (.inr rfl)];obtain⟨H',e1,r1⟩:=fj E (n:=n) hk hs hro;refine⟨H',?_,r1⟩;simp only[e1,Zg0,ZG,Yj,Zz,Yg]
def vw(H:Heap)(v:AV)(l:List (Zd)):Prop:=(v=.nils∧l=[])∨ ∃b,v=.slice b 0 l.length none∧0<l.length∧tx H b l
def vw.keep{H H':Heap}{v:AV}{l:List (Zd)}(h:vw H v l)(k:Zu H H' []):vw H' v l:=by
 rcases h with h|⟨b,h1,h2,h3⟩
 ·exact .inl h
 ·exact .inr ⟨b,h1,h2,h3.keep k⟩
def vw.len{v:AV}{l:List (Zd)}(h:vw H v l)(G:Heap):Kq v G=.val (nI .i64 l.length) G:=by
 rcases h with⟨rfl,rfl⟩|⟨b,rfl,_⟩
 ·rfl
 ·exact WH ..
def mP(E:Env Zq fs Zk)(hk:3<=k)(hs:s.length<=90000)(hro:H.ro<=H.nx):
  ∃v H',ZA (LK Zq fs Zk k) fs Zk (n+4) 71 [.str s] H=.ret v H'∧vw H' v (SH s)∧Zu H H' []:=by
 rw[Z5 E.f71 (.inr rfl)];unfold SH
 by_cases h:s=[]
 ·have d1:decide (s=[])=true:=Zi h
  rw[if_pos h];simp only[d1,Wi,c71,ZG,Yj,Zz,Yg];exact⟨_,_,rfl,.inl ⟨rfl,rfl⟩,Zu.refl _ _⟩
 ·have d1:decide (s=[])=false:=Zc h
  rw[if_neg h];obtain⟨H',e1,r1,k1,_⟩:=lF E (n:=n) hk hs hro;simp only[d1,e1,Wi,c71,ZG,Yj,Zz,Yg];exact⟨_,_,rfl,.inr ⟨_,rfl,Ws.2 (RA s),r1⟩,k1⟩
def qx(e:Nat)(tm:TM)(H:Heap):VN e L9 tm H=.val (.ptr H.nx 0) (H.new (rG e 1 L9 0 false true true)):=by
 rw[Av _ _ (by rw[Yw];unfold L9;rw[ZB];decide)];rfl
theorem qd{v:AV}(hv:WZ n v=true): ∀{l:List AV} {i:Nat},Pu n l=true->Pu n (l.set i v)=true
 |[],_,h=>h
 |a::l,0,h=>by
  have h:cond (WZ n a) (Pu n l) false=true:=h;show cond (WZ n v) (Pu n l) false=true;rw[hv];cases ha:WZ n a with
  |false=>rw[ha] at h;cases h
  |true=>rw[ha] at h;exact h
 |a::l,i+1,h=>by
  have h:cond (WZ n a) (Pu n l) false=true:=h;show cond (WZ n a) (Pu n (l.set i v)) false=true;cases ha:WZ n a with
  |false=>rw[ha] at h;cases h
  |true=>rw[ha] at h;exact qd hv h
def Zb2(n:Nat)(cs:Zd):Pu n (Pv cs)=true:=by
 unfold Pv;have: ∀(cs:Zd) (L:List AV),Pu n L=true->Pu n (cs.foldl (λL c=>L.set c.toNat (.bool true)) L)=true:=by
  intro cs
  induction cs with
  |nil=>intro L h;exact h
  |cons c cs ih=>intro L h;exact ih _ (qd rfl h)
 refine this cs L9 ?_;unfold L9;have r: ∀m,Pu n (List.replicate m (AV.bool false))=true:=by
  intro m
  induction m with
  |zero=>rfl
  |succ m ih=>rw[XY];exact ih
 exact r 256
structure QZ(cs:Zd):Prop where
 lo:2<=cs.length
 hi:cs.length<=3
 lt: ∀c∈cs,c.toNat<128
def QZ.at_{cs:Zd}(h:QZ cs)(hi:i<cs.length):(cs.getD i 0).toNat<128:=by
 rw[Ze,Zm hi];exact h.lt _ (XD hi)
def QZ.fst{cs:Zd}(h:QZ cs){x:Nat}(hx:128<=x):W2 x cs=0:=Qj.2 λc hc=>by have:=h.lt c hc;omega
def QZ.fstd{cs:Zd}(h:QZ cs){x:Nat}(hx:128<=x):W2 x (cs.drop i)=0:=Qj.2 λc hc=>by have:=h.lt c (Ua hc);omega
structure MSI(cs:Zd)(H0:Heap)(m:Nat)(tm:TM)(H:Heap):Prop where
 t0:Z6 tm=.str cs
 t2:Va tm=.ptr H0.nx 0
 i: ∃i,Xo tm=nI .i64 i∧i+m=cs.length∧H.t.get H0.nx=some (rH 153 (Pv (cs.take i)))
 k:Zu H0 H []
 nx:H0.nx<H.nx
def MSQ(cs:Zd)(H0:Heap)(o:Out)(tm:TM)(H:Heap):Prop:=o=.exit 0∧Va tm=.ptr H0.nx 0∧H.t.get H0.nx=some (rH 153 (Pv cs))∧Zu H0 H []∧H0.nx<H.nx
def Zeu{cs:Zd}(ha:QZ cs)(hro:H0.ro<=H0.nx)(cx:Ctx)(X0:X)(m:Nat)(tm:TM)(H:Heap)(hI:MSI cs H0 m tm H):
  ∃o tm' H',Gz cx tm H X0=.ok o tm' H' X0∧((o=.normal∧ ∃k,k<m∧MSI cs H0 k tm' H')∨(o≠.normal∧MSQ cs H0 o tm' H')):=by
 obtain⟨t0,t2,⟨i,t4,him,g⟩,k0,hnx⟩:=hI;have t0':=t0;have t2':=t2;simp only[Pa,zU,Pt] at t0 t2 t4;have h3:=ha.hi;cases m with
 |zero=>
  have d1:decide (i<cs.length)=false:=Zc (by omega);simp only[t0,t4,d1,ZE,ZZ,Gz,ZG,Yj,Yg];rw[Z1 (by omega)] at g;refine⟨_,_,_,rfl,?_⟩;exact .inr ⟨by simp,rfl,t2',g,k0,hnx⟩
 |succ m=>
  have d1:decide (i<cs.length)=true:=Zi (by omega);have hx:=ha.at_ (i:=i) (by omega);have d2:decide (128<=(cs.getD i 0).toNat)=false:=Zc (by omega);have hl:=FJ (cs.take i);have hl2:(cs.getD i 0).toNat<(Pv (cs.take i)).length:=by rw[hl];omega
  have sf:=Te (v:=.bool true) (b:=H0.nx) (H:=H) rfl hl2 (by rw[k0.ro];exact hro) (ZN _) 153 1 false true;simp(disch:=omega) only[t0,t2,t4,d1,d2,g,sf,X7,Yr,ZE,Y0,ZZ,PT,Zl,Gz,ZG,Yj,Yg];refine⟨_,_,_,rfl,?_⟩;exact .inl ⟨rfl,m,by omega,t0',t2',⟨i+1,rfl,by omega,by rw[Ia (by omega),dL];exact Yp ..⟩,k0.then_put (λh=>by omega),by rw[N9];exact hnx⟩
def eH(E:Env Zq fs Zk){cs:Zd}(ha:QZ cs)(hro:H.ro<=H.nx):
  ∃H',ZA (LK Zq fs Zk 0) fs Zk (n+2) 106 [.str cs] H=.ret (.tup [.agg (Pv cs),.bool true]) H'∧Zu H H' []:=by
 rw[Z5 E.f106 (.inl (by decide))];simp only[qx,Zg2,ZG,Yg];generalize hL:Vq (Gz _) Zk _ _ _=L;have h3:=ha.hi;obtain⟨o,OS,H1,rfl,_,rfl,t2,g,k0,hnx⟩:=YP (P:=λT=>MSI cs H cs.length T (H.new (rH 153 L9))) (Q:=MSQ cs H)
  (λT hi=>Y5 (MSI cs H) (MSQ cs H) (λm tm H1 h=>Zeu ha hro _ _ m tm H1 h) Zk cs.length T _ (by have:=E.big;omega) hi) hL
  (by exact⟨rfl,rfl,⟨0,rfl,by omega,ZR rfl _⟩,Zu.new _ _ _,ZU _⟩)
 simp only[zU] at t2;have hl:=FJ cs;have sf:=TL (n:=256) (b:=H.nx) (l:=Pv cs) (vs:=Pv cs) (H:=H1) hl hl (by decide) (by rw[k0.ro];exact hro) 153 1 false true;have ld: ∀G,zI 256 (some (rH 153 (Pv cs))) 0 G=.val (.agg (Pv cs)) G:=λG=>by
  rw[Tg (by rw[hl];decide)];rw[YL,Z1 (by rw[hl];decide)]
 have rv: ∀k,rV 256 true (some (rH 153 (Pv cs))) 0 k=k (.agg (Pv cs)):=λk=>ZbL hl k;simp only[t2,g,sf,ld,rv,ZG,Yj,Zz,Yg];refine⟨_,rfl,?_⟩;exact k0.then_put (λh=>by omega)
def ZlG(E:Env Zq fs Zk)(hk:1<=k){cs:Zd}(ha:QZ cs)(hro:H.ro<=H.nx):
  ZA (LK Zq fs Zk k) fs Zk (n+1) 106 [.str cs] H=.ret (.tup [.agg (Pv cs),.bool true]) H:=by
 obtain⟨H',e,g⟩:=eH E (n:=898) (H:=H) ha hro;exact Yh (r:=0) rfl rfl e g (by
  show cond (Pu 0 (Pv cs)) _ false=true
  rw[Zb2];rfl) hk
def gL(E:Env Zq fs Zk){cs:Zd}{x:UInt8}(g:H.t.get b=some (rH 153 (Pv cs))):
  ∃H',ZA (LK Zq fs Zk 0) fs Zk (n+2) 107 [.ptr b 0,nI .u8 x.toNat] H=.ret (.bool (decide (x∈cs))) H'∧Zu H H' []:=by
 rw[Z5 E.f107 (.inl (by decide))];have hx:=x.toNat_lt;have hl:=FJ cs;have hl2:x.toNat<(Pv cs).length:=by rw[hl];exact hx
 have sg:=Zb1 cs (x:=x);have ld: ∀G,ld1 (some (rH 153 (Pv cs))) x.toNat G=.val (.bool (decide (x∈cs))) G:=λG=>by rw[XQ hl2,sg]
 simp(disch:=omega) only[g,ld,PT,Zl,Zg3,ZG,Yj,Zz,Yg];refine⟨_,rfl,?_⟩;exact Zu.refl _ _
def Zkq(E:Env Zq fs Zk)(hk:1<=k){cs:Zd}{x:UInt8}(g:H.t.get b=some (rH 153 (Pv cs))):
  ZA (LK Zq fs Zk k) fs Zk (n+1) 107 [.ptr b 0,nI .u8 x.toNat] H=.ret (.bool (decide (x∈cs))) H:=by
 obtain⟨H',e,g⟩:=gL E (n:=898) (H:=H) g;exact Yh (r:=0) rfl rfl e g (rfl) hk
def li(E:Env Zq fs Zk){x:Nat}:
  ∃H',ZA (LK Zq fs Zk 0) fs Zk (n+2) 105 [nI .i64 x] H=.ret (.bool (decide (8<x))) H'∧Zu H H' []:=by
 rw[Z5 E.f105 (.inl (by decide))];simp only[Yn,Zg1,ZG,Yj,Zz,Yg];refine⟨_,rfl,?_⟩;exact Zu.refl _ _
def Zjq(E:Env Zq fs Zk)(hk:1<=k){x:Nat}:
  ZA (LK Zq fs Zk k) fs Zk (n+1) 105 [nI .i64 x] H=.ret (.bool (decide (8<x))) H:=by
 obtain⟨H',e,g⟩:=li E (n:=898) (H:=H);exact Yh (r:=0) rfl rfl e g (rfl) hk
def lU(E:Env Zq fs Zk){x:Nat}(h1:128<=x)(h2:x<=1114111):
  ∃H',ZA (LK Zq fs Zk 0) fs Zk (n+2) 130 [nI .i32 x] H=.ret (.bool (decide (x<55296)||decide (57343<x))) H'∧Zu H H' []:=by
 rw[Z5 E.f130 (.inl (by decide))];have d3:decide (x<=1114111)=true:=Zi h2
 by_cases h:x<55296
 ·have d1:decide (x<55296)=true:=Zi h
  rw[d1,Bool.true_or];simp only[d1,Y4,ZE,ZN,decide_true,bc,ZG,Yj,Zz,Yg];refine⟨_,rfl,?_⟩;exact Zu.refl _ _
 ·have d1:decide (x<55296)=false:=Zc h
  rw[d1,Bool.false_or]
  by_cases h':57343<x
  ·have d2:decide (57343<x)=true:=Zi h'
   rw[d2];simp only[d1,d2,d3,Y4,ZE,ZN,decide_true,bc,ZG,Yj,Zz,Yg];refine⟨_,rfl,?_⟩;exact Zu.refl _ _
  ·have d2:decide (57343<x)=false:=Zc h'
   rw[d2];simp only[d1,d2,Y4,ZE,ZN,decide_true,bc,ZG,Yj,Zz,Yg];refine⟨_,rfl,?_⟩;exact Zu.refl _ _
def ZjD(E:Env Zq fs Zk)(hk:1<=k){x:Nat}(h1:128<=x)(h2:x<=1114111):
  ZA (LK Zq fs Zk k) fs Zk (n+1) 130 [nI .i32 x] H=.ret (.bool (decide (x<55296)||decide (57343<x))) H:=by
 obtain⟨H',e,g⟩:=lU E (n:=898) (H:=H) h1 h2;exact Yh (r:=0) rfl rfl e g (rfl) hk
def Zgr(a:AV)(H:Heap):OR:=Qo a λ_ n=>.val (.str (Utf8.encode n).data.toList) H
def qL(x:WI)(tm:TM)(H:Heap):j6 x tm H=Zgr (x tm) H:=rfl
def iq(a:AV)(H:Heap):OR:=OD a λs=>.val (.ptr H.nx 0) (H.new (.siter s 0))
def AF(x:WI)(tm:TM)(H:Heap):CA x tm H=iq (x tm) H:=rfl
def DL(s:Zd)(H:Heap):iq (.str s) H=.val (.ptr H.nx 0) (H.new (.siter s 0)):=rfl
def jV(o:Option Obj)(b:Nat)(H:Heap):OR:=ZJ (Nat.ble H.ro b)<|match o with
 |some o=>km o λs pos=>cond (Nat.ble (Nat.succ pos) (YN s)) (match Utf8.decode ⟨s.toArray⟩ pos with|(c,w)=>.val (.tup [.bool true,.int .i64 (.ofNat pos),.int .i32 c]) (H.put b (.siter s (Nat.add pos w)))) (.val (.tup [.bool false]) H)
 |none=>.fail
def Zgi(a:AV)(H:Heap):OR:=Qp a λb o=>ZJ (Nat.beq o 0)<|jV (H.t.get b) b H
def Lb(x:WI)(tm:TM)(H:Heap):j0 x tm H=Zgi (x tm) H:=by
 show Qp (x tm) _=Qp (x tm) _
 congr 1
def M8(b:Nat)(H:Heap):Zgi (.ptr b 0) H=jV (H.t.get b) b H:=rfl
def As{r w:Nat}(hro:H.ro<=b)(h:i<s.length)(hd:Utf8.decode ⟨s.toArray⟩ i=(r,w)):
  jV (some (.siter s i)) b H=.val (.tup [.bool true,nI .i64 i,nI .i32 r]) (H.put b (.siter s (i+w))):=by
 show ZJ (Nat.ble H.ro b) (cond (Nat.ble (Nat.succ i) (YN s)) (match Utf8.decode ⟨s.toArray⟩ i with|(c,w)=>OR.val (.tup [.bool true,.int .i64 (.ofNat i),.int .i32 c]) (H.put b (.siter s (Nat.add i w)))) _)=_;rw[Zj hro,Yw,Zj (show Nat.succ i<=s.length from h),hd];rfl
def xC(hro:H.ro<=b)(h:s.length<=i):jV (some (.siter s i)) b H=.val (.tup [.bool false]) H:=by
 have e:Nat.ble (Nat.succ i) s.length=false:=by
  cases hq:Nat.ble (Nat.succ i) s.length with
  |false=>rfl
  |true=>have:=ZS hq;have:i+1<=s.length:=this;omega
 show ZJ (Nat.ble H.ro b) (cond (Nat.ble (Nat.succ i) (YN s)) _ _)=_;rw[Zj hro,Yw,e];rfl
structure SI0(cs:Zd)(H0:Heap)(m:Nat)(tm:TM)(H:Heap):Prop where
 t175:jr tm=.ptr H0.nx 0
 g: ∃i,i+m=cs.length∧H.t.get H0.nx=some (.siter cs i)
 k:Zu H0 H []
def SQ0(H0:Heap)(o:Out)(tm:TM)(H:Heap):Prop:=o=.exit 9∧Zu H0 H []
def Zd0{cs:Zd}(ha:QZ cs)(hro:H0.ro<=H0.nx)(cx:Ctx)(X0:X)(m:Nat)(tm:TM)(H:Heap)(hI:SI0 cs H0 m tm H):
  ∃o tm' H',Gy cx tm H X0=.ok o tm' H' X0∧((o=.normal∧ ∃k,k<m∧SI0 cs H0 k tm' H')∨(o≠.normal∧SQ0 H0 o tm' H')):=by
 obtain⟨t,⟨i,him,g⟩,k0⟩:=hI;have t':=t;simp only[Zh3] at t;have hr:H.ro<=H0.nx:=by rw[k0.ro];exact hro
 cases m with
 |zero=>
  have ne:=xC (H:=H) (b:=H0.nx) (s:=cs) (i:=i) hr (by omega);simp only[t,g,ne,Lb,M8,Gy,ZG,Yj,ta];refine⟨_,_,_,rfl,?_⟩;exact .inr ⟨by simp,rfl,k0⟩
 |succ m=>
  have hx:=ha.at_ (i:=i) (by omega);have ne:=As (H:=H) (b:=H0.nx) (s:=cs) (i:=i) hr (by omega) (kS hx);have d1:decide ((cs.getD i 0).toNat=65533)=false:=Zc (by omega);simp only[t,g,ne,d1,YQ,Lb,M8,Gy,ZG,Yj,Yg,ta];refine⟨_,_,_,rfl,?_⟩;exact .inl ⟨rfl,m,by omega,t',⟨i+1,by omega,Yp ..⟩,k0.then_put (λh=>by omega)⟩
def Zao(E:Env Zq fs Zk){cs:Zd}{x:Nat}(hx:x<128):
  ∃H',ZA (LK Zq fs Zk 2) fs Zk (n+2) 104 [.str cs,nI .i32 x] H=.ret (mI (W2 x cs)) H'∧Zu H H' []:=by
 rw[Z5 E.f104 (.inl (by decide))];have e1:=λ{j}=>ZdW E (k:=2) (n:=j) (by decide) (s:=cs) (x:=x) (H:=H) (by omega);have d1:decide (x<128)=true:=Zi hx;simp(disch:=omega) only[e1,d1,Y4,ZE,MC,ZN,decide_true,oQ,ZG,Yj,Zz,Yg,ta];refine⟨_,rfl,?_⟩;exact Zu.refl _ _
def ZpL(E:Env Zq fs Zk)(hk:3<=k){cs:Zd}{x:Nat}(hx:x<128):
  ZA (LK Zq fs Zk k) fs Zk (n+1) 104 [.str cs,nI .i32 x] H=.ret (mI (W2 x cs)) H:=by
 obtain⟨H',e,g⟩:=Zao E (n:=898) (H:=H) hx;exact Yh (r:=2) rfl rfl e g (O2 _ _) hk
def fK(E:Env Zq fs Zk){cs:Zd}{x:Nat}(ha:QZ cs)(h1:128<=x)(h2:x<=1114111)(hro:H.ro<=H.nx):
  ∃H',ZA (LK Zq fs Zk 2) fs Zk (n+2) 104 [.str cs,nI .i32 x] H=.ret (mI 0) H'∧Zu H H' []:=by
 rw[Z5 E.f104 (.inl (by decide))];have d1:decide (x<128)=false:=Zc (by omega)
 by_cases hx:x=65533
 ·have d2:decide (x=65533)=true:=Zi hx
  simp only[d1,d2,Y4,ZE,YQ,ZN,decide_true,AF,DL,oQ,ZG,Yj,Yg,ta];generalize hL:Vq (Gy _) Zk _ _ _=L;have h3:=ha.hi;obtain⟨o,OS,H1,rfl,_,rfl,k0⟩:=YP (P:=λT=>SI0 cs H cs.length T (H.new (.siter cs 0))) (Q:=SQ0 H)
   (λT hi=>Y5 (SI0 cs H) (SQ0 H) (λm tm H1 h=>Zd0 ha hro _ _ m tm H1 h) Zk cs.length T _ (by have:=E.big;omega) hi) hL
   (by exact⟨rfl,⟨0,by omega,ZR rfl _⟩,Zu.new _ _ _⟩)
  simp only[ZG,Yj,Zz,Yg,];refine⟨_,rfl,?_⟩;exact k0
 ·have d2:decide (x=65533)=false:=Zc hx
  have ev:=λ{j}=>ZjD E (k:=2) (n:=j) (by decide) (H:=H) h1 h2;cases hv:(decide (x<55296)||decide (57343<x)) with
  |false=>
   rw[hv] at ev;simp only[d1,d2,ev,Y4,ZE,YQ,ZN,decide_true,oQ,ZG,Yj,Zz,Yc,Yg,ta];refine⟨_,rfl,?_⟩;exact Zu.refl _ _
  |true=>
   rw[hv] at ev;obtain⟨rs,er0,r1,r2,r3⟩:=bV h1;have er: ∀G,Zgr (nI .i32 x) G=.val (.str rs) G:=λG=>by
    show OR.val (.str (Utf8.encode (Int.ofNat x)).data.toList) G=_;rw[show(Int.ofNat x)=(x:Int) from rfl,er0]
   obtain⟨q,hq⟩: ∃q,rs.length=q+1:=⟨rs.length - 1,by omega⟩;rw[hq,X8] at r3;have r3':=(rs.getD q 0).toNat_lt;have eb:=λ{j}=>ZdW E (k:=2) (n:=j) (by decide) (H:=H) (s:=cs.drop (q+1)) (x:=(rs.getD q 0).toNat) (by omega);rw[ha.fstd r3] at eb;obtain⟨m,rfl⟩: ∃m,Zk=m+2:=⟨Zk - 2,by have:=E.big;omega⟩
   by_cases hl:q<cs.length
   ·have d3:decide (q<cs.length)=true:=Zi hl
    have hc:=ha.at_ hl;have d4:decide ((cs.getD q 0).toNat≠(rs.getD q 0).toNat)=true:=Zi (by omega);simp(disch:=omega) only[d1,d2,d3,d4,ev,er,hq,eb,P2,X8,X7,Y4,ZE,YQ,UI,Wz,Y0,ZZ,Vy,ZN,decide_true,ZaL,qL,oQ,vH,ZG,Yj,Zz,Yc,Xc,Yg,UH,ta];refine⟨_,rfl,?_⟩;exact Zu.refl _ _
   ·have d3:decide (q<cs.length)=false:=Zc hl
    simp(disch:=omega) only[d1,d2,d3,ev,er,hq,P2,X8,Y4,ZE,YQ,Wz,ZZ,ZN,decide_true,qL,oQ,vH,ZG,Yj,Zz,Yc,Yg,ta];refine⟨_,rfl,?_⟩;exact Zu.refl _ _
def Zlq(E:Env Zq fs Zk)(hk:3<=k){cs:Zd}{x:Nat}(ha:QZ cs)(h1:128<=x)(h2:x<=1114111)(hro:H.ro<=H.nx):
  ZA (LK Zq fs Zk k) fs Zk (n+1) 104 [.str cs,nI .i32 x] H=.ret (mI 0) H:=by
 obtain⟨H',e,g⟩:=fK E (n:=898) (H:=H) ha h1 h2 hro;exact Yh (r:=2) rfl rfl e g (O2 _ _) hk
structure IA0(s cs:Zd)(b:Nat)(H0:Heap)(m:Nat)(tm:TM)(H:Heap):Prop where
 heap:H=H0
 t0:Z6 tm=.str s
 t6:XL tm=.ptr b 0
 i: ∃i,Xt tm=nI .i64 i∧i+m=s.length∧ ∀j,j<i->s.getD j 0∉cs
def IQ(s cs:Zd)(e:Nat)(o:Out)(tm:TM):Prop:=(o=.ret∧ ∃p,Xo tm=nI .i64 p∧Gq cs s=p+1)∨(o=.exit e∧Gq cs s=0)
def Zak(E:Env Zq fs Zk){cs:Zd}(hs:s.length<=90000)(g:H0.t.get b=some (rH 153 (Pv cs)))(y f dd q)(X0:X)(m:Nat)(tm:TM)(H:Heap)(hI:IA0 s cs b H0 m tm H):
  ∃o tm' H',Eb ⟨ZA (LK Zq fs Zk 3) fs Zk (n+1),y,f,dd,q⟩ tm H X0=.ok o tm' H' X0∧((o=.normal∧ ∃k,k<m∧IA0 s cs b H0 k tm' H')∨(o≠.normal∧(H'=H0∧IQ s cs 0 o tm'))):=by
 obtain⟨rfl,t0,t6,i,t8,him,hn⟩:=hI;have t0':=t0;have Cl:=t6;simp only[Pa,re,G9] at t0 t6 t8;cases m with
 |zero=>
  have d1:decide (i<s.length)=false:=Zc (by omega);simp only[t0,t8,d1,ZE,ZZ,Eb,ZG,Yj,Yg,UH];refine⟨_,_,_,rfl,?_⟩;exact .inr ⟨by simp,rfl,.inr ⟨rfl,CW λj hj=>hn j (by omega)⟩⟩
 |succ m=>
  have d1:decide (i<s.length)=true:=Zi (by omega);have e1:=λ{j}=>Zkq E (k:=3) (n:=j) (by decide) (H:=H) (x:=s.getD i 0) g
  by_cases hx:s.getD i 0∈cs
  ·rw[Zi hx] at e1
   simp(disch:=omega) only[t0,t6,t8,d1,e1,X7,ZE,ZZ,Eb,ZG,Yj,Yg,UH];refine⟨_,_,_,rfl,?_⟩;exact .inr ⟨by simp,rfl,.inl ⟨rfl,i,rfl,vy (by omega) hx hn⟩⟩
  ·rw[Zc hx] at e1
   simp(disch:=omega) only[t0,t6,t8,d1,e1,X7,ZE,Y0,ZZ,Eb,ZG,Yj,Yg,UH];refine⟨_,_,_,rfl,.inl ⟨rfl,m,by omega,rfl,t0',Cl,i+1,rfl,by omega,λj hj=>?_⟩⟩
   by_cases h:j=i
   ·rw[h];exact hx
   ·exact hn j (by omega)
structure IA1(s cs:Zd)(H0:Heap)(m:Nat)(tm:TM)(H:Heap):Prop where
 t1:Xn tm=.str cs
 t45:Re tm=.ptr H0.nx 0
 i: ∃i,i+m=s.length∧H.t.get H0.nx=some (.siter s i)∧ ∀j,j<i->s.getD j 0∉cs
 k:Zu H0 H []
 nx:H0.nx<H.nx
def Zal(E:Env Zq fs Zk){cs:Zd}(ha:QZ cs)(hs:s.length<=90000)(hro:H0.ro<=H0.nx)(y f dd q)(X0:X)(m:Nat)(tm:TM)(H:Heap)(hI:IA1 s cs H0 m tm H):
  ∃o tm' H',Hk ⟨ZA (LK Zq fs Zk 3) fs Zk (n+1),y,f,dd,q⟩ tm H X0=.ok o tm' H' X0∧((o=.normal∧ ∃k,k<m∧IA1 s cs H0 k tm' H')∨(o≠.normal∧(Zu H0 H' []∧IQ s cs 2 o tm'))):=by
 obtain⟨t1,t45,⟨i,him,g,hn⟩,k0,hnx⟩:=hI;have t1':=t1;have Zmo:=t45;simp only[Kp,ZkY] at t1 t45;have hr:H.ro<=H0.nx:=by rw[k0.ro];exact hro
 cases m with
 |zero=>
  have ne:=xC (H:=H) (b:=H0.nx) (s:=s) (i:=i) hr (by omega);simp only[t45,g,ne,Lb,M8,Hk,ZG,Yj,UH];refine⟨_,_,_,rfl,?_⟩;exact .inr ⟨by simp,k0,.inr ⟨rfl,CW λj hj=>hn j (by omega)⟩⟩
 |succ m=>
  obtain⟨HP,hP⟩:=TO (H.put H0.nx (.siter s (i+1)))
  by_cases hlo:(s.getD i 0).toNat<128
  ·have ne:=As (H:=H) (b:=H0.nx) (s:=s) (i:=i) hr (by omega) (kS hlo)
   have e1:=λ{j}=>ZpL E (k:=3) (n:=j) (by decide) (H:=HP) (cs:=cs) (x:=(s.getD i 0).toNat) hlo;have kp:Zu H0 HP []:=by rw[<-hP];exact k0.then_put (λh=>by omega)
   by_cases hx:s.getD i 0∈cs
   ·have d1:decide (0<W2 (s.getD i 0).toNat cs)=true:=Zi (by
     cases h:W2 (s.getD i 0).toNat cs with
     |zero=>exact absurd rfl (Qj.1 h _ hx)
     |succ j=>omega)
    simp only[t1,t45,g,ne,hP,e1,d1,DB,Lb,M8,Hk,ZG,Yj,Yg,UH];refine⟨_,_,_,rfl,?_⟩;exact .inr ⟨by simp,kp,.inl ⟨rfl,i,rfl,vy (by omega) hx hn⟩⟩
   ·have d1:decide (0<W2 (s.getD i 0).toNat cs)=false:=Zc (by
     have:W2 (s.getD i 0).toNat cs=0:=Qj.2 λc hc e=>hx (by rw[<-Wj.1 e];exact hc)
     omega)
    simp only[t1,t45,g,ne,hP,e1,d1,DB,Lb,M8,Hk,ZG,Yj,Yg,UH];refine⟨_,_,_,rfl,.inl ⟨rfl,m,by omega,t1',Zmo,⟨i+1,by omega,by rw[<-hP];exact Yp ..,λj hj=>?_⟩,kp,by rw[<-hP,N9];exact hnx⟩⟩
    by_cases h:j=i
    ·rw[h];exact hx
    ·exact hn j (by omega)
  ·obtain⟨r,w,hd,r1,r2,w1,hw⟩:=ZhG (s:=s) (i:=i) (by omega) (by omega)
   have ne:=As (H:=H) (b:=H0.nx) (s:=s) (i:=i) hr (by omega) hd;have hwl:=hw (w - 1) (by omega);obtain⟨HQ,hQ⟩:=TO (H.put H0.nx (.siter s (i+w)));have kp:Zu H0 HQ []:=by rw[<-hQ];exact k0.then_put (λh=>by omega)
   have e1:=λ{j}=>Zlq E (k:=3) (n:=j) (by decide) (H:=HQ) (cs:=cs) (x:=r) ha r1 r2 (by rw[kp.ro,<-hQ,N9];omega);simp only[t1,t45,g,ne,hQ,e1,Vc,decide_false,DB,Lb,M8,Hk,ZG,Yj,Yg,UH];refine⟨_,_,_,rfl,.inl ⟨rfl,m+1 - w,by omega,t1',Zmo,⟨i+w,by omega,by rw[<-hQ];exact Yp ..,λj hj hm=>?_⟩,kp,by rw[<-hQ,N9];exact hnx⟩⟩
   by_cases h:j<i
   ·exact hn j h hm
   ·have h2:=hw (j - i) (by omega)
    rw[show i+(j - i)=j by omega] at h2;have:=ha.lt _ hm;omega
def Zam(E:Env Zq fs Zk){cs:Zd}(ha:QZ cs)(hs:s.length<=90000)(hro:H.ro<=H.nx):
  ∃H',ZA (LK Zq fs Zk 3) fs Zk (n+2) 74 [.str s,.str cs] H=.ret (mI (Gq cs s)) H'∧Zu H H' []:=by
 rw[Z5 E.f74 (.inl (by decide))];have h2:=ha.lo;have n0:decide (cs=[])=false:=Zc λe=>by rw[e] at h2;simp at h2
 have n1:decide (cs.length=1)=false:=Zc (by omega);have es:=λ{j}=>Zjq E (k:=3) (n:=j) (by decide) (H:=H) (x:=s.length)
 by_cases h8:8<s.length
 ·rw[Zi h8] at es
  have em:=λ{j}=>ZlG E (k:=3) (n:=j) (by decide) (H:=H) ha hro;have hl:=FJ cs;have hz:L9.length=256:=by unfold L9;rw[ZB]
  have sf:=λ(G:Heap) (hG:G.ro<=H.nx)=>TL (n:=256) (b:=H.nx) (l:=L9) (vs:=Pv cs) (H:=G) hz hl (by decide) hG 153 1 false true;have sf:=sf (H.new (rH 153 L9)) hro;rw[TJ rfl] at sf;obtain⟨H1,hH1⟩:=TO (H.new (rH 153 (Pv cs)));rw[hH1] at sf;simp only[n0,n1,es,em,qx,sf,YQ,Wi,ZZ,c74,ZG,Yj,Zz,Yg,UH];generalize hL:Vq (Eb _) Zk _ _ _=L;obtain⟨o,OS,H2,rfl,_,rfl,z⟩:=YP (P:=λT=>IA0 s cs H.nx H1 s.length T H1) (Q:=λo tm' H'=>H'=H1∧IQ s cs 0 o tm')
   (λT hi=>Y5 (IA0 s cs H.nx H1) (λo tm' H'=>H'=H1∧IQ s cs 0 o tm') (λm tm H2 h=>Zak E hs (by rw[<-hH1];exact ZR rfl _) _ _ _ _ _ m tm H2 h) Zk s.length T H1 (by have:=E.big;omega) hi) hL
   (by exact⟨rfl,rfl,rfl,0,rfl,by omega,λj hj=>by omega⟩)
  rcases z with⟨rfl,p,t4,e⟩|⟨rfl,e⟩
  ·simp only[Pt] at t4
   rw[e,ZaM];simp only[t4,ZG,Zz,Yg];refine⟨_,rfl,?_⟩;exact by rw[<-hH1];exact Zu.new _ _ _
  ·rw[e]
   simp only[ZG,Yj,Zz,Yg];refine⟨_,rfl,?_⟩;exact by rw[<-hH1];exact Zu.new _ _ _
 ·rw[Zc h8] at es
  simp only[n0,n1,es,YQ,Wi,ZZ,AF,DL,c74,ZG,Yj,Yg,UH];generalize hL:Vq (Hk _) Zk _ _ _=L;obtain⟨o,OS,H2,rfl,_,k2,z⟩:=YP (P:=λT=>IA1 s cs H s.length T (H.new (.siter s 0))) (Q:=λo tm' H'=>Zu H H' []∧IQ s cs 2 o tm')
   (λT hi=>Y5 (IA1 s cs H) (λo tm' H'=>Zu H H' []∧IQ s cs 2 o tm') (λm tm H2 h=>Zal E ha hs hro _ _ _ _ _ m tm H2 h) Zk s.length T _ (by have:=E.big;omega) hi) hL
   (by exact⟨rfl,rfl,⟨0,by omega,ZR rfl _,λj hj=>by omega⟩,Zu.new _ _ _,ZU _⟩)
  rcases z with⟨rfl,p,t4,e⟩|⟨rfl,e⟩
  ·simp only[Pt] at t4
   rw[e,ZaM];simp only[t4,ZG,Zz,Yg];refine⟨_,rfl,?_⟩;exact k2
  ·rw[e]
   simp only[ZG,Yj,Zz,Yg];refine⟨_,rfl,?_⟩;exact k2
def ZpK(E:Env Zq fs Zk)(hk:4<=k){cs:Zd}(ha:QZ cs)(hs:s.length<=90000)(hro:H.ro<=H.nx):
  ZA (LK Zq fs Zk k) fs Zk (n+1) 74 [.str s,.str cs] H=.ret (mI (Gq cs s)) H:=by
 obtain⟨H',e,g⟩:=Zam E (n:=898) (H:=H) ha hs hro;exact Yh (r:=3) rfl rfl e g (O2 _ _) hk
def gJ(E:Env Zq fs Zk){cs:Zd}(ha:QZ cs)(hs:s.length<=90000)(hro:H.ro<=H.nx):
  ∃H',ZA (LK Zq fs Zk 4) fs Zk (n+2) 50 [.str s,.str cs] H=.ret (.bool (MV cs s)) H'∧Zu H H' []:=by
 rw[Z5 E.f50 (.inl (by decide))];have e1:=λ{j}=>ZpK E (k:=4) (n:=j) (by decide) (H:=H) ha hs hro;rw[<-kg cs s];simp only[e1,DB,c50,ZG,Yj,Zz,Yg];refine⟨_,rfl,?_⟩;exact Zu.refl _ _
def bF(E:Env Zq fs Zk)(hk:5<=k){cs:Zd}(ha:QZ cs)(hs:s.length<=90000)(hro:H.ro<=H.nx):
  ZA (LK Zq fs Zk k) fs Zk (n+1) 50 [.str s,.str cs] H=.ret (.bool (MV cs s)) H:=by
 obtain⟨H',e,g⟩:=gJ E (n:=898) (H:=H) ha hs hro;exact Yh (r:=4) rfl rfl e g (rfl) hk
end
end
end Go.AI
