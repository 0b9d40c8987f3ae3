/- UTF-8, plainly and walked; numbers in words: walked: proved without conditions but those that each names. -/
import Derived.Test.YtbmjgbajoemnaaaGreatDoorP8
set_option maxRecDepth 1000000
set_option maxHeartbeats 0
set_option linter.unusedVariables false
set_option linter.unusedSimpArgs false
namespace Go.AI
open Go
noncomputable section
def U1(b:Nat):Nat:=if b<128 then 240 else if b<194 then 241 else if b<224 then 2 else if b=224 then 19 else if b=237 then 35 else if b<240 then 3 else if b=240 then 52 else if b<244 then 4 else if b=244 then 68 else 241
def js:List Nat:=(List.range 256).map U1
def T1:List Nat:=[128,191,160,191,128,159,144,191,128,143,0,0,0,0,0,0,0,0,0,0,0,0,0,0,0,0,0,0,0,0,0,0]
def XN(s:List UInt8)(i:Nat):Nat:=(s.getD i 0).toNat
def Tn(s:List UInt8):Nat:=
 let b:=XN s 0
 if b<128 then 1 else
 let x:=U1 b
 let lo:=T1.getD (x/16*2) 0
 let hi:=T1.getD (x/16*2+1) 0
 if x % 8=2 then(if s.length<2∨XN s 1<lo∨hi<XN s 1 then 0 else 2)
 else if x % 8=3 then(if s.length<3∨XN s 1<lo∨hi<XN s 1∨XN s 2<128∨191<XN s 2 then 0 else 3)
 else if x % 8=4 then(if s.length<4∨XN s 1<lo∨hi<XN s 1∨XN s 2<128∨191<XN s 2∨XN s 3<128∨191<XN s 3 then 0 else 4)
 else 0
def fW:Nat->List UInt8->Bool
 |0,_=>true
 |f+1,s=>if s.length=0 then true else if Tn s=0 then false else fW f (s.drop (Tn s))
def vu(s:List UInt8):Bool:=fW s.length s
theorem fq{s:List UInt8}(h:0<s.length):Tn s<=s.length:=by
 unfold Tn
 simp only
 split
 ·omega
 ·split
  ·split<;>omega
  ·split
   ·split<;>omega
   ·split
    ·split<;>omega
    ·omega
theorem uE: ∀(f g:Nat) (s:List UInt8),s.length<=f->s.length<=g->fW f s=fW g s
 |0,g,s,h,_=>by
  have:s.length=0:=by omega
  cases g with
  |zero=>rfl
  |succ g=>unfold fW;rw[if_pos this]
 |f+1,0,s,_,h=>by
  have:s.length=0:=by omega
  unfold fW;rw[if_pos this]
 |f+1,g+1,s,h,hg=>by
  unfold fW
  by_cases h0:s.length=0
  ·rw[if_pos h0,if_pos h0]
  ·rw[if_neg h0,if_neg h0]
   by_cases h1:Tn s=0
   ·rw[if_pos h1,if_pos h1]
   ·rw[if_neg h1,if_neg h1]
    exact uE f g _ (by rw[Yr];omega) (by rw[Yr];omega)
theorem r9:vu []=true:=rfl
theorem fX(f:Nat)(s:List UInt8):fW (f+1) s=if s.length=0 then true else if Tn s=0 then false else fW f (s.drop (Tn s)):=rfl
theorem DD{s:List UInt8}(h:0<s.length):vu s=if Tn s=0 then false else vu (s.drop (Tn s)):=by
 show fW s.length s=if Tn s=0 then false else fW (s.drop (Tn s)).length (s.drop (Tn s))
 obtain⟨n,hn⟩: ∃n,s.length=n+1:=⟨s.length - 1,by omega⟩
 rw[hn,fX,if_neg (by omega)]
 by_cases h1:Tn s=0
 ·rw[if_pos h1,if_pos h1]
 ·rw[if_neg h1,if_neg h1]
  exact uE n _ (s.drop (Tn s)) (by rw[Yr];omega) (Zl _)
theorem BV{s:List UInt8}(h:0<s.length)(h2:Tn s=0):vu s=false:=by rw[DD h,if_pos h2]
theorem DC{s:List UInt8}{n:Nat}(h:0<s.length)(h2:Tn s=n)(h3:n≠0):vu s=vu (s.drop n):=by rw[DD h,if_neg (by rw[h2];exact h3),h2]
theorem EV{s:List UInt8}(h:XN s 0<128):Tn s=1:=by unfold Tn;simp only;rw[if_pos h]
theorem K7(s:List UInt8)(n i:Nat):XN (s.drop n) i=XN s (n+i):=by
 unfold XN
 rw[Za,Xd,Za]
theorem K5: ∀(n:Nat) {s:List UInt8},n<=s.length->(∀i,i<n->XN s i<128)->vu s=vu (s.drop n)
 |0,s,_,_=>by rw[Z6]
 |n+1,s,h,ha=>by
  rw[DD (by omega),EV (ha 0 (by omega)),if_neg (by omega),K5 n (s:=s.drop 1) (by rw[Yr];omega) (λi hi=>by rw[K7];exact ha _ (by omega)),SZ,Nat.add_comm]
def w8(s:List UInt8):Nat:=
 XN s 0|||XN s 1*2^8 % 18446744073709551616|||XN s 2*2^16 % 18446744073709551616|||XN s 3*2^24 % 18446744073709551616|||XN s 4*2^32 % 18446744073709551616|||XN s 5*2^40 % 18446744073709551616|||XN s 6*2^48 % 18446744073709551616|||XN s 7*2^56 % 18446744073709551616
theorem NX(s:List UInt8)(i:Nat):XN s i<256:=(s.getD i 0).toNat_lt
theorem Za1{b k:Nat}(hk:k<=7)(h:(b*2^(8*k) % 18446744073709551616).testBit (8*k+7)=false)(hb:b<256):b<128:=by
 rw[show(18446744073709551616:Nat)=2^64 from rfl,Nat.testBit_mod_two_pow,Ze (by omega),Yz,Nat.testBit_mul_two_pow] at h
 have h:b.testBit 7=false:=by
  rw[Ze (by omega),Yz,show 8*k+7 - 8*k=7 by omega] at h;exact h
 rw[Nat.testBit_eq_decide_div_mod_eq] at h
 have:=of_decide_eq_false h
 omega
theorem Lu{s:List UInt8}(h: ∀k,k<8->(w8 s).testBit (8*k+7)=false): ∀i,i<8->XN s i<128:=by
 have e: ∀k,k<8-> ∀j,j<8->((XN s j)*2^(8*j) % 18446744073709551616).testBit (8*k+7)=false:=by
  intro k hk j hj
  have:=h k hk
  unfold w8 at this
  simp only[Nat.testBit_or,V5] at this
  obtain⟨⟨⟨⟨⟨⟨⟨a0,a1⟩,a2⟩,a3⟩,a4⟩,a5⟩,a6⟩,a7⟩:=this
  have hb:=NX s 0
  match j,hj with
  |0,_=>rw[Nat.mul_zero,Nat.pow_zero,Xw,Z7 (by omega)];exact a0
  |1,_=>exact a1
  |2,_=>exact a2
  |3,_=>exact a3
  |4,_=>exact a4
  |5,_=>exact a5
  |6,_=>exact a6
  |7,_=>exact a7
 intro i hi
 exact Za1 (by omega) (e i hi i hi) (NX s i)
theorem FP{x:Nat}(h:x&&&9259542123273814144=0): ∀k,k<8->x.testBit (8*k+7)=false:=by
 intro k hk
 have:(x&&&9259542123273814144).testBit (8*k+7)=false:=by rw[h];exact Nat.zero_testBit _
 rw[Nat.testBit_and] at this
 have hm: ∀k,k<8->(9259542123273814144:Nat).testBit (8*k+7)=true:=by decide
 rw[hm k hk,UE] at this
 exact this
theorem ZaZ{s:List UInt8}(h:w8 s&&&9259542123273814144=0): ∀i,i<8->XN s i<128:=Lu (FP h)
theorem kq{x y:Nat}(h:(x|||y)&&&9259542123273814144=0):(∀k,k<8->x.testBit (8*k+7)=false)∧ ∀k,k<8->y.testBit (8*k+7)=false:=by
 have:=FP h
 simp only[Nat.testBit_or,V5] at this
 exact⟨λk hk=>(this k hk).1,λk hk=>(this k hk).2⟩
theorem du{s:List UInt8}(h:(w8 s|||w8 (s.drop 8))&&&9259542123273814144=0): ∀i,i<16->XN s i<128:=by
 obtain⟨a,b⟩:=kq h
 intro i hi
 by_cases h8:i<8
 ·exact Lu a i h8
 ·have:=Lu b (i - 8) (by omega)
  rw[K7,show 8+(i - 8)=i by omega] at this;exact this
theorem dw{s:List UInt8}(h:(w8 s|||w8 (s.drop 8)|||(w8 (s.drop 16)|||w8 (s.drop 24)))&&&9259542123273814144=0): ∀i,i<32->XN s i<128:=by
 have:=FP h
 simp only[Nat.testBit_or,V5] at this
 intro i hi
 by_cases h8:i<8
 ·exact Lu (λk hk=>(this k hk).1.1) i h8
 by_cases h16:i<16
 ·have:=Lu (λk hk=>(this k hk).1.2) (i - 8) (by omega)
  rw[K7,show 8+(i - 8)=i by omega] at this;exact this
 by_cases h24:i<24
 ·have:=Lu (λk hk=>(this k hk).2.1) (i - 16) (by omega)
  rw[K7,show 16+(i - 16)=i by omega] at this;exact this
 ·have:=Lu (λk hk=>(this k hk).2.2) (i - 24) (by omega)
  rw[K7,show 24+(i - 24)=i by omega] at this;exact this
section
variable {Zp:Lib} {fs:T CF} {fuel k n i h b:Nat} {H H0:Heap} {s:List UInt8} {cs:List AV}
def RQ(x:Nat):Nat:=if x=0 then 0 else Nat.log2 x+1
theorem wg: ∀x,x<256->(vi.getD x 0).toNat=RQ x:=by decide
theorem DN{x:Nat}(h:2^k<=x):RQ x=k+RQ (x/2^k):=by
 have hp:0<2^k:=Nat.two_pow_pos k
 have h1:x≠0:=by omega
 have h2:x/2^k≠0:=by
  have:=Nat.div_pos h hp;omega
 unfold RQ
 rw[if_neg h1,if_neg h2]
 have e1:=(Nat.log2_eq_iff h2 (k:=Nat.log2 (x/2^k))).1 rfl
 have:Nat.log2 x=k+Nat.log2 (x/2^k):=by
  refine(Nat.log2_eq_iff h1).2 ⟨?_,?_⟩
  ·rw[Ql]
   calc 2^k*2^Nat.log2 (x/2^k)<=2^k*(x/2^k):=Nat.mul_le_mul_left _ e1.1
    _<=x:=Nat.mul_div_le x _
  ·rw[XF,Ql,W2]
   exact(Qb hp).1 e1.2
 omega
theorem dD{x:Nat}(h:4294967296<=x):RQ x=32+RQ (x/4294967296):=DN (k:=32) h
theorem qm{x:Nat}(h:65536<=x):RQ x=16+RQ (x/65536):=DN (k:=16) h
theorem ym{x:Nat}(h:256<=x):RQ x=8+RQ (x/256):=DN (k:=8) h
theorem yn{x:Nat}(h:x<2^k):RQ x<=k:=by
 unfold RQ
 split
 ·omega
 ·rename_i h0
  have:=(Nat.log2_lt h0).2 h
  omega
theorem nw(E:Env Zp fs fuel){x:Nat}(hx:x<18446744073709551616):
  ∃H',ZJ (LK Zp fs fuel 0) fs fuel (n+2) 101 [nI .u64 x] H=.ret (nI .i64 (RQ x)) H'∧Zq H H' []:=by
 rw[ZL (ZF E.n101 (.inl (by decide)) _ _) E.f101]
 have hl:vi.length=256:=by decide
 have tab: ∀y,y<256->vi.getD (y % 256) 0=UInt8.ofNat (RQ y):=λy hy=>by
  rw[Z7 hy,<-wg y hy];simp
 have tb: ∀y,y<256->(vi.getD (y % 256) 0).toNat=RQ y:=λy hy=>by rw[Z7 hy,wg y hy]
 have bl: ∀y,RQ (y % 256)<=8:=λy=>yn (k:=8) (Vl _ (by decide))
 by_cases h1:4294967296<=x
 ·have d1:decide (4294967296<=x)=true:=Ze h1
  rw[dD h1]
  generalize hy:x/4294967296=y
  have hy2:y<4294967296:=by omega
  by_cases h2:65536<=y
  ·have d2:decide (65536<=y)=true:=Ze h2
   rw[qm h2]
   generalize hz:y/65536=z
   have hz2:z<65536:=by omega
   by_cases h3:256<=z
   ·have d3:decide (256<=z)=true:=Ze h3
    rw[ym h3]
    generalize hw:z/256=w
    have hw2:w<256:=by omega
    have hm:=Z7 hw2
    have hb:=bl w
    rw[hm] at hb
    have hb2:=tb w hw2
    rw[hm] at hb2
    simp(disch:=first|omega|decide) only[Xb,Pv,Nj,TK,PO,YZ,Nat.reducePow,d1,hy,d2,hz,d3,hw,hm,hb2,B7,ZC,ZY,Zz,Nat.reducePow,Z4]
    exact⟨_,by first|rfl|simp only[XF],Zq.refl _ _⟩
   ·have d3:decide (256<=z)=false:=Zb h3
    have hw2:z<256:=by omega
    have hm:=Z7 hw2
    have hb:=bl z
    rw[hm] at hb
    have hb2:=tb z hw2
    rw[hm] at hb2
    simp(disch:=first|omega|decide) only[Xb,Pv,Nj,TK,PO,YZ,Nat.reducePow,d1,hy,d2,hz,d3,hm,hb2,B7,ZC,ZY,Zz,Nat.reducePow,Z4]
    exact⟨_,by first|rfl|simp only[XF],Zq.refl _ _⟩
  ·have d2:decide (65536<=y)=false:=Zb h2
   have hz2:y<65536:=by omega
   by_cases h3:256<=y
   ·have d3:decide (256<=y)=true:=Ze h3
    rw[ym h3]
    generalize hw:y/256=w
    have hw2:w<256:=by omega
    have hm:=Z7 hw2
    have hb:=bl w
    rw[hm] at hb
    have hb2:=tb w hw2
    rw[hm] at hb2
    simp(disch:=first|omega|decide) only[Xb,Pv,Nj,TK,PO,YZ,Nat.reducePow,d1,hy,d2,d3,hw,hm,hb2,B7,ZC,ZY,Zz,Nat.reducePow,Z4]
    exact⟨_,by first|rfl|simp only[XF],Zq.refl _ _⟩
   ·have d3:decide (256<=y)=false:=Zb h3
    have hw2:y<256:=by omega
    have hm:=Z7 hw2
    have hb:=bl y
    rw[hm] at hb
    have hb2:=tb y hw2
    rw[hm] at hb2
    simp(disch:=first|omega|decide) only[Xb,Pv,Nj,TK,PO,YZ,Nat.reducePow,d1,hy,d2,d3,hm,hb2,B7,ZC,ZY,Zz,Nat.reducePow,Z4]
    exact⟨_,by first|rfl|simp only[XF],Zq.refl _ _⟩
 ·have d1:decide (4294967296<=x)=false:=Zb h1
  by_cases h2:65536<=x
  ·have d2:decide (65536<=x)=true:=Ze h2
   rw[qm h2]
   generalize hz:x/65536=z
   have hz2:z<65536:=by omega
   by_cases h3:256<=z
   ·have d3:decide (256<=z)=true:=Ze h3
    rw[ym h3]
    generalize hw:z/256=w
    have hw2:w<256:=by omega
    have hm:=Z7 hw2
    have hb:=bl w
    rw[hm] at hb
    have hb2:=tb w hw2
    rw[hm] at hb2
    simp(disch:=first|omega|decide) only[Xb,Pv,Nj,TK,PO,YZ,Nat.reducePow,d1,d2,hz,d3,hw,hm,hb2,B7,ZC,ZY,Zz,Zw,Nat.reducePow,Z4]
    exact⟨_,by first|rfl|simp only[XF],Zq.refl _ _⟩
   ·have d3:decide (256<=z)=false:=Zb h3
    have hw2:z<256:=by omega
    have hm:=Z7 hw2
    have hb:=bl z
    rw[hm] at hb
    have hb2:=tb z hw2
    rw[hm] at hb2
    simp(disch:=first|omega|decide) only[Xb,Pv,Nj,TK,PO,YZ,Nat.reducePow,d1,d2,hz,d3,hm,hb2,B7,ZC,ZY,Zz,Zw,Nat.reducePow,Z4]
    exact⟨_,by first|rfl|simp only[XF],Zq.refl _ _⟩
  ·have d2:decide (65536<=x)=false:=Zb h2
   by_cases h3:256<=x
   ·have d3:decide (256<=x)=true:=Ze h3
    rw[ym h3]
    generalize hw:x/256=w
    have hw2:w<256:=by omega
    have hm:=Z7 hw2
    have hb:=bl w
    rw[hm] at hb
    have hb2:=tb w hw2
    rw[hm] at hb2
    simp(disch:=first|omega|decide) only[Xb,Pv,Nj,TK,PO,YZ,Nat.reducePow,d1,d2,d3,hw,hm,hb2,B7,ZC,ZY,Zz,Zw,Nat.reducePow,Z4]
    exact⟨_,by first|rfl|simp only[XF],Zq.refl _ _⟩
   ·have d3:decide (256<=x)=false:=Zb h3
    have hw2:x<256:=by omega
    have hm:=Z7 hw2
    have hb:=bl x
    rw[hm] at hb
    have hb2:=tb x hw2
    rw[hm] at hb2
    simp(disch:=first|omega|decide) only[Xb,Nj,TK,PO,YZ,d1,d2,d3,hm,hb2,B7,ZC,ZY,Zz,Zw,Z4]
    exact⟨_,by first|rfl|simp only[XF],Zq.refl _ _⟩
theorem Zau(E:Env Zp fs fuel)(hk:1<=k){x:Nat}(hx:x<18446744073709551616):
  ZJ (LK Zp fs fuel k) fs fuel (n+1) 101 [nI .u64 x] H=.ret (nI .i64 (RQ x)) H:=by
 obtain⟨H',e,g⟩:=nw E (n:=898) (H:=H) hx
 exact Wn (r:=0) rfl rfl e g (rfl) hk
theorem sk(E:Env Zp fs fuel){x:Nat}(hx:x<=64):
  ∃H',ZJ (LK Zp fs fuel 0) fs fuel (n+2) 100 [nI .i64 x] H=.ret (nI .i64 (x*78913/262144)) H'∧Zq H H' []:=by
 rw[ZL (ZF E.n100 (.inl (by decide)) _ _) E.f100]
 simp(disch:=first|omega|decide) only[Kx,lh,Nat.reducePow,Za6,ZC,ZY,Zz,Nat.reducePow,Z4]
 exact⟨_,rfl,Zq.refl _ _⟩
theorem Zcb(E:Env Zp fs fuel)(hk:1<=k){x:Nat}(hx:x<=64):
  ZJ (LK Zp fs fuel k) fs fuel (n+1) 100 [nI .i64 x] H=.ret (nI .i64 (x*78913/262144)) H:=by
 obtain⟨H',e,g⟩:=sk E (n:=898) (H:=H) hx
 exact Wn (r:=0) rfl rfl e g (rfl) hk
theorem og(E:Env Zp fs fuel){b:Bool}:
  ∃H',ZJ (LK Zp fs fuel 0) fs fuel (n+2) 102 [.bool b] H=.ret (nI .i64 (if b then 1 else 0)) H'∧Zq H H' []:=by
 rw[ZL (ZF E.n102 (.inl (by decide)) _ _) E.f102]
 cases b
 ·simp(disch:=first|omega|decide) only[dF,ZC,ZY,Zz,reduceCtorEq,Z4]
  exact⟨_,rfl,Zq.refl _ _⟩
 ·simp(disch:=first|omega|decide) only[dF,ZC,ZY,Zz,Z4]
  exact⟨_,rfl,Zq.refl _ _⟩
theorem Zdv(E:Env Zp fs fuel)(hk:1<=k){b:Bool}:
  ZJ (LK Zp fs fuel k) fs fuel (n+1) 102 [.bool b] H=.ret (nI .i64 (if b then 1 else 0)) H:=by
 obtain⟨H',e,g⟩:=og E (n:=898) (H:=H)
 exact Wn (r:=0) rfl rfl e g (rfl) hk
theorem lj: ∀x,x<100->(if x<10 then(pe.take (x+1)).drop x else(Ra.take (x*2+2)).drop (x*2))=dec x:=by
 intro x hx
 by_cases h:x<10
 ·rw[if_pos h,yz h]
  have: ∀x,x<10->(pe.take (x+1)).drop x=[L4 x]:=by decide
  exact this x h
 ·rw[if_neg h,kW (by omega),yz (by omega)]
  have: ∀x,x<100->(Ra.take (x*2+2)).drop (x*2)=[L4 (x/10)]++[L4 (x % 10)]:=by decide
  exact this x hx
theorem li(E:Env Zp fs fuel){x:Nat}(hx:x<100):
  ∃H',ZJ (LK Zp fs fuel 0) fs fuel (n+2) 92 [nI .i64 x] H=.ret (.str (dec x)) H'∧Zq H H' []:=by
 rw[ZL (ZF E.n92 (.inl (by decide)) _ _) E.f92]
 have l1:pe.length=36:=by decide
 have l2:Ra.length=200:=by decide
 have st:=lj x hx
 by_cases h:x<10
 ·have d:decide (x<10)=true:=Ze h
  rw[if_pos h] at st
  simp(disch:=first|omega|decide) only[ZH,YZ,Ox,d,st,c92,ZC,ZY,Zz,Zw,Z4]
  exact⟨_,rfl,Zq.refl _ _⟩
 ·have d:decide (x<10)=false:=Zb h
  rw[if_neg h] at st
  simp(disch:=first|omega|decide) only[ZH,YZ,Kx,Ox,d,st,c92,ZC,ZY,Zz,Zw,Z4]
  exact⟨_,rfl,Zq.refl _ _⟩
theorem Zgm(E:Env Zp fs fuel)(hk:1<=k){x:Nat}(hx:x<100):
  ZJ (LK Zp fs fuel k) fs fuel (n+1) 92 [nI .i64 x] H=.ret (.str (dec x)) H:=by
 obtain⟨H',e,g⟩:=li E (n:=898) (H:=H) hx
 exact Wn (r:=0) rfl rfl e g (rfl) hk
def sF(d:Nat):Nat:=RQ d*78913/262144
theorem ZjI: ∀L,L<65->1<=L->(L*78913/262144<=19∧10^(L*78913/262144)<=2^(L - 1)*10∧2^L<=10^(L*78913/262144+1)∧(L*78913/262144=0∨10^(L*78913/262144 - 1)<=2^(L - 1))):=by decide
theorem ZfM{d:Nat}(h0:d≠0)(h:d<18446744073709551616):sF d<=19∧QH d=sF d+(if 10^sF d<=d then 1 else 0):=by
 have hb:RQ d=Nat.log2 d+1:=by unfold RQ;rw[if_neg h0]
 have e1:=(Nat.log2_eq_iff h0 (k:=Nat.log2 d)).1 rfl
 have hL:RQ d<=64:=yn (k:=64) h
 obtain⟨p0,p1,p2,p3⟩:=ZjI (RQ d) (by omega) (by omega)
 have g:RQ d - 1=Nat.log2 d:=by omega
 rw[g] at p1 p3
 have p2':d<10^(sF d+1):=ZO (by rw[hb];exact e1.2) p2
 refine⟨p0,?_⟩
 by_cases hc:10^sF d<=d
 ·rw[if_pos hc]
  exact xb _ _ hc p2'
 ·rw[if_neg hc]
  rcases p3 with p3|p3
  ·have:sF d=0:=p3
   rw[this] at hc
   simp at hc;omega
  ·by_cases hz:sF d=0
   ·rw[hz] at hc;simp at hc;omega
   ·have:QH d=(sF d - 1)+1:=xb _ _ (Zn p3 e1.1) (by rw[show sF d - 1+1=sF d by omega];omega)
    omega
theorem bW: ∀i,i<20->(pz.getD i 0).toNat=10^i:=by decide
theorem Ah(E:Env Zp fs fuel){d:Nat}(g:PC H)(h0:d≠0)(hd:d<18446744073709551616):
  ∃H',ZJ (LK Zp fs fuel 1) fs fuel (n+2) 93 [nI .u64 d] H=.ret (nI .i64 (QH d)) H'∧Zq H H' []:=by
 rw[ZL (ZF E.n93 (.inl (by decide)) _ _) E.f93]
 obtain⟨g0,r,gr,gc⟩:=g
 obtain⟨p1,p2⟩:=ZfM h0 hd
 have hbl:RQ d<=64:=yn (k:=64) hd
 have e1:=λ{k m} (hk:1<=k)=>Zau E (k:=k) (n:=m) hk (H:=H) hd
 have e2:=λ{k m} (hk:1<=k)=>Zcb E (k:=k) (n:=m) hk (H:=H) hbl
 have e3:=λ{k m} (hk:1<=k) (b)=>Zdv E (k:=k) (n:=m) hk (b:=b) (H:=H)
 have ld:OM (.ptr 2 (sF d)) H=.val (nI .u64 (10^sF d)) H:=by
  rw[C2 gr gc (by rw[Zi];show _<20;omega),Za,Yh]
  have:=bW (sF d) (by omega)
  rw[Za] at this
  rw[Zg (show sF d<pz.length by show _<20;omega)] at this ⊢
  show OR.val (aG _) H=_
  unfold aG nI
  rw[<-this];rfl
 unfold sF at ld p1 p2
 simp(disch:=first|omega|decide) only[e1,e2,Bg,Mf,Zs,c93,ZC,ZY,Z4]
 rw[Mh] at ld
 simp(disch:=first|omega|decide) only[ld,e3,Bg,Xb,ZC,ZY,Z4]
 by_cases hc:10^(RQ d*78913/262144)<=d
 ·rw[if_pos hc] at p2
  have dc:decide (10^(RQ d*78913/262144)<=d)=true:=Ze hc
  simp(disch:=first|omega|decide) only[dc,if_true,YZ,ZC,ZY,Zz,Z4]
  exact⟨_,by rw[p2],Zq.refl _ _⟩
 ·rw[if_neg hc] at p2
  have dc:decide (10^(RQ d*78913/262144)<=d)=false:=Zb hc
  simp(disch:=first|omega|decide) only[dc,YJ,if_false,YZ,ZC,ZY,Zz,Z4]
  exact⟨_,by rw[p2],Zq.refl _ _⟩
theorem zl(E:Env Zp fs fuel)(hk:2<=k){d:Nat}(g:PC H)(h0:d≠0)(hd:d<18446744073709551616):
  ZJ (LK Zp fs fuel k) fs fuel (n+1) 93 [nI .u64 d] H=.ret (nI .i64 (QH d)) H:=by
 obtain⟨H',e,g⟩:=Ah E (n:=898) (H:=H) g h0 hd
 exact Wn (r:=1) rfl rfl e g (rfl) hk
theorem FM{a:Nat}(ha:a<18446744073709551616)(hb:b<18446744073709551616)(H:Heap):DM OK (nI .u64 a) (nI .u64 b) H=.val (nI .u64 (a&&&b)) H:=by
 show ZX (P0 .u64 .u64) (UP .u64 (.ofNat (Nat.land (a % 18446744073709551616) (b % 18446744073709551616))) H)=_
 rw[XI,XY,PZ,Z7 ha,Z7 hb]
 show OR.val _ H=_
 rw[show Nat.land a b=a&&&b from rfl,Z7 (Tb Nat.and_le_left ha)];rfl
theorem Kr{a:Nat}(ha:a<18446744073709551616)(hb:b<18446744073709551616)(H:Heap):DM Mi (nI .u64 a) (nI .u64 b) H=.val (nI .u64 (a|||b)) H:=by
 show ZX (P0 .u64 .u64) (UP .u64 (.ofNat (Nat.lor (a % 18446744073709551616) (b % 18446744073709551616))) H)=_
 rw[XI,XY,PZ,Z7 ha,Z7 hb]
 show OR.val _ H=_
 rw[show Nat.lor a b=a|||b from rfl,Z7 (Nat.or_lt_two_pow (n:=64) ha hb)];rfl
theorem cJ{a:Nat}(ha:a<256)(H:Heap):DM OK (nI .u8 a) (nI .u8 7) H=.val (nI .u8 (a % 8)) H:=by
 show ZX (P0 .u8 .u8) (UP .u8 (.ofNat (Nat.land (a % 256) (7 % 256))) H)=_
 rw[XI,XY,Jt,Z7 ha]
 show OR.val _ H=_
 rw[show Nat.land a (7 % 256)=a&&&(2^3 - 1) from rfl,Nat.and_two_pow_sub_one_eq_mod,Z7 (show a % 2^3<256 by omega)];rfl
theorem tO{a:Nat}(ha:a<256)(H:Heap):Gb .u64 (nI .u8 a) H=.val (nI .u64 a) H:=by
 unfold nI;rw[Gc,XY]
 show OR.val (.int .u64 (IntKind.u64.wrap (.ofNat a))) H=_
 rw[PZ,Z7 (by omega)]
theorem Kp{a:Nat}(ha:a<256)(H:Heap):Gb .i64 (nI .u8 a) H=.val (nI .i64 a) H:=by
 unfold nI;rw[Gc,XY]
 show OR.val (.int .i64 (IntKind.i64.wrap (.ofNat a))) H=_
 rw[MI (by omega)]
theorem Wf(h:i<s.length)(k:IntKind)(H:Heap):R5 (.str s) (nI k i) H=.val (nI .u8 (XN s i)) H:=TK h k H
theorem Ks{a:Nat}(ha:a<18446744073709551616)(hb:b<18446744073709551616):a|||b<18446744073709551616:=Nat.or_lt_two_pow (n:=64) ha hb
theorem qu(s:List UInt8)(i:Nat):XN s i<18446744073709551616:=Nat.lt_trans (NX s i) (by decide)
theorem PY(s:List UInt8):w8 s<18446744073709551616:=by
 unfold w8
 repeat' first|exact Vl _ (by decide)|exact qu _ _|apply Ks
theorem Zgk{a:Nat}(H:Heap):rx (nI .u8 a) (nI .u64 4) H=.val (nI .u8 (a/16)) H:=v5 (by decide) H
def Vy(H:Heap):Prop:=100<=H.nx∧(∃r,H.t.get 0=some (.row r)∧Cells r (js.map (nI .u8)))∧ ∃r,H.t.get 1=some (.row r)∧Cells r (T1.map (nI .u8))
theorem Vy.keep{H H':Heap}(g:Vy H){S:List Nat}(k:Zq H H' S)(hS: ∀x∈S,100<=x):Vy H':=by
 obtain⟨h,⟨r,h1,h2⟩,e,h3,h4⟩:=g
 exact⟨Zn h k.nx,⟨r,by rw[k.get _ (by omega) (λh=>by have:=hS _ h;omega)];exact h1,h2⟩,e,by rw[k.get _ (by omega) (λh=>by have:=hS _ h;omega)];exact h3,h4⟩
theorem Vy.keep0{H H':Heap}(g:Vy H)(k:Zq H H' []):Vy H':=g.keep k (by simp)
theorem Vy.fst(g:Vy H): ∃r,H.t.get 0=some (.row r)∧ ∀(b:Nat) (G:Heap),b<256->ld1 (some (.row r)) b G=.val (nI .u8 (U1 b)) G:=by
 obtain⟨_,⟨r,h1,h2⟩,_⟩:=g
 refine⟨r,h1,λb G hb=>?_⟩
 have hl:(js.map (nI .u8)).length=256:=by rw[Zi];unfold js;simp
 rw[M2 (by rw[h2.size,hl];exact hb),h2.get b (by rw[hl];exact hb)]
 congr 1
 rw[Za,Yh];unfold js
 rw[Yh,Wm hb];rfl
theorem Vy.acc(g:Vy H): ∃r,H.t.get 1=some (.row r)∧ ∀(k:Nat) (G:Heap),k<16->ldN 2 (some (.row r)) (k*2) G=.val (.agg [nI .u8 (T1.getD (k*2) 0),nI .u8 (T1.getD (k*2+1) 0)]) G:=by
 obtain⟨_,_,r,h1,h2⟩:=g
 refine⟨r,h1,λk G hk=>?_⟩
 have hl:(T1.map (nI .u8)).length=32:=rfl
 show ZX (Nat.ble (k*2+2) r.size) (OR.val (.agg (WO r (k*2) 2)) G)=_
 rw[h2.size,hl,Zm (show k*2+2<=32 by omega),h2.load (by rw[hl];omega)]
 show OR.val _ G=_
 congr 2
 have:k=0∨k=1∨k=2∨k=3∨k=4∨k=5∨k=6∨k=7∨k=8∨k=9∨k=10∨k=11∨k=12∨k=13∨k=14∨k=15:=by omega
 rcases this with rfl|rfl|rfl|rfl|rfl|rfl|rfl|rfl|rfl|rfl|rfl|rfl|rfl|rfl|rfl|rfl<;>rfl
theorem qE(b:Nat):U1 b<256:=by
 have: ∀(p:Prop) [Decidable p] (x y:Nat),x<256->y<256->(if p then x else y)<256:=λp _ x y h1 h2=>by split<;>assumption
 unfold U1
 repeat' first|apply this|decide
theorem ck{sz:Nat}(h:i<n)(b o:Nat)(k:IntKind)(H:Heap):qU n sz (.ptr b o) (nI k i) H=.val (.ptr b (o+i*sz)) H:=by
 show ZX (Nat.ble (Nat.succ i) n) (OR.val (.ptr b (Nat.add o (Nat.mul i sz))) H)=_
 rw[Zm (show Nat.succ i<=n from h)];rfl
theorem lU(E:Env Zp fs fuel)(h:8<=s.length):
  ∃H',ZJ (LK Zp fs fuel 0) fs fuel (n+2) 58 [.str s] H=.ret (nI .u64 (w8 s)) H'∧Zq H H' []:=by
 rw[ZL (ZF E.n58 (.inl (by decide)) _ _) E.f58]
 unfold w8
 simp(maxSteps:=4000000) (disch:=first|assumption|exact NX _ _|((repeat' first|exact Vl _ (by decide)|exact qu _ _|apply Ks);done)|omega|(simp -implicitDefEqProofs only[ZQ,ZR]<;>first|assumption|omega)|decide) only[Wf,tO,m9,Kr,c58,ZC,ZY,Zz,Zw,Zr,Zt,ZA,Nat.reducePow,Nat.reduceDiv,Nat.reduceMod,Nat.reduceEqDiff,reduceCtorEq,Z4,WG]
 refine⟨_,rfl,?_⟩
 exact Zq.refl _ _
theorem BX(E:Env Zp fs fuel)(hk:1<=k)(h:8<=s.length):
  ZJ (LK Zp fs fuel k) fs fuel (n+1) 58 [.str s] H=.ret (nI .u64 (w8 s)) H:=by
 obtain⟨H',e,g⟩:=lU E (n:=898) (H:=H) h
 exact Wn (r:=0) rfl rfl e g (rfl) hk
structure VI(H0:Heap)(s:List UInt8)(m:Nat)(tm:TM)(H:Heap):Prop where
 t: ∃t,Ys tm=.str t∧vu t=vu s∧t.length<=s.length∧m=t.length
 k:Zq H0 H []
theorem Zg4(E:Env Zp fs fuel)(y f d r)(x:X)(m:Nat)(tm:TM)(H:Heap)(h:VI H0 s m tm H):
  ∃o tm' H',Im ⟨ZJ (LK Zp fs fuel 1) fs fuel (n+1),y,f,d,r⟩ tm H x=.ok o tm' H' x∧((o=.normal∧ ∃k,k<m∧VI H0 s k tm' H')∨(o≠.normal∧o=.exit 2∧VI H0 s m tm' H')):=by
 obtain⟨⟨t,t0,hv,hl,rfl⟩,k⟩:=h
 have t0':=t0
 simp only[Pn] at t0
 by_cases h32:32<t.length
 ·have aZ:decide (32<t.length)=true:=Ze h32
  have ew0:=λ{j}=>BX (Zp:=Zp) (fs:=fs) (fuel:=fuel) E (k:=1) (n:=j) (by decide) (s:=t) (H:=H) (by omega)
  have ew8:=λ{j}=>BX (Zp:=Zp) (fs:=fs) (fuel:=fuel) E (k:=1) (n:=j) (by decide) (s:=t.drop 8) (H:=H) (by rw[Yr];omega)
  have Zd0:=λ{j}=>BX (Zp:=Zp) (fs:=fs) (fuel:=fuel) E (k:=1) (n:=j) (by decide) (s:=t.drop 16) (H:=H) (by rw[Yr];omega)
  have Zd1:=λ{j}=>BX (Zp:=Zp) (fs:=fs) (fuel:=fuel) E (k:=1) (n:=j) (by decide) (s:=t.drop 24) (H:=H) (by rw[Yr];omega)
  have b1:=λ(G:Heap)=>Kr (a:=w8 t) (b:=w8 (t.drop 8)) (PY _) (PY _) G
  have b2:=λ(G:Heap)=>Kr (a:=w8 (t.drop 16)) (b:=w8 (t.drop 24)) (PY _) (PY _) G
  have b3:=λ(G:Heap)=>Kr (a:=w8 t|||w8 (t.drop 8)) (b:=w8 (t.drop 16)|||w8 (t.drop 24)) (Ks (PY _) (PY _)) (Ks (PY _) (PY _)) G
  have bm:=λ(G:Heap)=>FM (a:=w8 t|||w8 (t.drop 8)|||(w8 (t.drop 16)|||w8 (t.drop 24))) (b:=9259542123273814144) (Ks (Ks (PY _) (PY _)) (Ks (PY _) (PY _))) (by decide) G
  by_cases hm:(w8 t|||w8 (t.drop 8)|||(w8 (t.drop 16)|||w8 (t.drop 24)))&&&9259542123273814144=0
  ·have dm:decide ((w8 t|||w8 (t.drop 8)|||(w8 (t.drop 16)|||w8 (t.drop 24)))&&&9259542123273814144=0)=true:=Ze hm
   simp(maxSteps:=4000000) (disch:=first|assumption|omega|(simp -implicitDefEqProofs only[ZQ,ZR]<;>first|assumption|omega)|decide) only[t0,aZ,dm,ew0,ew8,Zd0,Zd1,b1,b2,b3,bm,Tv,Y7,Yi,YD,Im,ZC,ZY,Zz,Zw,Zr,Zt,ZA,Nat.reducePow,Nat.reduceDiv,Nat.reduceMod,Nat.reduceEqDiff,reduceCtorEq,Z4,WG,Rn]
   refine⟨_,_,_,rfl,?_⟩
   exact .inl ⟨rfl,(t.drop 32).length,by rw[Yr];omega,⟨t.drop 32,(by simp only[Z4,ZY]),by rw[<-K5 32 (by omega) (dw hm)];exact hv,by rw[Yr];omega,rfl⟩,k⟩
  ·have dm:decide ((w8 t|||w8 (t.drop 8)|||(w8 (t.drop 16)|||w8 (t.drop 24)))&&&9259542123273814144=0)=false:=Zb hm
   simp(maxSteps:=4000000) (disch:=first|assumption|omega|(simp -implicitDefEqProofs only[ZQ,ZR]<;>first|assumption|omega)|decide) only[t0,aZ,dm,ew0,ew8,Zd0,Zd1,b1,b2,b3,bm,Tv,Y7,Yi,YD,Im,ZC,ZY,Zz,Zw,Zr,Zt,ZA,Nat.reducePow,Nat.reduceDiv,Nat.reduceMod,Nat.reduceEqDiff,reduceCtorEq,Z4,WG,Rn]
   refine⟨_,_,_,rfl,?_⟩
   exact .inr ⟨by simp,rfl,⟨t,(by simp only[Z4,ZY];exact t0),hv,hl,rfl⟩,k⟩
 ·have aZ:decide (32<t.length)=false:=Zb h32
  simp(maxSteps:=4000000) (disch:=first|assumption|omega|(simp -implicitDefEqProofs only[ZQ,ZR]<;>first|assumption|omega)|decide) only[t0,aZ,Tv,Y7,Yi,YD,Im,ZC,ZY,Zz,Zw,Zr,Zt,ZA,Nat.reducePow,Nat.reduceDiv,Nat.reduceMod,Nat.reduceEqDiff,reduceCtorEq,Z4,WG,Rn]
  refine⟨_,_,_,rfl,?_⟩
  exact .inr ⟨by simp,rfl,⟨t,(by simp only[Z4,ZY];exact t0),hv,hl,rfl⟩,k⟩
theorem Zc0(E:Env Zp fs fuel){z:List UInt8}{y d r}{x:X}{tm:TM}{L:Wd}(hL:XQ (Im ⟨ZJ (LK Zp fs fuel 1) fs fuel (n+1),y,d,fuel,r⟩) fuel tm H x=L)(h0:Ys tm=.str z)(k:Zq H0 H [])(hz:z.length<fuel):
  ∃tm' H',L=.ok (.exit 2) tm' H' x∧ ∃t,Ys tm'=.str t∧vu t=vu z∧t.length<=z.length∧Zq H0 H' []:=by
 obtain⟨o,Tx,H1,e,_,rfl,m,⟨t,e1,e2,e3,_⟩,k1⟩:=YK (VI H0 z) (λo tm H'=>o=.exit 2∧ ∃m,VI H0 z m tm H') (λm tm H' h=>by
  obtain⟨o,tm',H2,e,h2⟩:=Zg4 E (n:=n) y d fuel r x m tm H' h
  refine⟨o,tm',H2,e,?_⟩
  rcases h2 with h2|⟨h2,h3,h4⟩
  ·exact .inl h2
  ·exact .inr ⟨h2,h3,m,h4⟩) fuel z.length tm H hz ⟨⟨z,h0,rfl,Zl _,rfl⟩,k⟩
 exact⟨Tx,H1,hL.symm.trans e,t,e1,e2,e3,k1⟩
theorem pE(hb: ¬XN s 0<128)(hx:U1 (XN s 0) % 8=2):Tn s=if s.length<2∨XN s 1<T1.getD (U1 (XN s 0)/16*2) 0∨T1.getD (U1 (XN s 0)/16*2+1) 0<XN s 1 then 0 else 2:=by
 unfold Tn;simp only;rw[if_neg hb,if_pos hx]
theorem pF(hb: ¬XN s 0<128)(hx:U1 (XN s 0) % 8=3):Tn s=if s.length<3∨XN s 1<T1.getD (U1 (XN s 0)/16*2) 0∨T1.getD (U1 (XN s 0)/16*2+1) 0<XN s 1∨XN s 2<128∨191<XN s 2 then 0 else 3:=by
 unfold Tn;simp only;rw[if_neg hb,if_neg (by omega),if_pos hx]
theorem pG(hb: ¬XN s 0<128)(hx:U1 (XN s 0) % 8=4):Tn s=if s.length<4∨XN s 1<T1.getD (U1 (XN s 0)/16*2) 0∨T1.getD (U1 (XN s 0)/16*2+1) 0<XN s 1∨XN s 2<128∨191<XN s 2∨XN s 3<128∨191<XN s 3 then 0 else 4:=by
 unfold Tn;simp only;rw[if_neg hb,if_neg (by omega),if_neg (by omega),if_pos hx]
theorem am(hb: ¬XN s 0<128)(h2: ¬U1 (XN s 0) % 8=2)(h3: ¬U1 (XN s 0) % 8=3)(h4: ¬U1 (XN s 0) % 8=4):Tn s=0:=by
 unfold Tn;simp only;rw[if_neg hb,if_neg h2,if_neg h3,if_neg h4]
theorem fT{t:List UInt8}{lo hi b6:Nat}{tm:TM}{x:X}{cl y d fuel r}(t0:Ys tm=.str t)(t6:WN tm=.ptr b6 0)(g6:H.t.get b6=some (rH 114 [nI .u8 lo,nI .u8 hi]))(lob:b6<H.nx):
  ∃o tm',DV ⟨cl,y,d,fuel,r⟩ tm H x=.ok o tm' H x∧((o=.ret∧Xy tm'=.bool false∧(t.length<2∨XN t 1<lo∨hi<XN t 1))∨(o=.normal∧Ys tm'=.str (t.drop 2)∧ ¬(t.length<2∨XN t 1<lo∨hi<XN t 1))):=by
 simp only[Pn,Ab] at t0 t6
 by_cases p0:t.length<2
 ·have d_p0:decide (t.length<2)=true:=Ze p0
  simp only[t0,Y7,ZH,d_p0,DV,ZC,ZY,Zw,Zr,Z4,Rn]
  exact⟨_,_,rfl,.inl ⟨rfl,(by simp only[ZY]),(Or.inl p0)⟩⟩
 have d_p0:decide (t.length<2)=false:=Zb p0
 simp(disch:=first|assumption|omega|(simp -implicitDefEqProofs only[ZQ,ZR]<;>first|assumption|omega)|decide) only[t0,t6,g6,ZZ,Zs,Yp,Y7,ZH,Wf,Z2,d_p0,DV,ZC,ZY,Zw,Zr,Zt,Z4,Rn]
 by_cases p1:XN t 1<lo
 ·have d_p1:decide (XN t 1<lo)=true:=Ze p1
  simp(disch:=first|assumption|omega|(simp -implicitDefEqProofs only[ZQ,ZR]<;>first|assumption|omega)|decide) only[g6,Z2,d_p1,ZC,ZY,Zw,Zr,Z4,Rn]
  exact⟨_,_,rfl,.inl ⟨rfl,(by simp only[ZY]),(Or.inr (Or.inl p1))⟩⟩
 have d_p1:decide (XN t 1<lo)=false:=Zb p1
 simp(disch:=first|assumption|omega|(simp -implicitDefEqProofs only[ZQ,ZR]<;>first|assumption|omega)|decide) only[g6,Z2,d_p1,ZC,ZY,Zw,Zr,Rn]
 by_cases p2:hi<XN t 1
 ·have d_p2:decide (hi<XN t 1)=true:=Ze p2
  simp only[d_p2,ZC,Z4,]
  exact⟨_,_,rfl,.inl ⟨rfl,(by simp only[ZY]),(Or.inr (Or.inr p2))⟩⟩
 have d_p2:decide (hi<XN t 1)=false:=Zb p2
 simp(disch:=omega) only[t0,Tv,d_p2,ZC,ZY,Zw,Z4,Rn,JH]
 exact⟨_,_,rfl,.inr ⟨rfl,(by simp only[ZY]),by rintro (h|h|h)<;>contradiction⟩⟩
theorem fU{t:List UInt8}{lo hi b6:Nat}{tm:TM}{x:X}{cl y d fuel r}(t0:Ys tm=.str t)(t6:WN tm=.ptr b6 0)(g6:H.t.get b6=some (rH 114 [nI .u8 lo,nI .u8 hi]))(lob:b6<H.nx):
  ∃o tm',DW ⟨cl,y,d,fuel,r⟩ tm H x=.ok o tm' H x∧((o=.ret∧Xy tm'=.bool false∧(t.length<3∨XN t 1<lo∨hi<XN t 1∨XN t 2<128∨191<XN t 2))∨(o=.normal∧Ys tm'=.str (t.drop 3)∧ ¬(t.length<3∨XN t 1<lo∨hi<XN t 1∨XN t 2<128∨191<XN t 2))):=by
 simp only[Pn,Ab] at t0 t6
 by_cases p0:t.length<3
 ·have d_p0:decide (t.length<3)=true:=Ze p0
  simp only[t0,Y7,ZH,d_p0,DW,ZC,ZY,Zw,Zr,Z4,JH]
  exact⟨_,_,rfl,.inl ⟨rfl,(by simp only[ZY]),(Or.inl p0)⟩⟩
 have d_p0:decide (t.length<3)=false:=Zb p0
 simp(disch:=first|assumption|omega|(simp -implicitDefEqProofs only[ZQ,ZR]<;>first|assumption|omega)|decide) only[t0,t6,g6,ZZ,Zs,Yp,Y7,ZH,Wf,Z2,d_p0,DW,ZC,ZY,Zw,Zr,Zt,Z4,JH]
 by_cases p1:XN t 1<lo
 ·have d_p1:decide (XN t 1<lo)=true:=Ze p1
  simp(disch:=first|assumption|omega|(simp -implicitDefEqProofs only[ZQ,ZR]<;>first|assumption|omega)|decide) only[g6,Z2,d_p1,ZC,ZY,Zw,Zr,Z4,JH]
  exact⟨_,_,rfl,.inl ⟨rfl,(by simp only[ZY]),(Or.inr (Or.inl p1))⟩⟩
 have d_p1:decide (XN t 1<lo)=false:=Zb p1
 simp only[t0,ZH,Wf,d_p1,ZC,ZY,Zw,Zr,Z4,JH]
 by_cases p2:hi<XN t 1
 ·have d_p2:decide (hi<XN t 1)=true:=Ze p2
  simp(disch:=first|assumption|omega|(simp -implicitDefEqProofs only[ZQ,ZR]<;>first|assumption|omega)|decide) only[g6,Z2,d_p2,ZC,ZY,Zw,Zr,Z4,JH]
  exact⟨_,_,rfl,.inl ⟨rfl,(by simp only[ZY]),(Or.inr (Or.inr (Or.inl p2)))⟩⟩
 have d_p2:decide (hi<XN t 1)=false:=Zb p2
 simp(disch:=omega) only[t0,ZH,Wf,d_p2,ZC,ZY,Zw,Zr,Z4,JH]
 by_cases p3:XN t 2<128
 ·have d_p3:decide (XN t 2<128)=true:=Ze p3
  simp(disch:=first|assumption|omega|(simp -implicitDefEqProofs only[ZQ,ZR]<;>first|assumption|omega)|decide) only[g6,Z2,d_p3,ZC,ZY,Zw,Zr,Z4,JH]
  exact⟨_,_,rfl,.inl ⟨rfl,(by simp only[ZY]),(Or.inr (Or.inr (Or.inr (Or.inl p3))))⟩⟩
 have d_p3:decide (XN t 2<128)=false:=Zb p3
 simp(disch:=first|assumption|omega|(simp -implicitDefEqProofs only[ZQ,ZR]<;>first|assumption|omega)|decide) only[g6,Z2,d_p3,ZC,ZY,Zw,Zr,JH]
 by_cases p4:191<XN t 2
 ·have d_p4:decide (191<XN t 2)=true:=Ze p4
  simp only[d_p4,ZC,Z4]
  exact⟨_,_,rfl,.inl ⟨rfl,(by simp only[ZY]),(Or.inr (Or.inr (Or.inr (Or.inr p4))))⟩⟩
 have d_p4:decide (191<XN t 2)=false:=Zb p4
 simp(disch:=omega) only[t0,Tv,d_p4,ZC,ZY,Zw,Z4,JH]
 exact⟨_,_,rfl,.inr ⟨rfl,(by simp only[ZY]),by rintro (h|h|h|h|h)<;>contradiction⟩⟩
theorem fV{t:List UInt8}{lo hi b6:Nat}{tm:TM}{x:X}{cl y d fuel r}(t0:Ys tm=.str t)(t6:WN tm=.ptr b6 0)(g6:H.t.get b6=some (rH 114 [nI .u8 lo,nI .u8 hi]))(lob:b6<H.nx):
  ∃o tm',DX ⟨cl,y,d,fuel,r⟩ tm H x=.ok o tm' H x∧((o=.ret∧Xy tm'=.bool false∧(t.length<4∨XN t 1<lo∨hi<XN t 1∨XN t 2<128∨191<XN t 2∨XN t 3<128∨191<XN t 3))∨(o=.normal∧Ys tm'=.str (t.drop 4)∧ ¬(t.length<4∨XN t 1<lo∨hi<XN t 1∨XN t 2<128∨191<XN t 2∨XN t 3<128∨191<XN t 3))):=by
 simp only[Pn,Ab] at t0 t6
 by_cases p0:t.length<4
 ·have d_p0:decide (t.length<4)=true:=Ze p0
  simp only[t0,Y7,ZH,d_p0,DX,ZC,ZY,Zw,Zr,Z4,E3,yb]
  exact⟨_,_,rfl,.inl ⟨rfl,(by simp only[ZY]),(Or.inl p0)⟩⟩
 have d_p0:decide (t.length<4)=false:=Zb p0
 simp(disch:=first|assumption|omega|(simp -implicitDefEqProofs only[ZQ,ZR]<;>first|assumption|omega)|decide) only[t0,t6,g6,ZZ,Zs,Yp,Y7,ZH,Wf,Z2,d_p0,DX,ZC,ZY,Zw,Zr,Zt,Z4,E3]
 by_cases p1:XN t 1<lo
 ·have d_p1:decide (XN t 1<lo)=true:=Ze p1
  simp(disch:=first|assumption|omega|(simp -implicitDefEqProofs only[ZQ,ZR]<;>first|assumption|omega)|decide) only[g6,Z2,d_p1,ZC,ZY,Zw,Zr,Z4,E3,yb]
  exact⟨_,_,rfl,.inl ⟨rfl,(by simp only[ZY]),(Or.inr (Or.inl p1))⟩⟩
 have d_p1:decide (XN t 1<lo)=false:=Zb p1
 simp only[t0,ZH,Wf,d_p1,ZC,ZY,Zw,Zr,Z4,E3]
 by_cases p2:hi<XN t 1
 ·have d_p2:decide (hi<XN t 1)=true:=Ze p2
  simp(disch:=first|assumption|omega|(simp -implicitDefEqProofs only[ZQ,ZR]<;>first|assumption|omega)|decide) only[g6,Z2,d_p2,ZC,ZY,Zw,Zr,Z4,E3,yb]
  exact⟨_,_,rfl,.inl ⟨rfl,(by simp only[ZY]),(Or.inr (Or.inr (Or.inl p2)))⟩⟩
 have d_p2:decide (hi<XN t 1)=false:=Zb p2
 simp(disch:=omega) only[t0,ZH,Wf,d_p2,ZC,ZY,Zw,Zr,Z4,E3]
 by_cases p3:XN t 2<128
 ·have d_p3:decide (XN t 2<128)=true:=Ze p3
  simp(disch:=first|assumption|omega|(simp -implicitDefEqProofs only[ZQ,ZR]<;>first|assumption|omega)|decide) only[g6,Z2,d_p3,ZC,ZY,Zw,Zr,Z4,E3,yb]
  exact⟨_,_,rfl,.inl ⟨rfl,(by simp only[ZY]),(Or.inr (Or.inr (Or.inr (Or.inl p3))))⟩⟩
 have d_p3:decide (XN t 2<128)=false:=Zb p3
 simp(disch:=omega) only[t0,ZH,Wf,d_p3,ZC,ZY,Zw,Zr,Z4,E3,yb]
 by_cases p4:191<XN t 2
 ·have d_p4:decide (191<XN t 2)=true:=Ze p4
  simp(disch:=first|assumption|omega|(simp -implicitDefEqProofs only[ZQ,ZR]<;>first|assumption|omega)|decide) only[g6,Z2,d_p4,ZC,ZY,Zw,Zr,Z4,E3,yb]
  exact⟨_,_,rfl,.inl ⟨rfl,(by simp only[ZY]),(Or.inr (Or.inr (Or.inr (Or.inr (Or.inl p4)))))⟩⟩
 have d_p4:decide (191<XN t 2)=false:=Zb p4
 simp(disch:=omega) only[t0,ZH,Wf,d_p4,ZC,ZY,Zw,Zr,Z4,yb]
 by_cases p5:XN t 3<128
 ·have d_p5:decide (XN t 3<128)=true:=Ze p5
  simp(disch:=first|assumption|omega|(simp -implicitDefEqProofs only[ZQ,ZR]<;>first|assumption|omega)|decide) only[g6,Z2,d_p5,ZC,ZY,Zw,Zr,Z4,E3,yb]
  exact⟨_,_,rfl,.inl ⟨rfl,(by simp only[ZY]),(Or.inr (Or.inr (Or.inr (Or.inr (Or.inr (Or.inl p5))))))⟩⟩
 have d_p5:decide (XN t 3<128)=false:=Zb p5
 simp(disch:=first|assumption|omega|(simp -implicitDefEqProofs only[ZQ,ZR]<;>first|assumption|omega)|decide) only[g6,Z2,d_p5,ZC,ZY,Zw,Zr,E3,yb]
 by_cases p6:191<XN t 3
 ·have d_p6:decide (191<XN t 3)=true:=Ze p6
  simp(disch:=omega) only[d_p6,ZC,Z4,]
  exact⟨_,_,rfl,.inl ⟨rfl,(by simp only[ZY]),(Or.inr (Or.inr (Or.inr (Or.inr (Or.inr (Or.inr p6))))))⟩⟩
 have d_p6:decide (191<XN t 3)=false:=Zb p6
 simp(disch:=omega) only[t0,Tv,d_p6,ZC,ZY,Zw,Z4,yb]
 exact⟨_,_,rfl,.inr ⟨rfl,(by simp only[ZY]),by rintro (h|h|h|h|h|h|h)<;>contradiction⟩⟩
theorem Zc1(E:Env Zp fs fuel)(g:Vy H0)(hro:H0.ro<=H0.nx)(hs:s.length<99998)(y d r)(x:X)(m:Nat)(tm:TM)(H:Heap)(h:VI H0 s m tm H):
  ∃o tm' H',Nz ⟨ZJ (LK Zp fs fuel 1) fs fuel (n+1),y,d,fuel,r⟩ tm H x=.ok o tm' H' x∧((o=.normal∧ ∃k,k<m∧VI H0 s k tm' H')∨(o≠.normal∧((o=.ret∧Xy tm'=.bool (vu s)∧Zq H0 H' [])∨(o=.exit 0∧vu s=true∧Zq H0 H' [])))):=by
 obtain⟨⟨t,t0,hv,hl,rfl⟩,k⟩:=h
 simp only[Pn] at t0
 by_cases h0:0<t.length
 ·have d_h0:decide (0<t.length)=true:=Ze h0
  by_cases ha:XN t 0<128
  ·have d_ha:decide (XN t 0<128)=true:=Ze ha
   have hv1:vu (t.drop 1)=vu s:=by rw[<-hv,DD (s:=t) (by omega),EV ha,if_neg (by decide)]
   have hl1:(t.drop 1).length<t.length:=by rw[Yr];omega
   have hu:=λ(G:Heap)=>Tv (s:=t) (p:=1) (by omega) .i64 G
   generalize t.drop 1=u at hv1 hl1 hu
   by_cases u8:8<u.length
   ·have d_u8:decide (8<u.length)=true:=Ze u8
    have ew0:=λ{j}=>BX E (k:=1) (n:=j) (by decide) (s:=u) (H:=H) (by omega)
    have bm0:=λ(G:Heap)=>FM (a:=w8 u) (b:=9259542123273814144) (PY _) (by decide) G
    by_cases m8:w8 u&&&9259542123273814144=0
    ·have d_m8:decide (w8 u&&&9259542123273814144=0)=true:=Ze m8
     have hv8:vu (u.drop 8)=vu s:=by rw[<-K5 8 (by omega) (ZaZ m8)];exact hv1
     have hl8:(u.drop 8).length<u.length:=by rw[Yr];omega
     have hu8:=λ(G:Heap)=>Tv (s:=u) (p:=8) (by omega) .i64 G
     generalize u.drop 8=w at hv8 hl8 hu8
     by_cases w16:16<w.length
     ·have d_w16:decide (16<w.length)=true:=Ze w16
      have ev0:=λ{j}=>BX E (k:=1) (n:=j) (by decide) (s:=w) (H:=H) (by omega)
      have ev8:=λ{j}=>BX E (k:=1) (n:=j) (by decide) (s:=w.drop 8) (H:=H) (by rw[Yr];omega)
      have hw8:=λ(G:Heap)=>Tv (s:=w) (p:=8) (by omega) .i64 G
      have b1:=λ(G:Heap)=>Kr (a:=w8 w) (b:=w8 (w.drop 8)) (PY _) (PY _) G
      have bm1:=λ(G:Heap)=>FM (a:=w8 w|||w8 (w.drop 8)) (b:=9259542123273814144) (Ks (PY _) (PY _)) (by decide) G
      by_cases m16:(w8 w|||w8 (w.drop 8))&&&9259542123273814144=0
      ·have d_m16:decide ((w8 w|||w8 (w.drop 8))&&&9259542123273814144=0)=true:=Ze m16
       have Zfp:vu (w.drop 16)=vu s:=by rw[<-K5 16 (by omega) (du m16)];exact hv8
       have ZbM:(w.drop 16).length<w.length:=by rw[Yr];omega
       have Zfo:=λ(G:Heap)=>Tv (s:=w) (p:=16) (by omega) .i64 G
       generalize w.drop 16=z at Zfp ZbM Zfo
       simp(disch:=omega) only[t0,d_h0,d_ha,Y7,Yi,ZH,YD,Wf,hu,d_u8,ew0,bm0,d_m8,hu8,d_w16,ev0,ev8,hw8,b1,bm1,d_m16,Zfo,Nz,ZC,ZY,Zw,Zr,Z4,WG,]
       generalize hL:XQ (Im _) fuel _ _ _=L
       obtain⟨Tx,H1,rfl,t1,e1,hv2,hl2,k1⟩:=Zc0 E (z:=z) hL rfl k (by have:=E.big;omega)
       simp only[ZC,]
       refine⟨_,_,_,rfl,?_⟩
       exact .inl ⟨rfl,t1.length,by omega,⟨t1,e1,hv2.trans Zfp,by omega,rfl⟩,k1⟩
      ·have d_m16:decide ((w8 w|||w8 (w.drop 8))&&&9259542123273814144=0)=false:=Zb m16
       simp(disch:=omega) only[t0,d_h0,d_ha,Y7,Yi,ZH,YD,Wf,hu,d_u8,ew0,bm0,d_m8,hu8,d_w16,ev0,ev8,hw8,b1,bm1,d_m16,Nz,ZC,ZY,Zw,Zr,Z4,WG,]
       refine⟨_,_,_,rfl,?_⟩
       exact .inl ⟨rfl,w.length,by omega,⟨w,rfl,hv8,by omega,rfl⟩,k⟩
     ·have d_w16:decide (16<w.length)=false:=Zb w16
      simp(disch:=omega) only[t0,d_h0,d_ha,Y7,Yi,ZH,YD,Wf,hu,d_u8,ew0,bm0,d_m8,hu8,d_w16,Nz,ZC,ZY,Zw,Zr,Z4,WG,]
      refine⟨_,_,_,rfl,?_⟩
      exact .inl ⟨rfl,w.length,by omega,⟨w,rfl,hv8,by omega,rfl⟩,k⟩
    ·have d_m8:decide (w8 u&&&9259542123273814144=0)=false:=Zb m8
     simp(disch:=omega) only[t0,d_h0,d_ha,Y7,Yi,ZH,YD,Wf,hu,d_u8,ew0,bm0,d_m8,Nz,ZC,ZY,Zw,Z4,]
     refine⟨_,_,_,rfl,?_⟩
     exact .inl ⟨rfl,u.length,hl1,⟨u,rfl,hv1,by omega,rfl⟩,k⟩
   ·have d_u8:decide (8<u.length)=false:=Zb u8
    simp(disch:=omega) only[t0,d_h0,d_ha,Y7,Yi,ZH,Wf,hu,d_u8,Nz,ZC,ZY,Zw,Z4,]
    refine⟨_,_,_,rfl,?_⟩
    exact .inl ⟨rfl,u.length,hl1,⟨u,rfl,hv1,by omega,rfl⟩,k⟩
  ·have d_ha:decide (XN t 0<128)=false:=Zb ha
   have hb256:=NX t 0
   have Ze5:=qE (XN t 0)
   have hroH:H.ro<=H.nx:=by rw[k.ro];exact Zn hro k.nx
   have hx16:U1 (XN t 0)/16<16:=by have:=qE (XN t 0);omega
   obtain⟨rF,gF,lF⟩:=(g.keep0 k).fst
   obtain⟨rA,gA,lA⟩:=(g.keep0 k).acc
   have lF:=λ(G:Heap)=>lF (XN t 0) G hb256
   have lA:=λ(G:Heap)=>lA (U1 (XN t 0)/16) G hx16
   generalize hfx:U1 (XN t 0)=fx at lF lA hx16 Ze5
   generalize hlo:T1.getD (fx/16*2) 0=lo at lA
   generalize hhi:T1.getD (fx/16*2+1) 0=hi at lA
   have kk:Zq H0 (H.new (rH 114 [nI .u8 lo,nI .u8 hi])) []:=k.then_new _
   simp(disch:=first|assumption|omega|(simp -implicitDefEqProofs only[ZQ,ZR]<;>first|assumption|omega)|decide) only[t0,d_h0,Y7,Yi,ZH,YD,Wf,d_ha,Xw,gF,lF,gA,lA,cJ,Kp,Zgk,ck,rL,ic,cL,Nz,ZC,ZY,Zz,Zw,Z4,Rn,]
   by_cases q2:fx % 8=2
   ·have d_q2:decide (fx % 8=2)=true:=Ze q2
    simp only[d_q2,ZC,]
    generalize hS:DV _ _ _ _=L
    obtain⟨o,Tx,rfl,hq⟩: ∃o Tx,L=.ok o Tx (H.new (rH 114 [nI .u8 lo,nI .u8 hi])) x∧((o=.ret∧Xy Tx=.bool false∧(t.length<2∨XN t 1<lo∨hi<XN t 1))∨(o=.normal∧Ys Tx=.str (t.drop 2)∧ ¬(t.length<2∨XN t 1<lo∨hi<XN t 1))):=by
     rw[<-hS]
     exact fT (t:=t) (lo:=lo) (hi:=hi) (b6:=H.nx) (t0) rfl (Zx rfl _) (Yo _)
    rcases hq with⟨rfl,h2,hb⟩|⟨rfl,h0',hb⟩
    ·simp only[PN] at h2
     simp only[ZC,]
     refine⟨_,_,_,rfl,?_⟩
     exact .inr ⟨by simp,.inl ⟨rfl,by rw[<-hv,BV h0 (by rw[pE ha (by rw[hfx];exact q2),hfx,hlo,hhi];exact if_pos hb)];exact h2,kk⟩⟩
    ·have h00:=h0'
     simp only[Pn] at h0'
     simp only[ZC,]
     refine⟨_,_,_,rfl,?_⟩
     exact .inl ⟨rfl,(t.drop 2).length,by rw[Yr];omega,⟨t.drop 2,h00,by rw[<-hv,DC h0 (n:=2) (by rw[pE ha (by rw[hfx];exact q2),hfx,hlo,hhi];exact if_neg hb) (by decide)],by rw[Yr];omega,rfl⟩,kk⟩
   have d_q2:decide (fx % 8=2)=false:=Zb q2
   simp only[YD,d_q2,ZC,ZY,Rn,JH]
   by_cases q3:fx % 8=3
   ·have d_q3:decide (fx % 8=3)=true:=Ze q3
    simp only[d_q3,ZC,]
    generalize hS:DW _ _ _ _=L
    obtain⟨o,Tx,rfl,hq⟩: ∃o Tx,L=.ok o Tx (H.new (rH 114 [nI .u8 lo,nI .u8 hi])) x∧((o=.ret∧Xy Tx=.bool false∧(t.length<3∨XN t 1<lo∨hi<XN t 1∨XN t 2<128∨191<XN t 2))∨(o=.normal∧Ys Tx=.str (t.drop 3)∧ ¬(t.length<3∨XN t 1<lo∨hi<XN t 1∨XN t 2<128∨191<XN t 2))):=by
     rw[<-hS]
     exact fU (t:=t) (lo:=lo) (hi:=hi) (b6:=H.nx) (t0) rfl (Zx rfl _) (Yo _)
    rcases hq with⟨rfl,h2,hb⟩|⟨rfl,h0',hb⟩
    ·simp only[PN] at h2
     simp only[ZC,]
     refine⟨_,_,_,rfl,?_⟩
     exact .inr ⟨by simp,.inl ⟨rfl,by rw[<-hv,BV h0 (by rw[pF ha (by rw[hfx];exact q3),hfx,hlo,hhi];exact if_pos hb)];exact h2,kk⟩⟩
    ·have h00:=h0'
     simp only[Pn] at h0'
     simp only[ZC,]
     refine⟨_,_,_,rfl,?_⟩
     exact .inl ⟨rfl,(t.drop 3).length,by rw[Yr];omega,⟨t.drop 3,h00,by rw[<-hv,DC h0 (n:=3) (by rw[pF ha (by rw[hfx];exact q3),hfx,hlo,hhi];exact if_neg hb) (by decide)],by rw[Yr];omega,rfl⟩,kk⟩
   have d_q3:decide (fx % 8=3)=false:=Zb q3
   simp only[YD,d_q3,ZC,ZY,Rn,E3]
   by_cases q4:fx % 8=4
   ·have d_q4:decide (fx % 8=4)=true:=Ze q4
    simp only[d_q4,ZC,]
    generalize hS:DX _ _ _ _=L
    obtain⟨o,Tx,rfl,hq⟩: ∃o Tx,L=.ok o Tx (H.new (rH 114 [nI .u8 lo,nI .u8 hi])) x∧((o=.ret∧Xy Tx=.bool false∧(t.length<4∨XN t 1<lo∨hi<XN t 1∨XN t 2<128∨191<XN t 2∨XN t 3<128∨191<XN t 3))∨(o=.normal∧Ys Tx=.str (t.drop 4)∧ ¬(t.length<4∨XN t 1<lo∨hi<XN t 1∨XN t 2<128∨191<XN t 2∨XN t 3<128∨191<XN t 3))):=by
     rw[<-hS]
     exact fV (t:=t) (lo:=lo) (hi:=hi) (b6:=H.nx) (t0) rfl (Zx rfl _) (Yo _)
    rcases hq with⟨rfl,h2,hb⟩|⟨rfl,h0',hb⟩
    ·simp only[PN] at h2
     simp only[ZC,]
     refine⟨_,_,_,rfl,?_⟩
     exact .inr ⟨by simp,.inl ⟨rfl,by rw[<-hv,BV h0 (by rw[pG ha (by rw[hfx];exact q4),hfx,hlo,hhi];exact if_pos hb)];exact h2,kk⟩⟩
    ·have h00:=h0'
     simp only[Pn] at h0'
     simp only[ZC,]
     refine⟨_,_,_,rfl,?_⟩
     exact .inl ⟨rfl,(t.drop 4).length,by rw[Yr];omega,⟨t.drop 4,h00,by rw[<-hv,DC h0 (n:=4) (by rw[pG ha (by rw[hfx];exact q4),hfx,hlo,hhi];exact if_neg hb) (by decide)],by rw[Yr];omega,rfl⟩,kk⟩
   have d_q4:decide (fx % 8=4)=false:=Zb q4
   simp only[d_q4,ZC,Z4,]
   refine⟨_,_,_,rfl,?_⟩
   exact .inr ⟨by simp,.inl ⟨rfl,by rw[<-hv,BV h0 (am ha (by rw[hfx];exact q2) (by rw[hfx];exact q3) (by rw[hfx];exact q4))];simp only[ZY],kk⟩⟩
 ·have d_h0:decide (0<t.length)=false:=Zb h0
  simp only[t0,d_h0,Y7,Yi,Nz,ZC,ZY,Z4,]
  have:t=[]:=YW.1 (by omega)
  subst this
  refine⟨_,_,_,rfl,?_⟩
  exact .inr ⟨by simp,.inr ⟨rfl,hv.symm.trans r9|>.symm▸rfl,k⟩⟩
theorem fR(E:Env Zp fs fuel)(g:Vy H)(hro:H.ro<=H.nx)(hs:s.length<99998):
  ∃H',ZJ (LK Zp fs fuel 1) fs fuel (n+2) 45 [.str s] H=.ret (.bool (vu s)) H'∧Zq H H' []:=by
 rw[ZL (ZF E.n45 (.inl (by decide)) _ _) E.f45]
 simp only[c45,ZC,Z4]
 generalize hL:XQ (Nz _) fuel _ _ _=L
 obtain⟨o,Tx,H1,rfl,_,hq⟩:=YA (P:=λT=>VI H s s.length T H) (Q:=λo tm H'=>(o=.ret∧Xy tm=.bool (vu s)∧Zq H H' [])∨(o=.exit 0∧vu s=true∧Zq H H' []))
  (λT hi'=>YK (VI H s) (λo tm H'=>(o=.ret∧Xy tm=.bool (vu s)∧Zq H H' [])∨(o=.exit 0∧vu s=true∧Zq H H' [])) (λm tm H' h=>Zc1 E g hro hs _ _ _ _ m tm H' h) fuel s.length T H (by have:=E.big;omega) hi') hL
  ⟨⟨s,rfl,rfl,Zl _,rfl⟩,Zq.refl _ _⟩
 rcases hq with⟨rfl,h2,k⟩|⟨rfl,h2,k⟩
 ·simp only[PN] at h2
  simp only[h2,ZC,Zz,Z4]
  refine⟨_,rfl,?_⟩
  exact k
 ·rw[h2]
  simp only[ZC,ZY,Zz,Z4]
  refine⟨_,rfl,?_⟩
  exact k
theorem ZcX(E:Env Zp fs fuel)(hk:2<=k)(g:Vy H)(hro:H.ro<=H.nx)(hs:s.length<99998):
  ZJ (LK Zp fs fuel k) fs fuel (n+1) 45 [.str s] H=.ret (.bool (vu s)) H:=by
 obtain⟨H',e,g⟩:=fR E (n:=898) (H:=H) g hro hs
 exact Wn (r:=1) rfl rfl e g (rfl) hk
namespace T
variable {α:Type}
theorem setB_same(x:α): ∀(t:T α) (bs:List Bool),t.getB bs=some x->setB x t bs=t
 |leaf,bs,h=>by cases h
 |node l v r,[],h=>by
  have h:v=some x:=h
  subst h;rfl
 |node l v r,true::bs,h=>by rw[F6,setB_same x l bs h]
 |node l v r,false::bs,h=>by rw[F4,setB_same x r bs h]
end T
theorem Bm{o:Obj}(h:H.t.get b=some o):H.put b o=H:=by
 unfold Heap.put T.set
 rw[T.setB_same o H.t (bits b) h]
theorem wB: ∀k n i,i<k->(yx k n).getD i 0=L4 (n/10^(k - 1 - i) % 10)
 |0,_,_,h=>by omega
 |k+1,n,i,h=>by
  show(yx k (n/10)++[L4 (n % 10)]).getD i 0=_
  rw[Za]
  by_cases hi:i<k
  ·rw[Yc (by rw[L3];exact hi),<-Za,wB k (n/10) i hi,RF]
   congr 3
   rw[show k+1 - 1 - i=(k - 1 - i)+1 by omega,Qy,W2]
  ·obtain rfl:i=k:=by omega
   rw[Zu (by rw[L3];exact Zl _),L3,T6,show i+1 - 1 - i=0 by omega,Nat.pow_zero,Nat.div_one];rfl
theorem fF:Ra.length=200:=by decide
theorem ZjY: ∀x,x<100->Ra.getD (x*2) 0=L4 (x/10):=by decide
theorem ZjZ: ∀x,x<100->Ra.getD (x*2+1) 0=L4 (x % 10):=by decide
theorem Al{x:Nat}(hx:x<100)(H:Heap):R5 (.str Ra) (nI .u32 (x*2)) H=.val (XM (L4 (x/10))) H:=by rw[II (by rw[fF];omega),ZjY x hx]
theorem Am{x:Nat}(hx:x<100)(H:Heap):R5 (.str Ra) (nI .u32 (x*2+1)) H=.val (XM (L4 (x % 10))) H:=by rw[II (by rw[fF];omega),ZjZ x hx]
structure FB(r R:Row)(nd m:Nat)(ds:List UInt8):Prop where
 size:R.size=24
 own:R.own=true
 fz:R.fz=0
 get: ∀i,R.get i=if 1+m<=i∧i<1+nd then XM (ds.getD (i - 1) 0) else r.get i
theorem FB.pair{r R:Row}{nd m p q d1 d2:Nat}{ds:List UInt8}(h:FB r R nd m ds)(hm:m<=nd)(hp:p+1=m)(hq:q+2=m)(h1:ds.getD p 0=L4 d1)(h2:ds.getD q 0=L4 d2):
  FB r ((R.st (1+p) (XM (L4 d1))).st (1+q) (XM (L4 d2))) nd q ds:=by
 refine⟨h.size,h.own,h.fz,λi=>?_⟩
 rw[Row.st_get,Row.st_get,h.get]
 by_cases e2:1+q=i
 ·rw[if_pos e2,if_pos (by omega),<-h2,show i - 1=q by omega]
 ·rw[if_neg e2]
  by_cases e1:1+p=i
  ·rw[if_pos e1,if_pos (by omega),<-h1,show i - 1=p by omega]
  ·rw[if_neg e1]
   by_cases e:1+m<=i∧i<1+nd
   ·rw[if_pos e,if_pos (by omega)]
   ·rw[if_neg e,if_neg (by omega)]
theorem FB.one{r R:Row}{nd d:Nat}{ds:List UInt8}(h:FB r R nd 1 ds)(hm:1<=nd)(h1:ds.getD 0 0=L4 d):FB r (R.st 1 (XM (L4 d))) nd 0 ds:=by
 refine⟨h.size,h.own,h.fz,λi=>?_⟩
 rw[Row.st_get,h.get]
 by_cases e1:1=i
 ·rw[if_pos e1,if_pos (by omega),<-h1,show i - 1=0 by omega]
 ·rw[if_neg e1]
  by_cases e:1+1<=i∧i<1+nd
  ·rw[if_pos e,if_pos (by omega)]
  ·rw[if_neg e,if_neg (by omega)]
theorem a9{nd m u j p:Nat}(hm:m<=nd)(hp:p+1+j=m):(yx nd u).getD p 0=L4 (u/10^(nd - m)/10^j % 10):=by
 rw[wB nd u p (by omega),RF,<-Ql]
 congr 3;congr 1;omega
structure FL(H0:Heap)(b nd u:Nat)(c:Option Nat)(r:Row)(m:Nat)(tm:TM)(H:Heap):Prop where
 t0:Ys tm=.slice b 1 nd c
 t1:Y2 tm=nI .u64 (u/10^(nd - m))
 t4:Xf tm=nI .i64 m
 le:m<=nd
 heap: ∃R,H=H0.put b (.row R)∧FB r R nd m (yx nd u)
theorem dU{nd u:Nat}{c:Option Nat}{r:Row}(hb:b<H0.nx)(hro:H0.ro<=b)(hnd:nd<=20)(hu:u<18446744073709551616)(cx:Ctx)(x:X)(m:Nat)(tm:TM)(H:Heap)(h:FL H0 b nd u c r m tm H):
  ∃o tm' H',Is cx tm H x=.ok o tm' H' x∧((o=.normal∧ ∃k,k<m∧FL H0 b nd u c r k tm' H')∨(o≠.normal∧o=.exit 0∧m<8∧FL H0 b nd u c r m tm' H')):=by
 have t0:=h.t0;have t1:=h.t1;have t4:=h.t4;have hle:=h.le
 simp only[Pn,PM,OI] at t0 t1 t4
 obtain⟨R,rfl,fb⟩:=h.heap
 generalize hv:u/10^(nd - m)=v at t1
 have hv2:v<18446744073709551616:=by rw[<-hv];exact Tb (S1 ..) hu
 have s1:=fb.size;have s2:=fb.own;have s3:=fb.fz
 by_cases h8:8<=m
 ·have d1:decide (8<=m)=true:=Ze h8
  simp(disch:=first|assumption|omega|(simp -implicitDefEqProofs only[ZQ,ZR]<;>first|assumption|omega)|decide) only[Is,t0,t1,t4,d1,s1,s2,s3,Xx,Xk,Yp,Al,Am,Xb,Yi,Vj,V0,RX,RY,RZ,Re,Rg,RU,QD,Rx,Row.st_size,Row.st_own,Row.st_fz,ZZ,Is,ZC,ZY,Zz,Zw,Zr,Zt,ZA,Nat.reducePow,Nat.reduceDiv,Nat.reduceMod,Nat.reduceEqDiff,reduceCtorEq,Z4,WG,Rn]
  refine⟨_,_,_,rfl,.inl ⟨rfl,m - 8,by omega,t0,?_,rfl,by omega,_,rfl,?_⟩⟩
  ·show nI .u64 (v/100000000)=_
   rw[<-hv,RF,show(100000000:Nat)=10^8 from rfl,<-Ql,show nd - m+8=nd - (m - 8) by omega]
  ·have dd:=λ(p j:Nat) (hp:p+1+j=m)=>a9 (u:=u) hle hp
   rw[hv] at dd
   refine FB.pair (m:=m - 6) (FB.pair (m:=m - 4) (FB.pair (m:=m - 2) (FB.pair fb hle (by omega) (by omega) ?_ ?_) (by omega) (by omega) (by omega) ?_ ?_) (by omega) (by omega) (by omega) ?_ ?_) (by omega) (by omega) (by omega) ?_ ?_
   ·rw[dd (m - 1) 0 (by omega)];congr 1;omega
   ·rw[dd (m - 2) 1 (by omega)];congr 1;omega
   ·rw[dd (m - 3) 2 (by omega)];congr 1;omega
   ·rw[dd (m - 4) 3 (by omega)];congr 1;omega
   ·rw[dd (m - 5) 4 (by omega)];congr 1;omega
   ·rw[dd (m - 6) 5 (by omega)];congr 1;omega
   ·rw[dd (m - 7) 6 (by omega)];congr 1;omega
   ·rw[dd (m - 8) 7 (by omega)];congr 1;omega
 ·have d1:decide (8<=m)=false:=Zb h8
  simp(disch:=first|assumption|omega|(simp -implicitDefEqProofs only[ZQ,ZR]<;>first|assumption|omega)|decide) only[Is,t0,t1,t4,d1,Xx,Xk,Yp,Al,Am,Xb,Yi,Vj,V0,RX,RY,RZ,Re,Rg,RU,QD,Rx,Row.st_size,Row.st_own,Row.st_fz,ZZ,Is,ZC,ZY,Zz,Zw,Zr,Zt,ZA,Nat.reducePow,Nat.reduceDiv,Nat.reduceMod,Nat.reduceEqDiff,reduceCtorEq,Z4,WG,Rn]
  exact⟨_,_,_,rfl,.inr ⟨by simp,rfl,by omega,t0,by rw[hv];exact t1,t4,hle,_,rfl,fb⟩⟩
theorem jk(E:Env Zp fs fuel)(hk:k<3){nd u:Nat}{c:Option Nat}{r:Row}(hr:H.t.get b=some (.row r))(hb:b<H.nx)(hro:H.ro<=b)(hs:r.size=24)(how:r.own=true)(hfz:r.fz=0)(hnd:nd<=20)(hu:u<18446744073709551616)(hud:u<10^nd):
  ∃R,ZJ (LK Zp fs fuel k) fs fuel (n+1) 94 [.slice b 1 nd c,nI .u64 u] H=.ret (.tup []) (H.put b (.row R))∧FB r R nd 0 (yx nd u):=by
 have nn:Gf Zp fs fuel TP RM k 94 [.slice b 1 nd c,nI .u64 u] H=none:=ZF E.n94 (.inr rfl) _ _
 rw[ZL nn E.f94]
 simp(disch:=first|assumption|omega|(simp -implicitDefEqProofs only[ZQ,ZR]<;>first|assumption|omega)|decide) only[kD,ZC,ZY,Zz,Zw,Zr,Zt,ZA,Nat.reducePow,Nat.reduceDiv,Nat.reduceMod,Nat.reduceEqDiff,reduceCtorEq,Z4,JH,E3,yb]
 generalize hL:XQ (Is _) fuel _ _ _=L
 obtain⟨o,Tx,H1,rfl,_,rfl,h8,z⟩:=YA (P:=λT=>FL H b nd u c r nd T H) (Q:=λo tm H'=>o=.exit 0∧ ∃m,m<8∧FL H b nd u c r m tm H')
  (λT hi=>YK (FL H b nd u c r) (λo tm H'=>o=.exit 0∧ ∃m,m<8∧FL H b nd u c r m tm H')
   (λm tm H' h=>by
    obtain⟨o,tm',H2,e,h⟩:=dU hb hro hnd hu _ _ m tm H' h
    refine⟨o,tm',H2,e,?_⟩
    rcases h with h|⟨h1,h2,h3,h4⟩
    ·exact .inl h
    ·exact .inr ⟨h1,h2,m,h3,h4⟩) fuel nd T H (by have:=E.big;omega) hi) hL
  ⟨rfl,by rw[T6,Nat.pow_zero,Nat.div_one];rfl,rfl,Zl _,r,(Bm hr).symm,hs,how,hfz,λi=>by rw[if_neg (by omega)]⟩
 obtain⟨z8,z⟩:=z
 have t0:=z.t0;have t1:=z.t1;have t4:=z.t4;have hle:=z.le
 simp only[Pn,PM,OI] at t0 t1 t4
 obtain⟨R,rfl,fb⟩:=z.heap
 have dd:=λ(p j:Nat) (hp:p+1+j=h8)=>a9 (u:=u) hle hp
 have hv2:u/10^(nd - h8)<10^h8:=by
  rw[Qb (Nat.pow_pos (by decide)),<-Ql,show h8+(nd - h8)=nd by omega];exact hud
 generalize hv:u/10^(nd - h8)=v at t1 dd hv2
 have s1:=fb.size;have s2:=fb.own;have s3:=fb.fz
 have z0:decide (0<0)=false:=rfl
 have z1:decide (0<1)=true:=rfl
 have hm:h8=0∨h8=1∨h8=2∨h8=3∨h8=4∨h8=5∨h8=6∨h8=7:=by omega
 rcases hm with rfl|rfl|rfl|rfl|rfl|rfl|rfl|rfl
 ·have hv3:v<1:=hv2
  simp(disch:=first|assumption|omega|(simp -implicitDefEqProofs only[ZQ,ZR]<;>first|assumption|omega)|decide) only[Tk,UD,t0,t1,t4,s1,s2,s3,z0,z1,V0,Nat.reduceLeDiff,Nat.reduceSub,Nat.reduceAdd,Xx,Xk,Yp,Al,Am,Xb,Yi,Vj,V0,RX,RY,RZ,Re,Rg,RU,QD,Rx,Row.st_size,Row.st_own,Row.st_fz,ZZ,kD,ZC,ZY,Zz,Zw,Zr,Zt,ZA,Nat.reducePow,Nat.reduceDiv,Nat.reduceMod,Nat.reduceEqDiff,reduceCtorEq,Z4,JH,E3,yb]
  refine⟨_,rfl,?_⟩
  exact fb
 ·have hv3:v<10:=hv2
  simp(disch:=first|assumption|omega|(simp -implicitDefEqProofs only[ZQ,ZR]<;>first|assumption|omega)|decide) only[Tk,UD,t0,t1,t4,s1,s2,s3,z0,z1,V0,Nat.reduceLeDiff,Nat.reduceSub,Nat.reduceAdd,Xx,Xk,Yp,Al,Am,Xb,Yi,Vj,V0,RX,RY,RZ,Re,Rg,RU,QD,Rx,Row.st_size,Row.st_own,Row.st_fz,ZZ,kD,ZC,ZY,Zz,Zw,Zr,Zt,ZA,Nat.reducePow,Nat.reduceDiv,Nat.reduceMod,Nat.reduceEqDiff,reduceCtorEq,Z4,JH,E3,yb]
  refine⟨_,rfl,?_⟩
  have e0:nI .u8 (48+v)=XM (L4 (v)):=by
   show AV.int .u8 (.ofNat _)=AV.int .u8 (.ofNat _)
   rw[Ht (by omega)]
  rw[e0]
  refine FB.one (fb) (by omega) ?_
  ·rw[dd 0 0 rfl];congr 1;omega
 ·have hv3:v<100:=hv2
  simp(disch:=first|assumption|omega|(simp -implicitDefEqProofs only[ZQ,ZR]<;>first|assumption|omega)|decide) only[Tk,UD,t0,t1,t4,s1,s2,s3,z0,z1,V0,Nat.reduceLeDiff,Nat.reduceSub,Nat.reduceAdd,Xx,Xk,Yp,Al,Am,Xb,Yi,Vj,V0,RX,RY,RZ,Re,Rg,RU,QD,Rx,Row.st_size,Row.st_own,Row.st_fz,ZZ,kD,ZC,ZY,Zz,Zw,Zr,Zt,ZA,Nat.reducePow,Nat.reduceDiv,Nat.reduceMod,Nat.reduceEqDiff,reduceCtorEq,Z4,JH,E3,yb]
  refine⟨_,rfl,?_⟩
  refine FB.pair (m:=2) (fb) (by omega) rfl rfl ?_ ?_
  ·rw[dd 1 0 rfl];congr 1;omega
  ·rw[dd 0 1 rfl];congr 1;omega
 ·have hv3:v<1000:=hv2
  simp(disch:=first|assumption|omega|(simp -implicitDefEqProofs only[ZQ,ZR]<;>first|assumption|omega)|decide) only[Tk,UD,t0,t1,t4,s1,s2,s3,z0,z1,V0,Nat.reduceLeDiff,Nat.reduceSub,Nat.reduceAdd,Xx,Xk,Yp,Al,Am,Xb,Yi,Vj,V0,RX,RY,RZ,Re,Rg,RU,QD,Rx,Row.st_size,Row.st_own,Row.st_fz,ZZ,kD,ZC,ZY,Zz,Zw,Zr,Zt,ZA,Nat.reducePow,Nat.reduceDiv,Nat.reduceMod,Nat.reduceEqDiff,reduceCtorEq,Z4,JH,E3,yb]
  refine⟨_,rfl,?_⟩
  have e0:nI .u8 (48+v/100)=XM (L4 (v/100)):=by
   show AV.int .u8 (.ofNat _)=AV.int .u8 (.ofNat _)
   rw[Ht (by omega)]
  rw[e0]
  refine FB.one (FB.pair (m:=3) (fb) (by omega) rfl rfl ?_ ?_) (by omega) ?_
  ·rw[dd 2 0 rfl];congr 1;omega
  ·rw[dd 1 1 rfl];congr 1;omega
  ·rw[dd 0 2 rfl];congr 1;omega
 ·have hv3:v<10000:=hv2
  simp(disch:=first|assumption|omega|(simp -implicitDefEqProofs only[ZQ,ZR]<;>first|assumption|omega)|decide) only[Tk,UD,t0,t1,t4,s1,s2,s3,z0,z1,V0,Nat.reduceLeDiff,Nat.reduceSub,Nat.reduceAdd,Xx,Xk,Yp,Al,Am,Xb,Yi,Vj,V0,RX,RY,RZ,Re,Rg,RU,QD,Rx,Row.st_size,Row.st_own,Row.st_fz,ZZ,kD,ZC,ZY,Zz,Zw,Zr,Zt,ZA,Nat.reducePow,Nat.reduceDiv,Nat.reduceMod,Nat.reduceEqDiff,reduceCtorEq,Z4,JH,E3,yb]
  refine⟨_,rfl,?_⟩
  refine FB.pair (m:=2) (FB.pair (m:=4) (fb) (by omega) rfl rfl ?_ ?_) (by omega) rfl rfl ?_ ?_
  ·rw[dd 3 0 rfl];congr 1;omega
  ·rw[dd 2 1 rfl];congr 1;omega
  ·rw[dd 1 2 rfl];congr 1;omega
  ·rw[dd 0 3 rfl];congr 1;omega
 ·have hv3:v<100000:=hv2
  simp(disch:=first|assumption|omega|(simp -implicitDefEqProofs only[ZQ,ZR]<;>first|assumption|omega)|decide) only[Tk,UD,t0,t1,t4,s1,s2,s3,z0,z1,V0,Nat.reduceLeDiff,Nat.reduceSub,Nat.reduceAdd,Xx,Xk,Yp,Al,Am,Xb,Yi,Vj,V0,RX,RY,RZ,Re,Rg,RU,QD,Rx,Row.st_size,Row.st_own,Row.st_fz,ZZ,kD,ZC,ZY,Zz,Zw,Zr,Zt,ZA,Nat.reducePow,Nat.reduceDiv,Nat.reduceMod,Nat.reduceEqDiff,reduceCtorEq,Z4,JH,E3,yb]
  refine⟨_,rfl,?_⟩
  have e0:nI .u8 (48+v/10000)=XM (L4 (v/10000)):=by
   show AV.int .u8 (.ofNat _)=AV.int .u8 (.ofNat _)
   rw[Ht (by omega)]
  rw[e0]
  refine FB.one (FB.pair (m:=3) (FB.pair (m:=5) (fb) (by omega) rfl rfl ?_ ?_) (by omega) rfl rfl ?_ ?_) (by omega) ?_
  ·rw[dd 4 0 rfl];congr 1;omega
  ·rw[dd 3 1 rfl];congr 1;omega
  ·rw[dd 2 2 rfl];congr 1;omega
  ·rw[dd 1 3 rfl];congr 1;omega
  ·rw[dd 0 4 rfl];congr 1;omega
 ·have hv3:v<1000000:=hv2
  simp(disch:=first|assumption|omega|(simp -implicitDefEqProofs only[ZQ,ZR]<;>first|assumption|omega)|decide) only[Tk,UD,t0,t1,t4,s1,s2,s3,z0,z1,V0,Nat.reduceLeDiff,Nat.reduceSub,Nat.reduceAdd,Xx,Xk,Yp,Al,Am,Xb,Yi,Vj,V0,RX,RY,RZ,Re,Rg,RU,QD,Rx,Row.st_size,Row.st_own,Row.st_fz,ZZ,kD,ZC,ZY,Zz,Zw,Zr,Zt,ZA,Nat.reducePow,Nat.reduceDiv,Nat.reduceMod,Nat.reduceEqDiff,reduceCtorEq,Z4,JH,E3,yb]
  refine⟨_,rfl,?_⟩
  refine FB.pair (m:=2) (FB.pair (m:=4) (FB.pair (m:=6) (fb) (by omega) rfl rfl ?_ ?_) (by omega) rfl rfl ?_ ?_) (by omega) rfl rfl ?_ ?_
  ·rw[dd 5 0 rfl];congr 1;omega
  ·rw[dd 4 1 rfl];congr 1;omega
  ·rw[dd 3 2 rfl];congr 1;omega
  ·rw[dd 2 3 rfl];congr 1;omega
  ·rw[dd 1 4 rfl];congr 1;omega
  ·rw[dd 0 5 rfl];congr 1;omega
 ·have hv3:v<10000000:=hv2
  simp(disch:=first|assumption|omega|(simp -implicitDefEqProofs only[ZQ,ZR]<;>first|assumption|omega)|decide) only[Tk,UD,t0,t1,t4,s1,s2,s3,z0,z1,V0,Nat.reduceLeDiff,Nat.reduceSub,Nat.reduceAdd,Xx,Xk,Yp,Al,Am,Xb,Yi,Vj,V0,RX,RY,RZ,Re,Rg,RU,QD,Rx,Row.st_size,Row.st_own,Row.st_fz,ZZ,kD,ZC,ZY,Zz,Zw,Zr,Zt,ZA,Nat.reducePow,Nat.reduceDiv,Nat.reduceMod,Nat.reduceEqDiff,reduceCtorEq,Z4,JH,E3,yb]
  refine⟨_,rfl,?_⟩
  have e0:nI .u8 (48+v/10000/100)=XM (L4 (v/10000/100)):=by
   show AV.int .u8 (.ofNat _)=AV.int .u8 (.ofNat _)
   rw[Ht (by omega)]
  rw[e0]
  refine FB.one (FB.pair (m:=3) (FB.pair (m:=5) (FB.pair (m:=7) (fb) (by omega) rfl rfl ?_ ?_) (by omega) rfl rfl ?_ ?_) (by omega) rfl rfl ?_ ?_) (by omega) ?_
  ·rw[dd 6 0 rfl];congr 1;omega
  ·rw[dd 5 1 rfl];congr 1;omega
  ·rw[dd 4 2 rfl];congr 1;omega
  ·rw[dd 3 3 rfl];congr 1;omega
  ·rw[dd 2 4 rfl];congr 1;omega
  ·rw[dd 1 5 rfl];congr 1;omega
  ·rw[dd 0 6 rfl];congr 1;omega
theorem ry{l:Nat}(hl:l<n)(hlh:l<=h)(hh:h<=n)(b o:Nat)(k j:IntKind)(H:Heap):Bv n 1 (.ptr b o) (some (nI k l)) (some (nI j h)) H=.val (.slice b (o+l) (h - l) (some (n - l))) H:=by
 show ZX (Nat.ble h n) (ZX (Nat.ble l h) (cond (Nat.beq l n) _ (OR.val (.slice b (o+l*1) (h - l) (some (n - l))) H)))=_
 rw[Zm hh,Zm hlh,Yu,Zb (by omega),Xw];rfl
theorem wG(m:Nat):SF (.ofNat m)=dec m:=rfl
theorem wH(m:Nat):SF (.negSucc m)=45::dec (m+1):=by unfold SF;rw[if_pos (Int.negSucc_lt_zero m)];rfl
theorem qD(k:IntKind)(m:Nat):AV.int k (.ofNat m)=nI k m:=rfl
theorem tB(E:Env Zp fs fuel){z:Int}(g:PC H)(hro:H.ro<=H.nx)(hz1: -9223372036854775808<=z)(hz2:z<9223372036854775808):
  ∃H',ZJ (LK Zp fs fuel 2) fs fuel (n+2) 81 [.int .i64 z,nI .i64 10] H=.ret (.str (SF z)) H'∧Zq H H' []:=by
 rw[ZL (ZF E.n81 (.inl (by decide)) _ _) E.f81]
 cases z with
 |ofNat m=>
  have hz2:m<9223372036854775808:=by simp at hz2;omega
  by_cases h:m<100
  ·have es:=λ{j}=>Zgm (Zp:=Zp) (fs:=fs) (fuel:=fuel) E (k:=2) (n:=j) (by decide) (H:=H) h
   have d0:decide (0<=m)=true:=Ze (Z8 _)
   have d1:decide (m<100)=true:=Ze h
   simp(disch:=first|assumption|omega|(simp -implicitDefEqProofs only[ZQ,ZR]<;>first|assumption|omega)|decide) only[qD,d0,d1,es,Gv,ry,F8,F9,Zs,Vg,Nat.reduceSub,YZ,ZH,X6,Do,y2,CU,IJ,C5,Mf,Rx,Row.st_size,Row.st_own,Row.st_fz,ZZ,YD,c81,ZC,ZY,Zz,Zw,Zr,Zt,ZA,Nat.reduceEqDiff,reduceCtorEq,Z4,WG]
   exact⟨_,rfl,Zq.refl _ _⟩
  ·skip
   obtain⟨H1,hH1⟩:=XZ (H.new (.row ⟨146,1,24,.leaf,nI .u8 0,0,false,true,true⟩))
   have U2:H1.nx=H.nx+1:=by rw[<-hH1];rfl
   have Rm:H1.ro=H.ro:=by rw[<-hH1];rfl
   have k1:Zq H H1 []:=by rw[<-hH1];exact Zq.new H _ []
   have ga:H1.t.get H.nx=some (.row ⟨146,1,24,.leaf,nI .u8 0,0,false,true,true⟩):=by rw[<-hH1,Zx rfl]
   have hl:=Gn (m)
   have hl2:QH (m)<=20:=Dr (by decide) (Nat.lt_trans (show m<18446744073709551616 by omega) (by decide))
   have en:=λ{j}=>zl (Zp:=Zp) (fs:=fs) (fuel:=fuel) E (k:=2) (n:=j) (by decide) (H:=H1) (g.keep k1 (by simp)) (d:=m) (by omega) (by omega)
   obtain⟨R,ef,fb⟩:=jk (Zp:=Zp) (fs:=fs) (fuel:=fuel) E (k:=2) (n:=n) (by decide) (H:=H1) (b:=H.nx) (nd:=QH (m)) (u:=m) (c:=some 23) ga (by omega) (by rw[Rm];exact hro) rfl rfl rfl hl2 (by omega) (ph _)
   have s1:=fb.size;have s2:=fb.own;have s3:=fb.fz
   have el: ∀c,Ry (.slice H.nx 1 (QH m) c) (H1.put H.nx (.row R))=.val (.str (SF (.ofNat m))) (H1.put H.nx (.row R)):=λc=>by
    refine K2 (Y1 _ _ _) (by rw[wG,Hp]) (by rw[s1];omega) λi hi=>?_
    rw[fb.get,wG,if_pos (by omega),show 1+i - 1=i by omega];rfl
   have d0:decide (0<=m)=true:=Ze (Z8 _)
   have d1:decide (m<100)=false:=Zb h
   have d2:decide (m<0)=false:=Zb (OC _)
   simp(disch:=first|assumption|omega|(simp -implicitDefEqProofs only[ZQ,ZR]<;>first|assumption|omega)|decide) only[qD,d0,d1,d2,en,ef,el,hH1,U2,Rm,s1,s2,s3,Gv,ry,F8,F9,Zs,Vg,Nat.reduceSub,YZ,ZH,X6,Do,y2,CU,IJ,C5,Mf,Rx,Row.st_size,Row.st_own,Row.st_fz,ZZ,YD,c81,ZC,ZY,Zz,Zw,Zr,Zt,ZA,Nat.reduceEqDiff,reduceCtorEq,Z4,WG]
   exact⟨_,rfl,k1.then_put λh=>absurd h (VA _)⟩
 |negSucc m=>
  have hz1:m<9223372036854775808:=by omega
  obtain⟨H1,hH1⟩:=XZ (H.new (.row ⟨146,1,24,.leaf,nI .u8 0,0,false,true,true⟩))
  have U2:H1.nx=H.nx+1:=by rw[<-hH1];rfl
  have Rm:H1.ro=H.ro:=by rw[<-hH1];rfl
  have k1:Zq H H1 []:=by rw[<-hH1];exact Zq.new H _ []
  have ga:H1.t.get H.nx=some (.row ⟨146,1,24,.leaf,nI .u8 0,0,false,true,true⟩):=by rw[<-hH1,Zx rfl]
  have hl:=Gn (m+1)
  have hl2:QH (m+1)<=20:=Dr (by decide) (Nat.lt_trans (show m+1<18446744073709551616 by omega) (by decide))
  have en:=λ{j}=>zl (Zp:=Zp) (fs:=fs) (fuel:=fuel) E (k:=2) (n:=j) (by decide) (H:=H1) (g.keep k1 (by simp)) (d:=m+1) (by omega) (by omega)
  obtain⟨R,ef,fb⟩:=jk (Zp:=Zp) (fs:=fs) (fuel:=fuel) E (k:=2) (n:=n) (by decide) (H:=H1) (b:=H.nx) (nd:=QH (m+1)) (u:=m+1) (c:=some 23) ga (by omega) (by rw[Rm];exact hro) rfl rfl rfl hl2 (by omega) (ph _)
  have s1:=fb.size;have s2:=fb.own;have s3:=fb.fz
  have el: ∀c,Ry (.slice H.nx 0 (1+QH (m+1)) c) (H1.put H.nx (.row (R.st 0 (nI .u8 45))))=.val (.str (SF (.negSucc m))) (H1.put H.nx (.row (R.st 0 (nI .u8 45)))):=λc=>by
   refine K2 (Y1 _ _ _) (by rw[wH,Zh,Hp];omega) (by rw[Row.st_size,s1];omega) λi hi=>?_
   rw[Zs,Row.st_get,fb.get,wH]
   by_cases h0:0=i
   ·subst h0;rw[if_pos rfl];rfl
   ·rw[if_neg h0,if_pos (by omega)]
    obtain⟨j,rfl⟩: ∃j,i=j+1:=⟨i - 1,by omega⟩
    rfl
  have e9:18446744073709551616 - (18446744073709551615 - m)=m+1:=by omega
  simp(disch:=first|assumption|omega|(simp -implicitDefEqProofs only[ZQ,ZR]<;>first|assumption|omega)|decide) only[en,ef,el,hH1,e9,U2,Rm,s1,s2,s3,Gv,ry,F8,F9,Zs,Vg,Nat.reduceSub,YZ,ZH,X6,Do,y2,CU,IJ,C5,Mf,Rx,Row.st_size,Row.st_own,Row.st_fz,ZZ,YD,c81,ZC,ZY,Zz,Zw,Zr,Zt,ZA,Nat.reduceEqDiff,reduceCtorEq,Z4,WG]
  exact⟨_,rfl,k1.then_put λh=>absurd h (VA _)⟩
theorem Zby(E:Env Zp fs fuel)(hk:3<=k){z:Int}(g:PC H)(hro:H.ro<=H.nx)(hz1: -9223372036854775808<=z)(hz2:z<9223372036854775808):
  ZJ (LK Zp fs fuel k) fs fuel (n+1) 81 [.int .i64 z,nI .i64 10] H=.ret (.str (SF z)) H:=by
 obtain⟨H',e,g⟩:=tB E (n:=898) (H:=H) g hro hz1 hz2
 exact Wn (r:=2) rfl rfl e g (rfl) hk
theorem yH(E:Env Zp fs fuel){z:Int}(g:PC H)(hro:H.ro<=H.nx)(hz1: -9223372036854775808<=z)(hz2:z<9223372036854775808):
  ∃H',ZJ (LK Zp fs fuel 3) fs fuel (n+2) 62 [.int .i64 z,nI .i64 10] H=.ret (.str (SF z)) H'∧Zq H H' []:=by
 rw[ZL (ZF E.n62 (.inl (by decide)) _ _) E.f62]
 have es:=λ{j}=>Zby (Zp:=Zp) (fs:=fs) (fuel:=fuel) E (k:=3) (n:=j) (by decide) g hro hz1 hz2
 simp(disch:=first|assumption|omega|(simp -implicitDefEqProofs only[ZQ,ZR]<;>first|assumption|omega)|decide) only[es,c62,ZC,ZY,Zz,Zw,Zr,Zt,ZA,Nat.reduceEqDiff,reduceCtorEq,Z4]
 exact⟨_,rfl,Zq.refl _ _⟩
theorem jp(E:Env Zp fs fuel)(hk:4<=k){z:Int}(g:PC H)(hro:H.ro<=H.nx)(hz1: -9223372036854775808<=z)(hz2:z<9223372036854775808):
  ZJ (LK Zp fs fuel k) fs fuel (n+1) 62 [.int .i64 z,nI .i64 10] H=.ret (.str (SF z)) H:=by
 obtain⟨H',e,g⟩:=yH E (n:=898) (H:=H) g hro hz1 hz2
 exact Wn (r:=3) rfl rfl e g (rfl) hk
end
end
end Go.AI
