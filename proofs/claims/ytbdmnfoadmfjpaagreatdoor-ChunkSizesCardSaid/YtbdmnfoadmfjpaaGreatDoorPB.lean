/- Numbers in words: walked: proved without conditions but those that each names. -/
import Derived.Test.YtbdmnfoadmfjpaaGreatDoorP8
import Derived.Test.YtbdmnfoadmfjpaaGreatDoorPA
set_option maxRecDepth 1000000
set_option maxHeartbeats 0
set_option linter.unusedVariables false
set_option linter.unusedSimpArgs false
namespace Go.AI
open Go
noncomputable section
def On(x:Nat):Nat:=if x=0 then 0 else Nat.log2 x+1
theorem ul: ∀x,x<256->(tB.getD x 0).toNat=On x:=by decide
theorem Be{x k:Nat}(h:2^k<=x):On x=k+On (x/2^k):=by
 have hp:0<2^k:=Nat.two_pow_pos k
 have h1:x≠0:=by omega
 have h2:x/2^k≠0:=by
  have:=Nat.div_pos h hp;omega
 unfold On
 rw[if_neg h1,if_neg h2]
 have e1:=(Nat.log2_eq_iff h2 (k:=Nat.log2 (x/2^k))).1 rfl
 have:Nat.log2 x=k+Nat.log2 (x/2^k):=by
  refine(Nat.log2_eq_iff h1).2 ⟨?_,?_⟩
  ·rw[Pj]
   calc 2^k*2^Nat.log2 (x/2^k)<=2^k*(x/2^k):=Nat.mul_le_mul_left _ e1.1
    _<=x:=Nat.mul_div_le x _
  ·rw[X3,Pj,V6]
   exact(Q5 hp).1 e1.2
 omega
theorem Zcq{x:Nat}(h:4294967296<=x):On x=32+On (x/4294967296):=Be (k:=32) h
theorem nf{x:Nat}(h:65536<=x):On x=16+On (x/65536):=Be (k:=16) h
theorem wt{x:Nat}(h:256<=x):On x=8+On (x/256):=Be (k:=8) h
theorem wu{x k:Nat}(h:x<2^k):On x<=k:=by
 unfold On
 split
 ·omega
 ·rename_i h0
  have:=(Nat.log2_lt h0).2 h
  omega
theorem jZ{Zo:Lib}{fs:T CF}{fuel:Nat}(E:Env Zo fs fuel){n:Nat}{x:Nat}{H:Heap}(hx:x<18446744073709551616):
  ∃H',Z8 (LK Zo fs fuel 0) fs fuel (n+2) 115 [nI .u64 x] H=.ret (nI .i64 (On x)) H'∧ZE H H' []:=by
 rw[Z7 (Z2 E.n115 (.inl (by decide)) _ _) E.f115]
 have hl:tB.length=256:=by decide
 have tab: ∀y,y<256->tB.getD (y % 256) 0=UInt8.ofNat (On y):=λy hy=>by
  rw[YD hy,<-ul y hy];simp
 have tb: ∀y,y<256->(tB.getD (y % 256) 0).toNat=On y:=λy hy=>by rw[YD hy,ul y hy]
 have bl: ∀y,On (y % 256)<=8:=λy=>wu (k:=8) (Vu _ (by decide))
 by_cases h1:4294967296<=x
 ·have d1:decide (4294967296<=x)=true:=Zj h1
  rw[Zcq h1]
  generalize hy:x/4294967296=y
  have hy2:y<4294967296:=by omega
  by_cases h2:65536<=y
  ·have d2:decide (65536<=y)=true:=Zj h2
   rw[nf h2]
   generalize hz:y/65536=z
   have hz2:z<65536:=by omega
   by_cases h3:256<=z
   ·have d3:decide (256<=z)=true:=Zj h3
    rw[wt h3]
    generalize hw:z/256=w
    have hw2:w<256:=by omega
    have hm:=YD hw2
    have hb:=bl w
    rw[hm] at hb
    have hb2:=tb w hw2
    rw[hm] at hb2
    simp(disch:=first|omega|decide) only[ZM,TA,M2,Ye,Sb,Yy,Nat.reducePow,d1,hy,d2,hz,d3,hw,hm,hb2,Bi,Yf,Xr,ZV,Yv,Z0,Z1,Yc,Nat.reducePow,Nat.reduceDiv,Nat.reduceMod,Nat.reduceEqDiff,reduceCtorEq,Xq]
    exact⟨_,by first|rfl|simp only[X3],ZE.refl _ _⟩
   ·have d3:decide (256<=z)=false:=Ze h3
    have hw2:z<256:=by omega
    have hm:=YD hw2
    have hb:=bl z
    rw[hm] at hb
    have hb2:=tb z hw2
    rw[hm] at hb2
    simp(disch:=first|omega|decide) only[ZM,TA,M2,Ye,Sb,Yy,Nat.reducePow,d1,hy,d2,hz,d3,hm,hb2,Bi,Yf,Xr,ZV,Yv,Z0,Z1,Yc,Nat.reducePow,Nat.reduceDiv,Nat.reduceMod,Nat.reduceEqDiff,reduceCtorEq,Xq]
    exact⟨_,by first|rfl|simp only[X3],ZE.refl _ _⟩
  ·have d2:decide (65536<=y)=false:=Ze h2
   have hz2:y<65536:=by omega
   by_cases h3:256<=y
   ·have d3:decide (256<=y)=true:=Zj h3
    rw[wt h3]
    generalize hw:y/256=w
    have hw2:w<256:=by omega
    have hm:=YD hw2
    have hb:=bl w
    rw[hm] at hb
    have hb2:=tb w hw2
    rw[hm] at hb2
    simp(disch:=first|omega|decide) only[ZM,TA,M2,Ye,Sb,Yy,Nat.reducePow,d1,hy,d2,d3,hw,hm,hb2,Bi,Yf,Xr,ZV,Yv,Z0,Z1,Yc,Nat.reducePow,Nat.reduceDiv,Nat.reduceMod,Nat.reduceEqDiff,reduceCtorEq,Xq]
    exact⟨_,by first|rfl|simp only[X3],ZE.refl _ _⟩
   ·have d3:decide (256<=y)=false:=Ze h3
    have hw2:y<256:=by omega
    have hm:=YD hw2
    have hb:=bl y
    rw[hm] at hb
    have hb2:=tb y hw2
    rw[hm] at hb2
    simp(disch:=first|omega|decide) only[ZM,TA,M2,Ye,Sb,Yy,Nat.reducePow,d1,hy,d2,d3,hm,hb2,Bi,Yf,Xr,ZV,Yv,Z0,Z1,Yc,Nat.reducePow,Nat.reduceDiv,Nat.reduceMod,Nat.reduceEqDiff,reduceCtorEq,Xq]
    exact⟨_,by first|rfl|simp only[X3],ZE.refl _ _⟩
 ·have d1:decide (4294967296<=x)=false:=Ze h1
  have hy2:x<4294967296:=by omega
  by_cases h2:65536<=x
  ·have d2:decide (65536<=x)=true:=Zj h2
   rw[nf h2]
   generalize hz:x/65536=z
   have hz2:z<65536:=by omega
   by_cases h3:256<=z
   ·have d3:decide (256<=z)=true:=Zj h3
    rw[wt h3]
    generalize hw:z/256=w
    have hw2:w<256:=by omega
    have hm:=YD hw2
    have hb:=bl w
    rw[hm] at hb
    have hb2:=tb w hw2
    rw[hm] at hb2
    simp(disch:=first|omega|decide) only[ZM,TA,M2,Ye,Sb,Yy,Nat.reducePow,d1,d2,hz,d3,hw,hm,hb2,Bi,Yf,Xr,ZV,Yv,Z0,Z1,Yc,Nat.reducePow,Nat.reduceDiv,Nat.reduceMod,Nat.reduceEqDiff,reduceCtorEq,Xq]
    exact⟨_,by first|rfl|simp only[X3],ZE.refl _ _⟩
   ·have d3:decide (256<=z)=false:=Ze h3
    have hw2:z<256:=by omega
    have hm:=YD hw2
    have hb:=bl z
    rw[hm] at hb
    have hb2:=tb z hw2
    rw[hm] at hb2
    simp(disch:=first|omega|decide) only[ZM,TA,M2,Ye,Sb,Yy,Nat.reducePow,d1,d2,hz,d3,hm,hb2,Bi,Yf,Xr,ZV,Yv,Z0,Z1,Yc,Nat.reducePow,Nat.reduceDiv,Nat.reduceMod,Nat.reduceEqDiff,reduceCtorEq,Xq]
    exact⟨_,by first|rfl|simp only[X3],ZE.refl _ _⟩
  ·have d2:decide (65536<=x)=false:=Ze h2
   have hz2:x<65536:=by omega
   by_cases h3:256<=x
   ·have d3:decide (256<=x)=true:=Zj h3
    rw[wt h3]
    generalize hw:x/256=w
    have hw2:w<256:=by omega
    have hm:=YD hw2
    have hb:=bl w
    rw[hm] at hb
    have hb2:=tb w hw2
    rw[hm] at hb2
    simp(disch:=first|omega|decide) only[ZM,TA,M2,Ye,Sb,Yy,Nat.reducePow,d1,d2,d3,hw,hm,hb2,Bi,Yf,Xr,ZV,Yv,Z0,Z1,Yc,Nat.reducePow,Nat.reduceDiv,Nat.reduceMod,Nat.reduceEqDiff,reduceCtorEq,Xq]
    exact⟨_,by first|rfl|simp only[X3],ZE.refl _ _⟩
   ·have d3:decide (256<=x)=false:=Ze h3
    have hw2:x<256:=by omega
    have hm:=YD hw2
    have hb:=bl x
    rw[hm] at hb
    have hb2:=tb x hw2
    rw[hm] at hb2
    simp(disch:=first|omega|decide) only[ZM,TA,M2,Ye,Sb,Yy,Nat.reducePow,d1,d2,d3,hm,hb2,Bi,Yf,Xr,ZV,Yv,Z0,Z1,Yc,Nat.reducePow,Nat.reduceDiv,Nat.reduceMod,Nat.reduceEqDiff,reduceCtorEq,Xq]
    exact⟨_,by first|rfl|simp only[X3],ZE.refl _ _⟩
theorem ZkA{Zo:Lib}{fs:T CF}{fuel:Nat}(E:Env Zo fs fuel){k n:Nat}(hk:1<=k){x:Nat}{H:Heap}(hx:x<18446744073709551616):
  Z8 (LK Zo fs fuel k) fs fuel (n+1) 115 [nI .u64 x] H=.ret (nI .i64 (On x)) H:=by
 obtain⟨H',e,g⟩:=jZ E (n:=898) (H:=H) hx
 exact Xp (r:=0) rfl rfl e g (rfl) hk
theorem pv{Zo:Lib}{fs:T CF}{fuel:Nat}(E:Env Zo fs fuel){n:Nat}{x:Nat}{H:Heap}(hx:x<=64):
  ∃H',Z8 (LK Zo fs fuel 0) fs fuel (n+2) 114 [nI .i64 x] H=.ret (nI .i64 (x*78913/262144)) H'∧ZE H H' []:=by
 rw[Z7 (Z2 E.n114 (.inl (by decide)) _ _) E.f114]
 simp(disch:=first|omega|decide) only[EB,gI,Nat.reducePow,Zcv,Yf,Xr,ZV,Yv,Z0,Z1,Yc,Nat.reducePow,Nat.reduceDiv,Nat.reduceMod,Nat.reduceEqDiff,reduceCtorEq,Xq]
 exact⟨_,rfl,ZE.refl _ _⟩
theorem Zhn{Zo:Lib}{fs:T CF}{fuel:Nat}(E:Env Zo fs fuel){k n:Nat}(hk:1<=k){x:Nat}{H:Heap}(hx:x<=64):
  Z8 (LK Zo fs fuel k) fs fuel (n+1) 114 [nI .i64 x] H=.ret (nI .i64 (x*78913/262144)) H:=by
 obtain⟨H',e,g⟩:=pv E (n:=898) (H:=H) hx
 exact Xp (r:=0) rfl rfl e g (rfl) hk
theorem kV{Zo:Lib}{fs:T CF}{fuel:Nat}(E:Env Zo fs fuel){n:Nat}{b:Bool}{H:Heap}:
  ∃H',Z8 (LK Zo fs fuel 0) fs fuel (n+2) 116 [.bool b] H=.ret (nI .i64 (if b then 1 else 0)) H'∧ZE H H' []:=by
 rw[Z7 (Z2 E.n116 (.inl (by decide)) _ _) E.f116]
 cases b
 ·simp(disch:=first|omega|decide) only[fW,Yf,Xr,ZV,Yv,Z0,Z1,Yc,Nat.reduceEqDiff,reduceCtorEq,Xq]
  exact⟨_,rfl,ZE.refl _ _⟩
 ·simp(disch:=first|omega|decide) only[fW,Yf,Xr,ZV,Yv,Z0,Z1,Yc,Nat.reduceEqDiff,reduceCtorEq,Xq]
  exact⟨_,rfl,ZE.refl _ _⟩
theorem ZiT{Zo:Lib}{fs:T CF}{fuel:Nat}(E:Env Zo fs fuel){k n:Nat}(hk:1<=k){b:Bool}{H:Heap}:
  Z8 (LK Zo fs fuel k) fs fuel (n+1) 116 [.bool b] H=.ret (nI .i64 (if b then 1 else 0)) H:=by
 obtain⟨H',e,g⟩:=kV E (n:=898) (H:=H)
 exact Xp (r:=0) rfl rfl e g (rfl) hk
theorem gN: ∀x,x<100->(if x<10 then(JG.take (x+1)).drop x else(RW.take (x*2+2)).drop (x*2))=dec x:=by
 intro x hx
 by_cases h:x<10
 ·rw[if_pos h,eV h]
  have: ∀x,x<10->(JG.take (x+1)).drop x=[K3 x]:=by decide
  exact this x h
 ·rw[if_neg h,Zgn (by omega),eV (by omega)]
  have: ∀x,x<100->(RW.take (x*2+2)).drop (x*2)=[K3 (x/10)]++[K3 (x % 10)]:=by decide
  exact this x hx
theorem gM{Zo:Lib}{fs:T CF}{fuel:Nat}(E:Env Zo fs fuel){n:Nat}{x:Nat}{H:Heap}(hx:x<100):
  ∃H',Z8 (LK Zo fs fuel 0) fs fuel (n+2) 98 [nI .i64 x] H=.ret (.str (dec x)) H'∧ZE H H' []:=by
 rw[Z7 (Z2 E.n98 (.inl (by decide)) _ _) E.f98]
 have l1:JG.length=36:=by decide
 have l2:RW.length=200:=by decide
 have st:=gN x hx
 by_cases h:x<10
 ·have d:decide (x<10)=true:=Zj h
  rw[if_pos h] at st
  simp(disch:=first|omega|decide) only[Zy,Yy,EB,xz,d,st,c98,Yf,Xr,ZV,Yv,Z0,Z1,Yc,Nat.reducePow,Nat.reduceDiv,Nat.reduceMod,Nat.reduceEqDiff,reduceCtorEq,Xq]
  exact⟨_,rfl,ZE.refl _ _⟩
 ·have d:decide (x<10)=false:=Ze h
  rw[if_neg h] at st
  simp(disch:=first|omega|decide) only[Zy,Yy,EB,xz,d,st,c98,Yf,Xr,ZV,Yv,Z0,Z1,Yc,Nat.reducePow,Nat.reduceDiv,Nat.reduceMod,Nat.reduceEqDiff,reduceCtorEq,Xq]
  exact⟨_,rfl,ZE.refl _ _⟩
theorem ZfF{Zo:Lib}{fs:T CF}{fuel:Nat}(E:Env Zo fs fuel){k n:Nat}(hk:1<=k){x:Nat}{H:Heap}(hx:x<100):
  Z8 (LK Zo fs fuel k) fs fuel (n+1) 98 [nI .i64 x] H=.ret (.str (dec x)) H:=by
 obtain⟨H',e,g⟩:=gM E (n:=898) (H:=H) hx
 exact Xp (r:=0) rfl rfl e g (rfl) hk
def pD(d:Nat):Nat:=On d*78913/262144
theorem Zpb: ∀L,L<65->1<=L->(L*78913/262144<=19∧10^(L*78913/262144)<=2^(L - 1)*10∧2^L<=10^(L*78913/262144+1)∧(L*78913/262144=0∨10^(L*78913/262144 - 1)<=2^(L - 1))):=by decide
theorem ZkJ{d:Nat}(h0:d≠0)(h:d<18446744073709551616):pD d<=19∧TU d=pD d+(if 10^pD d<=d then 1 else 0):=by
 have hb:On d=Nat.log2 d+1:=by unfold On;rw[if_neg h0]
 have e1:=(Nat.log2_eq_iff h0 (k:=Nat.log2 d)).1 rfl
 have hL:On d<=64:=wu (k:=64) h
 obtain⟨p0,p1,p2,p3⟩:=Zpb (On d) (by omega) (by omega)
 have g:On d - 1=Nat.log2 d:=by omega
 rw[g] at p1 p3
 have p2':d<10^(pD d+1):=ZZ (by rw[hb];exact e1.2) p2
 refine⟨p0,?_⟩
 by_cases hc:10^pD d<=d
 ·rw[if_pos hc]
  exact vq _ _ hc p2'
 ·rw[if_neg hc]
  rcases p3 with p3|p3
  ·have:pD d=0:=p3
   rw[this] at hc
   simp at hc;omega
  ·by_cases hz:pD d=0
   ·rw[hz] at hc;simp at hc;omega
   ·have:TU d=(pD d - 1)+1:=vq _ _ (Yl p3 e1.1) (by rw[show pD d - 1+1=pD d by omega];omega)
    omega
theorem Zeq: ∀i,i<20->(lE.getD i 0).toNat=10^i:=by decide
theorem zx{Zo:Lib}{fs:T CF}{fuel:Nat}(E:Env Zo fs fuel){n:Nat}{d:Nat}{H:Heap}(g:P8 H)(h0:d≠0)(hd:d<18446744073709551616):
  ∃H',Z8 (LK Zo fs fuel 1) fs fuel (n+2) 99 [nI .u64 d] H=.ret (nI .i64 (TU d)) H'∧ZE H H' []:=by
 rw[Z7 (Z2 E.n99 (.inl (by decide)) _ _) E.f99]
 obtain⟨g0,⟨r,gr,gc⟩,_⟩:=g
 obtain⟨p1,p2⟩:=ZkJ h0 hd
 have hbl:On d<=64:=wu (k:=64) hd
 have e1:=λ{k m} (hk:1<=k)=>ZkA (Zo:=Zo) (fs:=fs) (fuel:=fuel) E (k:=k) (n:=m) hk (H:=H) hd
 have e2:=λ{k m} (hk:1<=k)=>Zhn (Zo:=Zo) (fs:=fs) (fuel:=fuel) E (k:=k) (n:=m) hk (H:=H) hbl
 have e3:=λ{k m} (hk:1<=k) (b)=>ZiT (Zo:=Zo) (fs:=fs) (fuel:=fuel) E (k:=k) (n:=m) hk (b:=b) (H:=H)
 have ld:TI (.ptr 6 (pD d)) H=.val (nI .u64 (10^pD d)) H:=by
  rw[Ta gr gc (by rw[Zt];show _<20;omega),Zf,YO]
  have:=Zeq (pD d) (by omega)
  rw[Zf] at this
  rw[Zn (show pD d<lE.length by show _<20;omega)] at this ⊢
  show OR.val (ZeP _) H=_
  unfold ZeP nI
  rw[<-this];rfl
 unfold pD at ld p1 p2
 simp(disch:=first|omega|decide) only[e1,e2,e3,Se,Yq,ZM,Yy,Zb,c99,Yf,Xr,ZV,Yv,Z0,Z1,Yc,Nat.reduceEqDiff,reduceCtorEq,Xq]
 rw[yX] at ld
 simp(disch:=first|omega|decide) only[ld,e3,Se,ZM,c99,Yf,Xr,ZV,Yv,Z0,Z1,Yc,Nat.reduceEqDiff,reduceCtorEq,Xq]
 by_cases hc:10^(On d*78913/262144)<=d
 ·rw[if_pos hc] at p2
  have dc:decide (10^(On d*78913/262144)<=d)=true:=Zj hc
  simp(disch:=first|omega|decide) only[dc,e3,Se,if_true,Yy,c99,Yf,Xr,ZV,Yv,Z0,Z1,Yc,Nat.reduceEqDiff,reduceCtorEq,Xq]
  exact⟨_,by rw[p2],ZE.refl _ _⟩
 ·rw[if_neg hc] at p2
  have dc:decide (10^(On d*78913/262144)<=d)=false:=Ze hc
  simp(disch:=first|omega|decide) only[dc,e3,Se,XU,if_false,Yy,c99,Yf,Xr,ZV,Yv,Z0,Z1,Yc,Nat.reduceEqDiff,reduceCtorEq,Xq]
  exact⟨_,by rw[p2],ZE.refl _ _⟩
theorem EC{Zo:Lib}{fs:T CF}{fuel:Nat}(E:Env Zo fs fuel){k n:Nat}(hk:2<=k){d:Nat}{H:Heap}(g:P8 H)(h0:d≠0)(hd:d<18446744073709551616):
  Z8 (LK Zo fs fuel k) fs fuel (n+1) 99 [nI .u64 d] H=.ret (nI .i64 (TU d)) H:=by
 obtain⟨H',e,g⟩:=zx E (n:=898) (H:=H) g h0 hd
 exact Xp (r:=1) rfl rfl e g (rfl) hk
namespace T
variable {α:Type}
theorem setB_same(x:α): ∀(t:T α) (bs:List Bool),t.getB bs=some x->setB x t bs=t
 |leaf,bs,h=>by cases h
 |node l v r,[],h=>by
  have h:v=some x:=h
  subst h;rfl
 |node l v r,true::bs,h=>by rw[Gc,setB_same x l bs h]
 |node l v r,false::bs,h=>by rw[Gb,setB_same x r bs h]
end T
theorem sK{H:Heap}{b:Nat}{o:Obj}(h:H.t.get b=some o):H.put b o=H:=by
 unfold Heap.put T.set
 rw[T.setB_same o H.t (bits b) h]
theorem ux: ∀k n i,i<k->(wE k n).getD i 0=K3 (n/10^(k - 1 - i) % 10)
 |0,_,_,h=>by omega
 |k+1,n,i,h=>by
  show(wE k (n/10)++[K3 (n % 10)]).getD i 0=_
  rw[Zf]
  by_cases hi:i<k
  ·rw[Yt (by rw[Jr];exact hi),<-Zf,ux k (n/10) i hi,Qz]
   congr 3
   rw[show k+1 - 1 - i=(k - 1 - i)+1 by omega,S4,V6]
  ·obtain rfl:i=k:=by omega
   rw[Yz (by rw[Jr];exact Zq _),Jr,Tl,show i+1 - 1 - i=0 by omega,Nat.pow_zero,Nat.div_one];rfl
theorem ZaN:RW.length=200:=by decide
theorem Zpi: ∀x,x<100->RW.getD (x*2) 0=K3 (x/10):=by decide
theorem Zpj: ∀x,x<100->RW.getD (x*2+1) 0=K3 (x % 10):=by decide
theorem zF{x:Nat}(hx:x<100)(H:Heap):M0 (.str RW) (nI .u32 (x*2)) H=.val (X8 (K3 (x/10))) H:=by rw[Mj (by rw[ZaN];omega),Zpi x hx]
theorem zG{x:Nat}(hx:x<100)(H:Heap):M0 (.str RW) (nI .u32 (x*2+1)) H=.val (X8 (K3 (x % 10))) H:=by rw[Mj (by rw[ZaN];omega),Zpj x hx]
structure FB(zo:Nat)(r R:Row)(nd m:Nat)(ds:List UInt8):Prop where
 size:R.size=24
 own:R.own=true
 fz:R.fz=0
 get: ∀i,R.get i=if zo+m<=i∧i<zo+nd then X8 (ds.getD (i - zo) 0) else r.get i
theorem FB.pair{r R:Row}{zo nd m p q d1 d2:Nat}{ds:List UInt8}(h:FB zo r R nd m ds)(hm:m<=nd)(hp:p+1=m)(hq:q+2=m)(h1:ds.getD p 0=K3 d1)(h2:ds.getD q 0=K3 d2):
  FB zo r ((R.st (zo+p) (X8 (K3 d1))).st (zo+q) (X8 (K3 d2))) nd q ds:=by
 refine⟨h.size,h.own,h.fz,λi=>?_⟩
 rw[Row.st_get,Row.st_get,h.get]
 by_cases e2:zo+q=i
 ·rw[if_pos e2,if_pos (by omega),<-h2,show i - zo=q by omega]
 ·rw[if_neg e2]
  by_cases e1:zo+p=i
  ·rw[if_pos e1,if_pos (by omega),<-h1,show i - zo=p by omega]
  ·rw[if_neg e1]
   by_cases e:zo+m<=i∧i<zo+nd
   ·rw[if_pos e,if_pos (by omega)]
   ·rw[if_neg e,if_neg (by omega)]
theorem FB.one{r R:Row}{zo nd d:Nat}{ds:List UInt8}(h:FB zo r R nd 1 ds)(hm:1<=nd)(h1:ds.getD 0 0=K3 d):FB zo r (R.st zo (X8 (K3 d))) nd 0 ds:=by
 refine⟨h.size,h.own,h.fz,λi=>?_⟩
 rw[Row.st_get,h.get]
 by_cases e1:zo=i
 ·rw[if_pos e1,if_pos (by omega),<-h1,show i - zo=0 by omega]
 ·rw[if_neg e1]
  by_cases e:zo+1<=i∧i<zo+nd
  ·rw[if_pos e,if_pos (by omega)]
  ·rw[if_neg e,if_neg (by omega)]
theorem Ze5{nd m u j p:Nat}(hm:m<=nd)(hp:p+1+j=m):(wE nd u).getD p 0=K3 (u/10^(nd - m)/10^j % 10):=by
 rw[ux nd u p (by omega),Qz,<-Pj]
 congr 3;congr 1;omega
structure FL(H0:Heap)(b zo nd u:Nat)(c:Option Nat)(r:Row)(m:Nat)(tm:TM)(H:Heap):Prop where
 t0:Y3 tm=.slice b zo nd c
 t1:Wv tm=nI .u64 (u/10^(nd - m))
 t4:XQ tm=nI .i64 m
 le:m<=nd
 heap: ∃R,H=H0.put b (.row R)∧FB zo r R nd m (wE nd u)
theorem ZcP{H0:Heap}{b zo nd u:Nat}{c:Option Nat}{r:Row}(hb:b<H0.nx)(hro:H0.ro<=b)(hnd:zo+nd<=24)(hu:u<18446744073709551616)(cx:Ctx)(x:X)(m:Nat)(tm:TM)(H:Heap)(h:FL H0 b zo nd u c r m tm H):
  ∃o tm' H',Kf cx tm H x=.ok o tm' H' x∧((o=.normal∧ ∃k,k<m∧FL H0 b zo nd u c r k tm' H')∨(o≠.normal∧o=.exit 0∧m<8∧FL H0 b zo nd u c r m tm' H')):=by
 have t0:=h.t0;have t1:=h.t1;have t4:=h.t4;have hle:=h.le
 simp only[Um,Mi,TG] at t0 t1 t4
 obtain⟨R,rfl,fb⟩:=h.heap
 generalize hv:u/10^(nd - m)=v at t1
 have hv2:v<18446744073709551616:=by rw[<-hv];exact TZ (PC ..) hu
 have s1:=fb.size;have s2:=fb.own;have s3:=fb.fz
 by_cases h8:8<=m
 ·have d1:decide (8<=m)=true:=Zj h8
  simp(disch:=first|assumption|omega|(simp -implicitDefEqProofs only[Xl,Xm]<;>first|assumption|omega)|decide) only[Kf,t0,t1,t4,d1,s1,s2,s3,ZY,Yp,ZN,zF,zG,ZM,ZJ,YR,Uo,QQ,QS,QU,QT,QV,QP,YV,U6,Row.st_size,Row.st_own,Row.st_fz,Zd,Kf,Yf,Xr,ZV,Yv,Z0,Z1,Yc,Nat.reducePow,Nat.reduceDiv,Nat.reduceMod,Nat.reduceEqDiff,reduceCtorEq,Xq,TB,K1]
  refine⟨_,_,_,rfl,.inl ⟨rfl,m - 8,by omega,t0,?_,rfl,by omega,_,rfl,?_⟩⟩
  ·show nI .u64 (v/100000000)=_
   rw[<-hv,Qz,show(100000000:Nat)=10^8 from rfl,<-Pj,show nd - m+8=nd - (m - 8) by omega]
  ·have dd:=λ(p j:Nat) (hp:p+1+j=m)=>Ze5 (u:=u) hle hp
   rw[hv] at dd
   refine FB.pair (m:=m - 6) (FB.pair (m:=m - 4) (FB.pair (m:=m - 2) (FB.pair fb hle (by omega) (by omega) ?_ ?_) (by omega) (by omega) (by omega) ?_ ?_) (by omega) (by omega) (by omega) ?_ ?_) (by omega) (by omega) (by omega) ?_ ?_
   ·rw[dd (m - 1) 0 (by omega)];congr 1;omega
   ·rw[dd (m - 2) 1 (by omega)];congr 1;omega
   ·rw[dd (m - 3) 2 (by omega)];congr 1;omega
   ·rw[dd (m - 4) 3 (by omega)];congr 1;omega
   ·rw[dd (m - 5) 4 (by omega)];congr 1;omega
   ·rw[dd (m - 6) 5 (by omega)];congr 1;omega
   ·rw[dd (m - 7) 6 (by omega)];congr 1;omega
   ·rw[dd (m - 8) 7 (by omega)];congr 1;omega
 ·have d1:decide (8<=m)=false:=Ze h8
  simp(disch:=first|assumption|omega|(simp -implicitDefEqProofs only[Xl,Xm]<;>first|assumption|omega)|decide) only[Kf,t0,t1,t4,d1,ZY,Yp,ZN,zF,zG,ZM,ZJ,YR,Uo,QQ,QS,QU,QT,QV,QP,YV,U6,Row.st_size,Row.st_own,Row.st_fz,Zd,Kf,Yf,Xr,ZV,Yv,Z0,Z1,Yc,Nat.reducePow,Nat.reduceDiv,Nat.reduceMod,Nat.reduceEqDiff,reduceCtorEq,Xq,TB,K1]
  exact⟨_,_,_,rfl,.inr ⟨by simp,rfl,by omega,t0,by rw[hv];exact t1,t4,hle,_,rfl,fb⟩⟩
theorem qQ{Zo:Lib}{fs:T CF}{fuel:Nat}(E:Env Zo fs fuel){k n:Nat}{H:Heap}{b zo nd u:Nat}{c:Option Nat}{r:Row}(hr:H.t.get b=some (.row r))(hb:b<H.nx)(hro:H.ro<=b)(hs:r.size=24)(how:r.own=true)(hfz:r.fz=0)(hnd:zo+nd<=24)(hu:u<18446744073709551616)(hud:u<10^nd):
  ∃R,Z8 (LK Zo fs fuel k) fs fuel (n+1) 100 [.slice b zo nd c,nI .u64 u] H=.ret (.tup []) (H.put b (.row R))∧FB zo r R nd 0 (wE nd u):=by
 have nn:Eu Zo fs fuel SR Qv k 100 [.slice b zo nd c,nI .u64 u] H=none:=Z2 E.n100 (.inr rfl) _ _
 rw[Z7 nn E.f100]
 simp(disch:=first|assumption|omega|(simp -implicitDefEqProofs only[Xl,Xm]<;>first|assumption|omega)|decide) only[D9,Yf,Xr,ZV,Yv,Z0,Z1,Yc,Nat.reducePow,Nat.reduceDiv,Nat.reduceMod,Nat.reduceEqDiff,reduceCtorEq,Xq,IH,F0,zN]
 generalize hL:WP (Kf _) fuel _ _ _=L
 obtain⟨o,KO,H1,rfl,_,rfl,h8,z⟩:=Wd (P:=λT=>FL H b zo nd u c r nd T H) (Q:=λo tm H'=>o=.exit 0∧ ∃m,m<8∧FL H b zo nd u c r m tm H')
  (λT hi=>Wo (FL H b zo nd u c r) (λo tm H'=>o=.exit 0∧ ∃m,m<8∧FL H b zo nd u c r m tm H')
   (λm tm H' h=>by
    obtain⟨o,tm',H2,e,h⟩:=ZcP hb hro hnd hu _ _ m tm H' h
    refine⟨o,tm',H2,e,?_⟩
    rcases h with h|⟨h1,h2,h3,h4⟩
    ·exact .inl h
    ·exact .inr ⟨h1,h2,m,h3,h4⟩) fuel nd T H (by have:=E.big;omega) hi) hL
  ⟨rfl,by rw[Tl,Nat.pow_zero,Nat.div_one];rfl,rfl,Zq _,r,(sK hr).symm,hs,how,hfz,λi=>by rw[if_neg (by omega)]⟩
 obtain⟨z8,z⟩:=z
 have t0:=z.t0;have t1:=z.t1;have t4:=z.t4;have hle:=z.le
 simp only[Um,Mi,TG] at t0 t1 t4
 obtain⟨R,rfl,fb⟩:=z.heap
 have dd:=λ(p j:Nat) (hp:p+1+j=h8)=>Ze5 (u:=u) hle hp
 have hv2:u/10^(nd - h8)<10^h8:=by
  rw[Q5 (Nat.pow_pos (by decide)),<-Pj,show h8+(nd - h8)=nd by omega];exact hud
 generalize hv:u/10^(nd - h8)=v at t1 dd hv2
 have s1:=fb.size;have s2:=fb.own;have s3:=fb.fz
 have z0:decide (0<0)=false:=rfl
 have z1:decide (0<1)=true:=rfl
 have hm:h8=0∨h8=1∨h8=2∨h8=3∨h8=4∨h8=5∨h8=6∨h8=7:=by omega
 rcases hm with rfl|rfl|rfl|rfl|rfl|rfl|rfl|rfl
 ·have hv3:v<1:=hv2
  simp(disch:=first|assumption|omega|(simp -implicitDefEqProofs only[Xl,Xm]<;>first|assumption|omega)|decide) only[WI,YI,t0,t1,t4,s1,s2,s3,z0,z1,Uo,Nat.reduceLeDiff,Nat.reduceSub,Nat.reduceAdd,ZY,Yp,ZN,zF,zG,ZM,ZJ,YR,Uo,QQ,QS,QU,QT,QV,QP,YV,U6,Row.st_size,Row.st_own,Row.st_fz,Zd,D9,Yf,Xr,ZV,Yv,Z0,Z1,Yc,Nat.reducePow,Nat.reduceDiv,Nat.reduceMod,Nat.reduceEqDiff,reduceCtorEq,Xq,IH,F0,zN]
  refine⟨_,rfl,?_⟩
  exact fb
 ·have hv3:v<10:=hv2
  simp(disch:=first|assumption|omega|(simp -implicitDefEqProofs only[Xl,Xm]<;>first|assumption|omega)|decide) only[WI,YI,t0,t1,t4,s1,s2,s3,z0,z1,Uo,Nat.reduceLeDiff,Nat.reduceSub,Nat.reduceAdd,ZY,Yp,ZN,zF,zG,ZM,ZJ,YR,Uo,QQ,QS,QU,QT,QV,QP,YV,U6,Row.st_size,Row.st_own,Row.st_fz,Zd,D9,Yf,Xr,ZV,Yv,Z0,Z1,Yc,Nat.reducePow,Nat.reduceDiv,Nat.reduceMod,Nat.reduceEqDiff,reduceCtorEq,Xq,IH,F0,zN]
  refine⟨_,rfl,?_⟩
  have e0:nI .u8 (48+v)=X8 (K3 (v)):=by
   show AV.int .u8 (.ofNat _)=AV.int .u8 (.ofNat _)
   rw[Cz (by omega)]
  rw[e0]
  refine FB.one (fb) (by omega) ?_
  ·rw[dd 0 0 rfl];congr 1;omega
 ·have hv3:v<100:=hv2
  simp(disch:=first|assumption|omega|(simp -implicitDefEqProofs only[Xl,Xm]<;>first|assumption|omega)|decide) only[WI,YI,t0,t1,t4,s1,s2,s3,z0,z1,Uo,Nat.reduceLeDiff,Nat.reduceSub,Nat.reduceAdd,ZY,Yp,ZN,zF,zG,ZM,ZJ,YR,Uo,QQ,QS,QU,QT,QV,QP,YV,U6,Row.st_size,Row.st_own,Row.st_fz,Zd,D9,Yf,Xr,ZV,Yv,Z0,Z1,Yc,Nat.reducePow,Nat.reduceDiv,Nat.reduceMod,Nat.reduceEqDiff,reduceCtorEq,Xq,IH,F0,zN]
  refine⟨_,rfl,?_⟩
  refine FB.pair (m:=2) (fb) (by omega) rfl rfl ?_ ?_
  ·rw[dd 1 0 rfl];congr 1;omega
  ·rw[dd 0 1 rfl];congr 1;omega
 ·have hv3:v<1000:=hv2
  simp(disch:=first|assumption|omega|(simp -implicitDefEqProofs only[Xl,Xm]<;>first|assumption|omega)|decide) only[WI,YI,t0,t1,t4,s1,s2,s3,z0,z1,Uo,Nat.reduceLeDiff,Nat.reduceSub,Nat.reduceAdd,ZY,Yp,ZN,zF,zG,ZM,ZJ,YR,Uo,QQ,QS,QU,QT,QV,QP,YV,U6,Row.st_size,Row.st_own,Row.st_fz,Zd,D9,Yf,Xr,ZV,Yv,Z0,Z1,Yc,Nat.reducePow,Nat.reduceDiv,Nat.reduceMod,Nat.reduceEqDiff,reduceCtorEq,Xq,IH,F0,zN]
  refine⟨_,rfl,?_⟩
  have e0:nI .u8 (48+v/100)=X8 (K3 (v/100)):=by
   show AV.int .u8 (.ofNat _)=AV.int .u8 (.ofNat _)
   rw[Cz (by omega)]
  rw[e0]
  refine FB.one (FB.pair (m:=3) (fb) (by omega) rfl rfl ?_ ?_) (by omega) ?_
  ·rw[dd 2 0 rfl];congr 1;omega
  ·rw[dd 1 1 rfl];congr 1;omega
  ·rw[dd 0 2 rfl];congr 1;omega
 ·have hv3:v<10000:=hv2
  simp(disch:=first|assumption|omega|(simp -implicitDefEqProofs only[Xl,Xm]<;>first|assumption|omega)|decide) only[WI,YI,t0,t1,t4,s1,s2,s3,z0,z1,Uo,Nat.reduceLeDiff,Nat.reduceSub,Nat.reduceAdd,ZY,Yp,ZN,zF,zG,ZM,ZJ,YR,Uo,QQ,QS,QU,QT,QV,QP,YV,U6,Row.st_size,Row.st_own,Row.st_fz,Zd,D9,Yf,Xr,ZV,Yv,Z0,Z1,Yc,Nat.reducePow,Nat.reduceDiv,Nat.reduceMod,Nat.reduceEqDiff,reduceCtorEq,Xq,IH,F0,zN]
  refine⟨_,rfl,?_⟩
  refine FB.pair (m:=2) (FB.pair (m:=4) (fb) (by omega) rfl rfl ?_ ?_) (by omega) rfl rfl ?_ ?_
  ·rw[dd 3 0 rfl];congr 1;omega
  ·rw[dd 2 1 rfl];congr 1;omega
  ·rw[dd 1 2 rfl];congr 1;omega
  ·rw[dd 0 3 rfl];congr 1;omega
 ·have hv3:v<100000:=hv2
  simp(disch:=first|assumption|omega|(simp -implicitDefEqProofs only[Xl,Xm]<;>first|assumption|omega)|decide) only[WI,YI,t0,t1,t4,s1,s2,s3,z0,z1,Uo,Nat.reduceLeDiff,Nat.reduceSub,Nat.reduceAdd,ZY,Yp,ZN,zF,zG,ZM,ZJ,YR,Uo,QQ,QS,QU,QT,QV,QP,YV,U6,Row.st_size,Row.st_own,Row.st_fz,Zd,D9,Yf,Xr,ZV,Yv,Z0,Z1,Yc,Nat.reducePow,Nat.reduceDiv,Nat.reduceMod,Nat.reduceEqDiff,reduceCtorEq,Xq,IH,F0,zN]
  refine⟨_,rfl,?_⟩
  have e0:nI .u8 (48+v/10000)=X8 (K3 (v/10000)):=by
   show AV.int .u8 (.ofNat _)=AV.int .u8 (.ofNat _)
   rw[Cz (by omega)]
  rw[e0]
  refine FB.one (FB.pair (m:=3) (FB.pair (m:=5) (fb) (by omega) rfl rfl ?_ ?_) (by omega) rfl rfl ?_ ?_) (by omega) ?_
  ·rw[dd 4 0 rfl];congr 1;omega
  ·rw[dd 3 1 rfl];congr 1;omega
  ·rw[dd 2 2 rfl];congr 1;omega
  ·rw[dd 1 3 rfl];congr 1;omega
  ·rw[dd 0 4 rfl];congr 1;omega
 ·have hv3:v<1000000:=hv2
  simp(disch:=first|assumption|omega|(simp -implicitDefEqProofs only[Xl,Xm]<;>first|assumption|omega)|decide) only[WI,YI,t0,t1,t4,s1,s2,s3,z0,z1,Uo,Nat.reduceLeDiff,Nat.reduceSub,Nat.reduceAdd,ZY,Yp,ZN,zF,zG,ZM,ZJ,YR,Uo,QQ,QS,QU,QT,QV,QP,YV,U6,Row.st_size,Row.st_own,Row.st_fz,Zd,D9,Yf,Xr,ZV,Yv,Z0,Z1,Yc,Nat.reducePow,Nat.reduceDiv,Nat.reduceMod,Nat.reduceEqDiff,reduceCtorEq,Xq,IH,F0,zN]
  refine⟨_,rfl,?_⟩
  refine FB.pair (m:=2) (FB.pair (m:=4) (FB.pair (m:=6) (fb) (by omega) rfl rfl ?_ ?_) (by omega) rfl rfl ?_ ?_) (by omega) rfl rfl ?_ ?_
  ·rw[dd 5 0 rfl];congr 1;omega
  ·rw[dd 4 1 rfl];congr 1;omega
  ·rw[dd 3 2 rfl];congr 1;omega
  ·rw[dd 2 3 rfl];congr 1;omega
  ·rw[dd 1 4 rfl];congr 1;omega
  ·rw[dd 0 5 rfl];congr 1;omega
 ·have hv3:v<10000000:=hv2
  simp(disch:=first|assumption|omega|(simp -implicitDefEqProofs only[Xl,Xm]<;>first|assumption|omega)|decide) only[WI,YI,t0,t1,t4,s1,s2,s3,z0,z1,Uo,Nat.reduceLeDiff,Nat.reduceSub,Nat.reduceAdd,ZY,Yp,ZN,zF,zG,ZM,ZJ,YR,Uo,QQ,QS,QU,QT,QV,QP,YV,U6,Row.st_size,Row.st_own,Row.st_fz,Zd,D9,Yf,Xr,ZV,Yv,Z0,Z1,Yc,Nat.reducePow,Nat.reduceDiv,Nat.reduceMod,Nat.reduceEqDiff,reduceCtorEq,Xq,IH,F0,zN]
  refine⟨_,rfl,?_⟩
  have e0:nI .u8 (48+v/10000/100)=X8 (K3 (v/10000/100)):=by
   show AV.int .u8 (.ofNat _)=AV.int .u8 (.ofNat _)
   rw[Cz (by omega)]
  rw[e0]
  refine FB.one (FB.pair (m:=3) (FB.pair (m:=5) (FB.pair (m:=7) (fb) (by omega) rfl rfl ?_ ?_) (by omega) rfl rfl ?_ ?_) (by omega) rfl rfl ?_ ?_) (by omega) ?_
  ·rw[dd 6 0 rfl];congr 1;omega
  ·rw[dd 5 1 rfl];congr 1;omega
  ·rw[dd 4 2 rfl];congr 1;omega
  ·rw[dd 3 3 rfl];congr 1;omega
  ·rw[dd 2 4 rfl];congr 1;omega
  ·rw[dd 1 5 rfl];congr 1;omega
  ·rw[dd 0 6 rfl];congr 1;omega
theorem vS{n l h:Nat}(hl:l<n)(hlh:l<=h)(hh:h<=n)(b o:Nat)(k j:IntKind)(H:Heap):KG n 1 (.ptr b o) (some (nI k l)) (some (nI j h)) H=.val (.slice b (o+l) (h - l) (some (n - l))) H:=by
 show Z3 (Nat.ble h n) (Z3 (Nat.ble l h) (cond (Nat.beq l n) _ (OR.val (.slice b (o+l*1) (h - l) (some (n - l))) H)))=_
 rw[Zg hh,Zg hlh,Y1,Ze (by omega),Xf];rfl
theorem BK(m:Nat):Km (.ofNat m)=dec m:=rfl
theorem uD(m:Nat):Km (.negSucc m)=45::dec (m+1):=by unfold Km;rw[if_pos (Int.negSucc_lt_zero m)];rfl
theorem nD(k:IntKind)(m:Nat):AV.int k (.ofNat m)=nI k m:=rfl
theorem qT{Zo:Lib}{fs:T CF}{fuel:Nat}(E:Env Zo fs fuel){n:Nat}{z:Int}{H:Heap}(g:P8 H)(hro:H.ro<=H.nx)(hz1: -9223372036854775808<=z)(hz2:z<9223372036854775808):
  ∃H',Z8 (LK Zo fs fuel 2) fs fuel (n+2) 79 [.int .i64 z,nI .i64 10] H=.ret (.str (Km z)) H'∧ZE H H' []:=by
 rw[Z7 (Z2 E.n79 (.inl (by decide)) _ _) E.f79]
 cases z with
 |ofNat m=>
  have hz2:m<9223372036854775808:=by simp at hz2;omega
  by_cases h:m<100
  ·have es:=λ{j}=>ZfF (Zo:=Zo) (fs:=fs) (fuel:=fuel) E (k:=2) (n:=j) (by decide) (H:=H) h
   have d0:decide (0<=m)=true:=Zj (ZB _)
   have d1:decide (m<100)=true:=Zj h
   simp(disch:=first|assumption|omega|(simp -implicitDefEqProofs only[Xl,Xm]<;>first|assumption|omega)|decide) only[nD,d0,d1,es,Fk,vS,LY,LZ,Zb,WG,Nat.reduceSub,Yy,Zy,ZK,vj,vd,PT,HK,O6,Yq,U6,Row.st_size,Row.st_own,Row.st_fz,Zd,YN,c79,Yf,Xr,ZV,Yv,Z0,Z1,Yc,Nat.reduceEqDiff,reduceCtorEq,Xq,TB]
   exact⟨_,rfl,ZE.refl _ _⟩
  ·skip
   obtain⟨H1,hH1⟩: ∃H1,H.new (.row ⟨155,1,24,.leaf,nI .u8 0,0,false,true,true⟩)=H1:=⟨_,rfl⟩
   have Jh:H1.nx=H.nx+1:=by rw[<-hH1];rfl
   have FX:H1.ro=H.ro:=by rw[<-hH1];rfl
   have k1:ZE H H1 []:=by rw[<-hH1];exact ZE.new H _ []
   have ga:H1.t.get H.nx=some (.row ⟨155,1,24,.leaf,nI .u8 0,0,false,true,true⟩):=by rw[<-hH1,YB rfl]
   have hl:=Mn (m)
   have hl2:TU (m)<=20:=NJ (by decide) (Qm (show m<18446744073709551616 by omega) (by decide))
   have en:=λ{j}=>EC (Zo:=Zo) (fs:=fs) (fuel:=fuel) E (k:=2) (n:=j) (by decide) (H:=H1) (g.keep k1 (by simp)) (d:=m) (by omega) (by omega)
   obtain⟨R,ef,fb⟩:=qQ (Zo:=Zo) (fs:=fs) (fuel:=fuel) E (k:=2) (n:=n) (H:=H1) (b:=H.nx) (zo:=1) (nd:=TU (m)) (u:=m) (c:=some 23) ga (by omega) (by rw[FX];exact hro) rfl rfl rfl (by omega) (by omega) (CC _)
   have s1:=fb.size;have s2:=fb.own;have s3:=fb.fz
   have el: ∀c,oE (.slice H.nx 1 (TU m) c) (H1.put H.nx (.row R))=.val (.str (Km (.ofNat m))) (H1.put H.nx (.row R)):=λc=>by
    refine FP (XY _ _ _) (by rw[BK,MR]) (by rw[s1];omega) λi hi=>?_
    rw[fb.get,BK,if_pos (by omega),show 1+i - 1=i by omega];rfl
   have d0:decide (0<=m)=true:=Zj (ZB _)
   have d1:decide (m<100)=false:=Ze h
   have d2:decide (m<0)=false:=Ze (SH _)
   simp(disch:=first|assumption|omega|(simp -implicitDefEqProofs only[Xl,Xm]<;>first|assumption|omega)|decide) only[nD,d0,d1,d2,en,ef,el,hH1,Jh,FX,s1,s2,s3,Fk,vS,LY,LZ,Zb,WG,Nat.reduceSub,Yy,Zy,ZK,vj,vd,PT,HK,O6,Yq,U6,Row.st_size,Row.st_own,Row.st_fz,Zd,YN,c79,Yf,Xr,ZV,Yv,Z0,Z1,Yc,Nat.reduceEqDiff,reduceCtorEq,Xq,TB]
   exact⟨_,rfl,k1.then_put λh=>absurd h (ZL _)⟩
 |negSucc m=>
  have hz1:m<9223372036854775808:=by omega
  obtain⟨H1,hH1⟩: ∃H1,H.new (.row ⟨155,1,24,.leaf,nI .u8 0,0,false,true,true⟩)=H1:=⟨_,rfl⟩
  have Jh:H1.nx=H.nx+1:=by rw[<-hH1];rfl
  have FX:H1.ro=H.ro:=by rw[<-hH1];rfl
  have k1:ZE H H1 []:=by rw[<-hH1];exact ZE.new H _ []
  have ga:H1.t.get H.nx=some (.row ⟨155,1,24,.leaf,nI .u8 0,0,false,true,true⟩):=by rw[<-hH1,YB rfl]
  have hl:=Mn (m+1)
  have hl2:TU (m+1)<=20:=NJ (by decide) (Qm (show m+1<18446744073709551616 by omega) (by decide))
  have en:=λ{j}=>EC (Zo:=Zo) (fs:=fs) (fuel:=fuel) E (k:=2) (n:=j) (by decide) (H:=H1) (g.keep k1 (by simp)) (d:=m+1) (by omega) (by omega)
  obtain⟨R,ef,fb⟩:=qQ (Zo:=Zo) (fs:=fs) (fuel:=fuel) E (k:=2) (n:=n) (H:=H1) (b:=H.nx) (zo:=1) (nd:=TU (m+1)) (u:=m+1) (c:=some 23) ga (by omega) (by rw[FX];exact hro) rfl rfl rfl (by omega) (by omega) (CC _)
  have s1:=fb.size;have s2:=fb.own;have s3:=fb.fz
  have el: ∀c,oE (.slice H.nx 0 (1+TU (m+1)) c) (H1.put H.nx (.row (R.st 0 (nI .u8 45))))=.val (.str (Km (.negSucc m))) (H1.put H.nx (.row (R.st 0 (nI .u8 45)))):=λc=>by
   refine FP (XY _ _ _) (by rw[uD,Zl,MR];omega) (by rw[Row.st_size,s1];omega) λi hi=>?_
   rw[Zb,Row.st_get,fb.get,uD]
   by_cases h0:0=i
   ·subst h0;rw[if_pos rfl];rfl
   ·rw[if_neg h0,if_pos (by omega)]
    obtain⟨j,rfl⟩: ∃j,i=j+1:=⟨i - 1,by omega⟩
    rfl
  have e9:18446744073709551616 - (18446744073709551615 - m)=m+1:=by omega
  simp(disch:=first|assumption|omega|(simp -implicitDefEqProofs only[Xl,Xm]<;>first|assumption|omega)|decide) only[en,ef,el,hH1,e9,Jh,FX,s1,s2,s3,Fk,vS,LY,LZ,Zb,WG,Nat.reduceSub,Yy,Zy,ZK,vj,vd,PT,HK,O6,Yq,U6,Row.st_size,Row.st_own,Row.st_fz,Zd,YN,c79,Yf,Xr,ZV,Yv,Z0,Z1,Yc,Nat.reduceEqDiff,reduceCtorEq,Xq,TB]
  exact⟨_,rfl,k1.then_put λh=>absurd h (ZL _)⟩
theorem dE{Zo:Lib}{fs:T CF}{fuel:Nat}(E:Env Zo fs fuel){k n:Nat}(hk:3<=k){z:Int}{H:Heap}(g:P8 H)(hro:H.ro<=H.nx)(hz1: -9223372036854775808<=z)(hz2:z<9223372036854775808):
  Z8 (LK Zo fs fuel k) fs fuel (n+1) 79 [.int .i64 z,nI .i64 10] H=.ret (.str (Km z)) H:=by
 obtain⟨H',e,g⟩:=qT E (n:=898) (H:=H) g hro hz1 hz2
 exact Xp (r:=2) rfl rfl e g (rfl) hk
theorem wL{Zo:Lib}{fs:T CF}{fuel:Nat}(E:Env Zo fs fuel){n:Nat}{z:Int}{H:Heap}(g:P8 H)(hro:H.ro<=H.nx)(hz1: -9223372036854775808<=z)(hz2:z<9223372036854775808):
  ∃H',Z8 (LK Zo fs fuel 3) fs fuel (n+2) 60 [.int .i64 z,nI .i64 10] H=.ret (.str (Km z)) H'∧ZE H H' []:=by
 rw[Z7 (Z2 E.n60 (.inl (by decide)) _ _) E.f60]
 have es:=λ{j}=>dE (Zo:=Zo) (fs:=fs) (fuel:=fuel) E (k:=3) (n:=j) (by decide) g hro hz1 hz2
 simp(disch:=first|assumption|omega|(simp -implicitDefEqProofs only[Xl,Xm]<;>first|assumption|omega)|decide) only[es,c60,Yf,Xr,ZV,Yv,Z0,Z1,Yc,Nat.reduceEqDiff,reduceCtorEq,Xq]
 exact⟨_,rfl,ZE.refl _ _⟩
theorem dD{Zo:Lib}{fs:T CF}{fuel:Nat}(E:Env Zo fs fuel){k n:Nat}(hk:4<=k){z:Int}{H:Heap}(g:P8 H)(hro:H.ro<=H.nx)(hz1: -9223372036854775808<=z)(hz2:z<9223372036854775808):
  Z8 (LK Zo fs fuel k) fs fuel (n+1) 60 [.int .i64 z,nI .i64 10] H=.ret (.str (Km z)) H:=by
 obtain⟨H',e,g⟩:=wL E (n:=898) (H:=H) g hro hz1 hz2
 exact Xp (r:=3) rfl rfl e g (rfl) hk
def QF(n:Nat):List UInt8:=if n<8 then [K3 n] else QF (n/8)++[K3 (n % 8)]
termination_by n
decreasing_by omega
theorem lA{n:Nat}(h:n<8):QF n=[K3 n]:=by rw[QF,if_pos h]
theorem lu{n:Nat}(h:8<=n):QF n=QF (n/8)++[K3 (n % 8)]:=by rw[QF,if_neg (by omega)]
theorem sk: ∀(k n:Nat),1<=k->n<8^k->(QF n).length<=k
 |0,_,h,_=>by omega
 |k+1,n,_,h=>by
  by_cases h8:n<8
  ·rw[lA h8];exact Nat.succ_le_succ (ZB _)
  ·rw[lu (by omega),Zm]
   have hk:1<=k:=by
    rcases k with _|k
    ·rw[Zb,Nat.pow_one] at h;omega
    ·omega
   have:=sk k (n/8) hk (by rw[S4] at h;omega)
   show _+1<=_
   omega
theorem G3{a:Nat}(h:a<18446744073709551616)(H:Heap):KS TT (nI .u64 a) (nI .u64 7) H=.val (nI .u64 (a % 8)) H:=by
 show Z3 (Oz .u64 .u64) (UX .u64 (.ofNat (TT (Sc .u64) (UP (Sc .u64) (.ofNat a)) (UP (Sc .u64) (.ofNat 7)))) H)=_
 have h2:TT (Sc .u64) (UP (Sc .u64) (.ofNat a)) (UP (Sc .u64) (.ofNat 7))=a % 8:=by
  show Nat.land (a % 18446744073709551616) 7=_
  rw[YD h]
  exact Nat.and_two_pow_sub_one_eq_mod a 3
 rw[X4,Wb,h2,Nh,YD (by omega)]
 rfl
theorem eW: ∀i,i<8->JG.getD i 0=K3 i:=by decide
theorem aJ{u:Nat}(H:Heap):M0 (.str JG) (nI .u64 (u % 8)) H=.val (X8 (K3 (u % 8))) H:=by
 rw[Mj (by show u % 8<36;omega),eW _ (by omega)]
theorem xa{u:Nat}(h:u<8)(H:Heap):M0 (.str JG) (nI .u64 u) H=.val (X8 (K3 u)) H:=by
 rw[Mj (by show u<36;omega),eW _ h]
structure OB(r:Row)(i:Nat)(s:List UInt8):Prop where
 size:r.size=65
 own:r.own=true
 fz:r.fz=0
 le:i<=65
 len:s.length=65 - i
 get: ∀j,j<s.length->r.get (i+j)=X8 (s.getD j 0)
theorem OB.push{r:Row}{i:Nat}{s:List UInt8}(h:OB r i s)(hi:0<i)(x:UInt8):OB (r.st (i - 1) (X8 x)) (i - 1) (x::s):=by
 have h1:=h.le;have h2:=h.len
 refine⟨h.size,h.own,h.fz,by omega,by rw[Zl];omega,λj hj=>?_⟩
 rw[Row.st_get]
 rcases j with _|j
 ·rw[if_pos (by omega)];rfl
 ·rw[if_neg (by omega),show i - 1+(j+1)=i+j by omega,h.get j (by rw[Zl] at hj;omega)];rfl
theorem ZkV{Zo:Lib}{fs:T CF}{fuel:Nat}(E:Env Zo fs fuel){k n:Nat}{H:Heap}:Z8 (LK Zo fs fuel k) fs fuel (n+1) 117 [nI .i64 8] H=.ret (.bool true) H:=by
 rw[Z7 (Z2 E.n117 (.inr rfl) _ _) E.f117]
 have b: ∀G:Heap,KS TT (nI .i64 8) (nI .i64 7) G=.val (nI .i64 0) G:=λG=>rfl
 have s: ∀G:Heap,J8 (nI .i64 8) (nI .i64 1) G=.val (nI .i64 7) G:=λG=>rfl
 have e: ∀G:Heap,MU UB false (nI .i64 0) (nI .i64 0) G=.val (.bool true) G:=λG=>rfl
 simp(maxSteps:=4000000) (disch:=first|assumption|omega|(simp -implicitDefEqProofs only[Xl,Xm]<;>first|assumption|omega)|decide) only[b,s,e,Zcw,Yf,Xr,ZV,Yv,Z0,Z1,Yc,Nat.reducePow,Nat.reduceDiv,Nat.reduceMod,Nat.reduceEqDiff,reduceCtorEq,Xq]
theorem tz8{Zo:Lib}{fs:T CF}{fuel:Nat}(E:Env Zo fs fuel){k n:Nat}{H:Heap}(g:P8 H):Z8 (LK Zo fs fuel k) fs fuel (n+2) 118 [nI .u64 8] H=.ret (nI .i64 3) H:=by
 rw[Z7 (Z2 E.n118 (.inr rfl) _ _) E.f118]
 have e6: ∀{j},Z8 (LK Zo fs fuel k) fs fuel (j+1) 126 [nI .u64 8] H=.ret (nI .i64 3) H:=λ{j}=>by
  rw[Z7 (Z2 E.n126 (.inr rfl) _ _) E.f126]
  obtain⟨_,_,r,g1,g2,g3⟩:=g
  have e: ∀G:Heap,MU UB false (nI .u64 8) (nI .u64 0) G=.val (.bool false) G:=λG=>rfl
  have ng: ∀G:Heap,pE (nI .u64 8) G=.val (nI .u64 18446744073709551608) G:=λG=>rfl
  have b: ∀G:Heap,KS TT (nI .u64 8) (nI .u64 18446744073709551608) G=.val (nI .u64 8) G:=λG=>rfl
  have m: ∀G:Heap,aF (nI .u64 8) (nI .u64 285870213051353865) G=.val (nI .u64 2286961704410830920) G:=λG=>rfl
  have s: ∀G:Heap,re (nI .u64 2286961704410830920) (nI .u64 58) G=.val (nI .u64 7) G:=λG=>rfl
  have i: ∀G:Heap,yS 64 1 (.ptr 8 0) (nI .u64 7) G=.val (.ptr 8 7) G:=λG=>Yq (by decide) _ _ _ _
  have l: ∀G,ld1 (some (.row r)) 7 G=.val (nI .u8 3) G:=λG=>by rw[Y8 g2,g3]
  have v: ∀G:Heap,PS .i64 (nI .u8 3) G=.val (nI .i64 3) G:=λG=>rfl
  simp(maxSteps:=4000000) (disch:=first|assumption|omega|(simp -implicitDefEqProofs only[Xl,Xm]<;>first|assumption|omega)|decide) only[e,ng,b,m,s,i,g1,l,v,Zcy,Yf,Xr,ZV,Yv,Z0,Z1,Yc,Nat.reducePow,Nat.reduceDiv,Nat.reduceMod,Nat.reduceEqDiff,reduceCtorEq,Xq]
 simp(maxSteps:=4000000) (disch:=first|assumption|omega|(simp -implicitDefEqProofs only[Xl,Xm]<;>first|assumption|omega)|decide) only[e6,Zcx,Yf,Xr,ZV,Yv,Z0,Z1,Yc,Nat.reduceEqDiff,reduceCtorEq,Xq]
structure OL(H0:Heap)(b n0:Nat)(m:Nat)(tm:TM)(H:Heap):Prop where
 t3:VL tm=.bool false
 t4:XQ tm=.bool false
 t10:XF tm=.nils
 t12:X6 tm=.ptr b 0
 t13:XR tm=nI .i64 m
 t14:Wi tm=nI .u64 3
 t15:Wk tm=nI .u64 8
 t16:Ww tm=nI .u64 7
 le:44<=m
 u: ∃u R s,Wv tm=nI .u64 u∧u<8^(m - 43)∧u<9223372036854775808∧H=H0.put b (.row R)∧OB R m s∧QF n0=QF u++s
def OLQ(H0:Heap)(b n0:Nat)(o:Out)(tm:TM)(H:Heap):Prop:=o=.exit 0∧ ∃m,OL H0 b n0 m tm H∧ ∀u,Wv tm=nI .u64 u->u<8
theorem Zeg{H0:Heap}{b n0:Nat}(hb:b<H0.nx)(hro:H0.ro<=b)(cx:Ctx)(X0:X)(m:Nat)(tm:TM)(H:Heap)(hI:OL H0 b n0 m tm H):
  ∃o tm' H',Gu cx tm H X0=.ok o tm' H' X0∧((o=.normal∧ ∃k,k<m∧OL H0 b n0 k tm' H')∨(o≠.normal∧OLQ H0 b n0 o tm' H')):=by
 have hI':=hI
 obtain⟨t3,t4,t10,t12,t13,t14,t15,t16,hle,u,R,s,t1,hu1,hu2,rfl,ob,ho⟩:=hI
 have vW:=t3;have x7:=t4;have EV:=t10;have ZeJ:=t12;have Zlz:=t14;have EW:=t15;have ZeK:=t16;have t1':=t1
 simp only[Mi] at t1
 simp only[LF] at t12
 simp only[JB] at t13
 simp only[IY] at t14
 simp only[GW] at t15
 simp only[Dv] at t16
 have s1:=ob.size;have s2:=ob.own;have s3:=ob.fz;have s4:=ob.le
 by_cases h8:8<=u
 ·have d1:decide (8<=u)=true:=Zj h8
  have hm45:45<=m:=by
   rcases Nat.lt_or_ge m 45 with h|h
   ·obtain rfl:m=44:=by omega
    simp at hu1;omega
   ·exact h
  have hu64:u<18446744073709551616:=by omega
  simp(maxSteps:=4000000) (disch:=first|assumption|omega|(simp -implicitDefEqProofs only[Xl,Xm]<;>first|assumption|omega)|decide) only[t1,t12,t13,t14,t15,t16,d1,s1,s2,s3,Yx,Ye,ZM,ZK,Zy,ZJ,YN,Y7,YE,Xa,YR,Yy,ZP,Ya,Yb,YV,Nat.reduceSub,Nat.reduceAdd,Nat.reduceLeDiff,ZB,ZL,Nat.reduceEqDiff,decide_true,decide_false,G3,TA,ZM,ZK,PT,YR,O6,Yq,U6,Row.st_size,Row.st_own,Row.st_fz,aJ,xa,Gu,Yf,Xr,ZV,Yv,Z0,Z1,Yc,Nat.reducePow,Nat.reduceDiv,Nat.reduceMod,Nat.reduceEqDiff,reduceCtorEq,Xq,TB]
  refine⟨_,_,_,rfl,.inl ⟨rfl,m - 1,by omega,vW,x7,EV,ZeJ,rfl,Zlz,EW,ZeK,by omega,u/8,_,_,rfl,?_,by omega,rfl,ob.push (by omega) _,?_⟩⟩
  ·rw[show m - 43=(m - 1 - 43)+1 by omega,S4] at hu1;omega
  ·rw[ho,lu h8,XB];rfl
 ·have d1:decide (8<=u)=false:=Ze h8
  simp(maxSteps:=4000000) (disch:=first|assumption|omega|(simp -implicitDefEqProofs only[Xl,Xm]<;>first|assumption|omega)|decide) only[t1,t12,t13,t14,t15,t16,d1,s1,s2,s3,Yx,Ye,ZM,ZK,Zy,ZJ,YN,Y7,YE,Xa,YR,Yy,ZP,Ya,Yb,YV,Nat.reduceSub,Nat.reduceAdd,Nat.reduceLeDiff,ZB,ZL,Nat.reduceEqDiff,decide_true,decide_false,G3,TA,ZM,ZK,PT,YR,O6,Yq,U6,Row.st_size,Row.st_own,Row.st_fz,aJ,xa,Gu,Yf,Xr,ZV,Yv,Z0,Z1,Yc,Nat.reducePow,Nat.reduceDiv,Nat.reduceMod,Nat.reduceEqDiff,reduceCtorEq,Xq,TB]
  refine⟨_,_,_,rfl,?_⟩
  exact .inr ⟨by simp,rfl,m,⟨vW,x7,EV,ZeJ,t13,Zlz,EW,ZeK,hle,u,R,s,t1',hu1,hu2,rfl,ob,ho⟩,λv hv=>by have:nI .u64 u=nI .u64 v:=t1'.symm.trans hv;cases this;omega⟩
theorem ZnT{Zo:Lib}{fs:T CF}{fuel:Nat}(E:Env Zo fs fuel){k n:Nat}{u:Nat}{H:Heap}(g:P8 H)(hro:H.ro<=H.nx)(hu:u<9223372036854775808):
  ∃H',Z8 (LK Zo fs fuel k) fs fuel (n+3) 101 [.nils,nI .u64 u,nI .i64 8,.bool false,.bool false] H=.ret (.tup [.nils,.str (QF u)]) H'∧ZE H H' []:=by
 rw[Z7 (Z2 E.n101 (.inr rfl) _ _) E.f101]
 obtain⟨H1,hH1⟩: ∃G,H.new (.row ⟨174,1,65,.leaf,nI .u8 0,0,false,true,true⟩)=G:=⟨_,rfl⟩
 have Jh:H1.nx=H.nx+1:=by rw[<-hH1];rfl
 have FX:H1.ro=H.ro:=by rw[<-hH1];rfl
 have k1:ZE H H1 []:=by rw[<-hH1];exact ZE.new H _ []
 have ga:H1.t.get H.nx=some (.row ⟨174,1,65,.leaf,nI .u8 0,0,false,true,true⟩):=by rw[<-hH1,YB rfl]
 have e1:=λ{j}=>ZkV (Zo:=Zo) (fs:=fs) (fuel:=fuel) E (k:=k) (n:=j) (H:=H1)
 have e2:=λ{j}=>tz8 (Zo:=Zo) (fs:=fs) (fuel:=fuel) E (k:=k) (n:=j) (H:=H1) (g.keep k1 (by simp))
 have w1: ∀G:Heap,PS .u64 (nI .i64 8) G=.val (nI .u64 8) G:=λG=>rfl
 have w2: ∀G:Heap,PS .u64 (nI .i64 3) G=.val (nI .u64 3) G:=λG=>rfl
 have w3: ∀G:Heap,J8 (nI .u64 8) (nI .u64 1) G=.val (nI .u64 7) G:=λG=>rfl
 have f1: ∀G:Heap,Te Wf Xo (nI .i64 8) (nI .i64 2) G=.val (.bool false) G:=λG=>rfl
 have f2: ∀G:Heap,MU UB false (nI .i64 8) (nI .i64 10) G=.val (.bool false) G:=λG=>rfl
 have f3: ∀G:Heap,Te SQ VW (nI .i64 8) (nI .i64 36) G=.val (.bool false) G:=λG=>rfl
 have hf:=E.big
 simp(maxSteps:=4000000) (disch:=first|assumption|omega|(simp -implicitDefEqProofs only[Xl,Xm]<;>first|assumption|omega)|decide) only[oX,hH1,e1,e2,w1,w2,w3,f1,f2,f3,Yx,Ye,ZM,ZK,Zy,ZJ,YN,Y7,YE,Xa,YR,Yy,ZP,Ya,Yb,YV,Nat.reduceSub,Nat.reduceAdd,Nat.reduceLeDiff,ZB,ZL,Nat.reduceEqDiff,decide_true,decide_false,fV,Yf,Xr,ZV,Yv,Z0,Z1,Yc,Nat.reduceEqDiff,reduceCtorEq,Xq,TB,K1,IH]
 generalize hL:WP (Gu _) fuel _ _ _=L
 obtain⟨o,KO,H2,rfl,_,rfl,m,z,hz⟩:=Wd (P:=λT=>OL H1 H.nx u 65 T H1) (Q:=OLQ H1 H.nx u)
  (λT hi=>Wo (OL H1 H.nx u) (OLQ H1 H.nx u) (λm tm H' h=>Zeg (by omega) (by omega) _ _ m tm H' h) fuel 65 T H1 (by omega) hi) hL
  ⟨by rfl,by rfl,by rfl,by rfl,by rfl,by rfl,by rfl,by rfl,by decide,u,_,[],by rfl,ZZ hu (by decide),hu,(sK ga).symm,⟨rfl,rfl,rfl,Zq _,rfl,λj hj=>by cases hj⟩,by rw[Zr]⟩
 obtain⟨t3,t4,t10,t12,t13,t14,t15,t16,hle,u2,R,s,t1,hu1,hu2,rfl,ob,ho⟩:=z
 have h8:=hz _ t1
 simp only[Mi] at t1
 simp only[RK] at t3
 simp only[TG] at t4
 simp only[LD] at t10
 simp only[LF] at t12
 simp only[JB] at t13
 have s1:=ob.size;have s2:=ob.own;have s3:=ob.fz;have s4:=ob.le
 have ob2:=ob.push (by omega) (K3 u2)
 have el: ∀cc,oE (.slice H.nx (m - 1) (65 - (m - 1)) cc) (H1.put H.nx (.row (R.st (m - 1) (X8 (K3 u2)))))=.val (.str (QF u)) (H1.put H.nx (.row (R.st (m - 1) (X8 (K3 u2))))):=λcc=>by
  rw[ho,lA h8]
  exact FP (XY _ _ _) ob2.len (by show _<=R.size;omega) λi hi=>ob2.get i (by rw[ob2.len];exact hi)
 simp(maxSteps:=4000000) (disch:=first|assumption|omega|(simp -implicitDefEqProofs only[Xl,Xm]<;>first|assumption|omega)|decide) only[t1,t3,t4,t10,t12,t13,s1,s2,s3,el,Fk,LZ,xa,Yx,Ye,ZM,ZK,Zy,ZJ,YN,Y7,YE,Xa,YR,Yy,ZP,Ya,Yb,YV,Nat.reduceSub,Nat.reduceAdd,Nat.reduceLeDiff,ZB,ZL,Nat.reduceEqDiff,decide_true,decide_false,G3,TA,ZM,ZK,PT,YR,O6,Yq,U6,Row.st_size,Row.st_own,Row.st_fz,aJ,xa,fV,Yf,Xr,ZV,Yv,Z0,Z1,Yc,Nat.reduceEqDiff,reduceCtorEq,Xq,TB,K1,IH]
 refine⟨_,rfl,?_⟩
 exact k1.then_put (by omega)
theorem dC{Zo:Lib}{fs:T CF}{fuel:Nat}(E:Env Zo fs fuel){n:Nat}{u:Nat}{H:Heap}(g:P8 H)(hro:H.ro<=H.nx)(hu:u<9223372036854775808):
  ∃H',Z8 (LK Zo fs fuel 2) fs fuel (n+4) 79 [nI .i64 u,nI .i64 8] H=.ret (.str (QF u)) H'∧ZE H H' []:=by
 rw[Z7 (Z2 E.n79 (.inl (by decide)) _ _) E.f79]
 obtain⟨H1,e1,k1⟩:=ZnT (Zo:=Zo) (fs:=fs) (fuel:=fuel) E (k:=2) (n:=n) (H:=H) g hro hu
 have f2: ∀G:Heap,MU UB false (nI .i64 8) (nI .i64 10) G=.val (.bool false) G:=λG=>rfl
 simp(maxSteps:=4000000) (disch:=first|assumption|omega|(simp -implicitDefEqProofs only[Xl,Xm]<;>first|assumption|omega)|decide) only[e1,f2,Zy,SH,Yx,Ye,ZM,ZK,Zy,ZJ,YN,Y7,YE,Xa,YR,Yy,ZP,Ya,Yb,YV,Nat.reduceSub,Nat.reduceAdd,Nat.reduceLeDiff,ZB,ZL,Nat.reduceEqDiff,decide_true,decide_false,G3,TA,ZM,ZK,PT,YR,O6,Yq,U6,Row.st_size,Row.st_own,Row.st_fz,aJ,xa,c79,Yf,Xr,ZV,Yv,Z0,Z1,Yc,Nat.reduceEqDiff,reduceCtorEq,Xq,TB]
 refine⟨_,rfl,?_⟩
 exact k1
theorem ZnU{Zo:Lib}{fs:T CF}{fuel:Nat}(E:Env Zo fs fuel){k n:Nat}(hk:3<=k){u:Nat}{H:Heap}(g:P8 H)(hro:H.ro<=H.nx)(hu:u<9223372036854775808):
  Z8 (LK Zo fs fuel k) fs fuel (n+1) 79 [nI .i64 u,nI .i64 8] H=.ret (.str (QF u)) H:=by
 obtain⟨H',e,g⟩:=dC E (n:=896) (H:=H) g hro hu
 exact Xp (r:=2) rfl rfl e g (rfl) hk
theorem gE{Zo:Lib}{fs:T CF}{fuel:Nat}(E:Env Zo fs fuel){n:Nat}{u:Nat}{H:Heap}(g:P8 H)(hro:H.ro<=H.nx)(hu:u<9223372036854775808):
  ∃H',Z8 (LK Zo fs fuel 3) fs fuel (n+4) 60 [nI .i64 u,nI .i64 8] H=.ret (.str (QF u)) H'∧ZE H H' []:=by
 rw[Z7 (Z2 E.n60 (.inl (by decide)) _ _) E.f60]
 have e1:=λ{j}=>ZnU (Zo:=Zo) (fs:=fs) (fuel:=fuel) E (k:=3) (n:=j) (by decide) g hro hu
 simp(maxSteps:=4000000) (disch:=first|assumption|omega|(simp -implicitDefEqProofs only[Xl,Xm]<;>first|assumption|omega)|decide) only[e1,Yx,Ye,ZM,ZK,Zy,ZJ,YN,Y7,YE,Xa,YR,Yy,ZP,Ya,Yb,YV,Nat.reduceSub,Nat.reduceAdd,Nat.reduceLeDiff,ZB,ZL,Nat.reduceEqDiff,decide_true,decide_false,G3,TA,ZM,ZK,PT,YR,O6,Yq,U6,Row.st_size,Row.st_own,Row.st_fz,aJ,xa,c60,Yf,Xr,ZV,Yv,Z0,Z1,Yc,Nat.reduceEqDiff,reduceCtorEq,Xq]
 refine⟨_,rfl,?_⟩
 exact ZE.refl _ _
theorem Zla{Zo:Lib}{fs:T CF}{fuel:Nat}(E:Env Zo fs fuel){k n:Nat}(hk:4<=k){u:Nat}{H:Heap}(g:P8 H)(hro:H.ro<=H.nx)(hu:u<9223372036854775808):
  Z8 (LK Zo fs fuel k) fs fuel (n+1) 60 [nI .i64 u,nI .i64 8] H=.ret (.str (QF u)) H:=by
 obtain⟨H',e,g⟩:=gE E (n:=896) (H:=H) g hro hu
 exact Xp (r:=3) rfl rfl e g (rfl) hk
end
end Go.AI
