/- Numbers in words: walked; proved, conditions as named. -/
import Derived.Test.YtfkkljjgkopkfaaGreatDoorP8
import Derived.Test.YtfkkljjgkopkfaaGreatDoorPA
set_option maxRecDepth 1000000
set_option maxHeartbeats 0
set_option linter.all false
namespace Go.AI
open Go
noncomputable section
section
variable {Zq:Lib} {fs:T CF} {Zk k n i h b:Nat} {H H0:Heap} {s:Zd} {cs:List AV}
def PH(x:Nat):Nat:=if x=0 then 0 else Nat.log2 x+1
def tN: ∀x,x<256->(rX.getD x 0).toNat=PH x:=by decide
def C9{x:Nat}(h:2^k<=x):PH x=k+PH (x/2^k):=by
 have hp:0<2^k:=Nat.two_pow_pos k;have h1:x≠0:=by omega
 have h2:x/2^k≠0:=by
  have:=Nat.div_pos h hp;omega
 unfold PH;rw[if_neg h1,if_neg h2];have e1:=(Nat.log2_eq_iff h2 (k:=Nat.log2 (x/2^k))).1 rfl;have:Nat.log2 x=k+Nat.log2 (x/2^k):=by
  refine(Nat.log2_eq_iff h1).2 ⟨?_,?_⟩
  ·rw[QI]
   calc 2^k*2^Nat.log2 (x/2^k)<=2^k*(x/2^k):=Nat.mul_le_mul_left _ e1.1
    _<=x:=Nat.mul_div_le x _
  ·rw[XT,QI,VE]
   exact(Qz hp).1 e1.2
 omega
def ZcX{x:Nat}(h:4294967296<=x):PH x=32+PH (x/4294967296):=C9 (k:=32) h
def kq{x:Nat}(h:65536<=x):PH x=16+PH (x/65536):=C9 (k:=16) h
def vE{x:Nat}(h:256<=x):PH x=8+PH (x/256):=C9 (k:=8) h
def vF{x:Nat}(h:x<2^k):PH x<=k:=by
 unfold PH
 split
 ·omega
 ·rename_i h0
  have:=(Nat.log2_lt h0).2 h;omega
def fY(E:Env Zq fs Zk){x:Nat}(hx:x<18446744073709551616):
  ∃H',ZA (LK Zq fs Zk 0) fs Zk (n+2) 150 [nI .u64 x] H=.ret (nI .i64 (PH x)) H'∧Zu H H' []:=by
 rw[Z5 E.f150 (.inl (by decide))];have hl:rX.length=256:=by decide
 have tab: ∀y,y<256->rX.getD (y % 256) 0=UInt8.ofNat (PH y):=λy hy=>by
  rw[Yd hy,<-tN y hy];simp
 have tb: ∀y,y<256->(rX.getD (y % 256) 0).toNat=PH y:=λy hy=>by rw[Yd hy,tN y hy]
 have bl: ∀y,PH (y % 256)<=8:=λy=>vF (k:=8) (Wh _ (by decide))
 by_cases h1:4294967296<=x
 ·have d1:decide (4294967296<=x)=true:=Zi h1
  rw[ZcX h1];generalize hy:x/4294967296=y;have hy2:y<4294967296:=by omega
  by_cases h2:65536<=y
  ·have d2:decide (65536<=y)=true:=Zi h2
   rw[kq h2];generalize hz:y/65536=z;have hz2:z<65536:=by omega
   by_cases h3:256<=z
   ·have d3:decide (256<=z)=true:=Zi h3
    rw[vE h3];generalize hw:z/256=w;have hw2:w<256:=by omega
    have hm:=Yd hw2;have hb:=bl w;rw[hm] at hb;have hb2:=tb w hw2;rw[hm] at hb2;simp(disch:=first|omega|decide) only[Yr,QQ,MB,X7,V1,Y0,Nat.reducePow,d1,hy,d2,hz,d3,hw,hm,hb2,zO,ZG,Yj,Zz,Nat.reducePow,Yg];exact⟨_,by first|rfl|simp only[XT],Zu.refl _ _⟩
   ·have d3:decide (256<=z)=false:=Zc h3
    have hw2:z<256:=by omega
    have hm:=Yd hw2;have hb:=bl z;rw[hm] at hb;have hb2:=tb z hw2;rw[hm] at hb2;simp(disch:=first|omega|decide) only[Yr,QQ,MB,X7,V1,Y0,Nat.reducePow,d1,hy,d2,hz,d3,hm,hb2,zO,ZG,Yj,Zz,Nat.reducePow,Yg];exact⟨_,by first|rfl|simp only[XT],Zu.refl _ _⟩
  ·have d2:decide (65536<=y)=false:=Zc h2
   have hz2:y<65536:=by omega
   by_cases h3:256<=y
   ·have d3:decide (256<=y)=true:=Zi h3
    rw[vE h3];generalize hw:y/256=w;have hw2:w<256:=by omega
    have hm:=Yd hw2;have hb:=bl w;rw[hm] at hb;have hb2:=tb w hw2;rw[hm] at hb2;simp(disch:=first|omega|decide) only[Yr,QQ,MB,X7,V1,Y0,Nat.reducePow,d1,hy,d2,d3,hw,hm,hb2,zO,ZG,Yj,Zz,Nat.reducePow,Yg];exact⟨_,by first|rfl|simp only[XT],Zu.refl _ _⟩
   ·have d3:decide (256<=y)=false:=Zc h3
    have hw2:y<256:=by omega
    have hm:=Yd hw2;have hb:=bl y;rw[hm] at hb;have hb2:=tb y hw2;rw[hm] at hb2;simp(disch:=first|omega|decide) only[Yr,QQ,MB,X7,V1,Y0,Nat.reducePow,d1,hy,d2,d3,hm,hb2,zO,ZG,Yj,Zz,Nat.reducePow,Yg];exact⟨_,by first|rfl|simp only[XT],Zu.refl _ _⟩
 ·have d1:decide (4294967296<=x)=false:=Zc h1
  by_cases h2:65536<=x
  ·have d2:decide (65536<=x)=true:=Zi h2
   rw[kq h2];generalize hz:x/65536=z;have hz2:z<65536:=by omega
   by_cases h3:256<=z
   ·have d3:decide (256<=z)=true:=Zi h3
    rw[vE h3];generalize hw:z/256=w;have hw2:w<256:=by omega
    have hm:=Yd hw2;have hb:=bl w;rw[hm] at hb;have hb2:=tb w hw2;rw[hm] at hb2;simp(disch:=first|omega|decide) only[Yr,QQ,MB,X7,V1,Y0,Nat.reducePow,d1,d2,hz,d3,hw,hm,hb2,zO,ZG,Yj,Zz,Yc,Nat.reducePow,Yg];exact⟨_,by first|rfl|simp only[XT],Zu.refl _ _⟩
   ·have d3:decide (256<=z)=false:=Zc h3
    have hw2:z<256:=by omega
    have hm:=Yd hw2;have hb:=bl z;rw[hm] at hb;have hb2:=tb z hw2;rw[hm] at hb2;simp(disch:=first|omega|decide) only[Yr,QQ,MB,X7,V1,Y0,Nat.reducePow,d1,d2,hz,d3,hm,hb2,zO,ZG,Yj,Zz,Yc,Nat.reducePow,Yg];exact⟨_,by first|rfl|simp only[XT],Zu.refl _ _⟩
  ·have d2:decide (65536<=x)=false:=Zc h2
   by_cases h3:256<=x
   ·have d3:decide (256<=x)=true:=Zi h3
    rw[vE h3];generalize hw:x/256=w;have hw2:w<256:=by omega
    have hm:=Yd hw2;have hb:=bl w;rw[hm] at hb;have hb2:=tb w hw2;rw[hm] at hb2;simp(disch:=first|omega|decide) only[Yr,QQ,MB,X7,V1,Y0,Nat.reducePow,d1,d2,d3,hw,hm,hb2,zO,ZG,Yj,Zz,Yc,Nat.reducePow,Yg];exact⟨_,by first|rfl|simp only[XT],Zu.refl _ _⟩
   ·have d3:decide (256<=x)=false:=Zc h3
    have hw2:x<256:=by omega
    have hm:=Yd hw2;have hb:=bl x;rw[hm] at hb;have hb2:=tb x hw2;rw[hm] at hb2;simp(disch:=first|omega|decide) only[Yr,MB,X7,V1,Y0,d1,d2,d3,hm,hb2,zO,ZG,Yj,Zz,Yc,Yg];exact⟨_,by first|rfl|simp only[XT],Zu.refl _ _⟩
def Zlz(E:Env Zq fs Zk)(hk:1<=k){x:Nat}(hx:x<18446744073709551616):
  ZA (LK Zq fs Zk k) fs Zk (n+1) 150 [nI .u64 x] H=.ret (nI .i64 (PH x)) H:=by
 obtain⟨H',e,g⟩:=fY E (n:=898) (H:=H) hx;exact Yh (r:=0) rfl rfl e g (rfl) hk
def md(E:Env Zq fs Zk){x:Nat}(hx:x<=64):
  ∃H',ZA (LK Zq fs Zk 0) fs Zk (n+2) 149 [nI .i64 x] H=.ret (nI .i64 (x*78913/262144)) H'∧Zu H H' []:=by
 rw[Z5 E.f149 (.inl (by decide))];simp(disch:=first|omega|decide) only[Ar,dN,Nat.reducePow,Zhn,ZG,Yj,Zz,Nat.reducePow,Yg];exact⟨_,rfl,Zu.refl _ _⟩
def Ziw(E:Env Zq fs Zk)(hk:1<=k){x:Nat}(hx:x<=64):
  ZA (LK Zq fs Zk k) fs Zk (n+1) 149 [nI .i64 x] H=.ret (nI .i64 (x*78913/262144)) H:=by
 obtain⟨H',e,g⟩:=md E (n:=898) (H:=H) hx;exact Yh (r:=0) rfl rfl e g (rfl) hk
def gt(E:Env Zq fs Zk){b:Bool}:
  ∃H',ZA (LK Zq fs Zk 0) fs Zk (n+2) 151 [.bool b] H=.ret (nI .i64 (if b then 1 else 0)) H'∧Zu H H' []:=by
 rw[Z5 E.f151 (.inl (by decide))];cases b
 ·simp(disch:=first|omega|decide) only[Zdd,ZG,Yj,Zz,reduceCtorEq,Yg]
  exact⟨_,rfl,Zu.refl _ _⟩
 ·simp(disch:=first|omega|decide) only[Zdd,ZG,Yj,Zz,Yg]
  exact⟨_,rfl,Zu.refl _ _⟩
def Zkb(E:Env Zq fs Zk)(hk:1<=k){b:Bool}:
  ZA (LK Zq fs Zk k) fs Zk (n+1) 151 [.bool b] H=.ret (nI .i64 (if b then 1 else 0)) H:=by
 obtain⟨H',e,g⟩:=gt E (n:=898) (H:=H);exact Yh (r:=0) rfl rfl e g (rfl) hk
def dS: ∀x,x<100->(if x<10 then(IJ.take (x+1)).drop x else(Rr.take (x*2+2)).drop (x*2))=dec x:=by
 intro x hx
 by_cases h:x<10
 ·rw[if_pos h,nt h]
  have: ∀x,x<10->(IJ.take (x+1)).drop x=[Mm x]:=by decide
  exact this x h
 ·rw[if_neg h,bO (by omega),nt (by omega)]
  have: ∀x,x<100->(Rr.take (x*2+2)).drop (x*2)=[Mm (x/10)]++[Mm (x % 10)]:=by decide
  exact this x hx
def dR(E:Env Zq fs Zk){x:Nat}(hx:x<100):
  ∃H',ZA (LK Zq fs Zk 0) fs Zk (n+2) 120 [nI .i64 x] H=.ret (.str (dec x)) H'∧Zu H H' []:=by
 rw[Z5 E.f120 (.inl (by decide))];have l1:IJ.length=36:=by decide
 have l2:Rr.length=200:=by decide
 have st:=dS x hx
 by_cases h:x<10
 ·have d:decide (x<10)=true:=Zi h
  rw[if_pos h] at st;simp(disch:=first|omega|decide) only[ZE,Y0,wK,d,st,Zc5,ZG,Yj,Zz,Yc,Yg];exact⟨_,rfl,Zu.refl _ _⟩
 ·have d:decide (x<10)=false:=Zc h
  rw[if_neg h] at st;simp(disch:=first|omega|decide) only[ZE,Y0,Ar,wK,d,st,Zc5,ZG,Yj,Zz,Yc,Yg];exact⟨_,rfl,Zu.refl _ _⟩
def Zgt(E:Env Zq fs Zk)(hk:1<=k){x:Nat}(hx:x<100):
  ZA (LK Zq fs Zk k) fs Zk (n+1) 120 [nI .i64 x] H=.ret (.str (dec x)) H:=by
 obtain⟨H',e,g⟩:=dR E (n:=898) (H:=H) hx;exact Yh (r:=0) rfl rfl e g (rfl) hk
def mr(d:Nat):Nat:=PH d*78913/262144
def Zql: ∀L,L<65->1<=L->(L*78913/262144<=19∧10^(L*78913/262144)<=2^(L - 1)*10∧2^L<=10^(L*78913/262144+1)∧(L*78913/262144=0∨10^(L*78913/262144 - 1)<=2^(L - 1))):=by decide
def ZlJ{d:Nat}(h0:d≠0)(h:d<18446744073709551616):mr d<=19∧WS d=mr d+(if 10^mr d<=d then 1 else 0):=by
 have hb:PH d=Nat.log2 d+1:=by unfold PH;rw[if_neg h0]
 have e1:=(Nat.log2_eq_iff h0 (k:=Nat.log2 d)).1 rfl;have hL:PH d<=64:=vF (k:=64) h;obtain⟨p0,p1,p2,p3⟩:=Zql (PH d) (by omega) (by omega);have g:PH d - 1=Nat.log2 d:=by omega
 rw[g] at p1 p3;have p2':d<10^(mr d+1):=ZK (by rw[hb];exact e1.2) p2;refine⟨p0,?_⟩
 by_cases hc:10^mr d<=d
 ·rw[if_pos hc]
  exact uk _ _ hc p2'
 ·rw[if_neg hc]
  rcases p3 with p3|p3
  ·have:mr d=0:=p3
   rw[this] at hc;simp at hc;omega
  ·by_cases hz:mr d=0
   ·rw[hz] at hc;simp at hc;omega
   ·have:WS d=(mr d - 1)+1:=uk _ _ (Yb p3 e1.1) (by rw[show mr d - 1+1=mr d by omega];omega)
    omega
def ZeV: ∀i,i<20->(il.getD i 0).toNat=10^i:=by decide
def zY(E:Env Zq fs Zk){d:Nat}(g:Qw H)(h0:d≠0)(hd:d<18446744073709551616):
  ∃H',ZA (LK Zq fs Zk 1) fs Zk (n+2) 121 [nI .u64 d] H=.ret (nI .i64 (WS d)) H'∧Zu H H' []:=by
 rw[Z5 E.f121 (.inl (by decide))];obtain⟨g0,⟨r,gr,gc⟩,_⟩:=g;obtain⟨p1,p2⟩:=ZlJ h0 hd;have hbl:PH d<=64:=vF (k:=64) hd;have e1:=λ{k m} (hk:1<=k)=>Zlz E (k:=k) (n:=m) hk (H:=H) hd;have e2:=λ{k m} (hk:1<=k)=>Ziw E (k:=k) (n:=m) hk (H:=H) hbl;have e3:=λ{k m} (hk:1<=k) (b)=>Zkb E (k:=k) (n:=m) hk (b:=b) (H:=H);have ld:uf (.ptr 5 (mr d)) H=.val (nI .u64 (10^mr d)) H:=by
  rw[ma gr gc (by rw[Zx];show _<20;omega),Ze,Z3];have:=ZeV (mr d) (by omega);rw[Ze] at this;rw[Zm (show mr d<il.length by show _<20;omega)] at this ⊢;show OR.val (Zfn _) H=_;unfold Zfn nI;rw[<-this];rfl
 unfold mr at ld p1 p2;simp(disch:=first|omega|decide) only[e1,e2,Fv,PT,Zl,Zhb,ZG,Yj,Yg];rw[Ew] at ld;simp(disch:=first|omega|decide) only[ld,e3,Fv,Yr,ZG,Yj,Yg]
 by_cases hc:10^(PH d*78913/262144)<=d
 ·rw[if_pos hc] at p2
  have dc:decide (10^(PH d*78913/262144)<=d)=true:=Zi hc;simp(disch:=first|omega|decide) only[dc,if_true,Y0,ZG,Yj,Zz,Yg];exact⟨_,by rw[p2],Zu.refl _ _⟩
 ·rw[if_neg hc] at p2
  have dc:decide (10^(PH d*78913/262144)<=d)=false:=Zc hc;simp(disch:=first|omega|decide) only[dc,Xp,if_false,Y0,ZG,Yj,Zz,Yg];exact⟨_,by rw[p2],Zu.refl _ _⟩
def EC(E:Env Zq fs Zk)(hk:2<=k){d:Nat}(g:Qw H)(h0:d≠0)(hd:d<18446744073709551616):
  ZA (LK Zq fs Zk k) fs Zk (n+1) 121 [nI .u64 d] H=.ret (nI .i64 (WS d)) H:=by
 obtain⟨H',e,g⟩:=zY E (n:=898) (H:=H) g h0 hd;exact Yh (r:=1) rfl rfl e g (rfl) hk
namespace T
variable {α:Type}
theorem setB_same(x:α): ∀(t:T α) (bs:List Bool),t.getB bs=some x->setB x t bs=t
 |leaf,bs,h=>by cases h
 |node l v r,[],h=>by
  have h:v=some x:=h;subst h;rfl
 |node l v r,true::bs,h=>by rw[Gd,setB_same x l bs h]
 |node l v r,false::bs,h=>by rw[Gc,setB_same x r bs h]
end T
def FE{o:Obj}(h:H.t.get b=some o):H.put b o=H:=by
 unfold Heap.put T.set;rw[T.setB_same o H.t (bits b) h]
theorem sx: ∀k n i,i<k->(Cc k n).getD i 0=Mm (n/10^(k - 1 - i) % 10)
 |0,_,_,h=>by omega
 |k+1,n,i,h=>by
  show(Cc k (n/10)++[Mm (n % 10)]).getD i 0=_;rw[Ze]
  by_cases hi:i<k
  ·rw[ZW (by rw[KN];exact hi),<-Ze,sx k (n/10) i hi,Tm]
   congr 3
   rw[show k+1 - 1 - i=(k - 1 - i)+1 by omega,WB,VE]
  ·obtain rfl:i=k:=by omega
   rw[Z0 (by rw[KN];exact Zs _),KN,Ut,show i+1 - 1 - i=0 by omega,Nat.pow_zero,QG];rfl
def Zb8:Rr.length=200:=by decide
def Zqy: ∀x,x<100->Rr.getD (x*2) 0=Mm (x/10):=by decide
def Zqz: ∀x,x<100->Rr.getD (x*2+1) 0=Mm (x % 10):=by decide
def lu{x:Nat}(hx:x<100)(H:Heap):JR (.str Rr) (nI .u32 (x*2)) H=.val (Vk (Mm (x/10))) H:=by rw[LJ (by rw[Zb8];omega),Zqy x hx]
def lx{x:Nat}(hx:x<100)(H:Heap):JR (.str Rr) (nI .u32 (x*2+1)) H=.val (Vk (Mm (x % 10))) H:=by rw[LJ (by rw[Zb8];omega),Zqz x hx]
structure FB(zo:Nat)(r R:Row)(nd m:Nat)(ds:Zd):Prop where
 size:R.size=24
 own:R.own=true
 fz:R.fz=0
 get: ∀i,R.get i=if zo+m<=i∧i<zo+nd then Vk (ds.getD (i - zo) 0) else r.get i
def FB.pair{r R:Row}{zo nd m p q d1 d2:Nat}{ds:Zd}(h:FB zo r R nd m ds)(hm:m<=nd)(hp:p+1=m)(hq:q+2=m)(h1:ds.getD p 0=Mm d1)(h2:ds.getD q 0=Mm d2):
  FB zo r ((R.st (zo+p) (Vk (Mm d1))).st (zo+q) (Vk (Mm d2))) nd q ds:=by
 refine⟨h.size,h.own,h.fz,λi=>?_⟩;rw[Row.st_get,Row.st_get,h.get]
 by_cases e2:zo+q=i
 ·rw[if_pos e2,if_pos (by omega),<-h2,show i - zo=q by omega]
 ·rw[if_neg e2]
  by_cases e1:zo+p=i
  ·rw[if_pos e1,if_pos (by omega),<-h1,show i - zo=p by omega]
  ·rw[if_neg e1]
   by_cases e:zo+m<=i∧i<zo+nd
   ·rw[if_pos e,if_pos (by omega)]
   ·rw[if_neg e,if_neg (by omega)]
def FB.one{r R:Row}{zo nd d:Nat}{ds:Zd}(h:FB zo r R nd 1 ds)(hm:1<=nd)(h1:ds.getD 0 0=Mm d):FB zo r (R.st zo (Vk (Mm d))) nd 0 ds:=by
 refine⟨h.size,h.own,h.fz,λi=>?_⟩;rw[Row.st_get,h.get]
 by_cases e1:zo=i
 ·rw[if_pos e1,if_pos (by omega),<-h1,show i - zo=0 by omega]
 ·rw[if_neg e1]
  by_cases e:zo+1<=i∧i<zo+nd
  ·rw[if_pos e,if_pos (by omega)]
  ·rw[if_neg e,if_neg (by omega)]
def ZfE{nd m u j p:Nat}(hm:m<=nd)(hp:p+1+j=m):(Cc nd u).getD p 0=Mm (u/10^(nd - m)/10^j % 10):=by
 rw[sx nd u p (by omega),Tm,<-QI]
 congr 3;congr 1;omega
structure FL(H0:Heap)(b zo nd u:Nat)(c:Option Nat)(r:Row)(m:Nat)(tm:TM)(H:Heap):Prop where
 t0:Z6 tm=.slice b zo nd c
 t1:Xn tm=nI .u64 (u/10^(nd - m))
 t4:Xo tm=nI .i64 m
 le:m<=nd
 heap: ∃R,H=H0.put b (.row R)∧FB zo r R nd m (Cc nd u)
def Zdx{zo nd u:Nat}{c:Option Nat}{r:Row}(hb:b<H0.nx)(hro:H0.ro<=b)(hnd:zo+nd<=24)(hu:u<18446744073709551616)(cx:Ctx)(x:X)(m:Nat)(tm:TM)(H:Heap)(h:FL H0 b zo nd u c r m tm H):
  ∃o tm' H',Lr cx tm H x=.ok o tm' H' x∧((o=.normal∧ ∃k,k<m∧FL H0 b zo nd u c r k tm' H')∨(o≠.normal∧o=.exit 0∧m<8∧FL H0 b zo nd u c r m tm' H')):=by
 have t0:=h.t0;have t1:=h.t1;have t4:=h.t4;have hle:=h.le;simp only[Pa,Kp,Pt] at t0 t1 t4;obtain⟨R,rfl,fb⟩:=h.heap;generalize hv:u/10^(nd - m)=v at t1;have hv2:v<18446744073709551616:=by rw[<-hv];exact UD (Ri ..) hu
 have s1:=fb.size;have s2:=fb.own;have s3:=fb.fz
 by_cases h8:8<=m
 ·have d1:decide (8<=m)=true:=Zi h8
  simp(disch:=first|assumption|omega|(simp -implicitDefEqProofs only[VV,VW]<;>first|assumption|omega)|decide) only[Lr,t0,t1,t4,d1,XP,Vh,lu,lx,Yr,Wz,TB,N4,Ma,Mc,ZbK,ZbP,SS,Qa,Lr,ZG,Yj,Yc,Xc,Yg,UH,KA]
  refine⟨_,_,_,rfl,.inl ⟨rfl,m - 8,by omega,t0,?_,rfl,by omega,_,rfl,?_⟩⟩
  ·show nI .u64 (v/100000000)=_
   rw[<-hv,Tm,show(100000000:Nat)=10^8 from rfl,<-QI,show nd - m+8=nd - (m - 8) by omega]
  ·have dd:=λ(p j:Nat) (hp:p+1+j=m)=>ZfE (u:=u) hle hp
   rw[hv] at dd;refine FB.pair (m:=m - 6) (FB.pair (m:=m - 4) (FB.pair (m:=m - 2) (FB.pair fb hle (by omega) (by omega) ?_ ?_) (by omega) (by omega) (by omega) ?_ ?_) (by omega) (by omega) (by omega) ?_ ?_) (by omega) (by omega) (by omega) ?_ ?_
   ·rw[dd (m - 1) 0 (by omega)];congr 1;omega
   ·rw[dd (m - 2) 1 (by omega)];congr 1;omega
   ·rw[dd (m - 3) 2 (by omega)];congr 1;omega
   ·rw[dd (m - 4) 3 (by omega)];congr 1;omega
   ·rw[dd (m - 5) 4 (by omega)];congr 1;omega
   ·rw[dd (m - 6) 5 (by omega)];congr 1;omega
   ·rw[dd (m - 7) 6 (by omega)];congr 1;omega
   ·rw[dd (m - 8) 7 (by omega)];congr 1;omega
 ·have d1:decide (8<=m)=false:=Zc h8
  simp only[Lr,t4,d1,Yr,Lr,ZG,Yj,Yg,];exact⟨_,_,_,rfl,.inr ⟨by simp,rfl,by omega,t0,by rw[hv];exact t1,t4,hle,_,rfl,fb⟩⟩
def nD(E:Env Zq fs Zk){zo nd u:Nat}{c:Option Nat}{r:Row}(hr:H.t.get b=some (.row r))(hb:b<H.nx)(hro:H.ro<=b)(hs:r.size=24)(how:r.own=true)(hfz:r.fz=0)(hnd:zo+nd<=24)(hu:u<18446744073709551616)(hud:u<10^nd):
  ∃R,ZA (LK Zq fs Zk k) fs Zk (n+1) 122 [.slice b zo nd c,nI .u64 u] H=.ret (.tup []) (H.put b (.row R))∧FB zo r R nd 0 (Cc nd u):=by
 have nn:Et Zq fs Zk Ta Se k 122 [.slice b zo nd c,nI .u64 u] H=none:=xp E.f122.2 (.inr rfl) _ _;rw[tY nn E.f122.1];simp only[Zhc,ZG,Yj,Yg,];generalize hL:Vq (Lr _) Zk _ _ _=L;obtain⟨o,OS,H1,rfl,_,rfl,h8,z⟩:=YP (P:=λT=>FL H b zo nd u c r nd T H) (Q:=λo tm H'=>o=.exit 0∧ ∃m,m<8∧FL H b zo nd u c r m tm H')
  (λT hi=>Y5 (FL H b zo nd u c r) (λo tm H'=>o=.exit 0∧ ∃m,m<8∧FL H b zo nd u c r m tm H')
   (λm tm H' h=>by
    obtain⟨o,tm',H2,e,h⟩:=Zdx hb hro hnd hu _ _ m tm H' h
    refine⟨o,tm',H2,e,?_⟩
    rcases h with h|⟨h1,h2,h3,h4⟩
    ·exact .inl h
    ·exact .inr ⟨h1,h2,m,h3,h4⟩) Zk nd T H (by have:=E.big;omega) hi) hL
  ⟨rfl,by rw[Ut,Nat.pow_zero,QG];rfl,rfl,Zs _,r,(FE hr).symm,hs,how,hfz,λi=>by rw[if_neg (by omega)]⟩
 obtain⟨z8,z⟩:=z;have t0:=z.t0;have t1:=z.t1;have t4:=z.t4;have hle:=z.le;simp only[Pa,Kp,Pt] at t0 t1 t4;obtain⟨R,rfl,fb⟩:=z.heap;have dd:=λ(p j:Nat) (hp:p+1+j=h8)=>ZfE (u:=u) hle hp;have hv2:u/10^(nd - h8)<10^h8:=by
  rw[Qz (Nat.pow_pos (by decide)),<-QI,show h8+(nd - h8)=nd by omega];exact hud
 generalize hv:u/10^(nd - h8)=v at t1 dd hv2;have s1:=fb.size;have s2:=fb.own;have s3:=fb.fz;have z0:decide (0<0)=false:=rfl;have z1:decide (0<1)=true:=rfl;have hm:h8=0∨h8=1∨h8=2∨h8=3∨h8=4∨h8=5∨h8=6∨h8=7:=by omega
 rcases hm with rfl|rfl|rfl|rfl|rfl|rfl|rfl|rfl
 ·have hv3:v<1:=hv2
  simp(disch:=omega) only[Tv,UW,t1,t4,z0,Nat.reduceLeDiff,Yr,Yn,SS,ZG,Yj,Zz,Yc,Yg,Ca,i4,ta];refine⟨_,rfl,?_⟩;exact fb
 ·have hv3:v<10:=hv2
  simp(disch:=first|assumption|omega|(simp -implicitDefEqProofs only[VV,VW]<;>first|assumption|omega)|decide) only[Tv,UW,t0,t1,t4,z1,TB,Nat.reduceLeDiff,XP,Yr,Yn,TB,SS,MC,Qa,Zo,ZG,Yj,Zz,Yc,Yg,Ca,i4,ta]
  refine⟨_,rfl,?_⟩;have e0:nI .u8 (48+v)=Vk (Mm (v)):=by
   show AV.int .u8 (.ofNat _)=AV.int .u8 (.ofNat _);rw[Ob (by omega)]
  rw[e0];refine FB.one (fb) (by omega) ?_
  ·rw[dd 0 0 rfl];congr 1;omega
 ·have hv3:v<100:=hv2
  simp(disch:=first|assumption|omega|(simp -implicitDefEqProofs only[VV,VW]<;>first|assumption|omega)|decide) only[Tv,UW,t0,t1,t4,z0,TB,Nat.reduceLeDiff,Nat.reduceSub,XP,Vh,lu,lx,Yr,Yn,Wz,TB,N4,Ma,Mc,SS,Qa,Zo,ZG,Yj,Zz,Yc,Xc,Yg,Ca,i4,ta]
  refine⟨_,rfl,?_⟩;refine FB.pair (m:=2) (fb) (by omega) rfl rfl ?_ ?_
  ·rw[dd 1 0 rfl];congr 1;omega
  ·rw[dd 0 1 rfl];congr 1;omega
 ·have hv3:v<1000:=hv2
  simp(disch:=first|assumption|omega|(simp -implicitDefEqProofs only[VV,VW]<;>first|assumption|omega)|decide) only[Tv,UW,t0,t1,t4,z1,TB,Nat.reduceLeDiff,Nat.reduceSub,XP,Vh,lu,lx,Yr,Yn,Wz,TB,N4,Ma,Mc,SS,MC,Qa,Zo,ZG,Yj,Zz,Yc,Xc,Yg,Ca,i4,ta]
  refine⟨_,rfl,?_⟩;have e0:nI .u8 (48+v/100)=Vk (Mm (v/100)):=by
   show AV.int .u8 (.ofNat _)=AV.int .u8 (.ofNat _);rw[Ob (by omega)]
  rw[e0];refine FB.one (FB.pair (m:=3) (fb) (by omega) rfl rfl ?_ ?_) (by omega) ?_
  ·rw[dd 2 0 rfl];congr 1;omega
  ·rw[dd 1 1 rfl];congr 1;omega
  ·rw[dd 0 2 rfl];congr 1;omega
 ·have hv3:v<10000:=hv2
  simp(disch:=first|assumption|omega|(simp -implicitDefEqProofs only[VV,VW]<;>first|assumption|omega)|decide) only[Tv,UW,t0,t1,t4,z0,TB,Nat.reduceLeDiff,Nat.reduceSub,XP,Vh,lu,lx,Yr,Yn,Wz,TB,N4,Ma,Mc,SS,Qa,Zo,ZG,Yj,Zz,Yc,Xc,Yg,Ca,i4,ta]
  refine⟨_,rfl,?_⟩;refine FB.pair (m:=2) (FB.pair (m:=4) (fb) (by omega) rfl rfl ?_ ?_) (by omega) rfl rfl ?_ ?_
  ·rw[dd 3 0 rfl];congr 1;omega
  ·rw[dd 2 1 rfl];congr 1;omega
  ·rw[dd 1 2 rfl];congr 1;omega
  ·rw[dd 0 3 rfl];congr 1;omega
 ·have hv3:v<100000:=hv2
  simp(disch:=first|assumption|omega|(simp -implicitDefEqProofs only[VV,VW]<;>first|assumption|omega)|decide) only[Tv,UW,t0,t1,t4,z1,TB,Nat.reduceLeDiff,Nat.reduceSub,XP,Vh,lu,lx,Yr,Yn,Wz,TB,N4,Ma,Mc,SS,MC,Qa,Zo,ZG,Yj,Zz,Yc,Xc,Yg,Ca,i4,ta]
  refine⟨_,rfl,?_⟩;have e0:nI .u8 (48+v/10000)=Vk (Mm (v/10000)):=by
   show AV.int .u8 (.ofNat _)=AV.int .u8 (.ofNat _);rw[Ob (by omega)]
  rw[e0];refine FB.one (FB.pair (m:=3) (FB.pair (m:=5) (fb) (by omega) rfl rfl ?_ ?_) (by omega) rfl rfl ?_ ?_) (by omega) ?_
  ·rw[dd 4 0 rfl];congr 1;omega
  ·rw[dd 3 1 rfl];congr 1;omega
  ·rw[dd 2 2 rfl];congr 1;omega
  ·rw[dd 1 3 rfl];congr 1;omega
  ·rw[dd 0 4 rfl];congr 1;omega
 ·have hv3:v<1000000:=hv2
  simp(disch:=first|assumption|omega|(simp -implicitDefEqProofs only[VV,VW]<;>first|assumption|omega)|decide) only[Tv,UW,t0,t1,t4,z0,TB,Nat.reduceLeDiff,Nat.reduceSub,XP,Vh,lu,lx,Yr,Yn,Wz,TB,N4,Ma,Mc,SS,Qa,Zo,ZG,Yj,Zz,Yc,Xc,Yg,Ca,i4,ta]
  refine⟨_,rfl,?_⟩;refine FB.pair (m:=2) (FB.pair (m:=4) (FB.pair (m:=6) (fb) (by omega) rfl rfl ?_ ?_) (by omega) rfl rfl ?_ ?_) (by omega) rfl rfl ?_ ?_
  ·rw[dd 5 0 rfl];congr 1;omega
  ·rw[dd 4 1 rfl];congr 1;omega
  ·rw[dd 3 2 rfl];congr 1;omega
  ·rw[dd 2 3 rfl];congr 1;omega
  ·rw[dd 1 4 rfl];congr 1;omega
  ·rw[dd 0 5 rfl];congr 1;omega
 ·have hv3:v<10000000:=hv2
  simp(disch:=first|assumption|omega|(simp -implicitDefEqProofs only[VV,VW]<;>first|assumption|omega)|decide) only[Tv,UW,t0,t1,t4,z1,TB,Nat.reduceLeDiff,Nat.reduceSub,XP,Vh,lu,lx,Yr,Yn,Wz,TB,N4,Ma,Mc,SS,MC,Qa,Zo,ZG,Yj,Zz,Yc,Xc,Yg,Ca,i4,ta]
  refine⟨_,rfl,?_⟩;have e0:nI .u8 (48+v/10000/100)=Vk (Mm (v/10000/100)):=by
   show AV.int .u8 (.ofNat _)=AV.int .u8 (.ofNat _);rw[Ob (by omega)]
  rw[e0];refine FB.one (FB.pair (m:=3) (FB.pair (m:=5) (FB.pair (m:=7) (fb) (by omega) rfl rfl ?_ ?_) (by omega) rfl rfl ?_ ?_) (by omega) rfl rfl ?_ ?_) (by omega) ?_
  ·rw[dd 6 0 rfl];congr 1;omega
  ·rw[dd 5 1 rfl];congr 1;omega
  ·rw[dd 4 2 rfl];congr 1;omega
  ·rw[dd 3 3 rfl];congr 1;omega
  ·rw[dd 2 4 rfl];congr 1;omega
  ·rw[dd 1 5 rfl];congr 1;omega
  ·rw[dd 0 6 rfl];congr 1;omega
def lr{l:Nat}(hl:l<n)(hlh:l<=h)(hh:h<=n)(b o:Nat)(k j:IntKind)(H:Heap):O5 n 1 (.ptr b o) (some (nI k l)) (some (nI j h)) H=.val (.slice b (o+l) (h - l) (some (n - l))) H:=by
 show ZJ (Nat.ble h n) (ZJ (Nat.ble l h) (cond (Nat.beq l n) _ (OR.val (.slice b (o+l*1) (h - l) (some (n - l))) H)))=_;rw[Zj hh,Zj hlh,Yl,Zc (by omega),Y6];rfl
def GR(m:Nat):QC (.ofNat m)=dec m:=rfl
def BG(m:Nat):QC (.negSucc m)=45::dec (m+1):=by unfold QC;rw[if_pos (Int.negSucc_lt_zero m)];rfl
def jh(k:IntKind)(m:Nat):AV.int k (.ofNat m)=nI k m:=rfl
def nG(E:Env Zq fs Zk){z:Int}(g:Qw H)(hro:H.ro<=H.nx)(hz1: -9223372036854775808<=z)(hz2:z<9223372036854775808):
  ∃H',ZA (LK Zq fs Zk 2) fs Zk (n+2) 90 [.int .i64 z,nI .i64 10] H=.ret (.str (QC z)) H'∧Zu H H' []:=by
 rw[Z5 E.f90 (.inl (by decide))];cases z with
 |ofNat m=>
  have hz2:m<9223372036854775808:=by simp at hz2;omega
  by_cases h:m<100
  ·have es:=λ{j}=>Zgt E (k:=2) (n:=j) (by decide) (H:=H) h
   have d0:decide (0<=m)=true:=Zi (ZN _);have d1:decide (m<100)=true:=Zi h;simp only[jh,d0,d1,es,ZE,Y4,YQ,c90,ZG,Yj,Zz,Yc,Yg];exact⟨_,rfl,Zu.refl _ _⟩
  ·skip
   obtain⟨H1,hH1⟩:=TO (H.new (.row ⟨174,1,24,.leaf,nI .u8 0,0,false,true,true⟩));have NB:H1.nx=H.nx+1:=by rw[<-hH1];rfl
   have FI:H1.ro=H.ro:=by rw[<-hH1];rfl
   have k1:Zu H H1 []:=by rw[<-hH1];exact Zu.new H _ []
   have ga:H1.t.get H.nx=some (.row ⟨174,1,24,.leaf,nI .u8 0,0,false,true,true⟩):=by rw[<-hH1,ZR rfl]
   have hl:=SV (m);have hl2:WS (m)<=20:=TI (by decide) (Nat.lt_trans (show m<18446744073709551616 by omega) (by decide));have en:=λ{j}=>EC E (k:=2) (n:=j) (by decide) (H:=H1) (g.keep k1 (by simp)) (d:=m) (by omega) (by omega);obtain⟨R,ef,fb⟩:=nD E (k:=2) (n:=n) (H:=H1) (b:=H.nx) (zo:=1) (nd:=WS (m)) (u:=m) (c:=some 23) ga (by omega) (by rw[FI];exact hro) rfl rfl rfl (by omega) (by omega) (LN _);have s1:=fb.size;have s2:=fb.own;have s3:=fb.fz;have el: ∀c,lI (.slice H.nx 1 (WS m) c) (H1.put H.nx (.row R))=.val (.str (QC (.ofNat m))) (H1.put H.nx (.row R)):=λc=>by
    refine JD (Yp _ _ _) (by rw[GR,SE]) (by rw[s1];omega) λi hi=>?_;rw[fb.get,GR,if_pos (by omega),show 1+i - 1=i by omega];rfl
   have d0:decide (0<=m)=true:=Zi (ZN _);have d1:decide (m<100)=false:=Zc h;have d2:decide (m<0)=false:=Zc (UZ _);simp(disch:=omega) only[jh,d0,d1,d2,en,ef,el,hH1,RU,lr,Zl,WA,Nat.reduceSub,Y0,ZE,Y4,T4,YQ,c90,ZG,Yj,Zz,Yc,Yg,UH];exact⟨_,rfl,k1.then_put λh=>absurd h (Vc _)⟩
 |negSucc m=>
  obtain⟨H1,hH1⟩:=TO (H.new (.row ⟨174,1,24,.leaf,nI .u8 0,0,false,true,true⟩));have NB:H1.nx=H.nx+1:=by rw[<-hH1];rfl
  have FI:H1.ro=H.ro:=by rw[<-hH1];rfl
  have k1:Zu H H1 []:=by rw[<-hH1];exact Zu.new H _ []
  have ga:H1.t.get H.nx=some (.row ⟨174,1,24,.leaf,nI .u8 0,0,false,true,true⟩):=by rw[<-hH1,ZR rfl]
  have hl2:WS (m+1)<=20:=TI (by decide) (Nat.lt_trans (show m+1<18446744073709551616 by omega) (by decide));have en:=λ{j}=>EC E (k:=2) (n:=j) (by decide) (H:=H1) (g.keep k1 (by simp)) (d:=m+1) (by omega) (by omega);obtain⟨R,ef,fb⟩:=nD E (k:=2) (n:=n) (H:=H1) (b:=H.nx) (zo:=1) (nd:=WS (m+1)) (u:=m+1) (c:=some 23) ga (by omega) (by rw[FI];exact hro) rfl rfl rfl (by omega) (by omega) (LN _);have s1:=fb.size;have s2:=fb.own;have s3:=fb.fz;have el: ∀c,lI (.slice H.nx 0 (1+WS (m+1)) c) (H1.put H.nx (.row (R.st 0 (nI .u8 45))))=.val (.str (QC (.negSucc m))) (H1.put H.nx (.row (R.st 0 (nI .u8 45)))):=λc=>by
   refine JD (Yp _ _ _) (by rw[BG,ZL,SE];omega) (by rw[Row.st_size,s1];omega) λi hi=>?_;rw[Zl,Row.st_get,fb.get,BG]
   by_cases h0:0=i
   ·subst h0;rw[if_pos rfl];rfl
   ·rw[if_neg h0,if_pos (by omega)]
    obtain⟨j,rfl⟩: ∃j,i=j+1:=⟨i - 1,by omega⟩;rfl
  have e9:18446744073709551616 - (18446744073709551615 - m)=m+1:=by omega
  simp(disch:=first|assumption|omega|(simp -implicitDefEqProofs only[VV,VW]<;>first|assumption|omega)|decide) only[en,ef,el,hH1,e9,RU,lr,wJ,Zl,WA,Nat.reduceSub,Y0,Zej,Zeb,nR,Za4,PT,Qa,Zo,YQ,c90,ZG,Yj,Zz,Yc,Yg,UH]
  exact⟨_,rfl,k1.then_put λh=>absurd h (Vc _)⟩
def aH(E:Env Zq fs Zk)(hk:3<=k){z:Int}(g:Qw H)(hro:H.ro<=H.nx)(hz1: -9223372036854775808<=z)(hz2:z<9223372036854775808):
  ZA (LK Zq fs Zk k) fs Zk (n+1) 90 [.int .i64 z,nI .i64 10] H=.ret (.str (QC z)) H:=by
 obtain⟨H',e,g⟩:=nG E (n:=898) (H:=H) g hro hz1 hz2;exact Yh (r:=2) rfl rfl e g (rfl) hk
def vO(E:Env Zq fs Zk){z:Int}(g:Qw H)(hro:H.ro<=H.nx)(hz1: -9223372036854775808<=z)(hz2:z<9223372036854775808):
  ∃H',ZA (LK Zq fs Zk 3) fs Zk (n+2) 59 [.int .i64 z,nI .i64 10] H=.ret (.str (QC z)) H'∧Zu H H' []:=by
 rw[Z5 E.f59 (.inl (by decide))];have es:=λ{j}=>aH E (k:=3) (n:=j) (by decide) g hro hz1 hz2;simp only[es,c59,ZG,Yj,Zz,Yg];exact⟨_,rfl,Zu.refl _ _⟩
def aG(E:Env Zq fs Zk)(hk:4<=k){z:Int}(g:Qw H)(hro:H.ro<=H.nx)(hz1: -9223372036854775808<=z)(hz2:z<9223372036854775808):
  ZA (LK Zq fs Zk k) fs Zk (n+1) 59 [.int .i64 z,nI .i64 10] H=.ret (.str (QC z)) H:=by
 obtain⟨H',e,g⟩:=vO E (n:=898) (H:=H) g hro hz1 hz2;exact Yh (r:=3) rfl rfl e g (rfl) hk
def Sq(n:Nat):Zd:=if n<8 then [Mm n] else Sq (n/8)++[Mm (n % 8)]
termination_by n
decreasing_by omega
def CC(h:n<8):Sq n=[Mm n]:=by rw[Sq,if_pos h]
def CB(h:8<=n):Sq n=Sq (n/8)++[Mm (n % 8)]:=by rw[Sq,if_neg (by omega)]
theorem AK: ∀(k n:Nat),1<=k->n<8^k->(Sq n).length<=k
 |0,_,h,_=>by omega
 |k+1,n,_,h=>by
  by_cases h8:n<8
  ·rw[CC h8];exact Nat.succ_le_succ (ZN _)
  ·rw[CB (by omega),Zh]
   have hk:1<=k:=by
    rcases k with _|k
    ·rw[Zl,Nat.pow_one] at h;omega
    ·omega
   have:=AK k (n/8) hk (by rw[WB] at h;omega);show _+1<=_;omega
def Zbc(n:Nat):1<=(Sq n).length:=by
 by_cases h8:n<8
 ·rw[CC h8];exact Zs _
 ·rw[CB (by omega),Zh];show 1<=_+1;omega
def Zd8{a:Nat}(h:a<18446744073709551616)(H:Heap):Gt SU (nI .u64 a) (nI .u64 7) H=.val (nI .u64 (a % 8)) H:=by
 show ZJ (PV .u64 .u64) (Tp .u64 (.ofNat (SU (Uh .u64) (U1 (Uh .u64) (.ofNat a)) (U1 (Uh .u64) (.ofNat 7)))) H)=_;have h2:SU (Uh .u64) (U1 (Uh .u64) (.ofNat a)) (U1 (Uh .u64) (.ofNat 7))=a % 8:=by
  show Nat.land (a % 18446744073709551616) 7=_;rw[Yd h];exact TR a 3
 rw[XG,Wo,h2,Ml,Yd (by omega)];rfl
def ZhH: ∀i,i<8->IJ.getD i 0=Mm i:=by decide
def Zbb{u:Nat}(h:u<8)(H:Heap):JR (.str IJ) (nI .u64 u) H=.val (Vk (Mm u)) H:=by
 rw[LJ (by show u<36;omega),ZhH _ h]
structure OB(r:Row)(i:Nat)(s:Zd):Prop where
 size:r.size=65
 own:r.own=true
 fz:r.fz=0
 le:i<=65
 len:s.length=65 - i
 get: ∀j,j<s.length->r.get (i+j)=Vk (s.getD j 0)
def OB.push{r:Row}(h:OB r i s)(hi:0<i)(x:UInt8):OB (r.st (i - 1) (Vk x)) (i - 1) (x::s):=by
 have h1:=h.le;have h2:=h.len;refine⟨h.size,h.own,h.fz,by omega,by rw[ZL];omega,λj hj=>?_⟩;rw[Row.st_get];rcases j with _|j
 ·rw[if_pos (by omega)];rfl
 ·rw[if_neg (by omega),show i - 1+(j+1)=i+j by omega,h.get j (by rw[ZL] at hj;omega)];rfl
def ZlV(E:Env Zq fs Zk):ZA (LK Zq fs Zk k) fs Zk (n+1) 152 [nI .i64 8] H=.ret (.bool true) H:=by
 rw[Z5 E.f152 (.inr rfl)];have b: ∀G:Heap,Gt SU (nI .i64 8) (nI .i64 7) G=.val (nI .i64 0) G:=λG=>rfl;have s: ∀G:Heap,Mh (nI .i64 8) (nI .i64 1) G=.val (nI .i64 7) G:=λG=>rfl;have e: ∀G:Heap,NL WX false (nI .i64 0) (nI .i64 0) G=.val (.bool true) G:=λG=>rfl;simp only[b,s,e,Zho,ZG,Yj,Zz,Yg]
def tz8(E:Env Zq fs Zk)(g:Qw H):ZA (LK Zq fs Zk k) fs Zk (n+2) 153 [nI .u64 8] H=.ret (nI .i64 3) H:=by
 rw[Z5 E.f153 (.inr rfl)];have e6: ∀{j},ZA (LK Zq fs Zk k) fs Zk (j+1) 171 [nI .u64 8] H=.ret (nI .i64 3) H:=λ{j}=>by
  rw[Z5 E.f171 (.inr rfl)];obtain⟨_,_,r,g1,g2,g3⟩:=g;have e: ∀G:Heap,NL WX false (nI .u64 8) (nI .u64 0) G=.val (.bool false) G:=λG=>rfl;have ng: ∀G:Heap,qu (nI .u64 8) G=.val (nI .u64 18446744073709551608) G:=λG=>rfl;have b: ∀G:Heap,Gt SU (nI .u64 8) (nI .u64 18446744073709551608) G=.val (nI .u64 8) G:=λG=>rfl;have m: ∀G:Heap,eK (nI .u64 8) (nI .u64 285870213051353865) G=.val (nI .u64 2286961704410830920) G:=λG=>rfl;have s: ∀G:Heap,Ze8 (nI .u64 2286961704410830920) (nI .u64 58) G=.val (nI .u64 7) G:=λG=>rfl;have i: ∀G:Heap,rp 64 1 (.ptr 7 0) (nI .u64 7) G=.val (.ptr 7 7) G:=λG=>PT (by decide) _ _ _ _;have l: ∀G,ld1 (some (.row r)) 7 G=.val (nI .u8 3) G:=λG=>by rw[Qt g2,g3]
  have v: ∀G:Heap,O1 .i64 (nI .u8 3) G=.val (nI .i64 3) G:=λG=>rfl;simp only[e,ng,b,m,s,i,g1,l,v,Zht,ZG,Yj,Zz,Yg]
 simp only[e6,Zhp,ZG,Yj,Zz,Yg]
structure OL(H0:Heap)(b n0:Nat)(m:Nat)(tm:TM)(H:Heap):Prop where
 t3:V0 tm=.bool false
 t4:Xo tm=.bool false
 t10:YH tm=.nils
 t12:Y2 tm=.ptr b 0
 t13:YS tm=nI .i64 m
 t14:Xl tm=nI .u64 3
 t15:Xs tm=nI .u64 8
 t16:Xr tm=nI .u64 7
 le:44<=m
 u: ∃u R s,Xn tm=nI .u64 u∧u<8^(m - 43)∧u<9223372036854775808∧H=H0.put b (.row R)∧OB R m s∧Sq n0=Sq u++s
def OLQ(H0:Heap)(b n0:Nat)(o:Out)(tm:TM)(H:Heap):Prop:=o=.exit 0∧ ∃m,OL H0 b n0 m tm H∧ ∀u,Xn tm=nI .u64 u->u<8
def ZeN{n0:Nat}(hb:b<H0.nx)(hro:H0.ro<=b)(cx:Ctx)(X0:X)(m:Nat)(tm:TM)(H:Heap)(hI:OL H0 b n0 m tm H):
  ∃o tm' H',GC cx tm H X0=.ok o tm' H' X0∧((o=.normal∧ ∃k,k<m∧OL H0 b n0 k tm' H')∨(o≠.normal∧OLQ H0 b n0 o tm' H')):=by
 obtain⟨t3,t4,t10,t12,t13,t14,t15,t16,hle,u,R,s,t1,hu1,hu2,rfl,ob,ho⟩:=hI;have D7:=t3;have Gk:=t4;have od:=t10;have Zml:=t12;have Zmm:=t14;have d9:=t15;have yg:=t16;have t1':=t1;simp only[Kp,sZ,ju,ZkR,ZfU,jv] at t1 t12 t13 t14 t15 t16;have s1:=ob.size;have s2:=ob.own;have s3:=ob.fz;have s4:=ob.le
 by_cases h8:8<=u
 ·have d1:decide (8<=u)=true:=Zi h8
  have hm45:45<=m:=by
   rcases Nat.lt_or_ge m 45 with h|h
   ·obtain rfl:m=44:=by omega
    simp at hu1;omega
   ·exact h
  simp(disch:=first|assumption|omega|(simp -implicitDefEqProofs only[VV,VW]<;>first|assumption|omega)|decide) only[t1,t12,t13,t14,t15,t16,d1,Yr,Wz,Zd8,QQ,Yr,Wz,PT,Qa,Zbb,GC,ZG,Yj,Yc,Nat.reducePow,Yg,UH]
  refine⟨_,_,_,rfl,.inl ⟨rfl,m - 1,by omega,D7,Gk,od,Zml,rfl,Zmm,d9,yg,by omega,u/8,_,_,rfl,?_,by omega,rfl,ob.push (by omega) _,?_⟩⟩
  ·rw[show m - 43=(m - 1 - 43)+1 by omega,WB] at hu1;omega
  ·rw[ho,CB h8,Yq];rfl
 ·have d1:decide (8<=u)=false:=Zc h8
  simp only[t1,t15,d1,Yr,Yr,GC,ZG,Yj,Yg,UH];refine⟨_,_,_,rfl,?_⟩;exact .inr ⟨by simp,rfl,m,⟨D7,Gk,od,Zml,t13,Zmm,d9,yg,hle,u,R,s,t1',hu1,hu2,rfl,ob,ho⟩,λv hv=>by have:nI .u64 u=nI .u64 v:=t1'.symm.trans hv;cases this;omega⟩
def Zo1(E:Env Zq fs Zk){u:Nat}(g:Qw H)(hro:H.ro<=H.nx)(hu:u<9223372036854775808):
  ∃H',ZA (LK Zq fs Zk k) fs Zk (n+3) 123 [.nils,nI .u64 u,nI .i64 8,.bool false,.bool false] H=.ret (.tup [.nils,.str (Sq u)]) H'∧Zu H H' []:=by
 rw[Z5 E.f123 (.inr rfl)];obtain⟨H1,hH1⟩:=TO (H.new (.row ⟨203,1,65,.leaf,nI .u8 0,0,false,true,true⟩));have NB:H1.nx=H.nx+1:=by rw[<-hH1];rfl
 have FI:H1.ro=H.ro:=by rw[<-hH1];rfl
 have k1:Zu H H1 []:=by rw[<-hH1];exact Zu.new H _ []
 have ga:H1.t.get H.nx=some (.row ⟨203,1,65,.leaf,nI .u8 0,0,false,true,true⟩):=by rw[<-hH1,ZR rfl]
 have e1:=λ{j}=>ZlV E (k:=k) (n:=j) (H:=H1);have e2:=λ{j}=>tz8 E (k:=k) (n:=j) (H:=H1) (g.keep k1 (by simp));have w1: ∀G:Heap,O1 .u64 (nI .i64 8) G=.val (nI .u64 8) G:=λG=>rfl;have w2: ∀G:Heap,O1 .u64 (nI .i64 3) G=.val (nI .u64 3) G:=λG=>rfl;have w3: ∀G:Heap,Mh (nI .u64 8) (nI .u64 1) G=.val (nI .u64 7) G:=λG=>rfl;have f1: ∀G:Heap,T2 XF Yt (nI .i64 8) (nI .i64 2) G=.val (.bool false) G:=λG=>rfl;have f2: ∀G:Heap,NL WX false (nI .i64 8) (nI .i64 10) G=.val (.bool false) G:=λG=>rfl;have f3: ∀G:Heap,T2 U9 W1 (nI .i64 8) (nI .i64 36) G=.val (.bool false) G:=λG=>rfl;have hf:=E.big;simp only[ZcQ,hH1,e1,e2,w1,w2,w3,f1,f2,f3,Zhd,ZG,Yj,Yg,UH,];generalize hL:Vq (GC _) Zk _ _ _=L;obtain⟨o,OS,H2,rfl,_,rfl,m,z,hz⟩:=YP (P:=λT=>OL H1 H.nx u 65 T H1) (Q:=OLQ H1 H.nx u)
  (λT hi=>Y5 (OL H1 H.nx u) (OLQ H1 H.nx u) (λm tm H' h=>ZeN (by omega) (by omega) _ _ m tm H' h) Zk 65 T H1 (by omega) hi) hL
  ⟨by rfl,by rfl,by rfl,by rfl,by rfl,by rfl,by rfl,by rfl,by decide,u,_,[],by rfl,ZK hu (by decide),hu,(FE ga).symm,⟨rfl,rfl,rfl,Zs _,rfl,λj hj=>by cases hj⟩,by rw[ZM]⟩
 obtain⟨t3,t4,t10,t12,t13,t14,t15,t16,hle,u2,R,s,t1,hu1,hu2,rfl,ob,ho⟩:=z;have h8:=hz _ t1;simp only[Kp,Il,Pt,Du,sZ,ju] at t1 t3 t4 t10 t12 t13;have s1:=ob.size;have s2:=ob.own;have s3:=ob.fz;have s4:=ob.le;have ob2:=ob.push (by omega) (Mm u2);have el: ∀cc,lI (.slice H.nx (m - 1) (65 - (m - 1)) cc) (H1.put H.nx (.row (R.st (m - 1) (Vk (Mm u2)))))=.val (.str (Sq u)) (H1.put H.nx (.row (R.st (m - 1) (Vk (Mm u2))))):=λcc=>by
  rw[ho,CC h8];exact JD (Yp _ _ _) ob2.len (by show _<=R.size;omega) λi hi=>ob2.get i (by rw[ob2.len];exact hi)
 simp(disch:=first|assumption|omega|(simp -implicitDefEqProofs only[VV,VW]<;>first|assumption|omega)|decide) only[t1,t3,t4,t10,t12,t13,el,RU,dP,Zbb,Wz,Wz,PT,Qa,Zbb,ZG,Yj,Zz,Yc,Yg,UH,KA,Ca]
 refine⟨_,rfl,?_⟩;exact k1.then_put (by omega)
def aE(E:Env Zq fs Zk){u:Nat}(g:Qw H)(hro:H.ro<=H.nx)(hu:u<9223372036854775808):
  ∃H',ZA (LK Zq fs Zk 2) fs Zk (n+4) 90 [nI .i64 u,nI .i64 8] H=.ret (.str (Sq u)) H'∧Zu H H' []:=by
 rw[Z5 E.f90 (.inl (by decide))];obtain⟨H1,e1,k1⟩:=Zo1 E (k:=2) (n:=n) (H:=H) g hro hu;have f2: ∀G:Heap,NL WX false (nI .i64 8) (nI .i64 10) G=.val (.bool false) G:=λG=>rfl;simp(disch:=omega) only[e1,f2,ZE,UZ,ZE,decide_false,T4,c90,ZG,Yj,Zz,Yg,UH];refine⟨_,rfl,?_⟩;exact k1
def Zo2(E:Env Zq fs Zk)(hk:3<=k){u:Nat}(g:Qw H)(hro:H.ro<=H.nx)(hu:u<9223372036854775808):
  ZA (LK Zq fs Zk k) fs Zk (n+1) 90 [nI .i64 u,nI .i64 8] H=.ret (.str (Sq u)) H:=by
 obtain⟨H',e,g⟩:=aE E (n:=896) (H:=H) g hro hu;exact Yh (r:=2) rfl rfl e g (rfl) hk
def dM(E:Env Zq fs Zk){u:Nat}(g:Qw H)(hro:H.ro<=H.nx)(hu:u<9223372036854775808):
  ∃H',ZA (LK Zq fs Zk 3) fs Zk (n+4) 59 [nI .i64 u,nI .i64 8] H=.ret (.str (Sq u)) H'∧Zu H H' []:=by
 rw[Z5 E.f59 (.inl (by decide))];have e1:=λ{j}=>Zo2 E (k:=3) (n:=j) (by decide) g hro hu;simp only[e1,c59,ZG,Yj,Zz,Yg];refine⟨_,rfl,?_⟩;exact Zu.refl _ _
def Zmc(E:Env Zq fs Zk)(hk:4<=k){u:Nat}(g:Qw H)(hro:H.ro<=H.nx)(hu:u<9223372036854775808):
  ZA (LK Zq fs Zk k) fs Zk (n+1) 59 [nI .i64 u,nI .i64 8] H=.ret (.str (Sq u)) H:=by
 obtain⟨H',e,g⟩:=dM E (n:=896) (H:=H) g hro hu;exact Yh (r:=3) rfl rfl e g (rfl) hk
end
end
end Go.AI
