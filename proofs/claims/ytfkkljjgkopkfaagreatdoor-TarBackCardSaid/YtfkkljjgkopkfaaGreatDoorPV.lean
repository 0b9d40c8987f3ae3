/- Numbers read, and blocks: walked; proved, conditions as named. -/
import Derived.Test.YtfkkljjgkopkfaaGreatDoorPU
import Derived.Test.YtfkkljjgkopkfaaGreatDoorPT
set_option maxRecDepth 1000000
set_option maxHeartbeats 0
set_option linter.all false
namespace Go.AI
open Go
noncomputable section
section
variable {Zq:Lib} {fs:T CF} {Zk k n i h b:Nat} {H H0:Heap} {s:Zd} {cs:List AV}
theorem Fr: ∀(k u i:Nat),i<k->(Qn k u).getD i 0=Mm (u/8^(k - 1 - i) % 8)
 |0,_,_,h=>by omega
 |k+1,u,i,h=>by
  show(Qn k (u/8)++[Mm (u % 8)]).getD i 0=_;rw[NH,Rv]
  by_cases hi:i<k
  ·rw[if_pos hi,Fr k (u/8) i hi,Tm,show 8*8^(k - 1 - i)=8^(k+1 - 1 - i) by rw[show k+1 - 1 - i=(k - 1 - i)+1 by omega,WB,VE]]
  ·obtain rfl:i=k:=by omega
   rw[if_neg hi,Ut,show i+1 - 1 - i=0 by omega,Nat.pow_zero,QG];rfl
def Zqv{a:Nat}(h:a*8<9223372036854775808)(G:Heap):Zjp (nI .i64 a) (nI .u64 3) G=.val (nI .i64 (a*8)) G:=by
 show Tp .i64 (B4 (.ofNat a) (.ofNat 8)) G=_;rw[Wo,K7,Mk h];rfl
def Zp5{a d:Nat}(hd:d<8)(h:a*8+d<9223372036854775808)(G:Heap):Gt zW (nI .i64 (a*8)) (nI .i64 d) G=.val (nI .i64 (a*8+d)) G:=by
 show ZJ (PV .i64 .i64) (Tp .i64 (.ofNat (zW (Uh .i64) (U1 (Uh .i64) (.ofNat (a*8))) (U1 (Uh .i64) (.ofNat d)))) G)=_;have e:zW (Uh .i64) (U1 (Uh .i64) (.ofNat (a*8))) (U1 (Uh .i64) (.ofNat d))=a*8+d:=by
  show Nat.lor (a*8 % 18446744073709551616) (d % 18446744073709551616)=_;rw[Yd (by omega),Yd (by omega)];have:=Nat.two_pow_add_eq_or_of_lt (b:=d) (i:=3) (by simpa using hd) a;have e2:(2^3*a|||d)=a*8+d:=by rw[<-this];omega
  rw[show(2^3*a)=a*8 by omega] at e2;exact e2
 rw[XG,e,Wo,Mk h];rfl
def Zms(E:Env Zq fs Zk){v:AV}{l:Zd}{x:Nat}(hR:Rd H v l)(h0:0<l.length)(hx:(l.getD 0 0).toNat≠x):
  ZA (LK Zq fs Zk k) fs Zk (n+1) 158 [v,nI .u8 x] H=.ret v H:=by
 rw[Z5 E.f158 (.inr rfl)];have hf:=E.big;obtain⟨fu,rfl⟩: ∃fu,Zk=fu+1:=⟨Zk - 1,by omega⟩;have ln:=hR.len;obtain⟨b,o,r,eI,hb,gb,ld⟩:=hR.at_ 0 h0;have ld': ∀G,ld1 (some (.row r)) o G=.val (nI .u8 (l.getD 0 0).toNat) G:=ld;have d1:decide (0<l.length)=true:=Zi h0;have d2:decide ((l.getD 0 0).toNat=x)=false:=Zc hx;have d3:decide (l.length=0)=false:=Zc (by omega);simp only[ln,eI,gb,ld',d1,d2,d3,P2,Yn,YQ,Yn,Zhr,kz,ZG,Yj,Zz,Yg]
def Zmt(E:Env Zq fs Zk){v:AV}{l:Zd}(hR:Rd H v l)(h0:0<l.length)(hx:(l.getD 0 0).toNat≠32):
  ZA (LK Zq fs Zk k) fs Zk (n+2) 133 [v,.str [32]] H=.ret v H:=by
 rw[Z5 E.f133 (.inr rfl)];have ln:=hR.len;have d3:decide (l.length=0)=false:=Zc (by omega);have e1:=Zms E (k:=k) (n:=n) hR h0 hx;have wl:([32]:Zd).length=1:=rfl;have w0:([32]:Zd).getD 0 0=32:=rfl;have w1:(32:UInt8).toNat=32:=rfl;have w3:decide (32<128)=true:=rfl;simp(disch:=omega) only[ln,d3,e1,wl,w0,w1,w3,X7,ZE,YQ,Wi,ZZ,decide_true,decide_false,ZE,Zhg,ZG,Yj,Zz,reduceCtorEq,Yg]
structure ODI(Hs:Heap)(v:AV)(ln k u:Nat)(m:Nat)(tm:TM)(H:Heap):Prop where
 h:H=Hs
 t9:Wv tm=v
 t10:YH tm=nI .i64 ln
 i: ∃i,Y1 tm=nI .i64 i∧i+m=k∧Xo tm=nI .i64 (u/8^(k - i))
def ODQ(Hs:Heap)(u:Nat)(o:Out)(tm:TM)(H:Heap):Prop:=o=.ret∧H=Hs∧Va tm=nI .i64 u∧V0 tm=nI .i64 0
def ZeD{Hs:Heap}{v:AV}{l rest:Zd}{u:Nat}(hR:Rd Hs v l)(hl:l=Qn k u++0::rest)(hk:k<=11)(hu:u<8589934592)(cx:Ctx)(X0:X)(m:Nat)(tm:TM)(H:Heap)(hI:ODI Hs v l.length k u m tm H):
  ∃o tm' H',GA cx tm H X0=.ok o tm' H' X0∧((o=.normal∧ ∃j,j<m∧ODI Hs v l.length k u j tm' H')∨(o≠.normal∧ODQ Hs u o tm' H')):=by
 obtain⟨rfl,t9,t10,i,t11,him,t4⟩:=hI;have t9':=t9;have od:=t10;have Gk:=t4;simp only[Pt,fx,Du,jt] at t4 t9 t10 t11;have hll:l.length=k+1+rest.length:=by rw[hl,Zh,Rv];show k+(rest.length+1)=_;omega
 have d0:decide (i<l.length)=true:=Zi (by omega);obtain⟨b,o,r,eI,hb,gb,ld⟩:=hR.at_ i (by omega);cases m with
 |zero=>
  obtain rfl:i=k:=by omega
  have hb0:(l.getD i 0).toNat=0:=by
   rw[hl,NH,Rv,if_neg (by omega),Ut];rfl
  have ld': ∀G,ld1 (some (.row r)) o G=.val (nI .u8 0) G:=λG=>by
   have:=ld G;rw[show Vk (l.getD i 0)=nI .u8 (l.getD i 0).toNat from rfl,hb0] at this;exact this
  have w1:decide (0=32)=false:=rfl;have w2:decide (0=0)=true:=rfl;simp only[t4,t9,t10,t11,d0,eI,gb,ld',ZE,YQ,decide_true,decide_false,ZE,GA,ZG,Yj,reduceCtorEq,Yg];refine⟨_,_,_,rfl,.inr ⟨by simp,rfl,rfl,?_,rfl⟩⟩;show nI .i64 (u/8^(i - i))=_;rw[Ut,Nat.pow_zero,QG]
 |succ m=>
  obtain⟨d,hd⟩:=TO (u/8^(k - 1 - i) % 8);have hd8:d<8:=by rw[<-hd];exact Wh _ (by decide)
  have hbd:(l.getD i 0).toNat=48+d:=by
   rw[hl,NH,Rv,if_pos (by omega),Fr _ _ _ (by omega),hd,Ob (by omega)]
  have ld': ∀G,ld1 (some (.row r)) o G=.val (nI .u8 (48+d)) G:=λG=>by
   have:=ld G;rw[show Vk (l.getD i 0)=nI .u8 (l.getD i 0).toNat from rfl,hbd] at this;exact this
  obtain⟨q,hq⟩:=TO (u/8^(k - 1 - i));rw[hq] at hd;have hqu:q<=u:=by rw[<-hq];exact Ri _ _
  have ha:u/8^(k - i)=q/8:=by
   rw[show k - i=(k - 1 - i)+1 by omega,WB,<-Tm,hq]
  rw[ha] at t4;have w1:decide (48+d=32)=false:=Zc (by omega);have w2:decide (48+d=0)=false:=Zc (by omega);have w3:decide (48+d<48)=false:=Zc (by omega);have w4:decide (55<48+d)=false:=Zc (by omega);have e1:=λG:Heap=>Zqv (a:=q/8) (by omega) G;have e2: ∀G,Mh (nI .u8 (48+d)) (nI .u8 48) G=.val (nI .u8 d) G:=λG=>by rw[FW (by omega) (by omega),WA]
  have e3:=λG:Heap=>V1 (j:=.u8) (a:=d) (by omega) G;have e4: ∀G,Gt zW (nI .i64 (q/8*8)) (nI .i64 d) G=.val (nI .i64 q) G:=λG=>by
   rw[Zp5 hd8 (by omega)]
   congr 2;omega
  have ad: ∀G,Sr (nI .i64 i) (nI .i64 1) G=.val (nI .i64 (i+1)) G:=λG=>Y0 (by omega) G;simp only[t4,t9,t10,t11,d0,eI,gb,ld',w1,w2,w3,w4,e1,e2,e3,e4,ad,AH,M9,ZE,Yn,YQ,ZE,Yn,GA,ZG,Yj,Yg,UH];refine⟨_,_,_,rfl,.inl ⟨rfl,m,by omega,rfl,t9',od,i+1,rfl,by omega,?_⟩⟩;rw[show k - (i+1)=k - 1 - i by omega,hq];rfl
def Zbd(E:Env Zq fs Zk){K:Nat}{v:AV}{l rest:Zd}{u:Nat}(hR:Rd H v l)(hl:l=Qn k u++0::rest)(hk1:1<=k)(hk:k<=11)(hu:u<8^k):
  ZA (LK Zq fs Zk K) fs Zk (n+3) 111 [v] H=.ret (.tup [nI .i64 u,nI .i64 0]) H:=by
 rw[Z5 E.f111 (.inr rfl)];have hf:=E.big;have ln:=hR.len;have hu2:u<8589934592:=ZK hu (TD (by decide) hk);have h0:0<l.length:=by rw[hl,Zh];show 0<_+(rest.length+1);omega
 have hf0:(l.getD 0 0).toNat≠32:=by
  rw[hl,NH,Rv,if_pos (by omega),Fr _ _ _ (by omega),Ob (by have:=Wh (u/8^(k - 1 - 0)) (show 0<8 by decide);omega)];omega
 have e1:=Zmt E (k:=K) (n:=n) hR h0 hf0;simp only[ln,e1,Zg5,ZG,Yj,Yg];generalize hL:Vq (GA _) Zk _ _ _=L;obtain⟨o,OS,H1,rfl,_,rfl,h1,t2,t3⟩:=YP (P:=λT=>ODI H v l.length k u k T H) (Q:=ODQ H u)
  (λT hi=>Y5 (ODI H v l.length k u) (ODQ H u) (λm tm H2 h=>ZeD hR hl hk hu2 _ _ m tm H2 h) Zk k T H (by omega) hi) hL
  (by exact⟨rfl,rfl,rfl,0,rfl,by omega,by rw[RK,Nat.div_eq_of_lt hu];rfl⟩)
 subst h1;simp only[zU,Il] at t2 t3;simp only[t2,t3,ZG,Zz,Yg]
def Za6(E:Env Zq fs Zk){K:Nat}{v:AV}{l rest:Zd}{u:Nat}(hR:Rd H v l)(hl:l=Qn k u++0::rest)(hk1:1<=k)(hk:k<=11)(hu:u<8^k)(hlen:l.length<=20):
  ZA (LK Zq fs Zk K) fs Zk (n+4) 78 [v] H=.ret (.tup [nI .i64 u,nI .i64 0]) H:=by
 rw[Z5 E.f78 (.inr rfl)];have ln:=hR.len;have h0:0<l.length:=by rw[hl,Zh];show 0<_+(rest.length+1);omega
 obtain⟨b,o,r,eI,hb,gb,ld⟩:=hR.at_ 0 h0;have ld': ∀G,ld1 (some (.row r)) o G=.val (nI .u8 (l.getD 0 0).toNat) G:=ld;have hf0:(l.getD 0 0).toNat<128:=by
  rw[hl,NH,Rv,if_pos (by omega),Fr _ _ _ (by omega),Ob (by have:=Wh (u/8^(k - 1 - 0)) (show 0<8 by decide);omega)];omega
 have d1:decide (l.length<1)=false:=Zc (by omega);have d2:decide (20<l.length)=false:=Zc (by omega);have d3:decide (128<=(l.getD 0 0).toNat)=false:=Zc (by omega);have e1:=Zbd E (K:=K) (n:=n) hR hl hk1 hk hu;simp only[ln,eI,gb,ld',d1,d2,d3,e1,Yr,ZE,Yn,ZE,Yn,Yr,c78,ZG,Yj,Zz,Yg]
def kf{p:UInt8->Bool}(h: ∀j,j<s.length->p (s.getD j 0)=false):s.any p=false:=by
 rw[List.any_eq_false];intro x hx;obtain⟨i,hi,rfl⟩:=Tl.1 hx;have:=h i hi;rw[Ze,Zm hi] at this
 simpa using this
def tD{p:UInt8->Bool}(hi:i<s.length)(h:p (s.getD i 0)=true):s.any p=true:=by
 rw[List.any_eq_true];exact⟨_,XD hi,by rw[Ze,Zm hi] at h;exact h⟩
def Zdh(E:Env Zq fs Zk){x:UInt8}:
  ∃H',ZA (LK Zq fs Zk 0) fs Zk (n+2) 77 [Vk x] H=.ret (.bool (!decide (x.toNat=0))) H'∧Zu H H' []:=by
 rw[Z5 E.f77 (.inl (by decide))];have e1: ∀G,NL WX true (Vk x) (nI .u8 0) G=.val (.bool (!decide (x.toNat=0))) G:=λG=>by
  rw[show Vk x=nI .u8 x.toNat from rfl,UI];cases hx:decide (x.toNat=0) with
  |true=>rw[Zc (λh=>h (Zr hx))];rfl
  |false=>rw[Zi (of_decide_eq_false hx)];rfl
 simp only[e1,c77,ZG,Yj,Zz,Yg];refine⟨_,rfl,?_⟩;exact Zu.refl _ _
def ck1(E:Env Zq fs Zk)(hk:1<=k){x:UInt8}:
  ZA (LK Zq fs Zk k) fs Zk (n+1) 77 [Vk x] H=.ret (.bool (!decide (x.toNat=0))) H:=by
 obtain⟨H',e,g⟩:=Zdh E (n:=898) (H:=H);exact Yh (r:=0) rfl rfl e g (rfl) hk
structure IBI(v:AV)(l:Zd)(H0:Heap)(m:Nat)(tm:TM)(H:Heap):Prop where
 heap:H=H0
 t0:Z6 tm=v
 t1:Xn tm=.func 77 [] []
 t7:XE tm=nI .i64 l.length
 i: ∃i,Xt tm=nI .i64 i∧i+m=l.length∧ ∀j,j<i->(l.getD j 0).toNat=0
def IBQ(l:Zd)(H0:Heap)(o:Out)(tm:TM)(H:Heap):Prop:=H=H0∧((o=.ret∧ ∃p,Xo tm=nI .i64 p∧l.any (λc=>!decide (c.toNat=0))=true)∨(o=.exit 0∧l.any (λc=>!decide (c.toNat=0))=false))
def ZdR(E:Env Zq fs Zk)(hk:1<=k){v:AV}{l:Zd}(hl:l.length<=90000)(hN:Rd H0 v l)(y f dd q)(X0:X)(m:Nat)(tm:TM)(H:Heap)(hI:IBI v l H0 m tm H):
  ∃o tm' H',JG ⟨ZA (LK Zq fs Zk k) fs Zk (n+1),y,f,dd,q⟩ tm H X0=.ok o tm' H' X0∧((o=.normal∧ ∃k,k<m∧IBI v l H0 k tm' H')∨(o≠.normal∧IBQ l H0 o tm' H')):=by
 obtain⟨rfl,t0,t1,t7,i,t8,him,hn⟩:=hI;have t0':=t0;have t1':=t1;have Cm:=t7;simp only[Pa,Kp,G8,G9] at t0 t1 t7 t8;cases m with
 |zero=>
  have d1:decide (i<l.length)=false:=Zc (by omega);simp only[t7,t8,d1,ZE,ZE,JG,ZG,Yj,Yg];refine⟨_,_,_,rfl,?_⟩;exact .inr ⟨by simp,rfl,.inr ⟨rfl,kf λj hj=>by rw[Zi (hn j (by omega))];rfl⟩⟩
 |succ m=>
  have d1:decide (i<l.length)=true:=Zi (by omega);have hi:i<l.length:=by omega
  obtain⟨b,o,r,eI,hb,gb,e0⟩:=hN.at_ i hi;have e1:=λ{j}=>ck1 E (k:=k) (n:=j) hk (H:=H) (x:=l.getD i 0);cases hm:decide ((l.getD i 0).toNat=0) with
  |true=>
   rw[hm] at e1;simp(disch:=omega) only[t0,t1,t7,t8,d1,eI,gb,e0,e1,ZE,Y0,Y3,ZQ,ZM,YI,ZE,Y3,ZQ,ZM,JG,ZG,Yj,Zz,Yg];refine⟨_,_,_,rfl,.inl ⟨rfl,m,by omega,rfl,t0',t1',Cm,i+1,rfl,by omega,λj hj=>?_⟩⟩
   by_cases h:j=i
   ·rw[h];exact Zr hm
   ·exact hn j (by omega)
  |false=>
   rw[hm] at e1;simp only[t0,t1,t7,t8,d1,eI,gb,e0,e1,ZE,Y3,ZQ,ZM,YX,ZE,Y3,ZQ,ZM,JG,ZG,Yj,Zz,Yg];refine⟨_,_,_,rfl,?_⟩;exact .inr ⟨by simp,rfl,.inl ⟨rfl,i,rfl,tD hi (by rw[hm];rfl)⟩⟩
def ZpI(E:Env Zq fs Zk)(hk:1<=k){v:AV}{l:Zd}(hl:l.length<=90000)(hN:Rd H v l):
  ∃w,ZA (LK Zq fs Zk k) fs Zk (n+2) 109 [v,.func 77 [] []] H=.ret w H∧((l.any (λc=>!decide (c.toNat=0))=true∧ ∃p,w=nI .i64 p)∨(l.any (λc=>!decide (c.toNat=0))=false∧w=.int .i64 (.negSucc 0))):=by
 rw[Z5 E.f109 (.inr rfl)];have hf:=E.big;have ln:=hN.len;simp only[ln,Zg4,ZG,Yj,Yg];generalize hL:Vq (JG _) Zk _ _ _=L;obtain⟨o,OS,H2,rfl,_,rfl,z⟩:=YP (P:=λT=>IBI v l H l.length T H) (Q:=IBQ l H)
  (λT hi=>Y5 (IBI v l H) (IBQ l H) (λm tm H2 h=>ZdR E hk hl hN _ _ _ _ _ m tm H2 h) Zk l.length T H (by omega) hi) hL
  (by exact⟨rfl,rfl,rfl,rfl,0,rfl,by omega,λj hj=>by omega⟩)
 rcases z with⟨rfl,p,t4,e⟩|⟨rfl,e⟩
 ·simp only[Pt] at t4
  simp only[t4,ZG,Zz,Yg];refine⟨_,rfl,?_⟩;exact .inl ⟨e,p,rfl⟩
 ·
  simp only[ZG,Yj,Zz,Yg];refine⟨_,rfl,?_⟩;exact .inr ⟨e,rfl⟩
def Zko(E:Env Zq fs Zk)(hk:1<=k){v:AV}{l:Zd}(hl:l.length<=90000)(hN:Rd H v l):
  ZA (LK Zq fs Zk k) fs Zk (n+3) 76 [v,.func 77 [] []] H=.ret (.bool (l.any (λc=>!decide (c.toNat=0)))) H:=by
 rw[Z5 E.f76 (.inr rfl)];obtain⟨w,e1,h⟩:=ZpI E (n:=n) hk hl hN;rcases h with⟨h,p,rfl⟩|⟨h,rfl⟩
 ·rw[h]
  simp only[e1,Yr,ZN,decide_true,Yr,c76,ZG,Yj,Zz,Yg]
 ·rw[h]
  simp only[e1,LQ,LQ,c76,ZG,Yj,Zz,Yg]
def iW(E:Env Zq fs Zk)(hk:1<=k){l:Zd}(g:HR H b l){j:Nat}(hj:j<512)(h0:(l.getD j 0).toNat≠0):
  ZA (LK Zq fs Zk k) fs Zk (n+4) 53 [.ptr b 0] H=.ret (.bool false) H:=by
 rw[Z5 E.f53 (.inr rfl)];have hl:=g.len;have bv:=KH g (a:=0) (n:=512) (by decide) (by decide);rw[YL,Z1 (by omega)] at bv;have e1:=Zko E (k:=k) (n:=n) hk (H:=H) (l:=l) (by omega) (Rd.of_bv bv);rw[tD (i:=j) (by omega) (by rw[Zc h0];rfl)] at e1;have eqp: ∀(o:Nat) G,NL zT true (.ptr b o) .nilp G=.val (.bool true) G:=λ_ _=>rfl;have sa: ∀(b:Nat) G,O5 512 1 (.ptr b 0) none none G=.val (.slice b 0 512 (some 512)) G:=λ_ _=>rfl;simp only[eqp,sa,e1,SK,XA,XH,c53,ZG,Yj,Zz,Yc,Yg]
def Gx{v:AV}{l:Zd}(h:BV H v l):lI v H=.val (.str l) H:=by
 rcases h with⟨rfl,rfl|⟨b,o,c,rfl⟩⟩|⟨_,b,o,c,r,rfl,hB,_⟩
 ·rfl
 ·rfl
 ·exact JD hB.at_ rfl hB.fits λi hi=>hB.get i hi
def uW:Zd:=[117,115,116,97,114,0]
def Zcs:Zd:=[117,115,116,97,114,32]
def gI(l:Zd)(N:Nat):Nat:=if (l.drop 257).take 6=uW∨(l.drop 257).take 6=Zcs then(if N=Rn l then 0 else 21) else 5
def yw(E:Env Zq fs Zk){N:Nat}{l rest:Zd}(gH:V8 H)(g:HR H b l)(hc:(l.drop 148).take 8=Qn 6 N++0::rest)(hN:N<262144):
  ∃H',ZA (LK Zq fs Zk k) fs Zk (n+5) 55 [.ptr b 0] H=.ret (nI .i64 (gI l N)) H'∧Zu H H' []:=by
 rw[Z5 E.f55 (.inr rfl)];have hb:=g.lt;have hl:=g.len;obtain⟨H1,e1,k1⟩:=Fz E (k:=k) (n:=n+3) gH By hb;have g1:=g.keep0 k1;have yp:=KH g1 (a:=148) (n:=8) (by decide) (by decide);have e2:=Za6 E (K:=k) (n:=n) (H:=H1) (k:=6) (u:=N) (Rd.of_bv yp) hc (by decide) (by decide) (by simpa using hN) (by rw[Zy];omega);obtain⟨H2,e3,k2⟩:=Fz E (k:=k) (n:=n+3) (gH.keep0 k1) jf g1.lt;have g2:=g1.keep0 k2;have s3:=Gx (KH g2 (a:=257) (n:=6) (by decide) (by decide));have eqp: ∀(o:Nat) G,NL zT false (.ptr b o) .nilp G=.val (.bool false) G:=λ_ _=>rfl;have kk:=k1.trans' k2;obtain⟨H3,e4,k3⟩:=tP E (k:=k) (n:=n) (gH.keep0 kk) g2;have z0: ∀G,NL WX true (nI .i64 0) (nI .i64 0) G=.val (.bool false) G:=λ_=>rfl;generalize hm:(l.drop 257).take 6=mg at*;unfold gI;rw[hm];unfold uW Zcs
 by_cases h1:mg=[117,115,116,97,114,0]
 ·have d1:decide (mg=[117,115,116,97,114,0])=true:=Zi h1
  have d1n:decide (¬mg=[117,115,116,97,114,0])=false:=Zc λh=>h h1;rw[if_pos (.inl h1)]
  by_cases h3:N=Rn l
  ·have d3:decide (¬N=Rn l)=false:=Zc λh=>h h3
   rw[if_pos h3];simp only[e1,e2,e3,s3,eqp,e4,z0,d1,d3,RU,UI,VL,Nat.reduceSub,YI,c55,ZG,Yj,Zz,Yg,UH];refine⟨_,rfl,?_⟩;exact kk.trans' k3
  ·have d3:decide (¬N=Rn l)=true:=Zi h3
   rw[if_neg h3];simp only[e1,e2,e3,s3,eqp,e4,z0,d1,d3,RU,UI,VL,Nat.reduceSub,YI,c55,ZG,Yj,Zz,Yg,UH];refine⟨_,rfl,?_⟩;exact kk.trans' k3
 ·have d1:decide (mg=[117,115,116,97,114,0])=false:=Zc h1
  by_cases h2:mg=[117,115,116,97,114,32]
  ·have d2:decide (mg=[117,115,116,97,114,32])=true:=Zi h2
   have d2n:decide (¬mg=[117,115,116,97,114,32])=false:=Zc λh=>h h2;rw[if_pos (.inr h2)]
   by_cases h3:N=Rn l
   ·have d3:decide (¬N=Rn l)=false:=Zc λh=>h h3
    rw[if_pos h3];simp only[e1,e2,e3,s3,eqp,e4,z0,d1,d2,d3,RU,UI,VL,Nat.reduceSub,YI,YX,c55,ZG,Yj,Zz,Yg,UH];refine⟨_,rfl,?_⟩;exact kk.trans' k3
   ·have d3:decide (¬N=Rn l)=true:=Zi h3
    rw[if_neg h3];simp only[e1,e2,e3,s3,eqp,e4,z0,d1,d2,d3,RU,UI,VL,Nat.reduceSub,YI,YX,c55,ZG,Yj,Zz,Yg,UH];refine⟨_,rfl,?_⟩;exact kk.trans' k3
  ·have d2:decide (mg=[117,115,116,97,114,32])=false:=Zc h2
   rw[if_neg (λh=>h.elim h1 h2)];simp only[e1,e2,e3,s3,eqp,z0,d1,d2,RU,VL,Nat.reduceSub,YX,c55,ZG,Yj,Zz,Yg];refine⟨_,rfl,?_⟩;exact kk
def ky{v:AV}{l:Zd}(h:BV H v l)(hn:n<l.length)(k:IntKind): ∃v',(∀a b,Uo 1 v (some (nI k n)) none ⟨a,H.t,b⟩=.val v' ⟨a,H.t,b⟩)∧BV H v' (l.drop n)∧Xk v'=Xk v:=by
 rcases h with⟨rfl,_⟩|⟨_,b,o,c,r,rfl,hB,hlt⟩
 ·cases hn
 have hcap:l.length<=Wa r o c:=by
  cases c with
  |none=>
   show l.length<=cond (Nat.beq r.sz 1) (r.size - o) _;rw[hB.sz];have:=hB.fits;show l.length<=r.size - o;omega
  |some k=>exact(hB.cap k rfl).1
 have hs:Oa r 1 c=true:=by
  cases c with
  |none=>show Nat.beq r.sz 1=true;rw[hB.sz];rfl
  |some c=>rfl
 refine⟨.slice b (o+n) (l.length - n) (OW c n),λx y=>?_,?_,rfl⟩
 ·show Yx (⟨x,H.t,y⟩:Heap) b _=_
  unfold Yx;show(match H.t.get b with|some (.row r)=>_|_=>_)=_;rw[hB.at_];show ZJ (Oa r 1 c) (ZJ (Nat.ble n l.length) (ZJ (Nat.ble n (Wa r o c)) (cond (Nat.beq n (Wa r o c)) _ (.val (.slice b (o+n*1) (l.length - n) _) _))))=_;rw[hs,Zj (by omega),Zj (by omega),Y6,Yl,Zc (by omega)];cases c<;>rfl
 ·have hl:(l.drop n).length=l.length - n:=Ye ..
  refine .inr ⟨λh=>by rw[h] at hl;have:0=l.length - n:=hl;omega,b,o+n,OW c n,r,by rw[hl],hB.drop (by omega),hlt⟩
def Zke{v:AV}{l:Zd}(h:BV H v l)(h0:0<n)(hn:n<=l.length)(k:IntKind): ∃v',(∀a b,Uo 1 v none (some (nI k n)) ⟨a,H.t,b⟩=.val v' ⟨a,H.t,b⟩)∧BV H v' (l.take n)∧Xk v'=Xk v:=by
 rcases h with⟨rfl,_⟩|⟨_,b,o,c,r,rfl,hB,hlt⟩
 ·have:([]:Zd).length=0:=rfl
  omega
 have hcap:l.length<=Wa r o c:=by
  cases c with
  |none=>
   show l.length<=cond (Nat.beq r.sz 1) (r.size - o) _;rw[hB.sz];have:=hB.fits;show l.length<=r.size - o;omega
  |some k=>exact(hB.cap k rfl).1
 have hs:Oa r 1 c=true:=by
  cases c with
  |none=>show Nat.beq r.sz 1=true;rw[hB.sz];rfl
  |some c=>rfl
 refine⟨.slice b o n (OW c 0),λx y=>?_,?_,rfl⟩
 ·show Yx (⟨x,H.t,y⟩:Heap) b _=_
  unfold Yx;show(match H.t.get b with|some (.row r)=>_|_=>_)=_;rw[hB.at_];show ZJ (Oa r 1 c) (ZJ (Nat.ble n (Wa r o c)) (ZJ (Nat.ble 0 n) (ZJ (Nat.ble 0 (Wa r o c)) (cond (Nat.beq 0 (Wa r o c)) _ (.val (.slice b (o+0*1) (n - 0) _) _)))))=_;rw[hs,Zj (by omega),Zj (ZN _),Zj (ZN _),Yl,Zc (by omega)];cases c<;>rfl
 ·have hl:(l.take n).length=n:=by rw[Zy];omega
  refine .inr ⟨λh=>by rw[h] at hl;have:0=n:=hl;omega,b,o,OW c 0,r,by rw[hl],hB.take hn,hlt⟩
def eP(e:Nat):AV:=.iface 26 (nI .i64 e)
def UL(E:Env Zq fs Zk){e:Nat}:ZA (LK Zq fs Zk k) fs Zk (n+1) 54 [.bool true,nI .i64 e] H=.ret (.tup []) H:=by
 rw[Z5 E.f54 (.inr rfl)];simp only[c54,ZG,Yj,Zz,Yc,Yg]
def oC(E:Env Zq fs Zk){e:Nat}:ZA (LK Zq fs Zk k) fs Zk (n+1) 54 [.bool false,nI .i64 e] H=.pan (eP e) H:=by
 rw[Z5 E.f54 (.inr rfl)];unfold eP;simp only[c54,ZG,Yj,Zz,Yc,Yg]
structure RDR(H:Heap)(q:Nat)(l:Zd)(wt:Bool):Prop where
 row: ∃bv wv ov,H.t.get q=some (rH 69 [bv,wv,.bool wt,ov])∧BV H bv l∧(∀c∈Xk bv,c<q)∧wv.cells=[wv]∧ov.cells=[ov]
 lt:q<H.nx
 ro:H.ro<=q
def RDR.keep{H H':Heap}{q:Nat}{l:Zd}{wt:Bool}(h:RDR H q l wt)(k:Zu H H' []):RDR H' q l wt:=by
 obtain⟨⟨bv,wv,ov,h1,h2,h3,h4,h5⟩,h6,h7⟩:=h;exact⟨⟨bv,wv,ov,by rw[k.get q h6 (by simp)];exact h1,h2.keep k (λ_ _ _ _ _=>by simp),h3,h4,h5⟩,ZK h6 k.nx,by rw[k.ro];exact h7⟩
def JE(E:Env Zq fs Zk){K:Nat}{a m u:Nat}{l nm rest:Zd}(gH:V8 H)(g:HR H b l)(F:CQ nm a m)(hc:(l.drop a).take m=Qn k u++0::rest)(hk1:1<=k)(hk:k<=11)(hu:u<8^k)(hm:m<=20):
  ∃H',ZA (LK Zq fs Zk K) fs Zk (n+5) 80 [.ptr b 0,.str nm] H=.ret (nI .i64 u) H'∧Zu H H' []:=by
 rw[Z5 E.f80 (.inr rfl)];obtain⟨v,H1,e1,yp,k1,_⟩:=PN E (k:=K) (n:=n+1) gH F g;have e2:=Za6 E (K:=K) (n:=n) (H:=H1) (Rd.of_bv yp) hc hk1 hk hu (by rw[Zy];omega);have ew:=λ{H:Heap}=>UL E (k:=K) (n:=n+3) (H:=H) (e:=0);simp only[e1,e2,ew,XA,XR,YQ,decide_true,Zo,Zo,Zo,c80,ZG,Yj,Zz,Yg];refine⟨_,rfl,?_⟩;exact k1
def iP(E:Env Zq fs Zk){K:Nat}{u:Nat}(hu:u<=16777216):ZA (LK Zq fs Zk K) fs Zk (n+2) 79 [nI .i64 u] H=.ret (nI .i64 u) H:=by
 rw[Z5 E.f79 (.inr rfl)];have ew1:=UL E (k:=K) (n:=n) (H:=H) (e:=5);have ew2:=UL E (k:=K) (n:=n) (H:=H) (e:=3);have d2:decide (u<=16777216)=true:=Zi hu;simp only[ew1,ew2,d2,Yr,Y4,ZN,decide_true,Y4,Yr,c79,ZG,Yj,Zz,Yg]
end
end
end Go.AI
