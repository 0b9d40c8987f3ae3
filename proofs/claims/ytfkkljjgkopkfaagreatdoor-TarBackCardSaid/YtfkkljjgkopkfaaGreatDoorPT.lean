/- Members put as a tar: walked; proved, conditions as named. -/
import Derived.Test.YtfkkljjgkopkfaaGreatDoorPF
set_option maxRecDepth 1000000
set_option maxHeartbeats 0
set_option linter.all false
namespace Go.AI
open Go
noncomputable section
def NH(l m:Zd)(i:Nat):(l++m).getD i 0=if i<l.length then l.getD i 0 else m.getD (i - l.length) 0:=by
 rw[Ze,S3]
 split
 ·rw[Ze]
 ·rw[Ze]
def Qn:Nat->Nat->Zd
 |0,_=>[]
 |k+1,n=>Qn k (n/8)++[Mm (n % 8)]
theorem Rv: ∀k n,(Qn k n).length=k
 |0,_=>rfl
 |k+1,n=>by unfold Qn;rw[Zh,Rv k];rfl
theorem xU: ∀k,Qn k 0=List.replicate k 48
 |0=>rfl
 |k+1=>by
  show Qn k (0/8)++[Mm (0 % 8)]=_;rw[Q4,xU k,List.replicate_succ'];rfl
theorem j7: ∀k n,(Sq n).length<=k->Qn k n=List.replicate (k - (Sq n).length) 48++Sq n
 |0,n,h=>by have:=Zbc n;omega
 |k+1,n,h=>by
  show Qn k (n/8)++[Mm (n % 8)]=_
  by_cases hn:n<8
  ·rw[CC hn,show n/8=0 by omega,xU,show n % 8=n by omega]
   show _=List.replicate (k+1 - 1) 48++[Mm n];rw[X8]
  ·have e:=CB (n:=n) (by omega)
   have hl:(Sq n).length=(Sq (n/8)).length+1:=by rw[e,Zh];rfl
   rw[j7 k (n/8) (by omega),e,Yq,Zh];show _=List.replicate (k+1 - ((Sq (n/8)).length+1)) 48++_;rw[Nat.add_sub_add_right]
def ZeC{u n:Nat}(h:(Sq u).length<=n - 1):UR u n=Qn (n - 1) u++[0]:=by
 unfold UR;rw[if_neg (by omega),j7 _ _ h]
def CD{u n:Nat}(h1:2<=n)(h:u<8^(n - 1)):UR u n=Qn (n - 1) u++[0]:=ZeC (AK _ _ (by omega) h)
def uN{l w:Zd}{a n:Nat}(h:w.length=n):Un l a n w=yd l a w:=by unfold Un;rw[if_pos h]
def Nz{m:Mem}(h:Xh m=true):(Wm m.path).1≠0∧E1 m.kind≠0∧m.mode<=4095∧Ow m.attrs=true∧N2 m.link (decide (m.kind=3))=true∧m.data.length<=16777216:=by
 unfold Xh at h;simp only[Z4,UM,decide_eq_true_eq,decide_eq_false_iff_not] at h;obtain⟨⟨⟨⟨⟨⟨h1,h2⟩,h3⟩,h4⟩,h5⟩,h6⟩,_⟩:=h;exact⟨h1,h2,h3,h4,h5,h6⟩
section
variable {Zq:Lib} {fs:T CF} {Zk k n i h b:Nat} {H H0:Heap} {s:Zd} {cs:List AV}
def YJ{l w:Zd}{a:Nat}(hl:l.length=512)(h:a+n<=512):(Un l a n w).length=512:=by rw[A6 (by omega),hl]
def Rm(t:Nat):(NK t).length=512:=by
 unfold NK;exact YJ (YJ (YJ QT (by decide)) (by decide)) (by decide)
def wH{l:Zd}(h:l.length=512):(PB l).length=512:=by unfold PB;exact YJ h (by decide)
def FA(r:Nat):(Ch r).length=512:=by
 unfold Ch;exact wH (YJ (YJ (YJ (YJ (YJ (YJ (Rm _) (by decide)) (by decide)) (by decide)) (by decide)) (by decide)) (by decide))
def Au{x:If}{L:Zd}(hl:L.length=512)(h:x.at_+x.wid<=512):(Ce x L).length=512:=by
 unfold Ce
 split
 ·exact YJ hl h
 ·exact YJ hl h
def P3(m:Mem):(Ug m).length=512:=by
 unfold Ug ri ZaT iM uu;rw[Vz,Vz,Vz,List.foldl_nil];exact wH (YJ (YJ (Au (Au (Au (YJ (YJ (YJ (Rm _) (by decide)) (by decide)) (by decide)) (show 108+8<=512 by decide)) (show 116+8<=512 by decide)) (show 136+12<=512 by decide)) (by decide)) (by decide))
def qX(n:Nat):(n+VC n) % 512=0:=by unfold VC;omega
def CH(n:Nat):VC n<512:=Wh _ (by decide)
def fB(m:Mem):(QL m).length % 512=0:=by
 unfold QL
 split
 ·rw[P3]
 ·have h:=qX (VO (X2 m)).length
  rw[Zh,Zh,Zh,ZB,FA,P3];omega
def rh{m:Mem}(h:vu m)(hm:Ow m.attrs=true):(QL m).length<=2000000:=by
 obtain⟨r1,r2⟩:=CI h hm;unfold QL
 split
 ·rw[P3];decide
 ·have h1:=FC (l:=X2 m) λx hx=>(r1 x hx).2
  have h2:=CH (VO (X2 m)).length;rw[Zh,Zh,Zh,ZB,FA,P3];omega
instance:Inhabited Mem:=⟨⟨[],0,0,0,0,0,[],[],[]⟩⟩
def tn(H:Heap)(cs:List AV)(m:Mem):Prop:= ∃av dv,cs=[.str m.path,.int .i64 m.kind,nI .u32 m.mode,nI .u32 m.uid,nI .u32 m.gid,.int .i64 m.time,av,dv,.str m.link]∧Sz H 2 av (TN m.attrs)∧BV H dv m.data∧ ∀b∈Xk dv,b<H.nx
def F8{v:AV}(h: ∀b∈Xk v,b<n): ∀b o m c,v=.slice b o m c->b<n:=λb o m c e=>h b (by rw[e];simp[Xk])
def tn.toC{m:Mem}(h:tn H cs m):NF H cs m:=by
 obtain⟨av,dv,e,h1,h2,h3⟩:=h;exact⟨av,dv,e,h1,Bd h2 (F8 h3)⟩
def tn.keep{H H':Heap}{m:Mem}(h:tn H cs m)(k:Zu H H' []):tn H' cs m:=by
 obtain⟨av,dv,e,h1,h2,h3⟩:=h;exact⟨av,dv,e,h1.keep0 k,h2.keep k (λ_ _ _ _ _=>by simp),λb hb=>ZK (h3 b hb) k.nx⟩
def Qe(H:Heap)(v:AV)(L:List Mem):Prop:= ∃ls,Sl H 9 v ls∧ls.length=L.length∧ ∀i,i<L.length->tn H (ls.getD i []) (L.getD i default)
def Qe.keep{H H':Heap}{v:AV}{L:List Mem}(h:Qe H v L)(k:Zu H H' []):Qe H' v L:=by
 obtain⟨ls,h1,h2,h3⟩:=h;exact⟨ls,h1.keep0 k,h2,λi hi=>(h3 i hi).keep k⟩
def Qe.len{v:AV}{L:List Mem}(h:Qe H v L)(G:Heap):Kq v G=.val (nI .i64 L.length) G:=by
 obtain⟨ls,h1,h2,h3⟩:=h;rw[h1.len,h2]
def Qe.at_{v:AV}{L:List Mem}(h:Qe H v L)(hi:i<L.length): ∃bb o r cs,(∀(k:IntKind) (G:Heap),Dv 9 v (nI k i) G=.val (.ptr bb o) G)∧bb<H.nx∧H.t.get bb=some (.row r)∧(∀G,zI 9 (some (.row r)) o G=.val (.agg cs) G)∧(∀j G,j<9->ld1 (some (.row r)) (o+j) G=.val (cs.getD j .unk) G)∧tn H cs (L.getD i default):=by
 obtain⟨ls,h1,h2,h3⟩:=h;obtain⟨bb,o,r,eI,hb,gb,eL,eE⟩:=(show Sz H 9 v ls from .inr h1).at_ (i:=i) (by omega);exact⟨bb,o,r,ls.getD i [],eI,hb,gb,eL,eE,h3 i hi⟩
def HI{L:List Mem}(hi:i<L.length):L.getD i default∈L:=by rw[Ze,Zm hi];exact XD hi
def cq(E:Env Zq fs Zk){m:Mem}(hs:CS m)(gP:Nc H)(hC:NF H cs m):
  ∃H',ZA (LK Zq fs Zk 12) fs Zk (n+2) 13 [.agg cs] H=.ret (.bool (!Xh m)) H'∧Zu H H' []:=by
 rw[Z5 E.f13 (.inl (by decide))];have hC0:=hC;obtain⟨av,dv,rfl,hA,hD⟩:=hC;have bx: ∀G:Heap,MW 34 (.agg [.str m.path,.int .i64 m.kind,nI .u32 m.mode,nI .u32 m.uid,nI .u32 m.gid,.int .i64 m.time,av,dv,.str m.link]) G=.val (.ptr G.nx 0) (G.new (rH 34 [.str m.path,.int .i64 m.kind,nI .u32 m.mode,nI .u32 m.uid,nI .u32 m.gid,.int .i64 m.time,av,dv,.str m.link])):=λG=>W4 (l:=[.str m.path,.int .i64 m.kind,nI .u32 m.mode,nI .u32 m.uid,nI .u32 m.gid,.int .i64 m.time,av,dv,.str m.link]) (show 1<=9 by decide) 34 G;obtain⟨H1,hH1⟩:=TO (H.new (rH 34 [.str m.path,.int .i64 m.kind,nI .u32 m.mode,nI .u32 m.uid,nI .u32 m.gid,.int .i64 m.time,av,dv,.str m.link]));have k1:Zu H H1 []:=by rw[<-hH1];exact Zu.new _ _ _
 have g1:H1.t.get H.nx=some (rH 34 [.str m.path,.int .i64 m.kind,nI .u32 m.mode,nI .u32 m.uid,nI .u32 m.gid,.int .i64 m.time,av,dv,.str m.link]):=by rw[<-hH1];exact ZR rfl _
 have n7: ∀G,zI 9 (some (rH 34 [.str m.path,.int .i64 m.kind,nI .u32 m.mode,nI .u32 m.uid,nI .u32 m.gid,.int .i64 m.time,av,dv,.str m.link])) 0 G=.val (.agg [.str m.path,.int .i64 m.kind,nI .u32 m.mode,nI .u32 m.uid,nI .u32 m.gid,.int .i64 m.time,av,dv,.str m.link]) G:=λG=>Tg (show 0+9<=9 by decide) ..;have em:=λ{j}=>uR E (k:=12) (n:=j) (by decide) hs (gP.keep0 k1) (hC0.keep k1);cases hm:Xh m
 all_goals
  rw[hm] at em;simp only[bx,hH1,g1,n7,em,UJ,YI,YX,c13,ZG,Yj,Zz,Yc,Yg];refine⟨_,rfl,?_⟩;exact k1
def Zmr(E:Env Zq fs Zk)(hk:13<=k){m:Mem}(hs:CS m)(gP:Nc H)(hC:NF H cs m):
  ZA (LK Zq fs Zk k) fs Zk (n+1) 13 [.agg cs] H=.ret (.bool (!Xh m)) H:=by
 obtain⟨H',e,g⟩:=cq E (n:=898) (H:=H) hs gP hC;exact Yh (r:=12) rfl rfl e g (rfl) hk
structure IMI(Hs:Heap)(v:AV)(L:List Mem)(m:Nat)(tm:TM)(H:Heap):Prop where
 h:H=Hs
 t0:Z6 tm=v
 t1:Xn tm=.func 13 [] []
 t7:XE tm=nI .i64 L.length
 i: ∃i,Xt tm=nI .i64 i∧i+m=L.length∧ ∀j,j<i->Xh (L.getD j default)=true
def IMQ(Hs:Heap)(L:List Mem)(o:Out)(tm:TM)(H:Heap):Prop:=H=Hs∧((o=.ret∧ ∃p,Xo tm=nI .i64 p∧L.all Xh=false)∨(o=.exit 0∧L.all Xh=true))
def ZdU(E:Env Zq fs Zk)(hk:13<=k){v:AV}{L:List Mem}{Hs:Heap}(gP:Nc Hs)(hV:Qe Hs v L)(hl:L.length<=1000)(hs: ∀x∈L,CS x)(y f dd q)(X0:X)(m:Nat)(tm:TM)(H:Heap)(hI:IMI Hs v L m tm H):
  ∃o tm' H',Ea ⟨ZA (LK Zq fs Zk k) fs Zk (n+1),y,f,dd,q⟩ tm H X0=.ok o tm' H' X0∧((o=.normal∧ ∃k,k<m∧IMI Hs v L k tm' H')∨(o≠.normal∧IMQ Hs L o tm' H')):=by
 obtain⟨rfl,t0,t1,t7,i,t8,him,hall⟩:=hI;have t0':=t0;have t1':=t1;have Cm:=t7;simp only[Pa,Kp,G8,G9] at t0 t1 t7 t8;cases m with
 |zero=>
  have d1:decide (i<L.length)=false:=Zc (by omega);simp only[t7,t8,d1,ZE,ZE,Ea,ZG,Yj,Yg];refine⟨_,_,_,rfl,.inr ⟨by simp,rfl,.inr ⟨rfl,?_⟩⟩⟩;rw[Ya];intro x hx;obtain⟨j,hj,rfl⟩:=Tl.1 hx;have:=hall j (by omega)
  rwa [Ze,Zm hj] at this
 |succ m=>
  have d1:decide (i<L.length)=true:=Zi (by omega);have hi:i<L.length:=by omega
  obtain⟨bb,o,r,cs,eI,hb,gb,eL,_,hB⟩:=hV.at_ hi;have e1:=λ{j}=>Zmr E (k:=k) (n:=j) hk (H:=H) (hs _ (HI hi)) gP hB.toC;cases hm:Xh (L.getD i default) with
  |true=>
   rw[hm] at e1;simp(disch:=omega) only[t0,t1,t7,t8,d1,eI,gb,eL,e1,La,Y3,ZQ,ZM,YI,ZE,Y0,Y3,ZQ,ZM,YI,ZE,Ea,ZG,Yj,Yg];refine⟨_,_,_,rfl,.inl ⟨rfl,m,by omega,rfl,t0',t1',Cm,i+1,rfl,by omega,λj hj=>?_⟩⟩
   by_cases h:j=i
   ·rw[h];exact hm
   ·exact hall j (by omega)
  |false=>
   rw[hm] at e1;simp only[t0,t1,t7,t8,d1,eI,gb,eL,e1,La,Y3,ZQ,ZM,YX,ZE,Y3,ZQ,ZM,YX,ZE,Ea,ZG,Yj,Yg];refine⟨_,_,_,rfl,.inr ⟨by simp,rfl,.inl ⟨rfl,i,rfl,?_⟩⟩⟩;rw[List.all_eq_false];exact⟨_,HI hi,by rw[hm];simp⟩
def ZoR(E:Env Zq fs Zk)(hk:13<=k){v:AV}{L:List Mem}(gP:Nc H)(hV:Qe H v L)(hl:L.length<=1000)(hs: ∀x∈L,CS x):
  ZA (LK Zq fs Zk k) fs Zk (n+3) 12 [v,.func 13 [] []] H=.ret (.bool (!L.all Xh)) H:=by
 rw[Z5 E.f12 (.inr rfl)];have hf:=E.big;have e1: ∃w,ZA (LK Zq fs Zk k) fs Zk (n+2) 29 [v,.func 13 [] []] H=.ret w H∧((L.all Xh=false∧ ∃p,w=nI .i64 p)∨(L.all Xh=true∧w=.int .i64 (.negSucc 0))):=by
  rw[Z5 E.f29 (.inr rfl)];have ln:=hV.len;simp only[ln,c29,ZG,Yj,Yg];generalize hL:Vq (Ea _) Zk _ _ _=LL;obtain⟨o,OS,H2,rfl,_,h2,z⟩:=YP (P:=λT=>IMI H v L L.length T H) (Q:=IMQ H L)
   (λT hi=>Y5 (IMI H v L) (IMQ H L) (λm tm H2 h=>ZdU E (k:=k) (n:=n) hk gP hV hl hs _ _ _ _ _ m tm H2 h) Zk L.length T H (by omega) hi) hL
   (by exact⟨rfl,rfl,rfl,rfl,0,rfl,by omega,λj hj=>by omega⟩)
  subst h2;rcases z with⟨rfl,p,t4,e⟩|⟨rfl,e⟩
  ·simp only[Pt] at t4
   simp only[t4,ZG,Zz,Yg];refine⟨_,rfl,?_⟩;exact .inl ⟨e,p,rfl⟩
  ·
   simp only[ZG,Yj,Zz,Yg];refine⟨_,rfl,?_⟩;exact .inr ⟨e,rfl⟩
 obtain⟨w,e1,h⟩:=e1;rcases h with⟨h,p,rfl⟩|⟨h,rfl⟩
 ·rw[h]
  simp only[e1,YX,Yr,ZN,decide_true,YX,Yr,c12,ZG,Yj,Zz,Yg]
 ·rw[h]
  simp only[e1,LQ,YI,LQ,YI,c12,ZG,Yj,Zz,Yg]
def Zdp(E:Env Zq fs Zk):
  ZA (LK Zq fs Zk k) fs Zk (n+1) 14 [] H=.ret (.slice H.nx 0 1024 none) (H.new (.row ⟨5,1,1024,.leaf,nI .u8 0,0,false,true,true⟩)):=by
 rw[Z5 E.f14 (.inr rfl)];have m5: ∀G:Heap,Zes 5 1 1 [nI .u8 0] (nI .i64 1024) (nI .i64 1024) G=.val (.slice G.nx 0 1024 none) (G.new (.row ⟨5,1,1024,.leaf,nI .u8 0,0,false,true,true⟩)):=λG=>mq (by decide) (by decide) _ _ _;simp only[m5,Jd,c14,ZG,Yj,Zz,Yg]
def ZhK:BV (H.new (.row ⟨5,1,1024,.leaf,nI .u8 0,0,false,true,true⟩)) (.slice H.nx 0 1024 none) (List.replicate 1024 0):=by
 have:=cZ (H:=H.new (.row ⟨5,1,1024,.leaf,nI .u8 0,0,false,true,true⟩)) (c:=none) (a:=0) (n:=1024) (l:=List.replicate 1024 0) (ZR rfl _) (DO 5 1024) rfl (ZU _) (by decide) (by rw[ZB];decide) (λk hk=>by cases hk)
 rwa [YL,Z1 (by rw[ZB];exact Zs _)] at this
def Ru(m:Mem):Zd:=QL m++m.data++List.replicate (VC m.data.length) 0
def TQ(L:List Mem):Zd:=(L.map Ru).flatten
def LOk(m:Mem):Prop:=vu m∧m.data.length<=2000
def xy{m:Mem}(h:LOk m)(hm:Xh m=true):(Ru m).length<=2003000:=by
 have h1:=rh h.1 (Nz hm).2.2.2.1;have h2:=h.2;have h3:=CH m.data.length;unfold Ru;rw[Zh,Zh,ZB];omega
def AX{L:List Mem}(h: ∀x∈L,LOk x∧Xh x=true):(TQ L).length<=L.length*2003000:=by
 unfold TQ
 induction L with
 |nil=>exact Zs _
 |cons a l ih=>
  rw[ZD,XC,Zh,ZL];have h1:=xy (h a (Zw ..)).1 (h a (Zw ..)).2;have h2:=ih λx hx=>h x (ZC _ hx);omega
def mV{L:List Mem}(h:i<L.length):TQ (L.take (i+1))=TQ (L.take i)++Ru (L.getD i default):=by
 unfold TQ;rw[WF,Ze,Zm h,Xg,UA];simp
def mh(m:Mem):(Ru m).length % 512=0:=by
 have h1:=fB m;have h2:=qX m.data.length;unfold Ru;rw[Zh,Zh,ZB];omega
def dA(L:List Mem):(TQ L).length % 512=0:=by
 unfold TQ
 induction L with
 |nil=>rfl
 |cons a l ih=>
  rw[ZD,XC,Zh];have:=mh a;omega
def PJ{v:AV}{l:Zd}(h:BV H v l)(hb: ∀b∈Xk v,b<n):WZ n v=true:=by
 rcases h with⟨_,rfl|⟨b,o,c,rfl⟩⟩|⟨_,b,o,c,r,rfl,_⟩
 ·rfl
 ·exact Vh (hb b (by simp[Xk])) _ _ _
 ·exact Vh (hb b (by simp[Xk])) _ _ _
def Nf{v:AV}{l:Zd}(h:BV H v l)(n:Nat)(t:T Obj):Vo (.val v ⟨n,t,n⟩) v n=true:=by
 rcases h with⟨_,rfl|⟨b,o,c,rfl⟩⟩|⟨_,b,o,c,r,rfl,_⟩
 ·exact Sw n t
 ·exact V3 ..
 ·exact V3 ..
def BV.move{H H':Heap}{S:List Nat}{v:AV}{l:Zd}(h:BV H v l)(k:Zu H H' S)(hS: ∀b∈Xk v,b∉S):BV H' v l:=
 h.keep k λb o n c e=>hS b (by rw[e];simp[Xk])
structure PTI(Hs:Heap)(v:AV)(L:List Mem)(m:Nat)(tm:TM)(H:Heap):Prop where
 k:Zu Hs H []
 t16:Xr tm=v
 t17:XK tm=nI .i64 L.length
 i: ∃i w,X1 tm=nI .i64 i∧i+m=L.length∧Xo tm=w∧GB H w (TQ (L.take i)) Hs.nx
def PTQ(Hs:Heap)(L:List Mem)(o:Out)(tm:TM)(H:Heap):Prop:=o=.exit 1∧Zu Hs H []∧ ∃w,Xo tm=w∧GB H w (TQ L) Hs.nx
def ZeZ(E:Env Zq fs Zk)(hk:13<=k){v:AV}{L:List Mem}{Hs:Heap}(gH:V8 Hs)(hV:Qe Hs v L)(hl:L.length<=12)(hok: ∀x∈L,LOk x∧Xh x=true)(y f dd q)(X0:X)(m:Nat)(tm:TM)(H:Heap)(hI:PTI Hs v L m tm H):
  ∃o tm' H',tW ⟨ZA (LK Zq fs Zk k) fs Zk (n+7),y,f,dd,q⟩ tm H X0=.ok o tm' H' X0∧((o=.normal∧ ∃k,k<m∧PTI Hs v L k tm' H')∨(o≠.normal∧PTQ Hs L o tm' H')):=by
 obtain⟨k0,t16,t17,i,w,t18,him,t4,gbw⟩:=hI;have yg:=t16;have ZqB:=t17;have Gk:=t4;simp only[Pt,jv,aY,ZkS] at t4 t16 t17 t18;cases m with
 |zero=>
  have d1:decide (i<L.length)=false:=Zc (by omega);simp only[t17,t18,d1,ZE,ZE,tW,ZG,Yj,Yg];rw[Z1 (by omega)] at gbw;refine⟨_,_,_,rfl,?_⟩;exact .inr ⟨by simp,rfl,k0,w,Gk,gbw⟩
 |succ m=>
  have d1:decide (i<L.length)=true:=Zi (by omega);have hi:i<L.length:=by omega
  obtain⟨bb,o,r,cs,eI,hb,gb,eL,_,hB0⟩:=hV.at_ hi;have gb:=(k0.get bb hb (by simp)).trans gb;have hb:bb<H.nx:=ZK hb k0.nx;obtain⟨⟨hh1,hh2⟩,hm⟩:=hok _ (HI hi);have hpl:=AX (L:=L.take i) λx hx=>hok x (Vu hx);rw[Zy] at hpl;have hpush:=mV hi;have hmb:=xy ⟨hh1,hh2⟩ hm;generalize L.getD i default=me at*;obtain⟨av,dv,rfl,hA0,hD0,Zaf⟩:=hB0;have hA:=hA0.keep0 k0;have hD:BV H dv me.data:=hD0.keep k0 (λ_ _ _ _ _=>by simp);have hdb: ∀b∈Xk dv,b<H.nx:=λb hb=>ZK (Zaf b hb) k0.nx;have hx0:=k0.nx;have cD:=gH.keep0 k0;have Zib:=cD.p.ro;have hDs:=Bd hD (F8 hdb);obtain⟨H1,hH1⟩:=TO (H.new (rH 34 [.str me.path,.int .i64 me.kind,nI .u32 me.mode,nI .u32 me.uid,nI .u32 me.gid,.int .i64 me.time,av,dv,.str me.link]));have k1:Zu H H1 []:=by rw[<-hH1];exact Zu.new _ _ _
  have NB:H1.nx=H.nx+1:=by rw[<-hH1];rfl
  have g1:H1.t.get H.nx=some (rH 34 [.str me.path,.int .i64 me.kind,nI .u32 me.mode,nI .u32 me.uid,nI .u32 me.gid,.int .i64 me.time,av,dv,.str me.link]):=by rw[<-hH1];exact ZR rfl _
  have n7: ∀G,zI 9 (some (rH 34 [.str me.path,.int .i64 me.kind,nI .u32 me.mode,nI .u32 me.uid,nI .u32 me.gid,.int .i64 me.time,av,dv,.str me.link])) 0 G=.val (.agg [.str me.path,.int .i64 me.kind,nI .u32 me.mode,nI .u32 me.uid,nI .u32 me.gid,.int .i64 me.time,av,dv,.str me.link]) G:=λG=>Tg (show 0+9<=9 by decide) ..;have sf:=TL (n:=9) (b:=H.nx) (l:=[.str [],nI .i64 0,nI .u32 0,nI .u32 0,nI .u32 0,nI .i64 0,.nils,.nils,.str []]) (vs:=[.str me.path,.int .i64 me.kind,nI .u32 me.mode,nI .u32 me.uid,nI .u32 me.gid,.int .i64 me.time,av,dv,.str me.link]) (H:=H.new (rH 34 [.str [],nI .i64 0,nI .u32 0,nI .u32 0,nI .u32 0,nI .i64 0,.nils,.nils,.str []])) rfl rfl (by decide) (by show H.ro<=_;exact Zib) 34 1 false true;rw[TJ rfl,hH1] at sf;have jw:NF H1 [.str me.path,.int .i64 me.kind,nI .u32 me.mode,nI .u32 me.uid,nI .u32 me.gid,.int .i64 me.time,av,dv,.str me.link] me:=NF.keep ⟨av,dv,rfl,hA,hDs⟩ k1;obtain⟨v1,H2,e2,Kc,k12,hb1,hc1,hv1,Zpm,Zpn⟩:=tf E (k:=k) (n:=n) (by omega) (cD.keep0 k1) jw hh1 hm;have z0: ∀G,NL WX true (nI .i64 0) (nI .i64 0) G=.val (.bool false) G:=λ_=>rfl;have k2:=k1.trans' k12;have g2:H2.t.get H.nx=some (rH 34 [.str me.path,.int .i64 me.kind,nI .u32 me.mode,nI .u32 me.uid,nI .u32 me.gid,.int .i64 me.time,av,dv,.str me.link]):=by rw[k12.get _ (by omega) (by simp)];exact g1
  have l7: ∀G,ld1 (some (rH 34 [.str me.path,.int .i64 me.kind,nI .u32 me.mode,nI .u32 me.uid,nI .u32 me.gid,.int .i64 me.time,av,dv,.str me.link])) 7 G=.val dv G:=λG=>rfl;have tc:=gbw.keep k2 (λ_ _=>by simp);have Zic:H2.ro<=H2.nx:=by rw[k2.ro];omega
  have hml:(Ru me).length=(QL me).length+me.data.length+VC me.data.length:=by unfold Ru;rw[Zh,Zh,ZB]
  obtain⟨w3,H3,e3,Dk,k23,bk3⟩:=Iy tc Kc (by omega) Zic (by omega);have hx3:=k23.nx;have bw: ∀c∈Xk w,Hs.nx<=c∧c<H.nx:=gbw.blk;have g3:H3.t.get H.nx=some (rH 34 [.str me.path,.int .i64 me.kind,nI .u32 me.mode,nI .u32 me.uid,nI .u32 me.gid,.int .i64 me.time,av,dv,.str me.link]):=by rw[k23.get _ (by omega) (λh=>by have:=(bw _ h).2;omega)];exact g2
  have cC: ∀c∈Xk w3,Hs.nx<=c∧c≠H.nx:=λc hc=>by
   rcases bk3 c hc with h|h
   ·have:=bw c h;omega
   ·omega
  have hdv: ∀b∈Xk dv,b<H.nx:=hdb;have hdw: ∀b∈Xk dv,b<Hs.nx:=Zaf;have bd3:BV H3 dv me.data:=(hD.keep k2 (λ_ _ _ _ _=>by simp)).move k23 λb hb hm=>by have:=hdw b hb;have:=(bw b hm).1;omega
  have fF:H3.ro<=H3.nx:=by rw[k23.ro];omega
  obtain⟨w4,H4,e4,gb4,Fg,bk4⟩:=Iy Dk bd3 (by omega) fF (by rw[Zh];omega);have hx4:=Fg.nx;have g4:H4.t.get H.nx=some (rH 34 [.str me.path,.int .i64 me.kind,nI .u32 me.mode,nI .u32 me.uid,nI .u32 me.gid,.int .i64 me.time,av,dv,.str me.link]):=by rw[Fg.get _ (by omega) (λh=>(cC _ h).2 rfl)];exact g3
  have bw4: ∀c∈Xk w4,Hs.nx<=c:=λc hc=>by
   rcases bk4 c hc with h|h
   ·exact(cC c h).1
   ·omega
  have Zaj:H4.ro<=H4.nx:=by rw[Fg.ro];omega
  have et:=λ{j}=>Zcp E (k:=k) (n:=j) (by omega) (m:=me.data.length) (H:=H4) (by omega);obtain⟨w5,H5,e5,aM,Dy,bk5⟩:=Cs gb4 (by omega) Zaj (VC me.data.length) (by rw[Zh,Zh];omega);have ln:=hD.len;have ln5:=aM.len;have d2:decide (67107840<(TQ (L.take i)++QL me++me.data++List.replicate (VC me.data.length) 0).length)=false:=Zc (by simp only[Zh,ZB];omega);have lw:=gbw.low (n:=H2.nx) (by omega);have lw1:=PJ Kc (n:=H2.nx) (λb hb=>by
   rw[hv1] at hb
   have:b=hb1:=by simpa [Xk] using hb
   omega)
  have ldv:=PJ hD (n:=H2.nx) (λb hb=>by have:=hdv b hb;omega);have sdv:=Nf hD;have kk:Zu Hs H5 []:=(((k0.trans' k2).trans k23 λc hc hlt=>by have:=bw c hc;omega).trans Fg λc hc hlt=>by have:=(cC c hc).1;omega).trans Dy λc hc hlt=>by have:=bw4 c hc;omega
  simp(disch:=omega) only[t4,t16,t17,t18,d1,eI,gb,eL,sf,g1,n7,e2,z0,g2,l7,e3,g3,e4,g4,et,e5,ln,ln5,d2,lw,lw1,ldv,sdv,Ys,ZE,Yn,Y0,Nat.reduceAdd,decide_true,decide_false,Zl,Zl,YW,Ys,ZD,ZO,ZE,Yn,Zl,YW,Oz,tW,ZG,Yj,Zz,Yc,Xc,XZ,Nat.reducePow,Nat.reduceDiv,Nat.reduceMod,reduceCtorEq,Yg,UH];refine⟨_,_,_,rfl,.inl ⟨rfl,m,by omega,kk,yg,ZqB,i+1,w5,rfl,by omega,rfl,?_⟩⟩;rw[hpush];unfold Ru;rw[<-Yq,<-Yq];exact aM
def Is(L:List Mem):Zd:=TQ L++List.replicate 1024 0
def zD(E:Env Zq fs Zk)(hk:13<=k){v:AV}{L:List Mem}(gH:V8 H)(hV:Qe H v L)(hl:L.length<=12)(hok: ∀x∈L,LOk x):
  ∃w H',ZA (LK Zq fs Zk k) fs Zk (n+8) 5 [v] H=.ret (.tup [w,nI .i64 (if L.all Xh then 0 else 1)]) H'∧BV H' w (if L.all Xh then Is L else [])∧Zu H H' []∧ ∀c∈Xk w,H.nx<=c∧c<H'.nx:=by
 rw[Z5 E.f5 (.inr rfl)];have hf:=E.big;have ec:=λ{j}=>ZoR E (k:=k) (n:=j) hk gH.p hV (by omega) (λx hx=>(hok x hx).1.short);have ln:=hV.len;have d1:decide (8192<L.length)=false:=Zc (by omega);cases ha:L.all Xh with
 |false=>
  rw[ha] at ec;simp only[ec,YX,YX,c5,ZG,Yj,Zz,reduceCtorEq,Yg];exact⟨_,_,rfl,.inl ⟨rfl,.inl rfl⟩,Zu.refl _ _,λc hc=>by cases hc⟩
 |true=>
  rw[ha] at ec;have hall:=Ya.1 ha;simp only[ec,ln,d1,YI,Yn,YI,Yn,c5,ZG,Yj,Yg];generalize hL:Vq (tW _) Zk _ _ _=LL;obtain⟨o,OS,H1,rfl,_,rfl,k1,w,t4,gb⟩:=YP (P:=λT=>PTI H v L L.length T H) (Q:=PTQ H L)
   (λT hi=>Y5 (PTI H v L) (PTQ H L) (λm tm H2 h=>ZeZ E (n:=n) hk gH hV hl (λx hx=>⟨hok x hx,hall x hx⟩) _ _ _ _ _ m tm H2 h) Zk L.length T H (by omega) hi) hL
   (by exact⟨Zu.refl _ _,rfl,rfl,0,.nils,rfl,by omega,rfl,by rw[Xd];exact .inl ⟨rfl,rfl⟩⟩)
  simp only[Pt] at t4;have hx1:=k1.nx;have e1:=λ{j}=>Zdp E (k:=k) (n:=j) (H:=H1);obtain⟨H2,hH2⟩:=TO (H1.new (.row ⟨5,1,1024,.leaf,nI .u8 0,0,false,true,true⟩));have Kc:=ZhK (H:=H1);rw[hH2] at Kc e1;have k12:Zu H1 H2 []:=by rw[<-hH2];exact Zu.new _ _ _
  have nx2:H2.nx=H1.nx+1:=by rw[<-hH2];rfl
  have hro:=gH.p.ro;have hpl:=AX (L:=L) λx hx=>⟨hok x hx,hall x hx⟩;obtain⟨w3,H3,e3,Dk,k23,bk3⟩:=Iy (gb.keep k12 (λ_ _=>by simp)) Kc (by omega) (by rw[k12.ro,k1.ro];omega) (by rw[ZB];omega);simp only[t4,e1,e3,Ys,Ys,ZG,Yj,Zz,Yg,UH];refine⟨_,_,rfl,Dk.bv,(k1.trans' k12).trans k23 λc hc hlt=>?_,Dk.blk⟩;have:=(gb.blk c hc).1;omega
end
end
end Go.AI
