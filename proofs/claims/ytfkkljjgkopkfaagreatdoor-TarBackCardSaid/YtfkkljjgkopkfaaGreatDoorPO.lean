/- Members compared; the law: walked; proved, conditions as named. -/
import Derived.Test.YtfkkljjgkopkfaaGreatDoorPN
import Derived.KernelRfl
set_option maxRecDepth 1000000
set_option maxHeartbeats 0
set_option linter.all false
namespace Go.AI
open Go
noncomputable section
section
variable {Zq:Lib} {fs:T CF} {Zk k n i h b:Nat} {H H0:Heap} {s:Zd} {cs:List AV}
theorem EQ: ∀(l:List AV),(∀v∈l,AI.same v v=true)->AI.sameL l l=true
 |[],_=>by unfold AI.sameL;rfl
 |a::l,h=>by
  unfold AI.sameL;rw[h a (Zw ..),EQ l λv hv=>h v (ZC _ hv)];rfl
def nT(p q:Zd)(n:Nat)(t:T Obj):Vo (.val (.agg [.str p,.str q]) ⟨n,t,n⟩) (.agg [.str p,.str q]) n=true:=
 Hv (EQ _ λv hv=>by
  rcases ZY.1 hv with rfl|hv
  ·exact Jn p
  ·rw[Zn.1 hv];exact Jn q) n t
def vd(a b:Zd):Mf a b=decide (a=b):=by
 have:=vL a b;exact Option.some.inj this
def ZcR(a b c d:Zd)(G:Heap):NL (Dg Go.Proofs.Tryz.prog 10 44) true (.agg [.str a,.str b]) (.agg [.str c,.str d]) G=.val (.bool (!decide ((a,b)=(c,d)))) G:=by
 have h:Dg Go.Proofs.Tryz.prog 10 44 (.agg [.str a,.str b]) (.agg [.str c,.str d])=i7 (some (Mf a c)) (i7 (some (Mf b d)) (some true)):=by kernel_rfl
 show Tu (Dg Go.Proofs.Tryz.prog 10 44 (.agg [.str a,.str b]) (.agg [.str c,.str d])) _=_;rw[h,vd,vd]
 by_cases h1:a=c
 ·by_cases h2:b=d
  ·rw[Zi h1,Zi h2,Zi (by rw[h1,h2])];rfl
  ·rw[Zi h1,Zc h2,Zc (λh=>h2 (Prod.mk.inj h).2)];rfl
 ·rw[Zc h1,Zc (λh=>h1 (Prod.mk.inj h).1)];rfl
def Za3(k:IntKind)(x y:Int)(G:Heap):NL WX true (.int k x) (.int k y) G=.val (.bool (decide (¬x=y))) G:=by
 show Tu (cond (PV k k) (some (Dw x y)) none) _=_;rw[XG,Pc,decide_not];exact TY _ _
def iK{sz:Nat}{v:AV}{ls:List (List AV)}(h:Sz H sz v ls):AI.same v v=true:=by
 have h2:cond (Nat.beq 0 0) (AI.same v v) false=true:=h.same 0 .leaf;exact h2
structure DEI(Hs:Heap)(p q:Nat)(l:List NP)(z:Nat)(tm:TM)(H:Heap):Prop where
 h:H=Hs
 t5:Xi tm=.ptr p 0
 t6:XL tm=.ptr q 0
 i: ∃i,XE tm=nI .i64 i∧i+z=l.length
def DEQ(Hs:Heap)(o:Out)(tm:TM)(H:Heap):Prop:=H=Hs∧o=.exit 0
def Zdl{p q:Nat}{m:Mem}{av dv bv ev:AV}{Hs:Heap}(hp:p<Hs.nx)(hq:q<Hs.nx)(gp:Hs.t.get p=some (rH 32 [.int .i64 m.kind,nI .u32 m.mode,nI .u32 m.uid,nI .u32 m.gid,.int .i64 m.time,av,dv,.str m.link]))(gq:Hs.t.get q=some (rH 32 [.int .i64 m.kind,nI .u32 m.mode,nI .u32 m.uid,nI .u32 m.gid,.int .i64 m.time,bv,ev,.str m.link]))(hv:Sz Hs 2 av (TN m.attrs))(hw:Sz Hs 2 bv (TN m.attrs))(hl:m.attrs.length<=90000)(cx:Ctx)(X0:X)(z:Nat)(tm:TM)(H:Heap)(hI:DEI Hs p q m.attrs z tm H):
  ∃o tm' H',Bi cx tm H X0=.ok o tm' H' X0∧((o=.normal∧ ∃k,k<z∧DEI Hs p q m.attrs k tm' H')∨(o≠.normal∧DEQ Hs o tm' H')):=by
 obtain⟨rfl,t5,t6,i,t7,him⟩:=hI;have D8:=t5;have Cl:=t6;simp only[G7,re,G8] at t5 t6 t7;have ln:=hv.len;rw[Vm] at ln;have la5: ∀G,ld1 (some (rH 32 [.int .i64 m.kind,nI .u32 m.mode,nI .u32 m.uid,nI .u32 m.gid,.int .i64 m.time,av,dv,.str m.link])) 5 G=.val av G:=λG=>rfl;have lb5: ∀G,ld1 (some (rH 32 [.int .i64 m.kind,nI .u32 m.mode,nI .u32 m.uid,nI .u32 m.gid,.int .i64 m.time,bv,ev,.str m.link])) 5 G=.val bv G:=λG=>rfl;cases z with
 |zero=>
  have d1:decide (i<m.attrs.length)=false:=Zc (by omega);simp only[t5,t7,gp,la5,ln,d1,ZE,Zl,Zl,ZE,Zl,Bi,ZG,Yj,Yg,KA];refine⟨_,_,_,rfl,?_⟩;exact .inr ⟨by simp,rfl,rfl⟩
 |succ z=>
  have d1:decide (i<m.attrs.length)=true:=Zi (by omega);have hi:i<m.attrs.length:=by omega
  obtain⟨bb,o,r,eI,hb,gb,eL,_⟩:=hv.at_ (i:=i) (by rw[Vm];exact hi);rw[Np hi] at eL;obtain⟨b2,o2,r2,eI2,hb2,tc,eL2,_⟩:=hw.at_ (i:=i) (by rw[Vm];omega);rw[Np (by omega)] at eL2;have lv:=hv.low (n:=H.nx) (Zs _);have lw:=hw.low (n:=H.nx) (Zs _);have sv:=hv.same;have sw:=hw.same;have ea:=ZcR (m.attrs.getD i ([],[])).1 (m.attrs.getD i ([],[])).2 (m.attrs.getD i ([],[])).1 (m.attrs.getD i ([],[])).2;rw[Zi rfl] at ea;simp(disch:=omega) only[t5,t6,t7,gp,gq,la5,lb5,ln,d1,eI,gb,eL,eI2,tc,eL2,lv,lw,sv,sw,ea,nT,YI,ZE,Y0,Zl,Zl,YW,YI,ZD,ZO,ZE,Zl,YW,Bi,ZG,Yj,Zz,Yc,Xc,XZ,Yg,KA];refine⟨_,_,_,rfl,?_⟩;exact .inl ⟨rfl,z,by omega,rfl,D8,Cl,i+1,rfl,by omega⟩
def gV(E:Env Zq fs Zk){ca cb:List AV}{m:Mem}(hro:H.ro<=H.nx)(hCa:NF H ca m)(hCb:NF H cb m)(hla:m.attrs.length<=90000):
  ∃H',ZA (LK Zq fs Zk 0) fs Zk (n+2) 28 [.agg ca,.agg cb] H=.ret (.bool true) H'∧Zu H H' []:=by
 rw[Z5 E.f28 (.inl (by decide))];obtain⟨av,dv,rfl,hA,hD⟩:=hCa;obtain⟨bv,ev,rfl,hA2,hD2⟩:=hCb;have bxa: ∀G:Heap,MW 34 (.agg [.str m.path,.int .i64 m.kind,nI .u32 m.mode,nI .u32 m.uid,nI .u32 m.gid,.int .i64 m.time,av,dv,.str m.link]) G=.val (.ptr G.nx 0) (G.new (rH 34 [.str m.path,.int .i64 m.kind,nI .u32 m.mode,nI .u32 m.uid,nI .u32 m.gid,.int .i64 m.time,av,dv,.str m.link])):=λG=>W4 (l:=[.str m.path,.int .i64 m.kind,nI .u32 m.mode,nI .u32 m.uid,nI .u32 m.gid,.int .i64 m.time,av,dv,.str m.link]) (show 1<=9 by decide) 34 G;have bxb: ∀G:Heap,MW 34 (.agg [.str m.path,.int .i64 m.kind,nI .u32 m.mode,nI .u32 m.uid,nI .u32 m.gid,.int .i64 m.time,bv,ev,.str m.link]) G=.val (.ptr G.nx 0) (G.new (rH 34 [.str m.path,.int .i64 m.kind,nI .u32 m.mode,nI .u32 m.uid,nI .u32 m.gid,.int .i64 m.time,bv,ev,.str m.link])):=λG=>W4 (l:=[.str m.path,.int .i64 m.kind,nI .u32 m.mode,nI .u32 m.uid,nI .u32 m.gid,.int .i64 m.time,bv,ev,.str m.link]) (show 1<=9 by decide) 34 G;obtain⟨H1,hH1⟩:=TO (H.new (rH 34 [.str m.path,.int .i64 m.kind,nI .u32 m.mode,nI .u32 m.uid,nI .u32 m.gid,.int .i64 m.time,av,dv,.str m.link]));have k1:Zu H H1 []:=by rw[<-hH1];exact Zu.new _ _ _
 have NB:H1.nx=H.nx+1:=by rw[<-hH1];rfl
 have g1:H1.t.get H.nx=some (rH 34 [.str m.path,.int .i64 m.kind,nI .u32 m.mode,nI .u32 m.uid,nI .u32 m.gid,.int .i64 m.time,av,dv,.str m.link]):=by rw[<-hH1];exact ZR rfl _
 obtain⟨H2,hH2⟩:=TO (H1.new (rH 34 [.str m.path,.int .i64 m.kind,nI .u32 m.mode,nI .u32 m.uid,nI .u32 m.gid,.int .i64 m.time,bv,ev,.str m.link]));have k12:Zu H1 H2 []:=by rw[<-hH2];exact Zu.new _ _ _
 have nx2:H2.nx=H1.nx+1:=by rw[<-hH2];rfl
 have g2:H2.t.get H1.nx=some (rH 34 [.str m.path,.int .i64 m.kind,nI .u32 m.mode,nI .u32 m.uid,nI .u32 m.gid,.int .i64 m.time,bv,ev,.str m.link]):=by rw[<-hH2];exact ZR rfl _
 have g12:H2.t.get H.nx=some (rH 34 [.str m.path,.int .i64 m.kind,nI .u32 m.mode,nI .u32 m.uid,nI .u32 m.gid,.int .i64 m.time,av,dv,.str m.link]):=by rw[k12.get _ (by omega) (by simp)];exact g1
 have ldA: ∀G,zI 8 (some (rH 34 [.str m.path,.int .i64 m.kind,nI .u32 m.mode,nI .u32 m.uid,nI .u32 m.gid,.int .i64 m.time,av,dv,.str m.link])) 1 G=.val (.agg [.int .i64 m.kind,nI .u32 m.mode,nI .u32 m.uid,nI .u32 m.gid,.int .i64 m.time,av,dv,.str m.link]) G:=λG=>Tg (show 1+8<=9 by decide) ..;have ldB: ∀G,zI 8 (some (rH 34 [.str m.path,.int .i64 m.kind,nI .u32 m.mode,nI .u32 m.uid,nI .u32 m.gid,.int .i64 m.time,bv,ev,.str m.link])) 1 G=.val (.agg [.int .i64 m.kind,nI .u32 m.mode,nI .u32 m.uid,nI .u32 m.gid,.int .i64 m.time,bv,ev,.str m.link]) G:=λG=>Tg (show 1+8<=9 by decide) ..;have pA: ∀G,ld1 (some (rH 34 [.str m.path,.int .i64 m.kind,nI .u32 m.mode,nI .u32 m.uid,nI .u32 m.gid,.int .i64 m.time,av,dv,.str m.link])) 0 G=.val (.str m.path) G:=λG=>rfl;have pB: ∀G,ld1 (some (rH 34 [.str m.path,.int .i64 m.kind,nI .u32 m.mode,nI .u32 m.uid,nI .u32 m.gid,.int .i64 m.time,bv,ev,.str m.link])) 0 G=.val (.str m.path) G:=λG=>rfl;have hf:=E.big;have q1:H2.ro<=H2.nx:=by rw[k12.ro,k1.ro];omega
 obtain⟨H3,hH3⟩:=TO (H2.new (rH 32 [.int .i64 m.kind,nI .u32 m.mode,nI .u32 m.uid,nI .u32 m.gid,.int .i64 m.time,av,dv,.str m.link]));have nx3:H3.nx=H2.nx+1:=by rw[<-hH3];rfl
 have k23:Zu H2 H3 []:=by rw[<-hH3];exact Zu.new _ _ _
 have g3:H3.t.get H2.nx=some (rH 32 [.int .i64 m.kind,nI .u32 m.mode,nI .u32 m.uid,nI .u32 m.gid,.int .i64 m.time,av,dv,.str m.link]):=by rw[<-hH3];exact ZR rfl _
 have sf3:=TL (n:=8) (b:=H2.nx) (l:=[nI .i64 0,nI .u32 0,nI .u32 0,nI .u32 0,nI .i64 0,.nils,.nils,.str []]) (vs:=[.int .i64 m.kind,nI .u32 m.mode,nI .u32 m.uid,nI .u32 m.gid,.int .i64 m.time,av,dv,.str m.link]) (H:=H2.new (rH 32 [nI .i64 0,nI .u32 0,nI .u32 0,nI .u32 0,nI .i64 0,.nils,.nils,.str []])) rfl rfl (by decide) (by show H2.ro<=_;omega) 32 1 false true;rw[TJ rfl,hH3] at sf3;have q3:H3.ro<=H3.nx:=by rw[k23.ro];omega
 have Dk:H3.t.get H1.nx=some (rH 34 [.str m.path,.int .i64 m.kind,nI .u32 m.mode,nI .u32 m.uid,nI .u32 m.gid,.int .i64 m.time,bv,ev,.str m.link]):=by rw[k23.get _ (by omega) (by simp)];exact g2
 obtain⟨H4,MR⟩:=TO (H3.new (rH 32 [.int .i64 m.kind,nI .u32 m.mode,nI .u32 m.uid,nI .u32 m.gid,.int .i64 m.time,bv,ev,.str m.link]));have nx4:H4.nx=H3.nx+1:=by rw[<-MR];rfl
 have Fg:Zu H3 H4 []:=by rw[<-MR];exact Zu.new _ _ _
 have sf4:=TL (n:=8) (b:=H3.nx) (l:=[nI .i64 0,nI .u32 0,nI .u32 0,nI .u32 0,nI .i64 0,.nils,.nils,.str []]) (vs:=[.int .i64 m.kind,nI .u32 m.mode,nI .u32 m.uid,nI .u32 m.gid,.int .i64 m.time,bv,ev,.str m.link]) (H:=H3.new (rH 32 [nI .i64 0,nI .u32 0,nI .u32 0,nI .u32 0,nI .i64 0,.nils,.nils,.str []])) rfl rfl (by decide) (by show H3.ro<=_;omega) 32 1 false true;rw[TJ rfl,MR] at sf4;have g44:H4.t.get H3.nx=some (rH 32 [.int .i64 m.kind,nI .u32 m.mode,nI .u32 m.uid,nI .u32 m.gid,.int .i64 m.time,bv,ev,.str m.link]):=by rw[<-MR];exact ZR rfl _
 have g43:H4.t.get H2.nx=some (rH 32 [.int .i64 m.kind,nI .u32 m.mode,nI .u32 m.uid,nI .u32 m.gid,.int .i64 m.time,av,dv,.str m.link]):=by rw[Fg.get _ (by omega) (by simp)];exact g3
 have k24:=k23.trans' Fg;have ga4:H4.t.get H.nx=some (rH 34 [.str m.path,.int .i64 m.kind,nI .u32 m.mode,nI .u32 m.uid,nI .u32 m.gid,.int .i64 m.time,av,dv,.str m.link]):=by rw[k24.get _ (by omega) (by simp)];exact g12
 have gb4:H4.t.get H1.nx=some (rH 34 [.str m.path,.int .i64 m.kind,nI .u32 m.mode,nI .u32 m.uid,nI .u32 m.gid,.int .i64 m.time,bv,ev,.str m.link]):=by rw[k24.get _ (by omega) (by simp)];exact g2
 have kk:Zu H H4 []:=(k1.trans' k12).trans' k24;have sd1:=Zck (hD.keep0 kk);have sd2:=Zck (hD2.keep0 kk);have ln1:=hA.len;have ln2:=hA2.len;rw[Vm] at ln1 ln2;have la0: ∀G,ld1 (some (rH 32 [.int .i64 m.kind,nI .u32 m.mode,nI .u32 m.uid,nI .u32 m.gid,.int .i64 m.time,av,dv,.str m.link])) 0 G=.val (.int .i64 m.kind) G:=λG=>rfl;have la1: ∀G,ld1 (some (rH 32 [.int .i64 m.kind,nI .u32 m.mode,nI .u32 m.uid,nI .u32 m.gid,.int .i64 m.time,av,dv,.str m.link])) 1 G=.val (nI .u32 m.mode) G:=λG=>rfl;have la2: ∀G,ld1 (some (rH 32 [.int .i64 m.kind,nI .u32 m.mode,nI .u32 m.uid,nI .u32 m.gid,.int .i64 m.time,av,dv,.str m.link])) 2 G=.val (nI .u32 m.uid) G:=λG=>rfl;have la3: ∀G,ld1 (some (rH 32 [.int .i64 m.kind,nI .u32 m.mode,nI .u32 m.uid,nI .u32 m.gid,.int .i64 m.time,av,dv,.str m.link])) 3 G=.val (nI .u32 m.gid) G:=λG=>rfl;have la4: ∀G,ld1 (some (rH 32 [.int .i64 m.kind,nI .u32 m.mode,nI .u32 m.uid,nI .u32 m.gid,.int .i64 m.time,av,dv,.str m.link])) 4 G=.val (.int .i64 m.time) G:=λG=>rfl;have la5: ∀G,ld1 (some (rH 32 [.int .i64 m.kind,nI .u32 m.mode,nI .u32 m.uid,nI .u32 m.gid,.int .i64 m.time,av,dv,.str m.link])) 5 G=.val av G:=λG=>rfl;have la6: ∀G,ld1 (some (rH 32 [.int .i64 m.kind,nI .u32 m.mode,nI .u32 m.uid,nI .u32 m.gid,.int .i64 m.time,av,dv,.str m.link])) 6 G=.val dv G:=λG=>rfl;have la7: ∀G,ld1 (some (rH 32 [.int .i64 m.kind,nI .u32 m.mode,nI .u32 m.uid,nI .u32 m.gid,.int .i64 m.time,av,dv,.str m.link])) 7 G=.val (.str m.link) G:=λG=>rfl;have lb0: ∀G,ld1 (some (rH 32 [.int .i64 m.kind,nI .u32 m.mode,nI .u32 m.uid,nI .u32 m.gid,.int .i64 m.time,bv,ev,.str m.link])) 0 G=.val (.int .i64 m.kind) G:=λG=>rfl;have lb1: ∀G,ld1 (some (rH 32 [.int .i64 m.kind,nI .u32 m.mode,nI .u32 m.uid,nI .u32 m.gid,.int .i64 m.time,bv,ev,.str m.link])) 1 G=.val (nI .u32 m.mode) G:=λG=>rfl;have lb2: ∀G,ld1 (some (rH 32 [.int .i64 m.kind,nI .u32 m.mode,nI .u32 m.uid,nI .u32 m.gid,.int .i64 m.time,bv,ev,.str m.link])) 2 G=.val (nI .u32 m.uid) G:=λG=>rfl;have lb3: ∀G,ld1 (some (rH 32 [.int .i64 m.kind,nI .u32 m.mode,nI .u32 m.uid,nI .u32 m.gid,.int .i64 m.time,bv,ev,.str m.link])) 3 G=.val (nI .u32 m.gid) G:=λG=>rfl;have lb4: ∀G,ld1 (some (rH 32 [.int .i64 m.kind,nI .u32 m.mode,nI .u32 m.uid,nI .u32 m.gid,.int .i64 m.time,bv,ev,.str m.link])) 4 G=.val (.int .i64 m.time) G:=λG=>rfl;have lb5: ∀G,ld1 (some (rH 32 [.int .i64 m.kind,nI .u32 m.mode,nI .u32 m.uid,nI .u32 m.gid,.int .i64 m.time,bv,ev,.str m.link])) 5 G=.val bv G:=λG=>rfl;have lb6: ∀G,ld1 (some (rH 32 [.int .i64 m.kind,nI .u32 m.mode,nI .u32 m.uid,nI .u32 m.gid,.int .i64 m.time,bv,ev,.str m.link])) 6 G=.val ev G:=λG=>rfl;have lb7: ∀G,ld1 (some (rH 32 [.int .i64 m.kind,nI .u32 m.mode,nI .u32 m.uid,nI .u32 m.gid,.int .i64 m.time,bv,ev,.str m.link])) 7 G=.val (.str m.link) G:=λG=>rfl;have n_mode:decide (¬(m.mode=m.mode))=false:=Zc λh=>h rfl;have n_uid:decide (¬(m.uid=m.uid))=false:=Zc λh=>h rfl;have n_gid:decide (¬(m.gid=m.gid))=false:=Zc λh=>h rfl;have n_attrs_length:decide (¬(m.attrs.length=m.attrs.length))=false:=Zc λh=>h rfl;simp only[bxa,bxb,hH1,hH2,g12,ldA,ldB,pA,pB,sf3,Dk,sf4,g44,g43,ga4,gb4,sd1,sd2,ln1,ln2,la0,la1,la2,la3,la4,la5,la6,la7,lb0,lb1,lb2,lb3,lb4,lb5,lb6,lb7,Za3,UJ,RU,n_mode,n_uid,n_gid,n_attrs_length,not_true_eq_false,decide_false,decide_true,YI,UI,VL,decide_true,decide_false,Zo,Zl,Zl,Zo,YI,Zl,Zo,c28,ZG,Yj,Zz,Yg,UH,KA];generalize hL:Vq (Bi _) Zk _ _ _=LL;obtain⟨o,OS,H5,rfl,_,rfl,rfl⟩:=YP (P:=λT=>DEI H4 H2.nx H3.nx m.attrs m.attrs.length T H4) (Q:=DEQ H4)
  (λT hi=>Y5 (DEI H4 H2.nx H3.nx m.attrs) (DEQ H4) (λz tm H1 h=>Zdl (by omega) (by omega) g43 g44 (hA.keep0 kk) (hA2.keep0 kk) hla _ _ z tm H1 h) Zk m.attrs.length T H4 (by omega) hi) hL
  (by exact⟨rfl,rfl,rfl,0,rfl,by omega⟩)
 simp only[ZG,Yj,Zz,Yg,];refine⟨_,rfl,?_⟩;exact kk
def Zkx(E:Env Zq fs Zk)(hk:1<=k){ca cb:List AV}{m:Mem}(hro:H.ro<=H.nx)(hCa:NF H ca m)(hCb:NF H cb m)(hla:m.attrs.length<=90000):
  ZA (LK Zq fs Zk k) fs Zk (n+1) 28 [.agg ca,.agg cb] H=.ret (.bool true) H:=by
 obtain⟨H',e,g⟩:=gV E (n:=898) (H:=H) hro hCa hCb hla;exact Yh (r:=0) rfl rfl e g (rfl) hk
def iw{m:Mem}(h:NF H cs m)(n:Nat)(t:T Obj):Vo (.val (.agg cs) ⟨n,t,n⟩) (.agg cs) n=true:=by
 obtain⟨av,dv,rfl,hA,hD⟩:=h;refine Hv (EQ _ λv hv=>?_) n t;simp only[ZY,TV,or_false] at hv;rcases hv with rfl|rfl|rfl|rfl|rfl|rfl|rfl|rfl|rfl
 ·exact Jn _
 ·exact Li ..
 ·exact CL ..
 ·exact CL ..
 ·exact CL ..
 ·exact Li ..
 ·exact iK hA
 ·exact iK hD
 ·exact Jn _
structure AKI(Hs:Heap)(v w:AV)(L:List Mem)(m:Nat)(tm:TM)(H:Heap):Prop where
 k:H=Hs
 t0:Z6 tm=v
 t1:Xn tm=w
 i: ∃i,Xi tm=nI .i64 i∧i+m=L.length
def AKQ(Hs:Heap)(o:Out)(tm:TM)(H:Heap):Prop:=o=.exit 0∧H=Hs
def ZcL(E:Env Zq fs Zk)(hk:2<=k){v w:AV}{L:List Mem}{Hs:Heap}(hro:Hs.ro<=Hs.nx)(hV:Qe Hs v L)(hW:Qe Hs w L)(hl:L.length<=90000)(hla: ∀x∈L,x.attrs.length<=90000)(y f dd q)(X0:X)(m:Nat)(tm:TM)(H:Heap)(hI:AKI Hs v w L m tm H):
  ∃o tm' H',Be ⟨ZA (LK Zq fs Zk k) fs Zk (n+1),y,f,dd,q⟩ tm H X0=.ok o tm' H' X0∧((o=.normal∧ ∃k,k<m∧AKI Hs v w L k tm' H')∨(o≠.normal∧AKQ Hs o tm' H')):=by
 obtain⟨rfl,t0,t1,i,t5,him⟩:=hI;have t0':=t0;have t1':=t1;simp only[Pa,Kp,G7] at t0 t1 t5;have ln:=hV.len;cases m with
 |zero=>
  have d1:decide (i<L.length)=false:=Zc (by omega);simp only[t0,t5,ln,d1,ZE,ZE,Be,ZG,Yj,Yg];refine⟨_,_,_,rfl,?_⟩;exact .inr ⟨by simp,rfl,rfl⟩
 |succ m=>
  have d1:decide (i<L.length)=true:=Zi (by omega);have hi:i<L.length:=by omega
  obtain⟨bb,o,r,cs,eI,hb,gb,eL,_,hB⟩:=hV.at_ hi;obtain⟨b0,o0,r0,c0,eI0,hb0,gb0,eL0,_,hB0⟩:=hW.at_ hi;have es:=λ{j}=>Zkx E (k:=k) (n:=j) (by omega) hro hB.toC hB0.toC (hla _ (HI hi));have sc:=iw hB.toC;have sc0:=iw hB0.toC;have lv: ∀n,H.nx<=n->WZ n v=true:=by
   obtain⟨ls,q1,_⟩:=hV;exact λn hn=>q1.low hn
  have lw: ∀n,H.nx<=n->WZ n w=true:=by
   obtain⟨ls,q1,_⟩:=hW;exact λn hn=>q1.low hn
  have lv2:=lv H.nx (Zs _);have lw2:=lw H.nx (Zs _);have sv: ∀(n:Nat) (T:T Obj),Vo (.val v ⟨n,T,n⟩) v n=true:=by
   obtain⟨ls,q1,_⟩:=hV;exact λn T=>(show Sz H 9 v ls from .inr q1).same n T
  have sw: ∀(n:Nat) (T:T Obj),Vo (.val w ⟨n,T,n⟩) w n=true:=by
   obtain⟨ls,q1,_⟩:=hW;exact λn T=>(show Sz H 9 w ls from .inr q1).same n T
  simp(disch:=omega) only[t0,t1,t5,ln,d1,eI,gb,eL,eI0,gb0,eL0,es,sc,sc0,lv2,lw2,ZE,Y0,decide_true,ZD,ZO,ZE,Be,ZG,Yj,Yc,Xc,XZ,Nat.reducePow,Nat.reduceDiv,Nat.reduceMod,Yg];refine⟨_,_,_,rfl,?_⟩;exact .inl ⟨rfl,m,by omega,rfl,t0',t1',i+1,rfl,by omega⟩
def i5(E:Env Zq fs Zk)(hk:2<=k){v w:AV}{L:List Mem}(hro:H.ro<=H.nx)(hV:Qe H v L)(hW:Qe H w L)(hl:L.length<=90000)(hla: ∀x∈L,x.attrs.length<=90000):
  ZA (LK Zq fs Zk k) fs Zk (n+2) 11 [v,w] H=.ret (.bool true) H:=by
 rw[Z5 E.f11 (.inr rfl)];have hf:=E.big;have ln:=hV.len;have lw:=hW.len;have d1:decide (¬L.length=L.length)=false:=Zc λh=>h rfl;simp only[ln,lw,d1,UI,c11,ZG,Yj,Yg];generalize hL:Vq (Be _) Zk _ _ _=LL;obtain⟨o,OS,H1,rfl,_,rfl,rfl⟩:=YP (P:=λT=>AKI H v w L L.length T H) (Q:=AKQ H)
  (λT hi=>Y5 (AKI H v w L) (AKQ H) (λm tm H2 h=>ZcL E (k:=k) (n:=n) hk hro hV hW hl hla _ _ _ _ _ m tm H2 h) Zk L.length T H (by omega) hi) hL
  (by exact⟨rfl,rfl,rfl,0,rfl,by omega⟩)
 simp only[ZG,Yj,Zz,Yg]
def Zdv{m:Mem}(h:yi m):LOk (ay m):=by
 refine⟨⟨?_,?_,?_,h.mode,h.uid,h.gid,h.time.1,h.time.2,?_⟩,?_⟩
 ·show(m.path.take 4100).length<=_;rw[Zy];omega
 ·show(m.link.take 4100).length<=_;rw[Zy];omega
 ·intro x hx
  have hx:x∈(m.attrs.take 20).map sk:=hx;obtain⟨q,_,rfl⟩:=YC.1 hx;show(q.1.take 250).length+(q.2.take 700).length<=_;rw[Zy,Zy];omega
 ·exact Yb (oN _) (by decide)
 ·show(m.data.take 1500).length<=_;rw[Zy];omega
def aA{L:List Mem}(h: ∀i,i<L.length->yi (L.getD i default)): ∀x∈NM L,LOk x:=λx hx=>by
 obtain⟨i,hi,rfl⟩:=Tl.1 hx;have hl:=JP L;have e:(NM L).getD i default=(NM L)[i]:=by rw[Ze,Zm hi];rfl
 rw[<-e,sJ (by omega)];exact Zdv (h i (by omega))
def eB(b:Bool)(G:Heap):NL gX true (.bool b) (.bool b) G=.val (.bool false) G:=by cases b<;>rfl
def ZcG(E:Env Zq fs Zk)(hk:12<=k){m:Mem}(gH:V8 H)(hC:NF H cs m)(h:vu m)(hm:Xh m=false):
  ∃H',ZA (LK Zq fs Zk k) fs Zk (n+2) 6 [.agg cs] H=.ret (.tup [.nils,nI .i64 1]) H'∧Zu H H' []:=by
 rw[Z5 E.f6 (.inr rfl)];have hC0:=hC;obtain⟨av,dv,rfl,hA,hD⟩:=hC;have bx: ∀G:Heap,MW 34 (.agg [.str m.path,.int .i64 m.kind,nI .u32 m.mode,nI .u32 m.uid,nI .u32 m.gid,.int .i64 m.time,av,dv,.str m.link]) G=.val (.ptr G.nx 0) (G.new (rH 34 [.str m.path,.int .i64 m.kind,nI .u32 m.mode,nI .u32 m.uid,nI .u32 m.gid,.int .i64 m.time,av,dv,.str m.link])):=λG=>W4 (l:=[.str m.path,.int .i64 m.kind,nI .u32 m.mode,nI .u32 m.uid,nI .u32 m.gid,.int .i64 m.time,av,dv,.str m.link]) (show 1<=9 by decide) 34 G;obtain⟨H1,hH1⟩:=TO (H.new (rH 34 [.str m.path,.int .i64 m.kind,nI .u32 m.mode,nI .u32 m.uid,nI .u32 m.gid,.int .i64 m.time,av,dv,.str m.link]));have k1:Zu H H1 []:=by rw[<-hH1];exact Zu.new _ _ _
 have g1:H1.t.get H.nx=some (rH 34 [.str m.path,.int .i64 m.kind,nI .u32 m.mode,nI .u32 m.uid,nI .u32 m.gid,.int .i64 m.time,av,dv,.str m.link]):=by rw[<-hH1];exact ZR rfl _
 have n7: ∀G,zI 9 (some (rH 34 [.str m.path,.int .i64 m.kind,nI .u32 m.mode,nI .u32 m.uid,nI .u32 m.gid,.int .i64 m.time,av,dv,.str m.link])) 0 G=.val (.agg [.str m.path,.int .i64 m.kind,nI .u32 m.mode,nI .u32 m.uid,nI .u32 m.gid,.int .i64 m.time,av,dv,.str m.link]) G:=λG=>Tg (show 0+9<=9 by decide) ..;have em:=λ{j}=>uR E (k:=k) (n:=j) hk h.short (gH.keep0 k1).p (hC0.keep k1);rw[hm] at em;simp only[bx,hH1,g1,n7,em,UJ,c6,ZG,Yj,Zz,Yc,Yg,];refine⟨_,rfl,?_⟩;exact k1
def hdW(m:Mem):Zd:=if Xh m=true then QL m else []
def wM(m:Mem):Zd:=hdW m++m.data++List.replicate (VC m.data.length) 0
def wL(L:List Mem):Zd:=(L.map wM).flatten
def ZgL{m:Mem}(h:LOk m):(wM m).length<=2003000:=by
 unfold wM hdW;have h3:=CH m.data.length;have h2:=h.2;rw[Zh,Zh,ZB]
 split
 ·rename_i hm
  have h1:=rh h.1 (Nz hm).2.2.2.1;omega
 ·show 0+_+_<=_;omega
def Zmu{L:List Mem}(h: ∀x∈L,LOk x):(wL L).length<=L.length*2003000:=by
 unfold wL
 induction L with
 |nil=>exact Zs _
 |cons a l ih=>
  rw[ZD,XC,Zh,ZL];have h1:=ZgL (h a (Zw ..));have h2:=ih λx hx=>h x (ZC _ hx);omega
def Zfs{L:List Mem}(h:i<L.length):wL (L.take (i+1))=wL (L.take i)++wM (L.getD i default):=by
 unfold wL;rw[WF,Ze,Zm h,Xg,UA];simp
def ZjE{L:List Mem}(h: ∀x∈L,Xh x=true):wL L=TQ L:=by
 unfold wL TQ
 congr 1
 exact List.map_congr_left λx hx=>by unfold wM Ru hdW;rw[if_pos (h x hx)]
def cN{L:List Mem}(h:i<L.length):(L.take (i+1)).all Xh=((L.take i).all Xh&&Xh (L.getD i default)):=by
 rw[WF,Ze,Zm h,List.all_append];simp
structure ZcH(Hs:Heap)(v g0 g1 g2 g7 g8:AV)(L:List Mem)(m:Nat)(tm:TM)(H:Heap):Prop where
 k:Zu Hs H []
 t27:VB tm=v
 t28:Vg tm=nI .i64 L.length
 t0:Z6 tm=g0
 t1:Xn tm=g1
 t2:Va tm=g2
 t7:XE tm=g7
 t8:Xt tm=g8
 i: ∃i w,W8 tm=nI .i64 i∧i+m=L.length∧Wv tm=.bool ((L.take i).all Xh)∧YH tm=w∧GB H w (wL (L.take i)) Hs.nx
def ZgU(Hs:Heap)(g0 g1 g2 g7 g8:AV)(L:List Mem)(o:Out)(tm:TM)(H:Heap):Prop:=o=.exit 0∧Zu Hs H []∧Z6 tm=g0∧Xn tm=g1∧Va tm=g2∧XE tm=g7∧Xt tm=g8∧Wv tm=.bool (L.all Xh)∧ ∃w,YH tm=w∧GB H w (wL L) Hs.nx
def Zcn(E:Env Zq fs Zk)(hk:13<=k){v g0 g1 g2 g7 g8:AV}{L:List Mem}{Hs:Heap}(gH:V8 Hs)(hV:Qe Hs v L)(hl:L.length<=12)(hok: ∀x∈L,LOk x)(y f dd q)(X0:X)(m:Nat)(tm:TM)(H:Heap)(hI:ZcH Hs v g0 g1 g2 g7 g8 L m tm H):
  ∃o tm' H',tV ⟨ZA (LK Zq fs Zk k) fs Zk (n+10),y,f,dd,q⟩ tm H X0=.ok o tm' H' X0∧((o=.normal∧ ∃k,k<m∧ZcH Hs v g0 g1 g2 g7 g8 L k tm' H')∨(o≠.normal∧ZgU Hs g0 g1 g2 g7 g8 L o tm' H')):=by
 obtain⟨k0,t27,t28,t0,t1,t2,t7,t8,i,w,t29,him,t9,t10,gbw⟩:=hI;have t27':=t27;have ZqD:=t28;have od:=t10;have t9':=t9;simp only[ZkT,ZkU,ZkV,fx,Du] at t27 t28 t29 t9 t10;cases m with
 |zero=>
  have d1:decide (i<L.length)=false:=Zc (by omega);simp only[t28,t29,d1,ZE,ZE,tV,ZG,Yj,Yg,];rw[Z1 (by omega)] at gbw t9';refine⟨_,_,_,rfl,?_⟩;exact .inr ⟨by simp,rfl,k0,t0,t1,t2,t7,t8,t9',w,od,gbw⟩
 |succ m=>
  have d1:decide (i<L.length)=true:=Zi (by omega);have hi:i<L.length:=by omega
  obtain⟨bb,o,r,cs,eI,hb,gb,eL,_,hB0⟩:=hV.at_ hi;have gb:=(k0.get bb hb (by simp)).trans gb;have hb:bb<H.nx:=ZK hb k0.nx;obtain⟨hh1,hh2⟩:=hok _ (HI hi);have hpl:=Zmu (L:=L.take i) λx hx=>hok x (Vu hx);rw[Zy] at hpl;have hpush:=Zfs hi;have hap:=cN hi;have hmb:=ZgL ⟨hh1,hh2⟩;generalize L.getD i default=me at*;obtain⟨av,dv,rfl,hA0,hD0,Zaf⟩:=hB0;have hA:=hA0.keep0 k0;have hD:BV H dv me.data:=hD0.keep k0 (λ_ _ _ _ _=>by simp);have hdb: ∀b∈Xk dv,b<H.nx:=λb hb=>ZK (Zaf b hb) k0.nx;have hx0:=k0.nx;have cD:=gH.keep0 k0;have Zib:=cD.p.ro;have hDs:=Bd hD (F8 hdb);obtain⟨H1,hH1⟩:=TO (H.new (rH 34 [.str me.path,.int .i64 me.kind,nI .u32 me.mode,nI .u32 me.uid,nI .u32 me.gid,.int .i64 me.time,av,dv,.str me.link]));have k1:Zu H H1 []:=by rw[<-hH1];exact Zu.new _ _ _
  have NB:H1.nx=H.nx+1:=by rw[<-hH1];rfl
  have g1:H1.t.get H.nx=some (rH 34 [.str me.path,.int .i64 me.kind,nI .u32 me.mode,nI .u32 me.uid,nI .u32 me.gid,.int .i64 me.time,av,dv,.str me.link]):=by rw[<-hH1];exact ZR rfl _
  have n7: ∀G,zI 9 (some (rH 34 [.str me.path,.int .i64 me.kind,nI .u32 me.mode,nI .u32 me.uid,nI .u32 me.gid,.int .i64 me.time,av,dv,.str me.link])) 0 G=.val (.agg [.str me.path,.int .i64 me.kind,nI .u32 me.mode,nI .u32 me.uid,nI .u32 me.gid,.int .i64 me.time,av,dv,.str me.link]) G:=λG=>Tg (show 0+9<=9 by decide) ..;have sf:=TL (n:=9) (b:=H.nx) (l:=[.str [],nI .i64 0,nI .u32 0,nI .u32 0,nI .u32 0,nI .i64 0,.nils,.nils,.str []]) (vs:=[.str me.path,.int .i64 me.kind,nI .u32 me.mode,nI .u32 me.uid,nI .u32 me.gid,.int .i64 me.time,av,dv,.str me.link]) (H:=H.new (rH 34 [.str [],nI .i64 0,nI .u32 0,nI .u32 0,nI .u32 0,nI .i64 0,.nils,.nils,.str []])) rfl rfl (by decide) (by show H.ro<=_;exact Zib) 34 1 false true;rw[TJ rfl,hH1] at sf;have jw:NF H1 [.str me.path,.int .i64 me.kind,nI .u32 me.mode,nI .u32 me.uid,nI .u32 me.gid,.int .i64 me.time,av,dv,.str me.link] me:=NF.keep ⟨av,dv,rfl,hA,hDs⟩ k1;have hd: ∃v1 H2,ZA (LK Zq fs Zk k) fs Zk (n+10) 6 [.agg [.str me.path,.int .i64 me.kind,nI .u32 me.mode,nI .u32 me.uid,nI .u32 me.gid,.int .i64 me.time,av,dv,.str me.link]] H1=.ret (.tup [v1,nI .i64 (if Xh me=true then 0 else 1)]) H2∧BV H2 v1 (hdW me)∧Zu H1 H2 []∧ ∀b∈Xk v1,b<H2.nx:=by
   cases hm:Xh me with
   |true=>
    obtain⟨v1,H2,e2,Kc,k12,hb1,hc1,hv1,Zpm,Zpn⟩:=tf E (k:=k) (n:=n+3) (by omega) (cD.keep0 k1) jw hh1 hm;have hv: ∀b∈Xk v1,b<H2.nx:=λb hb=>by
     rw[hv1] at hb;have:b=hb1:=by simpa [Xk] using hb
     omega
    exact⟨v1,H2,e2,by unfold hdW;rw[if_pos hm];exact Kc,k12,hv⟩
   |false=>
    obtain⟨H2,e2,k12⟩:=ZcG E (k:=k) (n:=n+8) (by omega) (cD.keep0 k1) jw hh1 hm;exact⟨.nils,H2,e2,by unfold hdW;rw[if_neg (by rw[hm];decide)];exact .inl ⟨rfl,.inl rfl⟩,k12,λb hb=>by cases hb⟩
  obtain⟨v1,H2,e2,Kc,k12,hb2⟩:=hd;have hx2:=k12.nx;have k2:=k1.trans' k12;have g2:H2.t.get H.nx=some (rH 34 [.str me.path,.int .i64 me.kind,nI .u32 me.mode,nI .u32 me.uid,nI .u32 me.gid,.int .i64 me.time,av,dv,.str me.link]):=by rw[k12.get _ (by omega) (by simp)];exact g1
  have em:=λ{j}=>uR E (k:=k) (n:=j) (by omega) hh1.short (cD.keep0 k2).p (jw.keep k12);have l7: ∀G,ld1 (some (rH 34 [.str me.path,.int .i64 me.kind,nI .u32 me.mode,nI .u32 me.uid,nI .u32 me.gid,.int .i64 me.time,av,dv,.str me.link])) 7 G=.val dv G:=λG=>rfl;have tc:=gbw.keep k2 (λ_ _=>by simp);have Zic:H2.ro<=H2.nx:=by rw[k2.ro];omega
  have hml:(wM me).length=(hdW me).length+me.data.length+VC me.data.length:=by unfold wM;rw[Zh,Zh,ZB]
  obtain⟨w3,H3,e3,Dk,k23,bk3⟩:=Iy tc Kc (by omega) Zic (by omega);have hx3:=k23.nx;have bw: ∀c∈Xk w,Hs.nx<=c∧c<H.nx:=gbw.blk;have g3:H3.t.get H.nx=some (rH 34 [.str me.path,.int .i64 me.kind,nI .u32 me.mode,nI .u32 me.uid,nI .u32 me.gid,.int .i64 me.time,av,dv,.str me.link]):=by rw[k23.get _ (by omega) (λh=>by have:=(bw _ h).2;omega)];exact g2
  have cC: ∀c∈Xk w3,Hs.nx<=c∧c≠H.nx:=λc hc=>by
   rcases bk3 c hc with h|h
   ·have:=bw c h;omega
   ·omega
  have hdv: ∀b∈Xk dv,b<H.nx:=hdb;have hdw: ∀b∈Xk dv,b<Hs.nx:=Zaf;have bd3:BV H3 dv me.data:=(hD.keep k2 (λ_ _ _ _ _=>by simp)).move k23 λb hb hm=>by have:=hdw b hb;have:=(bw b hm).1;omega
  have fF:H3.ro<=H3.nx:=by rw[k23.ro];omega
  obtain⟨w4,H4,e4,gb4,Fg,bk4⟩:=Iy Dk bd3 (by omega) fF (by rw[Zh];omega);have hx4:=Fg.nx;have g4:H4.t.get H.nx=some (rH 34 [.str me.path,.int .i64 me.kind,nI .u32 me.mode,nI .u32 me.uid,nI .u32 me.gid,.int .i64 me.time,av,dv,.str me.link]):=by rw[Fg.get _ (by omega) (λh=>(cC _ h).2 rfl)];exact g3
  have bw4: ∀c∈Xk w4,Hs.nx<=c∧c≠H.nx:=λc hc=>by
   rcases bk4 c hc with h|h
   ·exact cC c h
   ·omega
  have Zaj:H4.ro<=H4.nx:=by rw[Fg.ro];omega
  have et:=λ{j}=>Zcp E (k:=k) (n:=j) (by omega) (m:=me.data.length) (H:=H4) (by omega);obtain⟨w5,H5,e5,aM,Dy,bk5⟩:=Cs gb4 (by omega) Zaj (VC me.data.length) (by rw[Zh,Zh];omega);have hx5:=Dy.nx;have g5:H5.t.get H.nx=some (rH 34 [.str me.path,.int .i64 me.kind,nI .u32 me.mode,nI .u32 me.uid,nI .u32 me.gid,.int .i64 me.time,av,dv,.str me.link]):=by rw[Dy.get _ (by omega) (λh=>(bw4 _ h).2 rfl)];exact g4
  have ln:=hD.len;have ln5:=aM.len;have lw:=gbw.low (n:=H2.nx) (by omega);have sw:=gbw.same;have lw1:=PJ Kc (n:=H2.nx) hb2;have sv1:=Nf Kc;have ldv:=PJ hD (n:=H2.nx) (λb hb=>by have:=hdv b hb;omega);have lw3:=Dk.low (n:=H3.nx) (Zs _);have lw4:=gb4.low (n:=H4.nx) (Zs _);have lw5:=aM.low (n:=H5.nx) (Zs _);have sw3:=Dk.same;have sw4:=gb4.same;have sw5:=aM.same;have ldv3:=PJ hD (n:=H3.nx) (λb hb=>by have:=hdv b hb;omega);have ldv4:=PJ hD (n:=H4.nx) (λb hb=>by have:=hdv b hb;omega);have sdv:=Nf hD;have eb:=eB;have kk:Zu Hs H5 []:=(((k0.trans' k2).trans k23 λc hc hlt=>by have:=bw c hc;omega).trans Fg λc hc hlt=>by have:=(cC c hc).1;omega).trans Dy λc hc hlt=>by have:=(bw4 c hc).1;omega
  have fin:GB H5 w5 (wL (L.take (i+1))) Hs.nx:=by
   rw[hpush];unfold wM;rw[<-Yq,<-Yq];exact aM
  have z01:decide ((1:Nat)=0)=false:=rfl;have z00:decide ((0:Nat)=0)=true:=rfl;have z11:decide ((1:Nat)=1)=true:=rfl;have n00: ∀G,NL WX true (nI .i64 0) (nI .i64 0) G=.val (.bool false) G:=λ_=>rfl;have n10: ∀G,NL WX true (nI .i64 1) (nI .i64 0) G=.val (.bool true) G:=λ_=>rfl;have n11: ∀G,NL WX true (nI .i64 1) (nI .i64 1) G=.val (.bool false) G:=λ_=>rfl;clear hV gbw tc Dk gb4 hD0 hA0 gH cD;cases hp:(L.take i).all Xh<;>cases hm:Xh me
  all_goals
   rw[hp] at t9 hap;rw[hm] at e2 em hap;simp only[if_true,if_false,Xp] at e2;simp(disch:=omega) only[t9,t10,t27,t28,t29,d1,eI,gb,eL,sf,g1,n7,e2,em,eb,n00,n10,n11,g2,l7,e3,g3,e4,g4,et,e5,ln,lw,lw1,ldv,sdv,Ys,ZE,YQ,Y0,Nat.reduceAdd,decide_true,decide_false,Zl,Zl,YW,Ys,ZD,ZO,ZE,Zl,YW,Oz,tV,ZG,Yj,Zz,Yc,Xc,XZ,Nat.reducePow,Nat.reduceDiv,Nat.reduceMod,reduceCtorEq,Yg,UH,KA];refine⟨_,_,_,rfl,?_⟩;exact .inl ⟨rfl,m,by omega,kk,t27',ZqD,t0,t1,t2,t7,t8,i+1,w5,rfl,by omega,by rw[hap];rfl,rfl,fin⟩
def KO:Nat->Zd
 |0=>[100]
 |n+1=>KO n++[47,100]
theorem Ee: ∀n,(KO n).length=2*n+1
 |0=>rfl
 |n+1=>by
  show(KO n++[47,100]).length=_;rw[Zh,Ee n];show 2*n+1+2=_;omega
structure DPI(Hs:Heap)(m:Nat)(tm:TM)(H:Heap):Prop where
 h:H=Hs
 t0:Z6 tm=nI .i64 254
 i: ∃i,Xo tm=nI .i64 (i+1)∧i+m=253∧V0 tm=.str (KO i)
def DPQ(Hs:Heap)(o:Out)(tm:TM)(H:Heap):Prop:=o=.exit 0∧H=Hs∧V0 tm=.str (KO 253)
def Zdo{Hs:Heap}(cx:Ctx)(X0:X)(m:Nat)(tm:TM)(H:Heap)(hI:DPI Hs m tm H):
  ∃o tm' H',Bh cx tm H X0=.ok o tm' H' X0∧((o=.normal∧ ∃k,k<m∧DPI Hs k tm' H')∨(o≠.normal∧DPQ Hs o tm' H')):=by
 obtain⟨rfl,t0,i,t4,him,t3⟩:=hI;have t0':=t0;have D7:=t3;simp only[Pa,Il,Pt] at t0 t3 t4;cases m with
 |zero=>
  have d1:decide (i+1<254)=false:=Zc (by omega);obtain rfl:i=253:=by omega
  simp only[t0,t4,ZE,Nat.reduceAdd,Vc,decide_false,ZE,Bh,ZG,Yj,Yg];refine⟨_,_,_,rfl,?_⟩;exact .inr ⟨by simp,rfl,rfl,D7⟩
 |succ m=>
  have d1:decide (i+1<254)=true:=Zi (by omega);have ad: ∀G,Sr (.str (KO i)) (.str [47,100]) G=.val (.str (KO (i+1))) G:=λG=>Q1 (by rw[Ee];show _+2<=_;omega) G;simp(disch:=omega) only[t0,t3,t4,d1,ad,ZE,Y0,ZE,Bh,ZG,Yj,Yg];refine⟨_,_,_,rfl,?_⟩;exact .inl ⟨rfl,m,by omega,rfl,t0',i+1,rfl,by omega,rfl⟩
def bQ(E:Env Zq fs Zk):ZA (LK Zq fs Zk k) fs Zk (n+1) 25 [nI .i64 254] H=.ret (.str (KO 253)) H:=by
 rw[Z5 E.f25 (.inr rfl)];have hf:=E.big;simp only[c25,ZG,Yg];generalize hL:Vq (Bh _) Zk _ _ _=LL;obtain⟨o,OS,H1,rfl,_,rfl,rfl,t3⟩:=YP (P:=λT=>DPI H 253 T H) (Q:=DPQ H)
  (λT hi=>Y5 (DPI H) (DPQ H) (λm tm H2 h=>Zdo _ _ m tm H2 h) Zk 253 T H (by omega) hi) hL
  (by exact⟨rfl,rfl,0,rfl,rfl,rfl⟩)
 simp only[Il] at t3;simp only[t3,ZG,Yj,Zz,Yg]
def exA:Mem:=⟨[97],2,0,0,0,0,[],[97,98,99],[]⟩
def exB:Mem:=⟨KO 253,1,0,0,0,0,[],[],[]⟩
def Zdt:Xh exA=true∧(Is [exA]).length=2048:=by
 refine⟨by kernel_rfl,?_⟩;have h:X2 exA=[]:=by kernel_rfl
 unfold Is TQ Ru QL;rw[ZD,ZO,XC,List.flatten_nil,ZM,if_pos h];simp only[Zh,ZB,P3];rfl
def Zdu:Xh exB=true∧(Is [exB]).length=3072:=by
 refine⟨by kernel_rfl,?_⟩;have h:X2 exB≠[]:=λe=>by
  have e2:(X2 exB).length=1:=by kernel_rfl
  rw[e] at e2;cases e2
 have h2:(VO (X2 exB)).length=518:=by kernel_rfl
 unfold Is TQ Ru QL;rw[ZD,ZO,XC,List.flatten_nil,ZM,if_neg h,h2];simp only[Zh,ZB,P3,FA,h2];rfl
def qo{m:Mem}(hl:cs.length=9)(g:H.t.get b=some (rG 34 9 cs 0 false true true))(hb:b<H.nx)(hB:tn H cs m):Qe H (.slice b 0 1 none) [m]:=
 ⟨[cs],⟨λl hl'=>by rw[Zn.1 hl'];exact hl,.inr ⟨b,0,none,rfl,hb,λ_=>⟨_,g,by show 0+1*9<=YN cs;rw[Yw,hl];decide,λi hi=>by
  rw[EL,Zl,XC,List.flatten_nil,ZM]⟩⟩⟩,rfl,λi hi=>by
  obtain rfl:i=0:=Nat.lt_one_iff.1 hi
  exact hB⟩
def vh(E:Env Zq fs Zk)(hk:13<=k)(gH:V8 H):
  ∃H',ZA (LK Zq fs Zk k) fs Zk (n+9) 9 [] H=.ret (.bool true) H'∧Zu H H' []:=by
 rw[Z5 E.f9 (.inr rfl)];have hro:=gH.p.ro;have b1: ∀G:Heap,US 5 1 3 (List.replicate 3 [nI .u8 0]).flatten [(0,1,nI .u8 97),(1,1,nI .u8 98),(2,1,nI .u8 99)] G=.val (.slice G.nx 0 3 none) (G.new (rH 5 [nI .u8 97,nI .u8 98,nI .u8 99])):=λG=>rfl;obtain⟨H1,hH1⟩:=TO (H.new (rH 5 [nI .u8 97,nI .u8 98,nI .u8 99]));have k1:Zu H H1 []:=by rw[<-hH1];exact Zu.new _ _ _
 have NB:H1.nx=H.nx+1:=by rw[<-hH1];rfl
 have FI:H1.ro=H.ro:=by rw[<-hH1];rfl
 have g1:H1.t.get H.nx=some (rH 5 [nI .u8 97,nI .u8 98,nI .u8 99]):=by rw[<-hH1];exact ZR rfl _
 have mk:=Ap (o:=0) (n:=3) (c:=none) g1 (by omega);obtain⟨H2,hH2⟩:=TO (H1.put H.nx (rG 5 1 [nI .u8 97,nI .u8 98,nI .u8 99] 0 true true true));rw[hH2] at mk;have k2:Zu H H2 []:=by rw[<-hH2];exact k1.then_put (by omega)
 have nx2:H2.nx=H1.nx:=by rw[<-hH2];rfl
 have Kc:=E7 (H:=H2) (b:=H.nx) (a:=0) (n:=3) (c:=none) (l:=[97,98,99]) (by rw[<-hH2];exact Yp _ _ _) (by omega) (by decide) (by decide) (λk h=>by cases h);have f1: ∀G:Heap,TS [nI .i64 0,nI .u32 0,nI .u32 0,nI .u32 0,nI .i64 0,.nils,.nils,.str []] [(0,1,nI .i64 2),(6,1,.slice H.nx 0 3 none)] G=.val (.agg [nI .i64 2,nI .u32 0,nI .u32 0,nI .u32 0,nI .i64 0,.nils,.slice H.nx 0 3 none,.str []]) G:=λG=>rfl;have f2: ∀G:Heap,TS [.str [],nI .i64 0,nI .u32 0,nI .u32 0,nI .u32 0,nI .i64 0,.nils,.nils,.str []] [(0,1,.str [97]),(1,8,.agg [nI .i64 2,nI .u32 0,nI .u32 0,nI .u32 0,nI .i64 0,.nils,.slice H.nx 0 3 none,.str []])] G=.val (.agg [.str [97],nI .i64 2,nI .u32 0,nI .u32 0,nI .u32 0,nI .i64 0,.nils,.slice H.nx 0 3 none,.str []]) G:=λG=>rfl;have b2: ∀G:Heap,US 34 9 1 [.str [],nI .i64 0,nI .u32 0,nI .u32 0,nI .u32 0,nI .i64 0,.nils,.nils,.str []] [(0,9,.agg [.str [97],nI .i64 2,nI .u32 0,nI .u32 0,nI .u32 0,nI .i64 0,.nils,.slice H.nx 0 3 none,.str []])] G=.val (.slice G.nx 0 1 none) (G.new (rG 34 9 [.str [97],nI .i64 2,nI .u32 0,nI .u32 0,nI .u32 0,nI .i64 0,.nils,.slice H.nx 0 3 none,.str []] 0 false true true)):=λG=>rfl;obtain⟨H3,hH3⟩:=TO (H2.new (rG 34 9 [.str [97],nI .i64 2,nI .u32 0,nI .u32 0,nI .u32 0,nI .i64 0,.nils,.slice H.nx 0 3 none,.str []] 0 false true true));have k23:Zu H2 H3 []:=by rw[<-hH3];exact Zu.new _ _ _
 have k3:=k2.trans' k23;have hV:Qe H3 (.slice H2.nx 0 1 none) [exA]:=qo (cs:=[.str [97],nI .i64 2,nI .u32 0,nI .u32 0,nI .u32 0,nI .i64 0,.nils,.slice H.nx 0 3 none,.str []]) rfl (by rw[<-hH3];exact ZR rfl _) (by rw[<-hH3];exact ZU _) ⟨.nils,.slice H.nx 0 3 none,rfl,.inr (Sl.nil _ _),Kc.keep k23 (λ_ _ _ _ _=>by simp),λb hb=>by rw[Zn.1 hb];have:=k23.nx;omega⟩;obtain⟨a1,a2⟩:=Zdt;obtain⟨w4,H4,e4,oF,Fg,_⟩:=zD E (k:=k) (n:=n) hk (gH.keep0 k3) hV (by show 1<=12;decide) (λy hy=>by rw[Zn.1 hy];exact⟨⟨by decide,by decide,(λx hx=>by cases hx),by decide,by decide,by decide,by decide,by decide,by decide⟩,by decide⟩);have all1:[exA].all Xh=true:=by rw[List.all_cons,a1];rfl
 rw[all1] at e4 oF;simp only[if_true] at e4 oF;have ln4:=oF.len;rw[a2] at ln4;have k4:=k3.trans' Fg;have dp:=λ{j}=>bQ E (k:=k) (n:=j) (H:=H4);obtain⟨DS,hDS⟩:=TO (KO 253);have f3: ∀G:Heap,TS [nI .i64 0,nI .u32 0,nI .u32 0,nI .u32 0,nI .i64 0,.nils,.nils,.str []] [(0,1,nI .i64 1)] G=.val (.agg [nI .i64 1,nI .u32 0,nI .u32 0,nI .u32 0,nI .i64 0,.nils,.nils,.str []]) G:=λG=>rfl;have f4: ∀G:Heap,TS [.str [],nI .i64 0,nI .u32 0,nI .u32 0,nI .u32 0,nI .i64 0,.nils,.nils,.str []] [(0,1,.str DS),(1,8,.agg [nI .i64 1,nI .u32 0,nI .u32 0,nI .u32 0,nI .i64 0,.nils,.nils,.str []])] G=.val (.agg [.str DS,nI .i64 1,nI .u32 0,nI .u32 0,nI .u32 0,nI .i64 0,.nils,.nils,.str []]) G:=λG=>rfl;have b4: ∀G:Heap,US 34 9 1 [.str [],nI .i64 0,nI .u32 0,nI .u32 0,nI .u32 0,nI .i64 0,.nils,.nils,.str []] [(0,9,.agg [.str DS,nI .i64 1,nI .u32 0,nI .u32 0,nI .u32 0,nI .i64 0,.nils,.nils,.str []])] G=.val (.slice G.nx 0 1 none) (G.new (rG 34 9 [.str DS,nI .i64 1,nI .u32 0,nI .u32 0,nI .u32 0,nI .i64 0,.nils,.nils,.str []] 0 false true true)):=λG=>rfl;obtain⟨H5,hH5⟩:=TO (H4.new (rG 34 9 [.str DS,nI .i64 1,nI .u32 0,nI .u32 0,nI .u32 0,nI .i64 0,.nils,.nils,.str []] 0 false true true));have Dy:Zu H4 H5 []:=by rw[<-hH5];exact Zu.new _ _ _
 have k5:=k4.trans' Dy;have hW:Qe H5 (.slice H4.nx 0 1 none) [exB]:=qo (cs:=[.str DS,nI .i64 1,nI .u32 0,nI .u32 0,nI .u32 0,nI .i64 0,.nils,.nils,.str []]) rfl (by rw[<-hH5];exact ZR rfl _) (by rw[<-hH5];exact ZU _) ⟨.nils,.nils,by rw[<-hDS];rfl,.inr (Sl.nil _ _),.inl ⟨rfl,.inl rfl⟩,λb hb=>by cases hb⟩;obtain⟨c1,c2⟩:=Zdu;obtain⟨w6,H6,e6,bv6,v5,_⟩:=zD E (k:=k) (n:=n) hk (gH.keep0 k5) hW (by show 1<=12;decide) (λy hy=>by rw[Zn.1 hy];exact⟨⟨by show(KO 253).length<=_;rw[Ee];decide,by decide,(λx hx=>by cases hx),by decide,by decide,by decide,by decide,by decide,by decide⟩,by decide⟩);have all2:[exB].all Xh=true:=by rw[List.all_cons,c1];rfl
 rw[all2] at e6 bv6;simp only[if_true] at e6 bv6;have ln6:=bv6.len;rw[c2] at ln6;rw[hDS] at dp;simp only[b1,hH1,mk,f1,f2,b2,hH3,e4,ln4,dp,f3,f4,b4,hH5,e6,ln6,AD,YO,Ud,ZO,YQ,decide_true,YO,ZD,ZO,c9,ZG,Yj,Zz,Yg,UH];refine⟨_,rfl,?_⟩;exact k5.trans' v5
structure BAr(H:Heap)(v:AV)(l:Zd):Prop where
 len: ∀G,Kq v G=.val (nI .i64 l.length) G
 low: ∀n,H.nx<=n->WZ n v=true
 same: ∀(n:Nat) (t:T Obj),Vo (.val v ⟨n,t,n⟩) v n=true
 cut: ∀k,k<=l.length-> ∃v',(∀G:Heap,(∀c,c<H.nx->G.t.get c=H.t.get c)->Uo 1 v none (some (nI .i64 k)) G=.val v' G)∧((l.take k=[]∧v'=.slice0)∨BV H v' (l.take k))∧ ∀b o n c,v'=.slice b o n c->b<H.nx
theorem iQ{G:Heap}: ∀{l:List AV},(∀x∈l,Told G (.int .u8) x)-> ∃s:Zd,l=s.map Vk
 |[],_=>⟨[],rfl⟩
 |a::l,h=>by
  obtain⟨x,hx⟩:=iO (h a (Zw ..));obtain⟨s,hs⟩:=iQ λy hy=>h y (ZC _ hy);exact⟨x::s,by rw[ZD,<-hs,hx]⟩
def Zfi{G:Heap}{v:AV}(h:Told G (.sl [.int .u8]) v): ∃l:Zd,BAr G v l:=by
 cases h with
 |nils=>
  refine⟨[],λ_=>rfl,λ_ _=>rfl,λn t=>Sw n t,λk hk=>?_⟩;obtain rfl:k=0:=by simpa using hk
  exact⟨.nils,λ_ _=>rfl,.inr (.inl ⟨rfl,.inl rfl⟩),λb o n c h=>by cases h⟩
 |slice0=>
  refine⟨[],λ_=>rfl,λ_ _=>rfl,(show Sz G 1 .slice0 [] from .inl ⟨rfl,rfl⟩).same,λk hk=>?_⟩;obtain rfl:k=0:=by simpa using hk
  exact⟨.slice0,λ_ _=>rfl,.inl ⟨rfl,rfl⟩,λb o n c h=>by cases h⟩
 | @slice _ b len cap r h1 hl h0 hc hb hr hs ho hz hok=>
  have hs:cap<=r.size:=by have hs:cap*1<=r.size:=hs;omega
  obtain⟨s,hs2⟩:=iQ (G:=G) (l:=(List.range len).map r.get) λx hx=>by
   obtain⟨i,hi,rfl⟩:=YC.1 hx;have hi:=XM.1 hi;exact hok i (.int .u8) (by show i<cap*1;omega) (by show [Sh.int .u8][i % 1]? =_;rw[Nat.mod_one];rfl)
  have hsl:s.length=len:=by
   have:=congrArg List.length hs2
   simpa using this.symm
  have hget: ∀i,i<len->r.get i=Vk (s.getD i 0):=λi hi=>by
   have:=congrArg (λl=>l.getD i .unk) hs2;simp only[Ze,Z3,WQ hi,Zm (show i<s.length by omega),YY,RM] at this;rw[this,Ze,Zm (show i<s.length by omega)];rfl
  refine⟨s,λG'=>by rw[hsl];exact WH ..,λn hn=>Vh (by omega) ..,λn t=>V3 ..,λk hk=>?_⟩;have hkc:k<=cap:=by omega
  refine⟨.slice b 0 k (some cap),λG' hG=>?_,?_,λb' o n c h=>by cases h;exact hb⟩
  ·show Yx G' b _=_
   unfold Yx;rw[hG b hb,hr];show ZJ (Nat.ble k cap) (ZJ (Nat.ble 0 k) (ZJ (Nat.ble 0 cap) (cond (Nat.beq 0 cap) (OR.val (.slice b 0 (k - 0) (some 0)) G') (OR.val (.slice b (0+0*1) (k - 0) (some (cap - 0))) G'))))=_;have:Nat.beq 0 cap=false:=by rw[Yl];exact Zc (by omega)
   rw[Zj hkc,Zj (ZN _),Zj (ZN _),this];rfl
  ·right
   by_cases hk0:k=0
   ·subst hk0
    exact .inl ⟨by rw[Xd],.inr ⟨b,0,some cap,rfl⟩⟩
   ·have htl:(s.take k).length=k:=by rw[Zy];omega
    refine .inr ⟨λe=>hk0 (by rw[<-htl,e];rfl),b,0,some cap,r,by rw[htl],⟨hr,hz,by rw[htl];omega,λi hi=>?_,λc hc'=>?_⟩,hb⟩
    ·rw[htl] at hi
     rw[Zl,hget i (by omega),Ze,Ze,Yu hi]
    ·cases hc'
     rw[htl];omega
def Zcm(L:List Mem)(bh:Zd):Is L++bh=TQ L++KR bh:=by
 unfold Is KR oK;rw[show List.replicate 1024 (0:UInt8)=List.replicate 512 0++List.replicate 512 0 from by rw[List.replicate_append_replicate]];simp only[Yq]
def BB.imp{st st':Prop}{v:AV}{l:Zd}{q:Nat}(h:BB st H v l q)(hs:st'->st):BB st' H v l q:=by
 obtain⟨b,o,c,r,h1,h2,h3,h4,h5⟩:=h.is;exact⟨b,o,c,r,h1,h2,h3,h4,λs=>h5 (hs s)⟩
def Zd9(E:Env Zq fs Zk){ev v0:AV}{L:List Mem}{bl:Zd}{a:Nat}(gK:Ms H)(hE:lW H ev L)(hok: ∀i,i<L.length->yi (L.getD i default))(hB:BAr H v0 bl)(ha:a<65536):
  ∃H',ZA (LK Zq fs Zk 13) fs Zk (n+11) 3 [ev,v0,nI .u16 a] H=.ret (.bool true) H':=by
 rw[Z5 E.f3 (.inr rfl)];have hf:=E.big;have rf:=gK.gH.p.nx;have hro:=gK.gH.p.ro;obtain⟨w,H1,ea,k1,hV⟩:=az E (k0:=13) (n:=n+9) (λi hi=>(hok i hi).attrs) hro hE;have hok':=aA hok;have Zk4:(NM L).length<=12:=by rw[JP];omega
 have hEl: ∀x∈NM L,x.attrs.length<=90000:=λx hx=>by have:=(hok' x hx).1.ats;omega
 generalize NM L=L' at*;have gK1:=gK.keep0 k1;obtain⟨w2,H2,eb,Kc,k12,hb2⟩:=zD E (k:=13) (n:=n+2) (by decide) gK1.gH hV Zk4 hok';have k2:=k1.trans' k12;have gK2:=gK.keep0 k2;have hV2:=hV.keep k12;have ln1:=hV2.len;simp only[ea,eb,ln1,c3,ZG,Yj,Yg,];generalize hLL:Vq (tV _) Zk _ _ _=LL;obtain⟨o,OS,H3,rfl,_,rfl,k23,t0,t1,t2,t7,t8,t9,w5,t10,aM⟩:=YP (P:=λT=>ZcH H2 w w v0 (nI .u16 a) w2 (nI .i64 (if L'.all Xh then 0 else 1)) L' L'.length T H2) (Q:=ZgU H2 w v0 (nI .u16 a) w2 (nI .i64 (if L'.all Xh then 0 else 1)) L')
  (λT hi=>Y5 (ZcH H2 w w v0 (nI .u16 a) w2 (nI .i64 (if L'.all Xh then 0 else 1)) L') (ZgU H2 w v0 (nI .u16 a) w2 (nI .i64 (if L'.all Xh then 0 else 1)) L') (λm tm H2 h=>Zcn E (n:=n) (by decide) gK2.gH hV2 Zk4 hok' _ _ _ _ _ m tm H2 h) Zk L'.length T H2 (by omega) hi) hLL
  (by exact⟨Zu.refl _ _,rfl,rfl,rfl,rfl,rfl,rfl,rfl,0,.nils,rfl,by omega,rfl,rfl,.inl ⟨rfl,rfl⟩⟩)
 simp only[Pa,Kp,zU,G8,G9,fx,Du] at t0 t1 t2 t7 t8 t9 t10;have k3:=k2.trans' k23;have gK3:=gK.keep0 k3;have fF:=gK3.gH.p.ro;have kw:=Kc.keep k23 (λ_ _ _ _ _=>by simp);have hx23:=k23.nx;cases hall:L'.all Xh with
 |false=>
  rw[hall] at t8 t9 kw;simp only[if_false,Xp] at t8 kw;have ln2: ∀G,Kq w2 G=.val (nI .i64 0) G:=kw.len;obtain⟨H4,tl3,_⟩:=vh E (k:=13) (n:=n+1) (by decide) gK3.gH;simp only[t7,t8,t9,ln2,tl3,YQ,decide_true,ZG,Yj,Zz,Yc,Yg,KA,];exact⟨_,rfl⟩
 |true=>
  rw[hall] at t8 t9 kw;simp only[if_true] at t8 kw;have hM: ∀x∈L',tj x:=λx hx=>⟨hok' x hx,Ya.1 hall x hx⟩;have hTl0:=AX (L:=L') λy hy=>⟨hok' y hy,Ya.1 hall y hy⟩;have hwl:=ZjE (L:=L') λx hx=>Ya.1 hall x hx;have hmod:(Is L').length % 512=0:=by unfold Is;rw[Zh,ZB];have:=dA L';omega
  have hTl:(Is L').length<=24037024:=by
   unfold Is;rw[Zh,ZB];omega
  have hTp:1024<=(Is L').length:=by unfold Is;rw[Zh,ZB];omega
  have hte:=Zcm L';have hwb:wL L'++List.replicate 1024 0=Is L':=by rw[hwl];rfl
  obtain⟨w6,H4,e6,gb6,Fg,bk6⟩:=Cs aM (by omega) fF 1024 (by rw[hwl];unfold Is at hTl;rw[Zh,ZB] at hTl;omega);rw[hwb] at gb6;have b5:=aM.blk;have q4:Zu H2 H4 []:=k23.trans Fg λc hc hlt=>by have:=(b5 c hc).1;omega
  have k4:=k2.trans' q4;have hx4:=k4.nx;have hx24:=q4.nx;have hx34:=Fg.nx;have gK4:=gK.keep0 k4;have Zaj:=gK4.gH.p.ro;have oF:=Kc.keep q4 (λ_ _ _ _ _=>by simp);rw[hall] at oF;simp only[if_true] at oF;have hb4: ∀c∈Xk w2,c<H4.nx:=λc hc=>by have:=hb2 c hc;omega
  generalize Is L'=TT at*;obtain⟨v7,H5,e7,gb7,Dy,bk7⟩:=Iy (GB.nil H4 H4.nx) oF (Zs _) Zaj (by show 0+_<=_;omega);have gb7:GB H5 v7 TT H4.nx:=gb7;have Dy:Zu H4 H5 []:=Dy;have k5:=k4.trans' Dy;have hx5:=k5.nx;have hx45:=Dy.nx;have ZpB:=(gK.keep0 k5).gH.p.ro;obtain⟨v2,sl,hv2,Zo0⟩:=hB.cut (min bl.length 600) (Nat.min_le_left _ _);rw[oi] at hv2;obtain⟨bh,hbh⟩:=TO (bl.take 600);have hbl:bh.length<=600:=by rw[<-hbh,Zy];omega
  rw[hbh] at hv2;have hz:Sz H 1 v2 (ML bh):=by
   rcases hv2 with⟨e1,e2⟩|h
   ·exact .inl ⟨by rw[e1];rfl,e2⟩
   ·exact Bd h Zo0
  have hz5:=hz.keep0 k5;have Zpl:=gb7.blk;obtain⟨v8,H6,e80,gb8,v5,bk8⟩:=Ei gb7 (by omega) ZpB bh (by omega);have e8:TH 5 1 1 v7 v2 H5=.val v8 H6:=by
   rw[Hf hz5 (by decide) (by decide),U2,Nu];exact e80
  have k46:Zu H4 H6 []:=Dy.trans v5 λc hc hlt=>by have:=(Zpl c hc).1;omega
  have k6:=k4.trans' k46;have hx6:=k6.nx;have hx56:=v5.nx;have gK6:=gK.keep0 k6;have hne:TT++bh≠[]:=λh=>by have:=congrArg List.length h;rw[Zh] at this;have h0:([]:Zd).length=0:=rfl;omega
  obtain⟨wk,e,H7,e9,cE,z⟩:=sP E (K:=13) (n:=n) (by decide) (ct:=false) (bh:=bh) (sp:=False) gK6 hM (by omega) (λh=>by cases h) (tK gb8.bv hne) (by rw[Zh];omega) (.inl ⟨rfl,hte bh⟩);rcases z with⟨h,_⟩|⟨_,rfl,hW7,hbw⟩
  ·cases h
  have k47:=k46.trans' cE;have k7:=k4.trans' k47;have hx7:=k7.nx;have hx67:=cE.nx;have gK7:=gK.keep0 k7;have ZpC:=gK7.gH.p.ro;have hV7:=(hV2.keep q4).keep k47;have ek:=i5 E (k:=13) (n:=n+8) (by decide) ZpC hV7 hW7 (by omega) hEl;have bv7:=oF.keep k47 (λ_ _ _ _ _=>by simp);have ZkI:=gb6.keep k47 (λ_ _=>by simp);have s2:=Gx bv7;have s6:=Gx ZkI.bv;have n00: ∀G,NL WX true (nI .i64 0) (nI .i64 0) G=.val (.bool false) G:=λ_=>rfl;have ln2:=bv7.len;have rm0: ∀G,dG (nI .i64 TT.length) (nI .i64 512) G=.val (nI .i64 0) G:=λG=>by rw[mZ (by decide),hmod]
  have iv: ∀G,O1 .i64 (nI .u16 a) G=.val (nI .i64 a) G:=λG=>V1 (by omega) G;have rk: ∀G,dG (nI .i64 a) (nI .i64 TT.length) G=.val (nI .i64 (a % TT.length)) G:=λG=>mZ (by omega) G;have hk:a % TT.length<TT.length:=Wh _ (by omega);generalize a % TT.length=k at rk hk;obtain⟨v9,sl9,bb9⟩:=Zfz (tK bv7 (λh=>by rw[h] at hTp;exact absurd hTp (by decide))) (n:=k) (by omega) (.inl (by omega)) .i64;have Zqx:Uo 1 w2 none (some (nI .i64 k)) H7=.val v9 H7:=sl9 H7.nx H7.ro;obtain⟨wz,ez,H8,e10,k78,z⟩:=sP E (K:=13) (n:=n) (by decide) (ct:=true) (bh:=[]) (sp:=True) gK7 hM (by omega) (λ_=>rfl) (bb9.imp λ_=>.inl hk) (by rw[Zy];omega) (.inr ⟨rfl,trivial,k,by rw[<-hte,ZM];exact hk,by rw[<-hte,ZM]⟩);rcases z with⟨_,rfl⟩|⟨h,_⟩
  ·have k8:=k7.trans' k78
   obtain⟨H9,tl8,_⟩:=vh E (k:=13) (n:=n+1) (by decide) (gK.keep0 k8).gH;have lb:=hB.len;have l0:=hB.low H4.nx (by omega);have sl4: ∀a b,Uo 1 v0 none (some (nI .i64 (min bl.length 600))) ⟨a,H4.t,b⟩=.val v2 ⟨a,H4.t,b⟩:=λa b=>sl _ λc hc=>k4.get c hc (by simp);have sl5: ∀a b,Uo 1 v0 none (some (nI .i64 (min bl.length 600))) ⟨a,H5.t,b⟩=.val v2 ⟨a,H5.t,b⟩:=λa b=>sl _ λc hc=>k5.get c hc (by simp);have lw2:=PJ oF (n:=H4.nx) hb4;have sz2:=hz.same;have lwk:WZ H7.nx wk=true:=by
    obtain⟨ls,q1,_⟩:=hW7;exact q1.low (Zs _)
   have swk: ∀(n:Nat) (T:T Obj),Vo (.val wk ⟨n,T,n⟩) wk n=true:=by
    obtain⟨ls,q1,_⟩:=hW7;exact λn T=>(show Sz H7 9 wk ls from .inr q1).same n T
   clear hV hV2 hV7 hW7 gK gK1 gK2 gK3 gK4 gK6 gK7 hE hok hok' hM hEl hte aM gb6 gb7 gb8 ZkI Kc kw oF bv7 hB;simp only[t0,t1,t2,t7,t8,t9,t10,e6,e7,e8,e9,e10,lb,l0,sl4,sl5,lw2,sz2,lwk,N3,T5,Th,Ys,n00,s2,s6,ln2,rm0,ek,iv,rk,Zqx,tl8,YY,XH,ZD,ZO,YI,YQ,VL,decide_true,decide_false,YI,Ys,ZD,ZO,Oz,ZG,Yj,Zz,Yc,Xc,XZ,Nat.reducePow,Nat.reduceDiv,Nat.reduceMod,reduceCtorEq,Yg,KA,Ca,i4];exact⟨_,rfl⟩
  ·cases h
end
end
end Go.AI
