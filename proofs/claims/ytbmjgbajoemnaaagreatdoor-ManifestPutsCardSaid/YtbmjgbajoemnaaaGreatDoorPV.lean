/- The document's texts: walked: proved without conditions but those that each names. -/
import Derived.Test.YtbmjgbajoemnaaaGreatDoorPU
set_option maxRecDepth 1000000
set_option maxHeartbeats 0
set_option linter.unusedVariables false
set_option linter.unusedSimpArgs false
namespace Go.AI
open Go
noncomputable section
section
variable {Zp:Lib} {fs:T CF} {fuel k n i h b:Nat} {H H0:Heap} {s:List UInt8} {cs:List AV}
theorem cU{z:Int}(h:z<((0:Nat):Int))(G:Heap):Pb XC Yn (.int .i64 z) (nI .i64 0) G=.val (.bool true) G:=by
 cases z with
 |ofNat a=>exact absurd h (by show ¬((a:Int)<0);omega)
 |negSucc a=>rfl
theorem ZdS(E:Env Zp fs fuel){z:Int}{md:List UInt8}{v:AV}(hs:s.length=32)(hm:QG md=true):
  ∃H',ZJ (LK Zp fs fuel k) fs fuel (n+6) 16 [.agg (.str md::(s.map XM++[.int .i64 z,v]))] H=.ret (.bool false) H'∧Zq H H' []:=by
 rw[ZL (ZF E.n16 (.inr rfl) _ _) E.f16]
 obtain⟨cs,hcs⟩:=XZ ((.str md::(s.map XM++[.int .i64 z,v])))
 have ln:cs.length=35:=by rw[<-hcs,Zh,Zf,Zi,hs];rfl
 have o0: ∀G,ld1 (some (rH 42 cs)) 0 G=.val (.str md) G:=λG=>by
  rw[Z2 (by omega),<-hcs];rfl
 rw[hcs]
 obtain⟨H1,hH1⟩:=XZ (H.new (rH 42 cs))
 have bx:=YU (l:=cs) (by omega) 42 H
 rw[hH1] at bx
 have k1:Zq H H1 []:=by rw[<-hH1];exact Zq.new H _ _
 have g1:H1.t.get H.nx=some (rH 42 cs):=by rw[<-hH1,Zx rfl]
 rw[QG,Yj,Yj,Yj] at hm
 obtain⟨m0,m1,m2,m3⟩:=hm
 simp only[bx,g1,o0,m0,m1,m2,m3,VV,c16,ZC,ZY,Zz,Zw,Z4]
 refine⟨_,rfl,?_⟩
 exact k1
theorem ZdU(E:Env Zp fs fuel){u:Nat}{md:List UInt8}{l:List NP}{v:AV}(hs:s.length=32)(hm:QG md=false)(hu:u<=1099511627776)(hro:H.ro<=H.nx)(hN:NT H v l)(hLn:l.length<=100)(hS: ∀i,(l.getD i ([],[])).1.length<=1000∧(l.getD i ([],[])).2.length<=1000):
  ∃H',ZJ (LK Zp fs fuel k) fs fuel (n+6) 16 [.agg (.str md::(s.map XM++[nI .i64 u,v]))] H=.ret (.bool (KB l)) H'∧Zq H H' []:=by
 rw[ZL (ZF E.n16 (.inr rfl) _ _) E.f16]
 obtain⟨cs,hcs⟩:=XZ ((.str md::(s.map XM++[nI .i64 u,v])))
 have ln:cs.length=35:=by rw[<-hcs,Zh,Zf,Zi,hs];rfl
 have o0: ∀G,ld1 (some (rH 42 cs)) 0 G=.val (.str md) G:=λG=>by
  rw[Z2 (by omega),<-hcs];rfl
 have hc1:cs.getD 33 .unk=nI .i64 u∧cs.getD 34 .unk=v:=by
  rw[<-hcs,Za,Za,Yq,Yq,Zu (by rw[Zi,hs];exact Zl _),Zu (by rw[Zi,hs];decide),Zi,hs];exact⟨rfl,rfl⟩
 have JB: ∀G,ld1 (some (rH 42 cs)) 33 G=.val (nI .i64 u) G:=λG=>by rw[Z2 (by omega),hc1.1]
 have Jj: ∀G,ld1 (some (rH 42 cs)) 34 G=.val v G:=λG=>by rw[Z2 (by omega),hc1.2]
 rw[hcs]
 obtain⟨H1,hH1⟩:=XZ (H.new (rH 42 cs))
 have bx:=YU (l:=cs) (by omega) 42 H
 rw[hH1] at bx
 have k1:Zq H H1 []:=by rw[<-hH1];exact Zq.new H _ _
 have U2:H1.nx=H.nx+1:=by rw[<-hH1];rfl
 have g1:H1.t.get H.nx=some (rH 42 cs):=by rw[<-hH1,Zx rfl]
 have hN1:=hN.keep k1
 have lnn:=λG=>hN.len G
 have d1:decide (u<0)=false:=Zb (OC u)
 have d2:decide (1099511627776<u)=false:=Zb (by omega)
 by_cases hl:l.length<=16
 ·have d3:decide (16<l.length)=false:=Zb (by omega)
  have hnn:KB l=(List.range l.length).all (P5 l):=by unfold KB;rw[Ze hl];rfl
  cases m0:(!decide (md=U6))
  ·skip
   simp only[bx,g1,o0,JB,Jj,lnn,d1,d2,d3,VV,ZH,Yi,m0,c16,ZC,ZY,Zw,Z4,WG]
   generalize hL:XQ (Q9 _) fuel _ _ _=L
   obtain⟨o,Tx,H2,rfl,_,k2,z⟩:=YA (P:=λT=>eo H1 l H.nx l.length T H1) (Q:=λo tm' H'=>Zq H1 H' []∧((o=.exit 0∧ ∀j,j<l.length->P5 l j=true)∨(o=.ret∧Xy tm'=.bool false∧ ∃j,j<l.length∧P5 l j=false)))
    (λT hi=>YK (eo H1 l H.nx) (λo tm' H'=>Zq H1 H' []∧((o=.exit 0∧ ∀j,j<l.length->P5 l j=true)∨(o=.ret∧Xy tm'=.bool false∧ ∃j,j<l.length∧P5 l j=false))) (λm tm H' h=>Dq E hN1 hLn hS (by omega) g1 Jj _ _ _ _ _ m tm H' h) fuel l.length T H1 (by have:=E.big;omega) hi) hL
    (by exact⟨⟨0,rfl,Z8 _,by omega,λj hj=>by omega⟩,rfl,Zq.refl _ _,by rw[k1.ro];omega⟩)
   rcases z with⟨rfl,hall⟩|⟨rfl,u2,hbad⟩
   ·rw[hnn,MM hall]
    simp only[ZC,ZY,Zz,Z4]
    refine⟨_,rfl,?_⟩
    exact k1.trans' k2
   ·rw[hnn,M3 hbad]
    simp only[PN] at u2
    simp only[u2,ZC,Zz,Z4]
    refine⟨_,rfl,?_⟩
    exact k1.trans' k2
  ·skip
   cases m1:(!decide (md=RJ))
   ·skip
    simp only[bx,g1,o0,JB,Jj,lnn,d1,d2,d3,VV,ZH,Yi,m0,m1,c16,ZC,ZY,Zw,Z4,WG]
    generalize hL:XQ (Q9 _) fuel _ _ _=L
    obtain⟨o,Tx,H2,rfl,_,k2,z⟩:=YA (P:=λT=>eo H1 l H.nx l.length T H1) (Q:=λo tm' H'=>Zq H1 H' []∧((o=.exit 0∧ ∀j,j<l.length->P5 l j=true)∨(o=.ret∧Xy tm'=.bool false∧ ∃j,j<l.length∧P5 l j=false)))
     (λT hi=>YK (eo H1 l H.nx) (λo tm' H'=>Zq H1 H' []∧((o=.exit 0∧ ∀j,j<l.length->P5 l j=true)∨(o=.ret∧Xy tm'=.bool false∧ ∃j,j<l.length∧P5 l j=false))) (λm tm H' h=>Dq E hN1 hLn hS (by omega) g1 Jj _ _ _ _ _ m tm H' h) fuel l.length T H1 (by have:=E.big;omega) hi) hL
     (by exact⟨⟨0,rfl,Z8 _,by omega,λj hj=>by omega⟩,rfl,Zq.refl _ _,by rw[k1.ro];omega⟩)
    rcases z with⟨rfl,hall⟩|⟨rfl,u2,hbad⟩
    ·rw[hnn,MM hall]
     simp only[ZC,ZY,Zz,Z4]
     refine⟨_,rfl,?_⟩
     exact k1.trans' k2
    ·rw[hnn,M3 hbad]
     simp only[PN] at u2
     simp only[u2,ZC,Zz,Z4]
     refine⟨_,rfl,?_⟩
     exact k1.trans' k2
   ·skip
    cases m2:(!decide (md=Qh))
    ·skip
     simp only[bx,g1,o0,JB,Jj,lnn,d1,d2,d3,VV,ZH,Yi,m0,m1,m2,c16,ZC,ZY,Zw,Z4,WG]
     generalize hL:XQ (Q9 _) fuel _ _ _=L
     obtain⟨o,Tx,H2,rfl,_,k2,z⟩:=YA (P:=λT=>eo H1 l H.nx l.length T H1) (Q:=λo tm' H'=>Zq H1 H' []∧((o=.exit 0∧ ∀j,j<l.length->P5 l j=true)∨(o=.ret∧Xy tm'=.bool false∧ ∃j,j<l.length∧P5 l j=false)))
      (λT hi=>YK (eo H1 l H.nx) (λo tm' H'=>Zq H1 H' []∧((o=.exit 0∧ ∀j,j<l.length->P5 l j=true)∨(o=.ret∧Xy tm'=.bool false∧ ∃j,j<l.length∧P5 l j=false))) (λm tm H' h=>Dq E hN1 hLn hS (by omega) g1 Jj _ _ _ _ _ m tm H' h) fuel l.length T H1 (by have:=E.big;omega) hi) hL
      (by exact⟨⟨0,rfl,Z8 _,by omega,λj hj=>by omega⟩,rfl,Zq.refl _ _,by rw[k1.ro];omega⟩)
     rcases z with⟨rfl,hall⟩|⟨rfl,u2,hbad⟩
     ·rw[hnn,MM hall]
      simp only[ZC,ZY,Zz,Z4]
      refine⟨_,rfl,?_⟩
      exact k1.trans' k2
     ·rw[hnn,M3 hbad]
      simp only[PN] at u2
      simp only[u2,ZC,Zz,Z4]
      refine⟨_,rfl,?_⟩
      exact k1.trans' k2
    ·skip
     have m3:(!decide (md=RW))=false:=by rw[QG,m0,m1,m2] at hm;simpa using hm
     simp only[bx,g1,o0,JB,Jj,lnn,d1,d2,d3,VV,ZH,Yi,m0,m1,m2,m3,c16,ZC,ZY,Zw,Z4,WG]
     generalize hL:XQ (Q9 _) fuel _ _ _=L
     obtain⟨o,Tx,H2,rfl,_,k2,z⟩:=YA (P:=λT=>eo H1 l H.nx l.length T H1) (Q:=λo tm' H'=>Zq H1 H' []∧((o=.exit 0∧ ∀j,j<l.length->P5 l j=true)∨(o=.ret∧Xy tm'=.bool false∧ ∃j,j<l.length∧P5 l j=false)))
      (λT hi=>YK (eo H1 l H.nx) (λo tm' H'=>Zq H1 H' []∧((o=.exit 0∧ ∀j,j<l.length->P5 l j=true)∨(o=.ret∧Xy tm'=.bool false∧ ∃j,j<l.length∧P5 l j=false))) (λm tm H' h=>Dq E hN1 hLn hS (by omega) g1 Jj _ _ _ _ _ m tm H' h) fuel l.length T H1 (by have:=E.big;omega) hi) hL
      (by exact⟨⟨0,rfl,Z8 _,by omega,λj hj=>by omega⟩,rfl,Zq.refl _ _,by rw[k1.ro];omega⟩)
     rcases z with⟨rfl,hall⟩|⟨rfl,u2,hbad⟩
     ·rw[hnn,MM hall]
      simp only[ZC,ZY,Zz,Z4]
      refine⟨_,rfl,?_⟩
      exact k1.trans' k2
     ·rw[hnn,M3 hbad]
      simp only[PN] at u2
      simp only[u2,ZC,Zz,Z4]
      refine⟨_,rfl,?_⟩
      exact k1.trans' k2
 ·have d3:decide (16<l.length)=true:=Ze (by omega)
  have hnn:KB l=false:=by unfold KB;rw[Zb hl];rfl
  rw[hnn]
  cases m0:(!decide (md=U6))
  ·skip
   simp only[bx,g1,o0,JB,Jj,lnn,d1,d2,d3,VV,ZH,Yi,m0,c16,ZC,ZY,Zz,Zw,Z4,WG]
   refine⟨_,rfl,?_⟩
   exact k1
  ·skip
   cases m1:(!decide (md=RJ))
   ·skip
    simp only[bx,g1,o0,JB,Jj,lnn,d1,d2,d3,VV,ZH,Yi,m0,m1,c16,ZC,ZY,Zz,Zw,Z4,WG]
    refine⟨_,rfl,?_⟩
    exact k1
   ·skip
    cases m2:(!decide (md=Qh))
    ·skip
     simp only[bx,g1,o0,JB,Jj,lnn,d1,d2,d3,VV,ZH,Yi,m0,m1,m2,c16,ZC,ZY,Zz,Zw,Z4,WG]
     refine⟨_,rfl,?_⟩
     exact k1
    ·skip
     have m3:(!decide (md=RW))=false:=by rw[QG,m0,m1,m2] at hm;simpa using hm
     simp only[bx,g1,o0,JB,Jj,lnn,d1,d2,d3,VV,ZH,Yi,m0,m1,m2,m3,c16,ZC,ZY,Zz,Zw,Z4,WG]
     refine⟨_,rfl,?_⟩
     exact k1
theorem ZdT(E:Env Zp fs fuel){z:Int}{md:List UInt8}{l:List NP}{v:AV}(hs:s.length=32)(hm:QG md=false)(hu:z<((0:Nat):Int))(hro:H.ro<=H.nx)(hN:NT H v l)(hLn:l.length<=100)(hS: ∀i,(l.getD i ([],[])).1.length<=1000∧(l.getD i ([],[])).2.length<=1000):
  ∃H',ZJ (LK Zp fs fuel k) fs fuel (n+6) 16 [.agg (.str md::(s.map XM++[.int .i64 z,v]))] H=.ret (.bool false) H'∧Zq H H' []:=by
 rw[ZL (ZF E.n16 (.inr rfl) _ _) E.f16]
 obtain⟨cs,hcs⟩:=XZ ((.str md::(s.map XM++[.int .i64 z,v])))
 have ln:cs.length=35:=by rw[<-hcs,Zh,Zf,Zi,hs];rfl
 have o0: ∀G,ld1 (some (rH 42 cs)) 0 G=.val (.str md) G:=λG=>by
  rw[Z2 (by omega),<-hcs];rfl
 have hc1:cs.getD 33 .unk=.int .i64 z∧cs.getD 34 .unk=v:=by
  rw[<-hcs,Za,Za,Yq,Yq,Zu (by rw[Zi,hs];exact Zl _),Zu (by rw[Zi,hs];decide),Zi,hs];exact⟨rfl,rfl⟩
 have JB: ∀G,ld1 (some (rH 42 cs)) 33 G=.val (.int .i64 z) G:=λG=>by rw[Z2 (by omega),hc1.1]
 rw[hcs]
 obtain⟨H1,hH1⟩:=XZ (H.new (rH 42 cs))
 have bx:=YU (l:=cs) (by omega) 42 H
 rw[hH1] at bx
 have k1:Zq H H1 []:=by rw[<-hH1];exact Zq.new H _ _
 have g1:H1.t.get H.nx=some (rH 42 cs):=by rw[<-hH1,Zx rfl]
 have d1: ∀G,Pb XC Yn (.int .i64 z) (nI .i64 0) G=.val (.bool true) G:=λG=>cU hu G
 cases m0:(!decide (md=U6))
 ·skip
  simp only[bx,g1,o0,JB,VV,d1,m0,c16,ZC,ZY,Zz,Zw,Z4,WG]
  refine⟨_,rfl,?_⟩
  exact k1
 ·skip
  cases m1:(!decide (md=RJ))
  ·skip
   simp only[bx,g1,o0,JB,VV,d1,m0,m1,c16,ZC,ZY,Zz,Zw,Z4,WG]
   refine⟨_,rfl,?_⟩
   exact k1
  ·skip
   cases m2:(!decide (md=Qh))
   ·skip
    simp only[bx,g1,o0,JB,VV,d1,m0,m1,m2,c16,ZC,ZY,Zz,Zw,Z4,WG]
    refine⟨_,rfl,?_⟩
    exact k1
   ·skip
    have m3:(!decide (md=RW))=false:=by rw[QG,m0,m1,m2] at hm;simpa using hm
    simp only[bx,g1,o0,JB,VV,d1,m0,m1,m2,m3,c16,ZC,ZY,Zz,Zw,Z4,WG]
    refine⟨_,rfl,?_⟩
    exact k1
theorem ZdV(E:Env Zp fs fuel){z:Int}{md:List UInt8}{l:List NP}{v:AV}(hs:s.length=32)(hm:QG md=false)(hu:((1099511627776:Nat):Int)<z)(hro:H.ro<=H.nx)(hN:NT H v l)(hLn:l.length<=100)(hS: ∀i,(l.getD i ([],[])).1.length<=1000∧(l.getD i ([],[])).2.length<=1000):
  ∃H',ZJ (LK Zp fs fuel k) fs fuel (n+6) 16 [.agg (.str md::(s.map XM++[.int .i64 z,v]))] H=.ret (.bool false) H'∧Zq H H' []:=by
 rw[ZL (ZF E.n16 (.inr rfl) _ _) E.f16]
 obtain⟨cs,hcs⟩:=XZ ((.str md::(s.map XM++[.int .i64 z,v])))
 have ln:cs.length=35:=by rw[<-hcs,Zh,Zf,Zi,hs];rfl
 have o0: ∀G,ld1 (some (rH 42 cs)) 0 G=.val (.str md) G:=λG=>by
  rw[Z2 (by omega),<-hcs];rfl
 have hc1:cs.getD 33 .unk=.int .i64 z∧cs.getD 34 .unk=v:=by
  rw[<-hcs,Za,Za,Yq,Yq,Zu (by rw[Zi,hs];exact Zl _),Zu (by rw[Zi,hs];decide),Zi,hs];exact⟨rfl,rfl⟩
 have JB: ∀G,ld1 (some (rH 42 cs)) 33 G=.val (.int .i64 z) G:=λG=>by rw[Z2 (by omega),hc1.1]
 rw[hcs]
 obtain⟨H1,hH1⟩:=XZ (H.new (rH 42 cs))
 have bx:=YU (l:=cs) (by omega) 42 H
 rw[hH1] at bx
 have k1:Zq H H1 []:=by rw[<-hH1];exact Zq.new H _ _
 have g1:H1.t.get H.nx=some (rH 42 cs):=by rw[<-hH1,Zx rfl]
 have d1: ∀G,Pb XC Yn (.int .i64 z) (nI .i64 0) G=.val (.bool false) G:=λG=>by
  obtain⟨u,rfl⟩: ∃u:Nat,z=(u:Int):=⟨z.toNat,by omega⟩
  exact(ZH .i64 u 0 G).trans (by rw[Zb (OC u)])
 have d2: ∀G,Pb Sq VS (.int .i64 z) (nI .i64 1099511627776) G=.val (.bool true) G:=λG=>by
  obtain⟨u,rfl⟩: ∃u:Nat,z=(u:Int):=⟨z.toNat,by omega⟩
  exact(Yi .i64 u 1099511627776 G).trans (by rw[Ze (by omega)])
 cases m0:(!decide (md=U6))
 ·skip
  simp only[bx,g1,o0,JB,VV,d1,d2,m0,c16,ZC,ZY,Zz,Zw,Z4,WG]
  refine⟨_,rfl,?_⟩
  exact k1
 ·skip
  cases m1:(!decide (md=RJ))
  ·skip
   simp only[bx,g1,o0,JB,VV,d1,d2,m0,m1,c16,ZC,ZY,Zz,Zw,Z4,WG]
   refine⟨_,rfl,?_⟩
   exact k1
  ·skip
   cases m2:(!decide (md=Qh))
   ·skip
    simp only[bx,g1,o0,JB,VV,d1,d2,m0,m1,m2,c16,ZC,ZY,Zz,Zw,Z4,WG]
    refine⟨_,rfl,?_⟩
    exact k1
   ·skip
    have m3:(!decide (md=RW))=false:=by rw[QG,m0,m1,m2] at hm;simpa using hm
    simp only[bx,g1,o0,JB,VV,d1,d2,m0,m1,m2,m3,c16,ZC,ZY,Zz,Zw,Z4,WG]
    refine⟨_,rfl,?_⟩
    exact k1
theorem Ci(E:Env Zp fs fuel){x:Vz}(hro:H.ro<=H.nx)(hc:OA H cs x):
  ∃H',ZJ (LK Zp fs fuel k) fs fuel (n+6) 16 [.agg cs] H=.ret (.bool (Ku x.md x.z x.l)) H'∧Zq H H' []:=by
 obtain⟨v,rfl,hN,hd,hl,hS⟩:=hc
 have hS': ∀i,(x.l.getD i ([],[])).1.length<=1000∧(x.l.getD i ([],[])).2.length<=1000:=hS
 unfold Ku
 rw[wC]
 cases hm:QG x.md with
 |true=>exact ZdS E hd hm
 |false=>
  by_cases h0:x.z<((0:Nat):Int)
  ·rw[Zb (show ¬0<=x.z by omega),Y4,VB]
   exact ZdT E hd hm h0 hro hN.nt hl hS'
  by_cases h1:((1099511627776:Nat):Int)<x.z
  ·rw[Zb (show ¬x.z<=1099511627776 by omega),VB,VB]
   exact ZdV E hd hm h1 hro hN.nt hl hS'
  obtain⟨u,hu⟩: ∃u:Nat,x.z=(u:Int):=⟨x.z.toNat,by omega⟩
  rw[Ze (show 0<=x.z by omega),Ze (show x.z<=1099511627776 by omega),hu]
  rw[Xi,Yz,Bool.and_self,UE]
  exact ZdU E hd hm (by omega) hro hN.nt hl hS'
theorem Ce{x:Vz}(h:He x)(hb:BD x):(dT x).length<=300000:=by
 rw[<-Eh h 0]
 exact Zn (JV.text_len Ev 3 (dJ x) (xl h 1)) (xL h hb 1)
theorem PQ{c:Nat}: ∀(l:List (List UInt8)),(∀x∈l,x.length<=c)->(XS l).length<=l.length*(1+c):=λl h=>by
 refine Zn (JV.join_sum l) ?_
 exact G7 (λx=>1+x.length) (1+c) l λx hx=>by have:=h x hx;show 1+x.length<=_;omega
structure TSI(Hs:Heap)(v:AV)(media:List UInt8)(L:List Vz)(m:Nat)(tm:TM)(H:Heap):Prop where
 k:Zq Hs H []
 t0:Ys tm=v
 t1:Y2 tm=.str media
 i: ∃i,WB tm=nI .i64 i∧i+m=L.length∧WN tm=.str ([91]++XS ((L.map dT).take i))∧ ∀j,j<i->Ut media (L.getD j default)=false
def TSQ(Hs:Heap)(v:AV)(media:List UInt8)(L:List Vz)(o:Out)(tm:TM)(H:Heap):Prop:=Zq Hs H []∧((o=.exit 0∧Ys tm=v∧WN tm=.str ([91]++XS (L.map dT))∧L.any (Ut media)=false)∨(o=.ret∧Xf tm=.str []∧X5 tm=.bool false∧L.any (Ut media)=true))
theorem z9{media:List UInt8}{x:Vz}(h:Ut media x=false):He x:=by
 unfold Ut at h
 rw[V5] at h
 exact sS (by simpa using h.2)
theorem aE(E:Env Zp fs fuel){Hs:Heap}{v:AV}{media:List UInt8}{L:List Vz}(hro:Hs.ro<=Hs.nx)(hV:Te Hs v L)(hL:L.length<=1000)(y f dd r)(X0:X)(m:Nat)(tm:TM)(H:Heap)(hI:TSI Hs v media L m tm H):
  ∃o tm' H',LW ⟨ZJ (LK Zp fs fuel k) fs fuel (n+20),y,f,dd,r⟩ tm H X0=.ok o tm' H' X0∧((o=.normal∧ ∃k,k<m∧TSI Hs v media L k tm' H')∨(o≠.normal∧TSQ Hs v media L o tm' H')):=by
 obtain⟨k0,t0,t1,i,t7,him,t6,hg⟩:=hI
 have t0':=t0;have t1':=t1;have t6':=t6
 simp only[Pn,PM,Ab,CK] at t0 t1 t6 t7
 have ln:=hV.len
 cases m with
 |zero=>
  have d1:decide (i<L.length)=false:=Zb (by omega)
  rw[ZB (by rw[Zi];omega)] at t6'
  simp only[t0,t7,d1,ln,ZH,LW,ZC,ZY,Z4]
  refine⟨_,_,_,rfl,?_⟩
  exact .inr ⟨by simp,k0,.inl ⟨rfl,t0',t6',kj λj hj=>hg j (by omega)⟩⟩
 |succ m=>
  have d1:decide (i<L.length)=true:=Ze (by omega)
  have hi:i<L.length:=by omega
  have hbd:=hV.bd
  obtain⟨ls,sl,hll,hc⟩:=hV.keep k0
  obtain⟨bb,o,R,eI,hbb,gR,Ge,ld1R⟩:=sl.at_ (i:=i) (by omega)
  have hc:=hc i hi
  have Rm:H.ro<=H.nx:=by rw[k0.ro];exact Zn hro k0.nx
  obtain⟨H1,e1,k1⟩:=Ci E (k:=k) (n:=n+14) Rm hc
  have e1:ZJ (LK Zp fs fuel k) fs fuel (n+20) 16 [.agg (ls.getD i [])] H=.ret (.bool (Ku (L.getD i default).md (L.getD i default).z (L.getD i default).l)) H1:=e1
  have gR1:H1.t.get bb=some (.row R):=by rw[k1.get _ hbb (by simp)];exact gR
  have l0: ∀G,ld1 (some (.row R)) o G=.val (.str (L.getD i default).md) G:=λG=>by
   have:=ld1R 0 G (by decide)
   rw[ZZ] at this
   rw[this]
   obtain⟨v',e,_⟩:=hc
   rw[e];rfl
  have ad:=λG=>YZ (a:=i) (b:=1) (by omega) G
  have hx:Ut media (L.getD i default)=(!decide ((L.getD i default).md=media)||!Ku (L.getD i default).md (L.getD i default).z (L.getD i default).l):=rfl
  have CM:([91]++XS ((L.map dT).take (i+1)):List UInt8)=([91]++XS ((L.map dT).take i)++(if 0<i then [44] else []))++dT (L.getD i default):=by
   have e0:(L.map dT).getD i []=dT (L.getD i default):=L7 dT L default [] hi
   cases i with
   |zero=>
    rw[TU (by rw[Zi];exact hi) ([]:List UInt8),e0,VD]
    show([91]++(dT (L.getD 0 default)++[]):List UInt8)=[91]++[]++[]++_
    rw[Yl,Yl,Yl]
   |succ i=>
    rw[M1 (by rw[Zi];exact hi),e0,if_pos (Nat.succ_pos i)]
    simp only[Y6]
  have hbx:=hbd (L.getD i default) (by rw[Za,Zg hi];exact Y0 hi)
  have hJ:([91]++XS ((L.map dT).take i):List UInt8).length<=1+1000*300001:=by
   have:=PQ (c:=300000) ((L.map dT).take i) λx hx=>by
    obtain⟨j,hj,rfl⟩:=W6.1 hx
    rw[ZP,Zi] at hj
    rw[List.getElem_take,Rp]
    have:=hg j (by omega)
    rw[Za,Zg (by omega)] at this
    exact Ce (z9 this) (hbd _ (Y0 _))
   have h2:=Y5 (1+300000) (show((L.map dT).take i).length<=1000 by rw[ZP];omega)
   rw[Zf,Zh,Zv]
   omega
  generalize([91]++XS ((L.map dT).take i):List UInt8)=J at*
  cases hm:Ku (L.getD i default).md (L.getD i default).z (L.getD i default).l with
  |false=>
   rw[hm] at e1 hx
   rw[Xi,Bool.or_true] at hx
   simp only[t0,t7,d1,ln,eI,gR,Ge,e1,Y8,ZH,Rc,LW,ZC,ZY,Zw,Z4]
   refine⟨_,_,_,rfl,?_⟩
   exact .inr ⟨by simp,k0.trans' k1,.inr ⟨rfl,rfl,rfl,yi hi hx⟩⟩
  |true=>
   have ok:=sS hm
   rw[hm] at e1 hx
   rw[Xn,Bool.or_false] at hx
   have eqm:=λG=>VV (L.getD i default).md media G
   cases hb:decide ((L.getD i default).md=media) with
   |false=>
    rw[hb] at hx eqm
    rw[Xi] at hx eqm
    simp only[t0,t1,t7,d1,ln,eI,gR,gR1,Ge,l0,e1,eqm,Y8,ZH,Rc,ZZ,LW,ZC,ZY,Zw,Z4]
    refine⟨_,_,_,rfl,?_⟩
    exact .inr ⟨by simp,k0.trans' k1,.inr ⟨rfl,rfl,rfl,yi hi hx⟩⟩
   |true=>
    rw[hb] at hx eqm
    rw[Xn] at hx eqm
    obtain⟨v',ecs,hN,hd,hln,hS⟩:=hc.keep k1
    obtain⟨u,hu⟩: ∃u:Nat,(L.getD i default).z=(u:Int):=⟨(L.getD i default).z.toNat,(Int.toNat_of_nonneg ok.z0).symm⟩
    have hut:(L.getD i default).z.toNat=u:=by rw[hu,Wi]
    have Qw:H1.ro<=H1.nx:=by rw[k1.ro];exact Zn Rm k1.nx
    have hz1:=ok.z1
    obtain⟨H2,e2,k2⟩:=oB E (k:=k) (n:=n+13) (md:=(L.getD i default).md) (u:=u) (l:=(L.getD i default).l) (H:=H1) hd (by have:=sA ok;omega) (by omega) hN.nt hln hS Qw
    have e2:ZJ (LK Zp fs fuel k) fs fuel (n+20) 38 [.agg (ls.getD i [])] H1=.ret (.str (dT (L.getD i default))) H2:=by
     rw[ecs,hu]
     unfold dT
     rw[hut];exact e2
    have hdl:=Ce ok hbx
    have hnew: ∀j,j<i+1->Ut media (L.getD j default)=false:=λj hj=>by
     by_cases h:j=i
     ·rw[h];exact hx
     ·exact hg j (by omega)
    generalize hX:dT (L.getD i default)=T at*
    by_cases h0:0<i
    ·have d2:decide (0<i)=true:=Ze h0
     rw[if_pos h0] at CM
     have p1:=λG=>YI (a:=J) (b:=[44]) (by rw[Zh,Zv];omega) G
     obtain⟨J',hJ'⟩:=XZ (J++[44])
     have hJl:J'.length=J.length+1:=by rw[<-hJ',Zf];rfl
     rw[hJ'] at p1 CM
     have p2:=λG=>YI (a:=J') (b:=T) (by omega) G
     simp only[t0,t1,t6,t7,d1,d2,ln,eI,gR,gR1,Ge,l0,e1,e2,p1,p2,ad,eqm,Y8,ZH,Yi,Rc,ZZ,LW,ZC,ZY,Zw,Z4,WG]
     refine⟨_,_,_,rfl,?_⟩
     exact .inl ⟨rfl,m,by omega,⟨(k0.trans' k1).trans' k2,t0',t1',i+1,rfl,by omega,by rw[CM];rfl,hnew⟩⟩
    ·have d2:decide (0<i)=false:=Zb h0
     rw[if_neg h0,Yl] at CM
     have p2:=λG=>YI (a:=J) (b:=T) (by omega) G
     simp only[t0,t1,t6,t7,d1,d2,ln,eI,gR,gR1,Ge,l0,e1,e2,p2,ad,eqm,Y8,ZH,Yi,Rc,ZZ,LW,ZC,ZY,Zw,Z4,WG]
     refine⟨_,_,_,rfl,?_⟩
     exact .inl ⟨rfl,m,by omega,⟨(k0.trans' k1).trans' k2,t0',t1',i+1,rfl,by omega,by rw[CM];rfl,hnew⟩⟩
theorem Ei(E:Env Zp fs fuel){v:AV}{media:List UInt8}{L:List Vz}(hro:H.ro<=H.nx)(hV:Te H v L)(hL:L.length<=1000):
  ∃H',ZJ (LK Zp fs fuel k) fs fuel (n+21) 21 [v,.str media] H=.ret (.tup [.str (if L.any (Ut media)=true then [] else Um L),.bool (RG media L)]) H'∧Zq H H' []:=by
 rw[ZL (ZF E.n21 (.inr rfl) _ _) E.f21]
 have ln:=hV.len
 simp only[c21,ZC,Z4]
 generalize hLo:XQ (LW _) fuel _ _ _=Lp
 obtain⟨o,Tx,H1,rfl,_,k1,h⟩:=YA (P:=λT=>TSI H v media L L.length T H) (Q:=TSQ H v media L)
  (λT hi=>YK (TSI H v media L) (TSQ H v media L) (λm tm H' h=>aE E (n:=n) hro hV hL _ _ _ _ _ m tm H' h) fuel L.length T H (by have:=E.big;omega) hi) hLo
  (by exact⟨Zq.refl _ _,rfl,rfl,0,rfl,by omega,rfl,λj hj=>by omega⟩)
 unfold RG
 rcases h with⟨rfl,t0,t6,hn⟩|⟨rfl,t4,t5,hb⟩
 ·simp only[Pn,Ab] at t0 t6
  rw[hn,if_neg (by decide),Xi,UE]
  have hJ:([91]++XS (L.map dT):List UInt8).length<=1+1000*300001:=by
   have:=PQ (c:=300000) (L.map dT) λx hx=>by
    obtain⟨y,hy,rfl⟩:=YC.1 hx
    have:=V6.1 hn y hy
    exact Ce (z9 (by simpa using this)) (hV.bd y hy)
   have h2:=Y5 (1+300000) (show(L.map dT).length<=1000 by rw[Zi];omega)
   rw[Zf,Zh,Zv]
   omega
  unfold Um
  generalize([91]++XS (L.map dT):List UInt8)=J at*
  have p1:=λG=>YI (a:=J) (b:=[93]) (by rw[Zh,Zv];omega) G
  simp only[t0,t6,p1,ln,X6,ZC,ZY,Zz,Z4,WG]
  refine⟨_,rfl,?_⟩
  exact k1
 ·simp only[OI,yL] at t4 t5
  rw[hb,if_pos rfl,Xn,VB]
  simp only[t4,t5,ZC,Zz,Z4]
  refine⟨_,rfl,?_⟩
  exact k1
theorem DG{media:List UInt8}{L:List Vz}(h:RG media L=true):(if L.any (Ut media)=true then [] else Um L)=Um L:=by
 unfold RG at h
 rw[Yj] at h
 rw[if_neg (by simpa using h.2)]
theorem BR{media:List UInt8}{L:List Vz}(h:RG media L=true)(hb: ∀x∈L,BD x):(Um L).length<=39000000:=by
 obtain⟨hl,ho⟩:=Hj h
 have:=PQ (c:=300000) (L.map dT) λx hx=>by
  obtain⟨y,hy,rfl⟩:=YC.1 hx
  exact Ce (ho y hy).1 (hb y hy)
 have h2:=Y5 (1+300000) (show(L.map dT).length<=127 by rw[Zi];exact hl)
 unfold Um
 rw[Zf,Zf,Zh,Zh,Zv]
 omega
theorem gT(h:s.length<=60):(qt s).length<=400:=by
 have:=NN s;omega
theorem m6(E:Env Zp fs fuel){v:AV}{L:List Vz}(hro:H.ro<=H.nx)(hV:Te H v L)(hL:L.length<=1000):
  ∃r H',ZJ (LK Zp fs fuel k) fs fuel (n+22) 11 [v] H=.ret r H'∧Zq H H' []∧OB H' (RG U6 L) (M0 L) r:=by
 rw[ZL (ZF E.n11 (.inr rfl) _ _) E.f11]
 obtain⟨H1,e1,k1⟩:=Ei E (k:=k) (n:=n) (media:=U6) hro hV hL
 have Rm:H1.ro<=H1.nx:=by rw[k1.ro];exact Zn hro k1.nx
 cases ho:RG U6 L with
 |false=>
  rw[ho] at e1
  generalize(if L.any (Ut U6)=true then [] else Um L)=T at e1
  simp(maxSteps:=4000000) (disch:=first|assumption|omega|(simp -implicitDefEqProofs only[ZQ,ZR]<;>first|assumption|omega)|decide) only[e1,c11,ZC,ZY,Zz,Zw,Zr,Zt,ZA,Nat.reduceEqDiff,reduceCtorEq,Z4]
  exact⟨_,_,rfl,k1,.inl ⟨rfl,rfl⟩⟩
 |true=>
  rw[ho,DG ho] at e1
  have hl:=BR ho hV.bd
  obtain⟨H2,e2,k2⟩:=Tl E (k:=k) (n:=n+15) (s:=RJ) (H:=H1) (by decide) Rm
  have e2:ZJ (LK Zp fs fuel k) fs fuel (n+21) 22 [.str RJ] H1=.ret (.str (qt RJ)) H2:=e2
  have hq:=gT (s:=RJ) (by decide)
  unfold M0
  generalize Um L=T at*
  generalize qt RJ=Q at*
  have l1:([123,34,109,97,110,105,102,101,115,116,115,34,58]:List UInt8).length=13:=rfl
  have l2:([44,34,109,101,100,105,97,84,121,112,101,34,58]:List UInt8).length=13:=rfl
  have l3:(C1:List UInt8).length<=60:=by decide
  have p1:=λG=>YI (a:=[123,34,109,97,110,105,102,101,115,116,115,34,58]) (b:=T) (by omega) G
  obtain⟨J1,jC⟩: ∃l:List UInt8,[123,34,109,97,110,105,102,101,115,116,115,34,58]++T=l:=⟨_,rfl⟩
  have m1:J1.length=13+T.length:=by rw[<-jC,Zf,l1]
  rw[jC] at p1
  have p2:=λG=>YI (a:=J1) (b:=[44,34,109,101,100,105,97,84,121,112,101,34,58]) (by omega) G
  obtain⟨J2,hJ2⟩: ∃l:List UInt8,J1++[44,34,109,101,100,105,97,84,121,112,101,34,58]=l:=⟨_,rfl⟩
  have m2:J2.length=J1.length+13:=by rw[<-hJ2,Zf,l2]
  rw[hJ2] at p2
  have p3:=λG=>YI (a:=J2) (b:=Q) (by omega) G
  obtain⟨J3,hJ3⟩: ∃l:List UInt8,J2++Q=l:=⟨_,rfl⟩
  have m3:J3.length=J2.length+Q.length:=by rw[<-hJ3,Zf]
  rw[hJ3] at p3
  have p4:=λG=>YI (a:=J3) (b:=C1) (by omega) G
  rw[jC,hJ2,hJ3]
  generalize J3++C1=J at*
  have bv:=λG=>Q8 5 J G
  simp(maxSteps:=4000000) (disch:=first|assumption|omega|(simp -implicitDefEqProofs only[ZQ,ZR]<;>first|assumption|omega)|decide) only[e1,e2,p1,p2,p3,p4,bv,c11,ZC,ZY,Zz,Zw,Zr,Zt,ZA,Nat.reduceEqDiff,reduceCtorEq,Z4]
  exact⟨_,_,rfl,(k1.trans' k2).then_new _,.inr ⟨rfl,H2.nx,rfl,Yo _,Zx rfl _⟩⟩
theorem vI(x:Vz):Um [x]=[91]++dT x++[93]:=by
 unfold Um
 show [91]++(dT x++[])++[93]=_
 rw[Yl]
theorem mZ(E:Env Zp fs fuel){v:AV}{x:Vz}{L:List Vz}(hro:H.ro<=H.nx)(hc:OA H cs x)(hV:Te H v L)(hL:L.length<=1000):
  ∃r H',ZJ (LK Zp fs fuel k) fs fuel (n+22) 7 [.agg cs,v] H=.ret r H'∧Zq H H' []∧OB H' (RG Qh [x]&&RG RW L) (MZ x L) r:=by
 rw[ZL (ZF E.n7 (.inr rfl) _ _) E.f7]
 have Ac:=hc.len
 have bx:=YU (l:=cs) (by omega) 42 H
 have q7: ∀G,ldN 35 (some (rH 42 cs)) 0 G=.val (.agg cs) G:=λG=>by
  rw[X8 (by omega),Z6,ZB (by omega)]
 obtain⟨H1,hH1⟩:=XZ (H.new (rH 42 cs))
 obtain⟨H2,hH2⟩:=XZ (H1.new (rG 42 35 cs 0 false true true))
 rw[hH1] at bx
 have k1:Zq H H1 []:=by rw[<-hH1];exact Zq.new H _ _
 have k12:Zq H1 H2 []:=by rw[<-hH2];exact Zq.new _ _ _
 have k2:=k1.trans' k12
 have g1:H1.t.get H.nx=some (rH 42 cs):=by rw[<-hH1];exact Zx rfl _
 have g2:H2.t.get H1.nx=some (rG 42 35 cs 0 false true true):=by rw[<-hH2];exact Zx rfl _
 have bs: ∀G,Wa 42 35 1 zD [(0,35,.agg cs)] G=.val (.slice G.nx 0 1 none) (G.new (rG 42 35 cs 0 false true true)):=λG=>Oh (sz:=35) rfl Ac (by decide) G
 have hX:Te H2 (.slice H1.nx 0 1 none) [x]:=⟨[cs],⟨λl hl=>by rw[YP.1 hl];exact Ac,.inr ⟨H1.nx,0,none,rfl,by rw[<-hH2];exact Yo _,λ_=>⟨_,g2,by show 0+1*35<=YF cs;rw[Yw,Ac];decide,λi hi=>by
  rw[IQ,Zs,W8,List.flatten_nil,Yl]⟩⟩⟩,rfl,λi hi=>by
  obtain rfl:i=0:=Nat.lt_one_iff.1 hi
  exact hc.keep k2⟩
 have Qw:H2.ro<=H2.nx:=by rw[k2.ro];exact Zn hro k2.nx
 obtain⟨H3,e3,k3⟩:=Ei E (k:=k) (n:=n) (media:=Qh) Qw hX (by show 1<=1000;decide)
 have NS:=k2.trans' k3
 have GJ:H3.ro<=H3.nx:=by rw[NS.ro];exact Zn hro NS.nx
 obtain⟨H4,e4,k4⟩:=Ei E (k:=k) (n:=n) (media:=RW) GJ (hV.keep NS) hL
 have uK:=NS.trans' k4
 have B5:H4.ro<=H4.nx:=by rw[uK.ro];exact Zn hro uK.nx
 cases ha:RG Qh [x] with
 |false=>
  rw[ha] at e3
  generalize(if [x].any (Ut Qh)=true then [] else Um [x])=T at e3
  generalize(if L.any (Ut RW)=true then [] else Um L)=T2 at e4
  generalize RG RW L=bb at e4
  rw[Y4]
  simp only[bx,g1,q7,bs,hH2,e3,e4,Rc,Y8,WP,YS,ZE,Yb,c7,ZC,ZY,Zz,Zw,Z4]
  exact⟨_,_,rfl,uK,.inl ⟨rfl,rfl⟩⟩
 |true=>
  rw[ha,DG ha] at e3
  rw[Yz]
  have oX:=(Hj ha).2 x (YP.2 rfl)
  have hlX:=Ce oX.1 hc.bd
  have hm:(Um [x]).length=(dT x).length+2:=by rw[vI,Zf,Zf];rw[Zh,Zh,Zv];omega
  have sl: ∀G,Lh (.str (Um [x])) (some (nI .i64 1)) (some (nI .i64 ((Um [x]).length - 1))) G=.val (.str (dT x)) G:=λG=>by
   rw[Ox (by omega) (by omega)]
   congr 2
   have e1:(Um [x]).length - 1=([91]++dT x:List UInt8).length:=by rw[hm,Zf,Zh,Zv];omega
   rw[e1,vI,List.take_left];rfl
  have sb: ∀G,az (nI .i64 (Um [x]).length) (nI .i64 1) G=.val (nI .i64 ((Um [x]).length - 1)) G:=λG=>Vj (by omega) (by omega) G
  cases ho:RG RW L with
  |false=>
   rw[ho] at e4
   generalize(if L.any (Ut RW)=true then [] else Um L)=T2 at e4
   generalize Um [x]=A at*
   simp only[bx,g1,q7,bs,hH2,e3,e4,Rc,Y8,WP,YS,ZE,Yb,c7,ZC,ZY,Zz,Zw,Z4]
   exact⟨_,_,rfl,uK,.inl ⟨rfl,rfl⟩⟩
  |true=>
   rw[ho,DG ho] at e4
   have hl:=BR ho hV.bd
   obtain⟨H5,e5,k5⟩:=Tl E (k:=k) (n:=n+15) (s:=U6) (H:=H4) (by decide) B5
   have e5:ZJ (LK Zp fs fuel k) fs fuel (n+21) 22 [.str U6] H4=.ret (.str (qt U6)) H5:=e5
   have hq:=gT (s:=U6) (by decide)
   unfold MZ
   generalize Um [x]=A at*
   generalize Um L=T at*
   generalize qt U6=Q at*
   generalize dT x=B at*
   have l1:([123,34,99,111,110,102,105,103,34,58]:List UInt8).length<=60:=by decide
   have l2:([44,34,108,97,121,101,114,115,34,58]:List UInt8).length<=60:=by decide
   have l3:([44,34,109,101,100,105,97,84,121,112,101,34,58]:List UInt8).length<=60:=by decide
   have l4:(C1:List UInt8).length<=60:=by decide
   have p1:=λG=>YI (a:=[123,34,99,111,110,102,105,103,34,58]) (b:=B) (by omega) G
   obtain⟨J1,jC⟩: ∃l:List UInt8,[123,34,99,111,110,102,105,103,34,58]++B=l:=⟨_,rfl⟩
   have m1:J1.length<=60+B.length:=by rw[<-jC,Zf];omega
   rw[jC] at p1
   have p2:=λG=>YI (a:=J1) (b:=[44,34,108,97,121,101,114,115,34,58]) (by omega) G
   obtain⟨J2,hJ2⟩: ∃l:List UInt8,J1++[44,34,108,97,121,101,114,115,34,58]=l:=⟨_,rfl⟩
   have m2:J2.length<=J1.length+60:=by rw[<-hJ2,Zf];omega
   rw[hJ2] at p2
   have p3:=λG=>YI (a:=J2) (b:=T) (by omega) G
   obtain⟨J3,hJ3⟩: ∃l:List UInt8,J2++T=l:=⟨_,rfl⟩
   have m3:J3.length=J2.length+T.length:=by rw[<-hJ3,Zf]
   rw[hJ3] at p3
   have p4:=λG=>YI (a:=J3) (b:=[44,34,109,101,100,105,97,84,121,112,101,34,58]) (by omega) G
   obtain⟨J4,hJ4⟩: ∃l:List UInt8,J3++[44,34,109,101,100,105,97,84,121,112,101,34,58]=l:=⟨_,rfl⟩
   have m4:J4.length<=J3.length+60:=by rw[<-hJ4,Zf];omega
   rw[hJ4] at p4
   have p5:=λG=>YI (a:=J4) (b:=Q) (by omega) G
   obtain⟨J5,hJ5⟩: ∃l:List UInt8,J4++Q=l:=⟨_,rfl⟩
   have m5:J5.length=J4.length+Q.length:=by rw[<-hJ5,Zf]
   rw[hJ5] at p5
   have p6:=λG=>YI (a:=J5) (b:=C1) (by omega) G
   rw[jC,hJ2,hJ3,hJ4,hJ5]
   generalize J5++C1=J at*
   have bv:=λG=>Q8 5 J G
   simp only[bx,g1,q7,bs,hH2,e3,e4,e5,sl,sb,p1,p2,p3,p4,p5,p6,bv,Gi,Y7,Rc,Y8,WP,YS,ZE,Yb,c7,ZC,ZY,Zz,Zw,Zr,ZA,Z4,WG]
   exact⟨_,_,rfl,(uK.trans' k5).then_new _,.inr ⟨rfl,H5.nx,rfl,Yo _,Zx rfl _⟩⟩
def qn(d:List UInt8):List UInt8:=qt (R6 d)
theorem rj{d:List UInt8}(h:d.length=32):(qn d).length<=430:=by
 have:=NN (R6 d)
 rw[Jf h] at this
 unfold qn;omega
structure RCI(Hs:Heap)(v:AV)(L:List (List UInt8))(P:List UInt8)(m:Nat)(tm:TM)(H:Heap):Prop where
 k:Zq Hs H []
 t2:Xy tm=v
 i: ∃i,Wv tm=nI .i64 i∧i+m=L.length∧Wc tm=.str (P++XS ((L.map qn).take i))
def RCQ(Hs:Heap)(L:List (List UInt8))(P:List UInt8)(o:Out)(tm:TM)(H:Heap):Prop:=o=.exit 0∧Zq Hs H []∧Wc tm=.str (P++XS (L.map qn))
theorem bZ(E:Env Zp fs fuel){Hs:Heap}{v:AV}{L:List (List UInt8)}{P:List UInt8}(hro:Hs.ro<=Hs.nx)(hV:Na Hs v L)(hL:L.length<=1000)(hP:P.length<=1000000)(y f dd r)(X0:X)(m:Nat)(tm:TM)(H:Heap)(hI:RCI Hs v L P m tm H):
  ∃o tm' H',Fl ⟨ZJ (LK Zp fs fuel k) fs fuel (n+6),y,f,dd,r⟩ tm H X0=.ok o tm' H' X0∧((o=.normal∧ ∃k,k<m∧RCI Hs v L P k tm' H')∨(o≠.normal∧RCQ Hs L P o tm' H')):=by
 obtain⟨k0,t2,i,t9,him,t8⟩:=hI
 have t2':=t2;have zW:=t8
 simp only[PN,Jw,yM] at t2 t8 t9
 have ln:=hV.slv.2.2
 cases m with
 |zero=>
  have d1:decide (i<L.length)=false:=Zb (by omega)
  rw[ZB (by rw[Zi];omega)] at zW
  simp only[t2,t9,d1,ln,ZH,Fl,ZC,ZY,Z4,WG]
  refine⟨_,_,_,rfl,?_⟩
  exact .inr ⟨by simp,rfl,k0,zW⟩
 |succ m=>
  have d1:decide (i<L.length)=true:=Ze (by omega)
  have hi:i<L.length:=by omega
  have h32:=hV.len32
  obtain⟨xs,sl,hll,hc⟩:=hV.keep k0
  obtain⟨bb,o,R,eI,hbb,gR,Ge,_⟩:=sl.at_ (i:=i) (by omega)
  obtain⟨hx,hd⟩:=hc i hi
  rw[hx] at Ge
  have Rm:H.ro<=H.nx:=by rw[k0.ro];exact Zn hro k0.nx
  obtain⟨H1,e1,k1⟩:=vx E (k:=k) (n:=n+5) (s:=L.getD i []) (H:=H) hd
  have Qw:H1.ro<=H1.nx:=by rw[k1.ro];exact Zn Rm k1.nx
  obtain⟨H2,e2,k2⟩:=Tl E (k:=k) (n:=n) (s:=R6 (L.getD i [])) (H:=H1) (by rw[Jf hd];decide) Qw
  have e1:ZJ (LK Zp fs fuel k) fs fuel (n+6) 28 [.agg ((L.getD i []).map XM)] H=.ret (.str (R6 (L.getD i []))) H1:=e1
  have e2:ZJ (LK Zp fs fuel k) fs fuel (n+6) 22 [.str (R6 (L.getD i []))] H1=.ret (.str (qn (L.getD i []))) H2:=e2
  have hql:=rj hd
  have ad:=λG=>YZ (a:=i) (b:=1) (by omega) G
  have hJ:(P++XS ((L.map qn).take i)).length<=1000000+1000*431:=by
   have:=PQ (c:=430) ((L.map qn).take i) λx hx=>by
    obtain⟨d,hd,rfl⟩:=YC.1 (US hx)
    exact rj (h32 d hd)
   have h2:=Y5 (1+430) (show((L.map qn).take i).length<=1000 by rw[ZP];omega)
   rw[Zf]
   omega
  have CM:P++XS ((L.map qn).take (i+1))=(P++XS ((L.map qn).take i)++(if 0<i then [44] else []))++qn (L.getD i []):=by
   have e0:(L.map qn).getD i []=qn (L.getD i []):=L7 qn L [] [] hi
   cases i with
   |zero=>
    rw[TU (by rw[Zi];exact hi) ([]:List UInt8),e0,VD]
    show P++(qn (L.getD 0 [])++[])=P++[]++[]++_
    rw[Yl,Yl,Yl]
   |succ i=>
    rw[M1 (by rw[Zi];exact hi),e0,if_pos (Nat.succ_pos i)]
    simp only[Y6]
  generalize P++XS ((L.map qn).take i)=J at*
  generalize R6 (L.getD i [])=N at*
  generalize qn (L.getD i [])=T at*
  generalize(L.getD i []).map XM=cs at*
  by_cases h0:0<i
  ·have d2:decide (0<i)=true:=Ze h0
   rw[if_pos h0] at CM
   have p1:=λG=>YI (a:=J) (b:=[44]) (by rw[Zh,Zv];omega) G
   obtain⟨J',hJ'⟩:=XZ (J++[44])
   have hJl:J'.length=J.length+1:=by rw[<-hJ',Zf];rfl
   rw[hJ'] at p1 CM
   have p2:=λG=>YI (a:=J') (b:=T) (by omega) G
   simp only[t2,t8,t9,d1,d2,ln,eI,gR,Ge,e1,e2,p1,p2,ad,Y8,ZH,Yi,Fl,ZC,ZY,Z4,WG]
   refine⟨_,_,_,rfl,?_⟩
   exact .inl ⟨rfl,m,by omega,⟨k0.trans' (k1.trans' k2),t2',i+1,rfl,by omega,by rw[CM];rfl⟩⟩
  ·have d2:decide (0<i)=false:=Zb h0
   rw[if_neg h0,Yl] at CM
   have p2:=λG=>YI (a:=J) (b:=T) (by omega) G
   simp only[t2,t8,t9,d1,d2,ln,eI,gR,Ge,e1,e2,p2,ad,Y8,ZH,Yi,Fl,ZC,ZY,Z4,WG]
   refine⟨_,_,_,rfl,?_⟩
   exact .inl ⟨rfl,m,by omega,⟨k0.trans' (k1.trans' k2),t2',i+1,rfl,by omega,by rw[CM];rfl⟩⟩
theorem mY(E:Env Zp fs fuel){a b:List UInt8}{v:AV}{L:List (List UInt8)}(hro:H.ro<=H.nx)(ha:a.length<=9000)(hb:b.length<=9000)(hV:Na H v L)(hL:L.length<=1000):
  ∃r H',ZJ (LK Zp fs fuel k) fs fuel (n+7) 13 [.str a,.str b,v] H=.ret r H'∧Zq H H' []∧OB H' (okC a b L) (Oj a b L) r:=by
 rw[ZL (ZF E.n13 (.inr rfl) _ _) E.f13]
 obtain⟨H1,e1,k1⟩:=Nt E (k:=k) (n:=n+1) (m:=255) (s:=a) (H:=H) (by omega) hro
 have e1:ZJ (LK Zp fs fuel k) fs fuel (n+6) 27 [.str a,nI .i64 255] H=.ret (.bool (decide (a.length<=255)&&vu a)) H1:=e1
 have Rm:H1.ro<=H1.nx:=by rw[k1.ro];exact Zn hro k1.nx
 obtain⟨H2,e2,k2⟩:=Nt E (k:=k) (n:=n+1) (m:=255) (s:=b) (H:=H1) (by omega) Rm
 have e2:ZJ (LK Zp fs fuel k) fs fuel (n+6) 27 [.str b,nI .i64 255] H1=.ret (.bool (decide (b.length<=255)&&vu b)) H2:=e2
 have Qw:H2.ro<=H2.nx:=by rw[k2.ro];exact Zn Rm k2.nx
 have ln:=hV.slv.2.2
 unfold okC
 cases hA:(decide (a.length<=255)&&vu a) with
 |false=>
  rw[hA] at e1
  rw[Y4,Y4]
  simp only[e1,Rc,c13,ZC,ZY,Zz,Zw,Z4]
  exact⟨_,_,rfl,k1,.inl ⟨rfl,rfl⟩⟩
 |true=>
 rw[hA] at e1
 rw[Yz]
 cases hB:(decide (b.length<=255)&&vu b) with
 |false=>
  rw[hB] at e2
  rw[Y4]
  simp only[e1,e2,Rc,c13,ZC,ZY,Zz,Zw,Z4]
  exact⟨_,_,rfl,k1.trans' k2,.inl ⟨rfl,rfl⟩⟩
 |true=>
 rw[hB] at e2
 rw[Yz]
 by_cases hl:L.length<=127
 ·have d1:decide (127<L.length)=false:=Zb (by omega)
  rw[Ze hl]
  obtain⟨H3,e3,k3⟩:=Tl E (k:=k) (n:=n) (s:=a) (H:=H2) (by omega) Qw
  have e3:ZJ (LK Zp fs fuel k) fs fuel (n+6) 22 [.str a] H2=.ret (.str (qt a)) H3:=e3
  have GJ:H3.ro<=H3.nx:=by rw[k3.ro];exact Zn Qw k3.nx
  obtain⟨H4,e4,k4⟩:=Tl E (k:=k) (n:=n) (s:=b) (H:=H3) (by omega) GJ
  have e4:ZJ (LK Zp fs fuel k) fs fuel (n+6) 22 [.str b] H3=.ret (.str (qt b)) H4:=e4
  have uK:=((k1.trans' k2).trans' k3).trans' k4
  have B5:H4.ro<=H4.nx:=by rw[uK.ro];exact Zn hro uK.nx
  have qa:=NN a
  have qb:=NN b
  have ZiS:Oj a b L=((sg++qt a++[44,34,111,115,34,58]++qt b++si)++XS (L.map qn))++sj:=rfl
  rw[ZiS]
  generalize qt a=A at*
  generalize qt b=B at*
  have l1:(sg:List UInt8).length<=60:=by decide
  have l2:([44,34,111,115,34,58]:List UInt8).length<=60:=by decide
  have l3:(si:List UInt8).length<=60:=by decide
  have l4:(sj:List UInt8).length<=60:=by decide
  have p1:=λG=>YI (a:=sg) (b:=A) (by omega) G
  obtain⟨J1,jC⟩: ∃l:List UInt8,sg++A=l:=⟨_,rfl⟩
  have m1:J1.length<=60+A.length:=by rw[<-jC,Zf];omega
  rw[jC] at p1
  have p2:=λG=>YI (a:=J1) (b:=[44,34,111,115,34,58]) (by omega) G
  obtain⟨J2,hJ2⟩: ∃l:List UInt8,J1++[44,34,111,115,34,58]=l:=⟨_,rfl⟩
  have m2:J2.length<=J1.length+60:=by rw[<-hJ2,Zf];omega
  rw[hJ2] at p2
  have p3:=λG=>YI (a:=J2) (b:=B) (by omega) G
  obtain⟨J3,hJ3⟩: ∃l:List UInt8,J2++B=l:=⟨_,rfl⟩
  have m3:J3.length=J2.length+B.length:=by rw[<-hJ3,Zf]
  rw[hJ3] at p3
  have p4:=λG=>YI (a:=J3) (b:=si) (by omega) G
  obtain⟨J4,hJ4⟩: ∃l:List UInt8,J3++si=l:=⟨_,rfl⟩
  have m4:J4.length<=J3.length+60:=by rw[<-hJ4,Zf];omega
  rw[hJ4] at p4
  rw[jC,hJ2,hJ3,hJ4]
  simp only[e1,e2,e3,e4,d1,ln,p1,p2,p3,p4,Yi,Rc,c13,ZC,ZY,Zw,Z4]
  generalize hLo:XQ (Fl _) fuel _ _ _=Lp
  obtain⟨o,Tx,H5,rfl,_,rfl,k5,t8⟩:=YA (P:=λT=>RCI H4 v L J4 L.length T H4) (Q:=RCQ H4 L J4)
   (λT hi=>YK (RCI H4 v L J4) (RCQ H4 L J4) (λm tm H' h=>bZ E (n:=n) B5 (hV.keep uK) hL (by omega) _ _ _ _ _ m tm H' h) fuel L.length T H4 (by have:=E.big;omega) hi) hLo
   (by exact⟨Zq.refl _ _,rfl,0,rfl,by omega,by rw[VD];show _=AV.str (J4++[]);rw[Yl];rfl⟩)
  simp only[Jw] at t8
  have hJ:(J4++XS (L.map qn)).length<=1000000+1000*431:=by
   have:=PQ (c:=430) (L.map qn) λx hx=>by
    obtain⟨d,hd,rfl⟩:=YC.1 hx
    exact rj (hV.len32 d hd)
   have h2:=Y5 (1+430) (show(L.map qn).length<=1000 by rw[Zi];omega)
   rw[Zf]
   omega
  generalize J4++XS (L.map qn)=J5 at*
  have p5:=λG=>YI (a:=J5) (b:=sj) (by omega) G
  generalize J5++sj=J at*
  have bv:=λG=>Q8 5 J G
  simp only[t8,p5,bv,ZC,ZY,Zz,Z4,WG]
  exact⟨_,_,rfl,(uK.trans' k5).then_new _,.inr ⟨rfl,H5.nx,rfl,Yo _,Zx rfl _⟩⟩
 ·have d1:decide (127<L.length)=true:=Ze (by omega)
  rw[Zb hl]
  simp only[e1,e2,d1,ln,Yi,Rc,c13,ZC,ZY,Zz,Zw,Z4]
  exact⟨_,_,rfl,k1.trans' k2,.inl ⟨rfl,rfl⟩⟩
end
end
end Go.AI
