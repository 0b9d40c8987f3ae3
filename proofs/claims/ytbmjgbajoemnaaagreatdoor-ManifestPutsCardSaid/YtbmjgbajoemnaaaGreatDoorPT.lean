/- May descriptors be: walked: proved without conditions but those that each names. -/
import Derived.Test.YtbmjgbajoemnaaaGreatDoorPF
import Derived.Test.YtbmjgbajoemnaaaGreatDoorP6
set_option maxRecDepth 1000000
set_option maxHeartbeats 0
set_option linter.unusedVariables false
set_option linter.unusedSimpArgs false
namespace Go.AI
open Go
noncomputable section
section
variable {Zp:Lib} {fs:T CF} {fuel k n i h b:Nat} {H H0:Heap} {s:List UInt8} {cs:List AV}
theorem mL(E:Env Zp fs fuel){u:Nat}(hk:2<=k){md:List UInt8}{l:List NP}{v:AV}(hs:s.length=32)(hu:u<=1099511627776)(hro:H.ro<=H.nx)(gU: ∀G,Zq H G []->Vy G)(hN:Dh H v l)(hLn:l.length<=100)(hS: ∀i,(l.getD i ([],[])).1.length<=1000∧(l.getD i ([],[])).2.length<=1000):
  ∃H',ZJ (LK Zp fs fuel k) fs fuel (n+6) 15 [.agg (.str md::(s.map XM++[nI .i64 u,v]))] H=.ret (.bool (P8 md l)) H'∧Zq H H' []:=by
 rw[ZL (ZF E.n15 (.inr rfl) _ _) E.f15]
 obtain⟨cs,hcs⟩:=XZ ((.str md::(s.map XM++[nI .i64 u,v])))
 have ln:cs.length=35:=by rw[<-hcs,Zh,Zf,Zi,hs];rfl
 have o0: ∀G,ld1 (some (rH 26 cs)) 0 G=.val (.str md) G:=λG=>by
  rw[Z2 (by omega),<-hcs];rfl
 have hc1:cs.getD 33 .unk=nI .i64 u∧cs.getD 34 .unk=v:=by
  rw[<-hcs,Za,Za,Yq,Yq,Zu (by rw[Zi,hs];exact Zl _),Zu (by rw[Zi,hs];decide),Zi,hs];exact⟨rfl,rfl⟩
 have JB: ∀G,ld1 (some (rH 26 cs)) 33 G=.val (nI .i64 u) G:=λG=>by rw[Z2 (by omega),hc1.1]
 have Jj: ∀G,ld1 (some (rH 26 cs)) 34 G=.val v G:=λG=>by rw[Z2 (by omega),hc1.2]
 rw[hcs]
 obtain⟨H1,hH1⟩:=XZ (H.new (rH 26 cs))
 have bx:=YU (l:=cs) (by omega) 26 H
 rw[hH1] at bx
 have k1:Zq H H1 []:=by rw[<-hH1];exact Zq.new H _ _
 have U2:H1.nx=H.nx+1:=by rw[<-hH1];rfl
 have g1:H1.t.get H.nx=some (rH 26 cs):=by rw[<-hH1,Zx rfl]
 have hN1:=hN.keep k1
 have lnn:=λG=>hN.nt.len G
 simp only[bx,g1,Jj,lnn,c15,ZC,ZY,Zw,Z4,]
 generalize hL:XQ (P2 _) fuel _ _ _=L
 obtain⟨o,Tx,H2,rfl,_,k2,z⟩:=YA (P:=λT=>aQ H1 l v H.nx l.length T H1) (Q:=λo tm' H'=>Zq H1 H' []∧((o=.exit 0∧Y2 tm'=.ptr H.nx 0∧ ∀j,j<l.length->P5 l j=true)∨(o=.ret∧Xy tm'=.bool false∧ ∃j,j<l.length∧P5 l j=false)))
  (λT hi=>YK (aQ H1 l v H.nx) (λo tm' H'=>Zq H1 H' []∧((o=.exit 0∧Y2 tm'=.ptr H.nx 0∧ ∀j,j<l.length->P5 l j=true)∨(o=.ret∧Xy tm'=.bool false∧ ∃j,j<l.length∧P5 l j=false))) (λm tm H' h=>xq E hk (λG hG=>gU G (k1.trans' hG)) hN1 hLn hS (by omega) g1 Jj _ _ _ _ _ m tm H' h) fuel l.length T H1 (by have:=E.big;omega) hi) hL
  (by exact⟨⟨0,rfl,Z8 _,by omega,λj hj=>by omega⟩,rfl,rfl,rfl,Zq.refl _ _,by rw[k1.ro];omega⟩)
 have n2:=k2.nx
 rcases z with⟨rfl,t1,hall⟩|⟨rfl,u2,hbad⟩
 ·have hd:P8 md l=(!QG md&&decide (l.length<=16)):=by unfold P8;rw[MM hall];rfl
  simp only[PM] at t1
  obtain⟨H3,hH3⟩:=XZ (H2.new (rH 9 E9))
  have k3:Zq H2 H3 []:=by rw[<-hH3];exact Zq.new _ _ _
  have g3:H3.t.get H2.nx=some (rH 9 E9):=by rw[<-hH3];exact Zx rfl _
  have jt:H3.t.get H.nx=some (rH 26 cs):=by rw[k3.get _ (by omega) (by simp),k2.get _ (by omega) (by simp)];exact g1
  have bs:Wa 9 1 4 (List.replicate 4 [(.str [])]).flatten [(0,1,.str RJ),(1,1,.str U6),(2,1,.str Qh),(3,1,.str RW)] H2=.val (.slice H2.nx 0 4 none) H3:=by rw[<-hH3];rfl
  have ec:=MR E (k:=k) (n:=n+3) (md:=md) g3
  have d1:decide (0<=u)=true:=Ze (Z8 u)
  have d2:decide (u<=1099511627776)=true:=Ze (by omega)
  rw[hd]
  cases hm:QG md
  ·rw[hm] at ec
   have ec:ZJ (LK Zp fs fuel k) fs fuel (n+3+2) 30 [.slice H2.nx 0 4 none,.str md] H3=.ret (.bool true) H3:=ec
   by_cases hl:l.length<=16
   ·have d3:decide (l.length<=16)=true:=Ze hl
    rw[d3]
    simp only[t1,bs,jt,o0,JB,Jj,ec,d1,d2,d3,lnn,YS,ZE,Yb,Xb,X6,UE,Xi,ZC,ZY,Zz,Zw,Z4,WG,Rn]
    refine⟨_,rfl,?_⟩
    exact(k1.trans' k2).trans' k3
   ·have d3:decide (l.length<=16)=false:=Zb hl
    rw[d3]
    simp only[t1,bs,jt,o0,JB,Jj,ec,d1,d2,d3,lnn,YS,ZE,Yb,Xb,X6,VB,Xi,ZC,ZY,Zz,Zw,Z4,WG,Rn]
    refine⟨_,rfl,?_⟩
    exact(k1.trans' k2).trans' k3
  ·rw[hm] at ec
   have ec:ZJ (LK Zp fs fuel k) fs fuel (n+3+2) 30 [.slice H2.nx 0 4 none,.str md] H3=.ret (.bool false) H3:=ec
   simp only[t1,bs,jt,o0,ec,YS,ZE,Yb,Xn,Y4,ZC,ZY,Zz,Zw,Z4,WG,Rn]
   refine⟨_,rfl,?_⟩
   exact(k1.trans' k2).trans' k3
 ·have hd:P8 md l=false:=by unfold P8;rw[M3 hbad];rfl
  rw[hd]
  simp only[PN] at u2
  simp only[u2,ZC,Zz,Z4,]
  refine⟨_,rfl,?_⟩
  exact k1.trans' k2
theorem mM(E:Env Zp fs fuel){u:Nat}(hk:2<=k){md:List UInt8}{l:List NP}{v:AV}(hs:s.length=32)(hu:1099511627776<u)(hro:H.ro<=H.nx)(gU: ∀G,Zq H G []->Vy G)(hN:Dh H v l)(hLn:l.length<=100)(hS: ∀i,(l.getD i ([],[])).1.length<=1000∧(l.getD i ([],[])).2.length<=1000):
  ∃H',ZJ (LK Zp fs fuel k) fs fuel (n+6) 15 [.agg (.str md::(s.map XM++[nI .i64 u,v]))] H=.ret (.bool false) H'∧Zq H H' []:=by
 rw[ZL (ZF E.n15 (.inr rfl) _ _) E.f15]
 obtain⟨cs,hcs⟩:=XZ ((.str md::(s.map XM++[nI .i64 u,v])))
 have ln:cs.length=35:=by rw[<-hcs,Zh,Zf,Zi,hs];rfl
 have o0: ∀G,ld1 (some (rH 26 cs)) 0 G=.val (.str md) G:=λG=>by
  rw[Z2 (by omega),<-hcs];rfl
 have hc1:cs.getD 33 .unk=nI .i64 u∧cs.getD 34 .unk=v:=by
  rw[<-hcs,Za,Za,Yq,Yq,Zu (by rw[Zi,hs];exact Zl _),Zu (by rw[Zi,hs];decide),Zi,hs];exact⟨rfl,rfl⟩
 have JB: ∀G,ld1 (some (rH 26 cs)) 33 G=.val (nI .i64 u) G:=λG=>by rw[Z2 (by omega),hc1.1]
 have Jj: ∀G,ld1 (some (rH 26 cs)) 34 G=.val v G:=λG=>by rw[Z2 (by omega),hc1.2]
 rw[hcs]
 obtain⟨H1,hH1⟩:=XZ (H.new (rH 26 cs))
 have bx:=YU (l:=cs) (by omega) 26 H
 rw[hH1] at bx
 have k1:Zq H H1 []:=by rw[<-hH1];exact Zq.new H _ _
 have U2:H1.nx=H.nx+1:=by rw[<-hH1];rfl
 have g1:H1.t.get H.nx=some (rH 26 cs):=by rw[<-hH1,Zx rfl]
 have hN1:=hN.keep k1
 have lnn:=λG=>hN.nt.len G
 simp only[bx,g1,Jj,lnn,c15,ZC,ZY,Zw,Z4,]
 generalize hL:XQ (P2 _) fuel _ _ _=L
 obtain⟨o,Tx,H2,rfl,_,k2,z⟩:=YA (P:=λT=>aQ H1 l v H.nx l.length T H1) (Q:=λo tm' H'=>Zq H1 H' []∧((o=.exit 0∧Y2 tm'=.ptr H.nx 0∧ ∀j,j<l.length->P5 l j=true)∨(o=.ret∧Xy tm'=.bool false∧ ∃j,j<l.length∧P5 l j=false)))
  (λT hi=>YK (aQ H1 l v H.nx) (λo tm' H'=>Zq H1 H' []∧((o=.exit 0∧Y2 tm'=.ptr H.nx 0∧ ∀j,j<l.length->P5 l j=true)∨(o=.ret∧Xy tm'=.bool false∧ ∃j,j<l.length∧P5 l j=false))) (λm tm H' h=>xq E hk (λG hG=>gU G (k1.trans' hG)) hN1 hLn hS (by omega) g1 Jj _ _ _ _ _ m tm H' h) fuel l.length T H1 (by have:=E.big;omega) hi) hL
  (by exact⟨⟨0,rfl,Z8 _,by omega,λj hj=>by omega⟩,rfl,rfl,rfl,Zq.refl _ _,by rw[k1.ro];omega⟩)
 have n2:=k2.nx
 rcases z with⟨rfl,t1,hall⟩|⟨rfl,u2,hbad⟩
 ·have hd:P8 md l=(!QG md&&decide (l.length<=16)):=by unfold P8;rw[MM hall];rfl
  simp only[PM] at t1
  obtain⟨H3,hH3⟩:=XZ (H2.new (rH 9 E9))
  have k3:Zq H2 H3 []:=by rw[<-hH3];exact Zq.new _ _ _
  have g3:H3.t.get H2.nx=some (rH 9 E9):=by rw[<-hH3];exact Zx rfl _
  have jt:H3.t.get H.nx=some (rH 26 cs):=by rw[k3.get _ (by omega) (by simp),k2.get _ (by omega) (by simp)];exact g1
  have bs:Wa 9 1 4 (List.replicate 4 [(.str [])]).flatten [(0,1,.str RJ),(1,1,.str U6),(2,1,.str Qh),(3,1,.str RW)] H2=.val (.slice H2.nx 0 4 none) H3:=by rw[<-hH3];rfl
  have ec:=MR E (k:=k) (n:=n+3) (md:=md) g3
  have d1:decide (0<=u)=true:=Ze (Z8 u)
  have d2:decide (u<=1099511627776)=false:=Zb (by omega)
  cases hm:QG md
  ·rw[hm] at ec
   have ec:ZJ (LK Zp fs fuel k) fs fuel (n+3+2) 30 [.slice H2.nx 0 4 none,.str md] H3=.ret (.bool true) H3:=ec
   by_cases hl:l.length<=16
   ·have d3:decide (l.length<=16)=true:=Ze hl
    simp only[t1,bs,jt,o0,JB,ec,d1,d2,YS,ZE,Yb,Xb,X6,ZC,ZY,Zz,Zw,Z4,WG,Rn]
    refine⟨_,rfl,?_⟩
    exact(k1.trans' k2).trans' k3
   ·have d3:decide (l.length<=16)=false:=Zb hl
    simp only[t1,bs,jt,o0,JB,ec,d1,d2,YS,ZE,Yb,Xb,X6,ZC,ZY,Zz,Zw,Z4,WG,Rn]
    refine⟨_,rfl,?_⟩
    exact(k1.trans' k2).trans' k3
  ·rw[hm] at ec
   have ec:ZJ (LK Zp fs fuel k) fs fuel (n+3+2) 30 [.slice H2.nx 0 4 none,.str md] H3=.ret (.bool false) H3:=ec
   simp only[t1,bs,jt,o0,ec,YS,ZE,Yb,ZC,ZY,Zz,Zw,Z4,WG,Rn]
   refine⟨_,rfl,?_⟩
   exact(k1.trans' k2).trans' k3
 ·have hd:P8 md l=false:=by unfold P8;rw[M3 hbad];rfl
  simp only[PN] at u2
  simp only[u2,ZC,Zz,Z4,]
  refine⟨_,rfl,?_⟩
  exact k1.trans' k2
theorem dY{z:Int}(h:z<((0:Nat):Int))(G:Heap):Pb SK Vd (.int .i64 z) (nI .i64 0) G=.val (.bool false) G:=by
 cases z with
 |ofNat a=>exact absurd h (by show ¬((a:Int)<0);omega)
 |negSucc a=>rfl
theorem mK(E:Env Zp fs fuel){z:Int}(hk:2<=k){md:List UInt8}{l:List NP}{v:AV}(hs:s.length=32)(hu:z<((0:Nat):Int))(hro:H.ro<=H.nx)(gU: ∀G,Zq H G []->Vy G)(hN:Dh H v l)(hLn:l.length<=100)(hS: ∀i,(l.getD i ([],[])).1.length<=1000∧(l.getD i ([],[])).2.length<=1000):
  ∃H',ZJ (LK Zp fs fuel k) fs fuel (n+6) 15 [.agg (.str md::(s.map XM++[.int .i64 z,v]))] H=.ret (.bool false) H'∧Zq H H' []:=by
 rw[ZL (ZF E.n15 (.inr rfl) _ _) E.f15]
 obtain⟨cs,hcs⟩:=XZ ((.str md::(s.map XM++[.int .i64 z,v])))
 have ln:cs.length=35:=by rw[<-hcs,Zh,Zf,Zi,hs];rfl
 have o0: ∀G,ld1 (some (rH 26 cs)) 0 G=.val (.str md) G:=λG=>by
  rw[Z2 (by omega),<-hcs];rfl
 have hc1:cs.getD 33 .unk=.int .i64 z∧cs.getD 34 .unk=v:=by
  rw[<-hcs,Za,Za,Yq,Yq,Zu (by rw[Zi,hs];exact Zl _),Zu (by rw[Zi,hs];decide),Zi,hs];exact⟨rfl,rfl⟩
 have JB: ∀G,ld1 (some (rH 26 cs)) 33 G=.val (.int .i64 z) G:=λG=>by rw[Z2 (by omega),hc1.1]
 have Jj: ∀G,ld1 (some (rH 26 cs)) 34 G=.val v G:=λG=>by rw[Z2 (by omega),hc1.2]
 rw[hcs]
 obtain⟨H1,hH1⟩:=XZ (H.new (rH 26 cs))
 have bx:=YU (l:=cs) (by omega) 26 H
 rw[hH1] at bx
 have k1:Zq H H1 []:=by rw[<-hH1];exact Zq.new H _ _
 have U2:H1.nx=H.nx+1:=by rw[<-hH1];rfl
 have g1:H1.t.get H.nx=some (rH 26 cs):=by rw[<-hH1,Zx rfl]
 have hN1:=hN.keep k1
 have lnn:=λG=>hN.nt.len G
 simp(maxSteps:=4000000) (disch:=first|assumption|omega|(simp -implicitDefEqProofs only[ZQ,ZR]<;>first|assumption|omega)|decide) only[bx,g1,Jj,lnn,c15,ZC,ZY,Zz,Zw,Zr,Zt,ZA,Nat.reduceEqDiff,reduceCtorEq,Z4,WG,Rn]
 generalize hL:XQ (P2 _) fuel _ _ _=L
 obtain⟨o,Tx,H2,rfl,_,k2,z⟩:=YA (P:=λT=>aQ H1 l v H.nx l.length T H1) (Q:=λo tm' H'=>Zq H1 H' []∧((o=.exit 0∧Y2 tm'=.ptr H.nx 0∧ ∀j,j<l.length->P5 l j=true)∨(o=.ret∧Xy tm'=.bool false∧ ∃j,j<l.length∧P5 l j=false)))
  (λT hi=>YK (aQ H1 l v H.nx) (λo tm' H'=>Zq H1 H' []∧((o=.exit 0∧Y2 tm'=.ptr H.nx 0∧ ∀j,j<l.length->P5 l j=true)∨(o=.ret∧Xy tm'=.bool false∧ ∃j,j<l.length∧P5 l j=false))) (λm tm H' h=>xq E hk (λG hG=>gU G (k1.trans' hG)) hN1 hLn hS (by omega) g1 Jj _ _ _ _ _ m tm H' h) fuel l.length T H1 (by have:=E.big;omega) hi) hL
  (by exact⟨⟨0,rfl,Z8 _,by omega,λj hj=>by omega⟩,rfl,rfl,rfl,Zq.refl _ _,by rw[k1.ro];omega⟩)
 have n2:=k2.nx
 rcases z with⟨rfl,t1,hall⟩|⟨rfl,u2,hbad⟩
 ·have hd:P8 md l=(!QG md&&decide (l.length<=16)):=by unfold P8;rw[MM hall];rfl
  simp only[PM] at t1
  obtain⟨H3,hH3⟩:=XZ (H2.new (rH 9 E9))
  have k3:Zq H2 H3 []:=by rw[<-hH3];exact Zq.new _ _ _
  have g3:H3.t.get H2.nx=some (rH 9 E9):=by rw[<-hH3];exact Zx rfl _
  have jt:H3.t.get H.nx=some (rH 26 cs):=by rw[k3.get _ (by omega) (by simp),k2.get _ (by omega) (by simp)];exact g1
  have bs:Wa 9 1 4 (List.replicate 4 [(.str [])]).flatten [(0,1,.str RJ),(1,1,.str U6),(2,1,.str Qh),(3,1,.str RW)] H2=.val (.slice H2.nx 0 4 none) H3:=by rw[<-hH3];rfl
  have ec:=MR E (k:=k) (n:=n+3) (md:=md) g3
  have d1: ∀G,Pb SK Vd (.int .i64 z) (nI .i64 0) G=.val (.bool false) G:=λG=>dY hu G
  cases hm:QG md
  ·rw[hm] at ec
   have ec:ZJ (LK Zp fs fuel k) fs fuel (n+3+2) 30 [.slice H2.nx 0 4 none,.str md] H3=.ret (.bool true) H3:=ec
   by_cases hl:l.length<=16
   ·have d3:decide (l.length<=16)=true:=Ze hl
    simp(maxSteps:=4000000) (disch:=first|assumption|omega|(simp -implicitDefEqProofs only[ZQ,ZR]<;>first|assumption|omega)|decide) only[t1,bs,jt,o0,JB,Jj,ec,d1,d3,lnn,YS,ZE,Yb,Xb,X6,UE,VB,Xi,Xn,Yz,Y4,c15,ZC,ZY,Zz,Zw,Zr,Zt,ZA,Nat.reduceEqDiff,reduceCtorEq,Z4,WG,Rn]
    refine⟨_,rfl,?_⟩
    exact(k1.trans' k2).trans' k3
   ·have d3:decide (l.length<=16)=false:=Zb hl
    simp(maxSteps:=4000000) (disch:=first|assumption|omega|(simp -implicitDefEqProofs only[ZQ,ZR]<;>first|assumption|omega)|decide) only[t1,bs,jt,o0,JB,Jj,ec,d1,d3,lnn,YS,ZE,Yb,Xb,X6,UE,VB,Xi,Xn,Yz,Y4,c15,ZC,ZY,Zz,Zw,Zr,Zt,ZA,Nat.reduceEqDiff,reduceCtorEq,Z4,WG,Rn]
    refine⟨_,rfl,?_⟩
    exact(k1.trans' k2).trans' k3
  ·rw[hm] at ec
   have ec:ZJ (LK Zp fs fuel k) fs fuel (n+3+2) 30 [.slice H2.nx 0 4 none,.str md] H3=.ret (.bool false) H3:=ec
   simp(maxSteps:=4000000) (disch:=first|assumption|omega|(simp -implicitDefEqProofs only[ZQ,ZR]<;>first|assumption|omega)|decide) only[t1,bs,jt,o0,JB,Jj,ec,d1,lnn,YS,ZE,Yb,Xb,X6,Xi,Xn,Yz,Y4,c15,ZC,ZY,Zz,Zw,Zr,Zt,ZA,Nat.reduceEqDiff,reduceCtorEq,Z4,WG,Rn]
   refine⟨_,rfl,?_⟩
   exact(k1.trans' k2).trans' k3
 ·have hd:P8 md l=false:=by unfold P8;rw[M3 hbad];rfl
  simp only[PN] at u2
  simp(maxSteps:=4000000) (disch:=first|assumption|omega|(simp -implicitDefEqProofs only[ZQ,ZR]<;>first|assumption|omega)|decide) only[u2,c15,ZC,ZY,Zz,Zw,Zr,Zt,ZA,Nat.reduceEqDiff,reduceCtorEq,Z4,WG,Rn]
  refine⟨_,rfl,?_⟩
  exact k1.trans' k2
def Ku(md:List UInt8)(z:Int)(l:List NP):Bool:=P8 md l&&(decide (0<=z)&&decide (z<=1099511627776))
theorem F0(E:Env Zp fs fuel){z:Int}(hk:2<=k){md:List UInt8}{l:List NP}{v:AV}(hs:s.length=32)(hro:H.ro<=H.nx)(gU: ∀G,Zq H G []->Vy G)(hN:Dh H v l)(hLn:l.length<=100)(hS: ∀i,(l.getD i ([],[])).1.length<=1000∧(l.getD i ([],[])).2.length<=1000):
  ∃H',ZJ (LK Zp fs fuel k) fs fuel (n+6) 15 [.agg (.str md::(s.map XM++[.int .i64 z,v]))] H=.ret (.bool (Ku md z l)) H'∧Zq H H' []:=by
 unfold Ku
 by_cases h0:z<((0:Nat):Int)
 ·rw[Zb (show ¬0<=z by omega),Y4,VB]
  exact mK E hk hs h0 hro gU hN hLn hS
 ·obtain⟨u,rfl⟩: ∃u:Nat,z=(u:Int):=⟨z.toNat,by omega⟩
  rw[Ze (show(0:Int)<=(u:Int) by omega),Yz]
  by_cases h1:u<=1099511627776
  ·rw[Ze (show(u:Int)<=1099511627776 by omega),UE]
   exact mL E hk hs h1 hro gU hN hLn hS
  ·rw[Zb (show ¬(u:Int)<=1099511627776 by omega),VB]
   exact mM E hk hs (by omega) hro gU hN hLn hS
theorem kh(E:Env Zp fs fuel){q:Nat}{z:Int}(hk:2<=k){md media:List UInt8}{l:List NP}{v:AV}(hs:s.length=32)(hro:H.ro<=H.nx)(gU: ∀G,Zq H G []->Vy G)(hN:Dh H v l)(hLn:l.length<=100)(hS: ∀i,(l.getD i ([],[])).1.length<=1000∧(l.getD i ([],[])).2.length<=1000)(hq:q<H.nx)(gq:H.t.get q=some (rH 9 [.str media])):
  ∃H',ZJ (LK Zp fs fuel k) fs fuel (n+7) 50 [.agg (.str md::(s.map XM++[.int .i64 z,v])),.ptr q 0] H=.ret (.bool (!decide (md=media)||!Ku md z l)) H'∧Zq H H' []:=by
 rw[ZL (ZF E.n50 (.inr rfl) _ _) E.f50]
 obtain⟨H1,hH1⟩:=XZ (H.new (rH 26 (.str md::(s.map XM++[.int .i64 z,v]))))
 have k1:Zq H H1 []:=by rw[<-hH1];exact Zq.new H _ _
 have ZbS:H1.ro<=H1.nx:=by rw[k1.ro];exact Zn hro k1.nx
 obtain⟨H2,e2,k2⟩:=F0 E (n:=n) (z:=z) (md:=md) hk hs ZbS (λG hG=>gU G (k1.trans' hG)) (hN.keep k1) hLn hS
 obtain⟨cs,hcs⟩:=XZ ((.str md::(s.map XM++[.int .i64 z,v])))
 have ln:cs.length=35:=by rw[<-hcs,Zh,Zf,Zi,hs];rfl
 have o0: ∀G,ld1 (some (rH 26 cs)) 0 G=.val (.str md) G:=λG=>by
  rw[Z2 (by omega),<-hcs];rfl
 rw[hcs] at hH1 e2 ⊢
 have bx:=YU (l:=cs) (by omega) 26 H
 rw[hH1] at bx
 have g1:H1.t.get H.nx=some (rH 26 cs):=by rw[<-hH1,Zx rfl]
 have gq1:H1.t.get q=some (rH 9 [.str media]):=by rw[k1.get _ hq (by simp)];exact gq
 have lq: ∀G,ld1 (some (rH 9 [.str media])) 0 G=.val (.str media) G:=λG=>rfl
 have q7: ∀G,ldN 35 (some (rH 26 cs)) 0 G=.val (.agg cs) G:=λG=>by
  rw[X8 (by omega),Z6,ZB (by omega)]
 by_cases hm:md=media
 ·have d1:decide (md=media)=true:=Ze hm
  simp(maxSteps:=4000000) (disch:=first|assumption|omega|(simp -implicitDefEqProofs only[ZQ,ZR]<;>first|assumption|omega)|decide) only[bx,g1,gq1,o0,lq,q7,d1,e2,Y8,WP,VV,Xn,Xi,Wh,VC,Rc,c50,ZC,ZY,Zz,Zw,Zr,Zt,ZA,Nat.reduceEqDiff,reduceCtorEq,Z4]
  refine⟨_,rfl,?_⟩
  exact k1.trans' k2
 ·have d1:decide (md=media)=false:=Zb hm
  simp(maxSteps:=4000000) (disch:=first|assumption|omega|(simp -implicitDefEqProofs only[ZQ,ZR]<;>first|assumption|omega)|decide) only[bx,g1,gq1,o0,lq,d1,WP,VV,Xn,Xi,VC,c50,ZC,ZY,Zz,Zw,Zr,Zt,ZA,Nat.reduceEqDiff,reduceCtorEq,Z4]
  refine⟨_,rfl,?_⟩
  exact k1
structure Vz where
 md:List UInt8
 d:List UInt8
 z:Int
 l:List NP
instance:Inhabited Vz:=⟨⟨[],[],0,[]⟩⟩
def OA(H:Heap)(cs:List AV)(x:Vz):Prop:= ∃v,cs=.str x.md::(x.d.map XM++[.int .i64 x.z,v])∧Dh H v x.l∧x.d.length=32∧x.l.length<=100∧ ∀i,(x.l.getD i ([],[])).1.length<=1000∧(x.l.getD i ([],[])).2.length<=1000
def Te(H:Heap)(v:AV)(L:List Vz):Prop:= ∃ls,Sl H 35 v ls∧ls.length=L.length∧ ∀i,i<L.length->OA H (ls.getD i []) (L.getD i default)
theorem OA.keep{H H':Heap}{x:Vz}(h:OA H cs x)(k:Zq H H' []):OA H' cs x:=by
 obtain⟨v,e,a,b⟩:=h
 exact⟨v,e,a.keep k,b⟩
theorem Te.keep{H H':Heap}{v:AV}{L:List Vz}(h:Te H v L)(k:Zq H H' []):Te H' v L:=by
 obtain⟨ls,a,b,c⟩:=h
 exact⟨ls,a.keep0 k,b,λi hi=>(c i hi).keep k⟩
theorem Te.len{v:AV}{L:List Vz}(h:Te H v L)(G:Heap):RV v G=.val (nI .i64 L.length) G:=by
 obtain⟨ls,a,b,_⟩:=h
 rw[<-b];exact a.len G
def Ut(media:List UInt8)(x:Vz):Bool:=!decide (x.md=media)||!Ku x.md x.z x.l
structure IFI(Hs:Heap)(v:AV)(L:List Vz)(media:List UInt8)(q:Nat)(m:Nat)(tm:TM)(H:Heap):Prop where
 k:Zq Hs H []
 t0:Ys tm=v
 t1:Y2 tm=.func 50 [] [.ptr q 0]
 t7:WB tm=nI .i64 L.length
 i: ∃i,Wc tm=nI .i64 i∧i+m=L.length∧ ∀j,j<i->Ut media (L.getD j default)=false
def IFQ(Hs:Heap)(L:List Vz)(media:List UInt8)(o:Out)(tm:TM)(H:Heap):Prop:=Zq Hs H []∧((o=.exit 0∧ ∀j,j<L.length->Ut media (L.getD j default)=false)∨(o=.ret∧ ∃i,i<L.length∧Xf tm=nI .i64 i∧Ut media (L.getD i default)=true))
theorem cq(E:Env Zp fs fuel)(hk:2<=k){Hs:Heap}{v:AV}{L:List Vz}{media:List UInt8}{q:Nat}(hro:Hs.ro<=Hs.nx)(gU: ∀G,Zq Hs G []->Vy G)(hV:Te Hs v L)(hL:L.length<=1000)(hq:q<Hs.nx)(gq:Hs.t.get q=some (rH 9 [.str media]))(y f dd r)(X0:X)(m:Nat)(tm:TM)(H:Heap)(hI:IFI Hs v L media q m tm H):
  ∃o tm' H',Fr ⟨ZJ (LK Zp fs fuel k) fs fuel (n+7),y,f,dd,r⟩ tm H X0=.ok o tm' H' X0∧((o=.normal∧ ∃k,k<m∧IFI Hs v L media q k tm' H')∨(o≠.normal∧IFQ Hs L media o tm' H')):=by
 obtain⟨k0,t0,t1,t7,i,t8,him,hg⟩:=hI
 have t0':=t0;have t1':=t1;have lZ:=t7
 simp only[Pn,PM,CK,Jw] at t0 t1 t7 t8
 cases m with
 |zero=>
  have d1:decide (i<L.length)=false:=Zb (by omega)
  simp(maxSteps:=4000000) (disch:=first|assumption|omega|(simp -implicitDefEqProofs only[ZQ,ZR]<;>first|assumption|omega)|decide) only[t7,t8,d1,ZH,Fr,ZC,ZY,Zz,Zw,Zr,Zt,ZA,Nat.reduceEqDiff,reduceCtorEq,Z4]
  refine⟨_,_,_,rfl,?_⟩
  exact .inr ⟨by simp,k0,.inl ⟨rfl,λj hj=>hg j (by omega)⟩⟩
 |succ m=>
  have d1:decide (i<L.length)=true:=Ze (by omega)
  have hi:i<L.length:=by omega
  obtain⟨ls,sl,hll,hc⟩:=hV.keep k0
  obtain⟨bb,o,R,eI,hbb,gR,Ge,_⟩:=sl.at_ (i:=i) (by omega)
  obtain⟨nv,hcs,hN,hd,hln,hS⟩:=hc i hi
  rw[hcs] at Ge
  have Rm:H.ro<=H.nx:=by rw[k0.ro];exact Zn hro k0.nx
  obtain⟨H1,e1,k1⟩:=kh E (n:=n) (z:=(L.getD i default).z) (md:=(L.getD i default).md) hk hd Rm (λG hG=>gU G (k0.trans' hG)) hN hln hS (ZO hq k0.nx) (by rw[k0.get _ hq (by simp)];exact gq)
  have hb:(!decide ((L.getD i default).md=media)||!Ku (L.getD i default).md (L.getD i default).z (L.getD i default).l)=Ut media (L.getD i default):=rfl
  rw[hb] at e1
  have ad:=λG=>YZ (a:=i) (b:=1) (by omega) G
  generalize hx:L.getD i default=x at*
  cases hbx:Ut media x with
  |true=>
   rw[hbx] at e1
   simp(maxSteps:=4000000) (disch:=first|assumption|omega|(simp -implicitDefEqProofs only[ZQ,ZR]<;>first|assumption|omega)|decide) only[t0,t1,t7,t8,d1,eI,gR,Ge,e1,ad,Y8,ZH,Pa,Xs,Yl,V7,Fr,ZC,ZY,Zz,Zw,Zr,Zt,ZA,Nat.reduceEqDiff,reduceCtorEq,Z4]
   refine⟨_,_,_,rfl,?_⟩
   exact .inr ⟨by simp,k0.trans' k1,.inr ⟨rfl,i,hi,rfl,by rw[hx];exact hbx⟩⟩
  |false=>
   rw[hbx] at e1
   simp(maxSteps:=4000000) (disch:=first|assumption|omega|(simp -implicitDefEqProofs only[ZQ,ZR]<;>first|assumption|omega)|decide) only[t0,t1,t7,t8,d1,eI,gR,Ge,e1,ad,Y8,ZH,Pa,Xs,Yl,V7,Fr,ZC,ZY,Zz,Zw,Zr,Zt,ZA,Nat.reduceEqDiff,reduceCtorEq,Z4]
   exact⟨_,_,_,rfl,.inl ⟨rfl,m,by omega,⟨k0.trans' k1,t0',t1',lZ,i+1,rfl,by omega,λj hj=>by
    by_cases hji:j=i
    ·rw[hji,hx];exact hbx
    ·exact hg j (by omega)⟩⟩⟩
theorem kj{L:List Vz}{f:Vz->Bool}(h: ∀j,j<L.length->f (L.getD j default)=false):L.any f=false:=by
 refine V6.2 λx hx=>?_
 obtain⟨i,hi,rfl⟩:=W6.1 hx
 have:=h i hi
 rw[Za,Zg hi] at this
 rw[show f L[i]=false from this];decide
theorem yi{L:List Vz}{f:Vz->Bool}(hi:i<L.length)(h:f (L.getD i default)=true):L.any f=true:=by
 rw[Za,Zg hi] at h
 exact List.any_eq_true.2 ⟨L[i],Y0 hi,h⟩
theorem Zcf(G:Heap):Pb SK Vd (.int .i64 (.negSucc 0)) (nI .i64 0) G=.val (.bool false) G:=rfl
theorem dK(E:Env Zp fs fuel)(hk:2<=k){v:AV}{L:List Vz}{media:List UInt8}{q:Nat}(hro:H.ro<=H.nx)(gU: ∀G,Zq H G []->Vy G)(hV:Te H v L)(hL:L.length<=1000)(hq:q<H.nx)(gq:H.t.get q=some (rH 9 [.str media])):
  ∃H',ZJ (LK Zp fs fuel k) fs fuel (n+9) 49 [v,.func 50 [] [.ptr q 0]] H=.ret (.bool (L.any (Ut media))) H'∧Zq H H' []:=by
 have e1: ∃w H',ZJ (LK Zp fs fuel k) fs fuel (n+8) 69 [v,.func 50 [] [.ptr q 0]] H=.ret w H'∧Zq H H' []∧((L.any (Ut media)=true∧ ∃i:Nat,w=nI .i64 i)∨(L.any (Ut media)=false∧w=.int .i64 (.negSucc 0))):=by
  rw[ZL (ZF E.n69 (.inr rfl) _ _) E.f69]
  have ln:=hV.len
  simp(maxSteps:=4000000) (disch:=first|assumption|omega|(simp -implicitDefEqProofs only[ZQ,ZR]<;>first|assumption|omega)|decide) only[ln,c69,ZC,ZY,Zz,Zw,Zr,Zt,ZA,Nat.reduceEqDiff,reduceCtorEq,Z4]
  generalize hLo:XQ (Fr _) fuel _ _ _=Lp
  obtain⟨o,Tx,H1,rfl,_,k1,h⟩:=YA (P:=λT=>IFI H v L media q L.length T H) (Q:=IFQ H L media)
   (λT hi=>YK (IFI H v L media q) (IFQ H L media) (λm tm H' h=>cq E (n:=n) hk hro gU hV hL hq gq _ _ _ _ _ m tm H' h) fuel L.length T H (by have:=E.big;omega) hi) hLo
   (by exact⟨Zq.refl _ _,rfl,rfl,rfl,0,rfl,by omega,λj hj=>by omega⟩)
  rcases h with⟨rfl,hn⟩|⟨rfl,i,hi,t4,hb⟩
  ·have hn:=kj hn
   simp(maxSteps:=4000000) (disch:=first|assumption|omega|(simp -implicitDefEqProofs only[ZQ,ZR]<;>first|assumption|omega)|decide) only[ZH,c69,ZC,ZY,Zz,Zw,Zr,Zt,ZA,Nat.reduceEqDiff,reduceCtorEq,Z4]
   refine⟨_,_,rfl,k1,.inr ⟨hn,rfl⟩⟩
  ·simp only[OI] at t4
   simp(maxSteps:=4000000) (disch:=first|assumption|omega|(simp -implicitDefEqProofs only[ZQ,ZR]<;>first|assumption|omega)|decide) only[t4,c69,ZC,ZY,Zz,Zw,Zr,Zt,ZA,Nat.reduceEqDiff,reduceCtorEq,Z4]
   refine⟨_,_,rfl,k1,.inl ⟨yi hi hb,i,rfl⟩⟩
 rw[ZL (ZF E.n49 (.inr rfl) _ _) E.f49]
 obtain⟨w,H1,e1,k1,h⟩:=e1
 rcases h with⟨h,i,rfl⟩|⟨h,rfl⟩
 ·rw[h]
  have d1:decide (0<=i)=true:=Ze (Z8 _)
  simp(maxSteps:=4000000) (disch:=first|assumption|omega|(simp -implicitDefEqProofs only[ZQ,ZR]<;>first|assumption|omega)|decide) only[e1,d1,Xb,c49,ZC,ZY,Zz,Zw,Zr,Zt,ZA,Nat.reduceEqDiff,reduceCtorEq,Z4]
  refine⟨_,rfl,?_⟩
  exact k1
 ·rw[h]
  simp(maxSteps:=4000000) (disch:=first|assumption|omega|(simp -implicitDefEqProofs only[ZQ,ZR]<;>first|assumption|omega)|decide) only[e1,Zcf,c49,ZC,ZY,Zz,Zw,Zr,Zt,ZA,Nat.reduceEqDiff,reduceCtorEq,Z4]
  refine⟨_,rfl,?_⟩
  exact k1
theorem yh(E:Env Zp fs fuel)(hk:2<=k){v:AV}{L:List Vz}{media:List UInt8}(hro:H.ro<=H.nx)(gU: ∀G,Zq H G []->Vy G)(hV:Te H v L)(hL:L.length<=1000):
  ∃H',ZJ (LK Zp fs fuel k) fs fuel (n+10) 32 [.str media,v] H=.ret (.bool (decide (L.length<=127)&&!L.any (Ut media))) H'∧Zq H H' []:=by
 rw[ZL (ZF E.n32 (.inr rfl) _ _) E.f32]
 obtain⟨H1,hH1⟩:=XZ (H.new (rH 9 [.str media]))
 have k1:Zq H H1 []:=by rw[<-hH1];exact Zq.new H _ _
 have g1:H1.t.get H.nx=some (rH 9 [.str media]):=by rw[<-hH1];exact Zx rfl _
 have bx: ∀G:Heap,Fk 9 (.str media) G=.val (.ptr G.nx 0) (G.new (rH 9 [.str media])):=λG=>DO rfl 9 G
 have ln:=hV.len
 by_cases hl:L.length<=127
 ·have d1:decide (L.length<=127)=true:=Ze hl
  obtain⟨H2,e2,k2⟩:=dK E (n:=n) (media:=media) hk (H:=H1) (by rw[k1.ro];exact Zn hro k1.nx) (λG hG=>gU G (k1.trans' hG)) (hV.keep k1) hL (by rw[<-hH1];exact Yo _) g1
  rw[d1]
  simp(maxSteps:=4000000) (disch:=first|assumption|omega|(simp -implicitDefEqProofs only[ZQ,ZR]<;>first|assumption|omega)|decide) only[bx,hH1,ln,d1,e2,PT,WP,X6,Yz,Rc,c32,ZC,ZY,Zz,Zw,Zr,Zt,ZA,Nat.reduceEqDiff,reduceCtorEq,Z4]
  refine⟨_,rfl,?_⟩
  exact k1.trans' k2
 ·have d1:decide (L.length<=127)=false:=Zb hl
  rw[d1]
  simp(maxSteps:=4000000) (disch:=first|assumption|omega|(simp -implicitDefEqProofs only[ZQ,ZR]<;>first|assumption|omega)|decide) only[bx,hH1,ln,d1,WP,X6,Y4,c32,ZC,ZY,Zz,Zw,Zr,Zt,ZA,Nat.reduceEqDiff,reduceCtorEq,Z4]
  refine⟨_,rfl,?_⟩
  exact k1
def RG(media:List UInt8)(L:List Vz):Bool:=decide (L.length<=127)&&!L.any (Ut media)
theorem eg(E:Env Zp fs fuel)(hk:2<=k){v:AV}{L:List Vz}(hro:H.ro<=H.nx)(gU: ∀G,Zq H G []->Vy G)(hV:Te H v L)(hL:L.length<=1000):
  ∃H',ZJ (LK Zp fs fuel k) fs fuel (n+11) 23 [.agg [v]] H=.ret (.bool (RG U6 L)) H'∧Zq H H' []:=by
 rw[ZL (ZF E.n23 (.inr rfl) _ _) E.f23]
 obtain⟨H1,hH1⟩:=XZ (H.new (rH 48 [v]))
 have k1:Zq H H1 []:=by rw[<-hH1];exact Zq.new H _ _
 have g1:H1.t.get H.nx=some (rH 48 [v]):=by rw[<-hH1];exact Zx rfl _
 have bx: ∀G:Heap,Fk 48 (.agg [v]) G=.val (.ptr G.nx 0) (G.new (rH 48 [v])):=λG=>YU (l:=[v]) (Zl 1) 48 G
 have l0: ∀G,ld1 (some (rH 48 [v])) 0 G=.val v G:=λG=>Z2 (Yo 0) ..
 obtain⟨H2,e2,k2⟩:=yh E (n:=n) (media:=U6) hk (H:=H1) (by rw[k1.ro];exact Zn hro k1.nx) (λG hG=>gU G (k1.trans' hG)) (hV.keep k1) hL
 unfold RG
 simp(maxSteps:=4000000) (disch:=first|assumption|omega|(simp -implicitDefEqProofs only[ZQ,ZR]<;>first|assumption|omega)|decide) only[bx,hH1,g1,l0,e2,WP,Zs,ZZ,c23,ZC,ZY,Zz,Zw,Zr,Zt,ZA,Nat.reduceEqDiff,reduceCtorEq,Z4]
 refine⟨_,rfl,?_⟩
 exact k1.trans' k2
theorem kQ(E:Env Zp fs fuel){x:Nat}(hk:2<=k){a b:List UInt8}{v:AV}(hro:H.ro<=H.nx)(gU: ∀G,Zq H G []->Vy G)(ha:a.length<=9000)(hb:b.length<=9000)(lv: ∀G,RV v G=.val (nI .i64 x) G):
  ∃H',ZJ (LK Zp fs fuel k) fs fuel (n+3) 25 [.agg [.str a,.str b,v]] H=.ret (.bool (((decide (a.length<=255)&&vu a)&&(decide (b.length<=255)&&vu b))&&decide (x<=127))) H'∧Zq H H' []:=by
 rw[ZL (ZF E.n25 (.inr rfl) _ _) E.f25]
 obtain⟨H1,hH1⟩:=XZ (H.new (rH 52 [.str a,.str b,v]))
 have k1:Zq H H1 []:=by rw[<-hH1];exact Zq.new H _ _
 have Rm:H1.ro<=H1.nx:=by rw[k1.ro];exact Zn hro k1.nx
 have g1:H1.t.get H.nx=some (rH 52 [.str a,.str b,v]):=by rw[<-hH1];exact Zx rfl _
 have bx: ∀G:Heap,Fk 52 (.agg [.str a,.str b,v]) G=.val (.ptr G.nx 0) (G.new (rH 52 [.str a,.str b,v])):=λG=>YU (l:=[.str a,.str b,v]) (show 1<=3 by decide) 52 G
 have l0: ∀G,ld1 (some (rH 52 [.str a,.str b,v])) 0 G=.val (.str a) G:=λG=>Z2 (show 0<3 by decide) ..
 have l1: ∀G,ld1 (some (rH 52 [.str a,.str b,v])) 1 G=.val (.str b) G:=λG=>Z2 (show 1<3 by decide) ..
 have l2: ∀G,ld1 (some (rH 52 [.str a,.str b,v])) 2 G=.val v G:=λG=>Z2 (show 2<3 by decide) ..
 have e1:=Je E (k:=k) (n:=n) (m:=255) hk (s:=a) (gU H1 k1) Rm (by omega)
 have e2:=Je E (k:=k) (n:=n) (m:=255) hk (s:=b) (gU H1 k1) Rm (by omega)
 cases hp:(decide (a.length<=255)&&vu a) with
 |false=>
  rw[hp] at e1
  rw[Y4,Y4]
  simp(maxSteps:=4000000) (disch:=first|assumption|omega|(simp -implicitDefEqProofs only[ZQ,ZR]<;>first|assumption|omega)|decide) only[bx,hH1,g1,l0,l1,l2,e1,WP,Zs,ZZ,c25,ZC,ZY,Zz,Zw,Zr,Zt,ZA,Nat.reduceEqDiff,reduceCtorEq,Z4]
  refine⟨_,rfl,?_⟩
  exact k1
 |true=>
  rw[hp] at e1
  rw[Yz]
  cases hp2:(decide (b.length<=255)&&vu b) with
  |false=>
   rw[hp2] at e2
   rw[Y4]
   simp(maxSteps:=4000000) (disch:=first|assumption|omega|(simp -implicitDefEqProofs only[ZQ,ZR]<;>first|assumption|omega)|decide) only[bx,hH1,g1,l0,l1,l2,e1,e2,lv,WP,X6,Zs,ZZ,c25,ZC,ZY,Zz,Zw,Zr,Zt,ZA,Nat.reduceEqDiff,reduceCtorEq,Z4]
   refine⟨_,rfl,?_⟩
   exact k1
  |true=>
   rw[hp2] at e2
   rw[Yz]
   simp(maxSteps:=4000000) (disch:=first|assumption|omega|(simp -implicitDefEqProofs only[ZQ,ZR]<;>first|assumption|omega)|decide) only[bx,hH1,g1,l0,l1,l2,e1,e2,lv,WP,X6,Zs,ZZ,c25,ZC,ZY,Zz,Zw,Zr,Zt,ZA,Nat.reduceEqDiff,reduceCtorEq,Z4]
   refine⟨_,rfl,?_⟩
   exact k1
theorem Oh{e sz:Nat}{zs x:List AV}(hz:zs.length=sz)(hx:x.length=sz)(h1:1<=sz)(G:Heap):Wa e sz 1 zs [(0,sz,.agg x)] G=.val (.slice G.nx 0 1 none) (G.new (rG e sz x 0 false true true)):=by
 rw[uU h1 (by omega),Ck,D5,Zm h1,Yw,hx,Z9,Yw,hz,Zm (show Nat.add 0 sz<=sz by show 0+sz<=sz;omega)]
 show OR.val _ (G.newRow e sz (PX 0 zs++(x++Q0 (Nat.add 0 sz) zs)) true)=_
 rw[O0,OE,VD,Xs,List.drop_of_length_le (by show zs.length<=0+sz;omega),Yl];rfl
theorem jO(E:Env Zp fs fuel)(hk:2<=k){v:AV}{x:Vz}{L:List Vz}(hro:H.ro<=H.nx)(gU: ∀G,Zq H G []->Vy G)(hc:OA H cs x)(hV:Te H v L)(hL:L.length<=1000):
  ∃H',ZJ (LK Zp fs fuel k) fs fuel (n+11) 19 [.agg (cs++[v])] H=.ret (.bool (RG Qh [x]&&RG RW L)) H'∧Zq H H' []:=by
 rw[ZL (ZF E.n19 (.inr rfl) _ _) E.f19]
 have Ac:cs.length=35:=by
  obtain⟨nv,e,_,hd,_⟩:=hc
  rw[e,Zh,Zf,Zi,hd];rfl
 have h36:(cs++[v]).length=36:=by rw[Zf,Ac];rfl
 have bx:=YU (l:=cs++[v]) (by omega) 38 H
 have q7: ∀G,ldN 35 (some (rH 38 (cs++[v]))) 0 G=.val (.agg cs) G:=λG=>by
  rw[X8 (by omega),Z6,<-Ac,List.take_left]
 have lv: ∀G,ld1 (some (rH 38 (cs++[v]))) 35 G=.val v G:=λG=>by
  rw[Z2 (by omega),Za,Zu (by omega),Ac];rfl
 generalize cs++[v]=cv at*
 obtain⟨H1,hH1⟩:=XZ (H.new (rH 38 cv))
 obtain⟨H2,hH2⟩:=XZ (H1.new (rG 26 35 cs 0 false true true))
 rw[hH1] at bx
 have k1:Zq H H1 []:=by rw[<-hH1];exact Zq.new H _ _
 have k12:Zq H1 H2 []:=by rw[<-hH2];exact Zq.new _ _ _
 have k2:=k1.trans' k12
 have U2:H1.nx=H.nx+1:=by rw[<-hH1];rfl
 have g1:H1.t.get H.nx=some (rH 38 cv):=by rw[<-hH1];exact Zx rfl _
 have g2:H2.t.get H1.nx=some (rG 26 35 cs 0 false true true):=by rw[<-hH2];exact Zx rfl _
 have bs: ∀G,Wa 26 35 1 zD [(0,35,.agg cs)] G=.val (.slice G.nx 0 1 none) (G.new (rG 26 35 cs 0 false true true)):=λG=>Oh (sz:=35) rfl Ac (by decide) G
 have hX:Te H2 (.slice H1.nx 0 1 none) [x]:=⟨[cs],⟨λl hl=>by rw[YP.1 hl];exact Ac,.inr ⟨H1.nx,0,none,rfl,by rw[<-hH2];exact Yo _,λ_=>⟨_,g2,by show 0+1*35<=YF cs;rw[Yw,Ac];decide,λi hi=>by
  rw[IQ,Zs,W8,List.flatten_nil,Yl]⟩⟩⟩,rfl,λi hi=>by
  obtain rfl:i=0:=Nat.lt_one_iff.1 hi
  exact hc.keep k2⟩
 have Qw:H2.ro<=H2.nx:=by rw[k2.ro];exact Zn hro k2.nx
 obtain⟨H3,e3,k3⟩:=yh E (n:=n) (media:=Qh) hk Qw (λG hG=>gU G (k2.trans' hG)) hX (by show 1<=1000;decide)
 have NS:=k2.trans' k3
 have g3:H3.t.get H.nx=some (rH 38 cv):=by rw[(k12.trans' k3).get _ (by omega) (by simp)];exact g1
 obtain⟨H4,e4,k4⟩:=yh E (n:=n) (media:=RW) hk (H:=H3) (by rw[NS.ro];exact Zn hro NS.nx) (λG hG=>gU G (NS.trans' hG)) (hV.keep NS) hL
 have e3:ZJ (LK Zp fs fuel k) fs fuel (n+10) 32 [.str Qh,.slice H1.nx 0 1 none] H2=.ret (.bool (RG Qh [x])) H3:=e3
 have e4:ZJ (LK Zp fs fuel k) fs fuel (n+10) 32 [.str RW,v] H3=.ret (.bool (RG RW L)) H4:=e4
 cases hp:RG Qh [x] with
 |false=>
  rw[hp] at e3
  rw[Y4]
  simp(maxSteps:=4000000) (disch:=first|assumption|omega|(simp -implicitDefEqProofs only[ZQ,ZR]<;>first|assumption|omega)|decide) only[bx,g1,q7,bs,hH2,e3,WP,Y8,YS,ZE,Yb,Zs,ZZ,c19,ZC,ZY,Zz,Zw,Zr,Zt,ZA,Nat.reduceEqDiff,reduceCtorEq,Z4]
  refine⟨_,rfl,?_⟩
  exact NS
 |true=>
  rw[hp] at e3
  rw[Yz]
  simp(maxSteps:=4000000) (disch:=first|assumption|omega|(simp -implicitDefEqProofs only[ZQ,ZR]<;>first|assumption|omega)|decide) only[bx,g1,q7,bs,hH2,e3,g3,lv,e4,WP,Y8,YS,ZE,Yb,Zs,ZZ,c19,ZC,ZY,Zz,Zw,Zr,Zt,ZA,Nat.reduceEqDiff,reduceCtorEq,Z4]
  refine⟨_,rfl,?_⟩
  exact NS.trans' k4
end
def Sz(H:Heap)(sz:Nat)(v:AV)(ls:List (List AV)):Prop:=(ls=[]∧v=.slice0)∨Sl H sz v ls
theorem Sz.keep{H H':Heap}{sz:Nat}{v:AV}{ls:List (List AV)}{S:List Nat}(h:Sz H sz v ls)(k:Zq H H' S)(hS: ∀b o n c,v=.slice b o n c->b∉S):Sz H' sz v ls:=by
 rcases h with h|h
 ·exact .inl h
 ·exact .inr (h.keep k hS)
theorem Sz.keep0{H H':Heap}{sz:Nat}{v:AV}{ls:List (List AV)}(h:Sz H sz v ls)(k:Zq H H' []):Sz H' sz v ls:=h.keep k (by simp)
def Cut(H:Heap)(sz:Nat)(v:AV)(ls:List (List AV)):Prop:=Sz H sz v ls∧ ∀(k:Nat),k<=ls.length-> ∃v',(∀G:Heap,(∀c,c<H.nx->G.t.get c=H.t.get c)->Bx sz v none (some (nI .i64 k)) G=.val v' G)∧Sz H sz v' (ls.take k)
theorem Cut.keep{H H':Heap}{sz:Nat}{v:AV}{ls:List (List AV)}(h:Cut H sz v ls)(k:Zq H H' []):Cut H' sz v ls:=
 ⟨h.1.keep0 k,λn hn=>by
  obtain⟨v',h1,h2⟩:=h.2 n hn
  exact⟨v',λG hG=>h1 G λc hc=>(hG c (ZO hc k.nx)).trans (k.get c hc (by simp)),h2.keep0 k⟩⟩
def F2(r:Row)(sz n:Nat):List (List AV):=(List.range n).map λi=>(List.range sz).map λj=>r.get (i*sz+j)
theorem OU(r:Row)(sz n:Nat):(F2 r sz n).length=n:=by unfold F2;simp
theorem zJ(r:Row)(sz n:Nat): ∀l∈F2 r sz n,l.length=sz:=by
 intro l hl
 unfold F2 at hl
 obtain⟨i,_,rfl⟩:=YC.1 hl
 simp
theorem pD(r:Row)(sz:Nat){n i:Nat}(h:i<n):(F2 r sz n).getD i []=(List.range sz).map λj=>r.get (i*sz+j):=by
 unfold F2
 rw[Za,Yh,Wm h];rfl
theorem mW(r:Row)(sz:Nat)(hsz:1<=sz){n i:Nat}(h:i<n*sz):(F2 r sz n).flatten.getD i .unk=r.get i:=by
 have hq:i/sz<n:=SP (by rw[W2];exact h)
 have hm:i % sz<sz:=Vl _ (by omega)
 have:=AI.flat_at (ls:=F2 r sz n) (i:=i/sz) (zJ r sz n) (by rw[OU];exact hq)
 rw[pD r sz hq] at this
 have e:i/sz*sz+i % sz=i:=by rw[W2];exact TH i sz
 have h2:=congrArg (λl=>l[i % sz]?) this
 simp only[Xo hm,Xd,e,Yh,Wm hm] at h2
 rw[Za,h2]
 show r.get (i/sz*sz+i % sz)=_
 rw[e]
theorem mX(r:Row)(sz:Nat){n k:Nat}(h:k<=n):(F2 r sz n).take k=F2 r sz k:=by
 unfold F2
 rw[<-List.map_take,List.take_range,Vi h]
theorem fD{G:Heap}{b sz n:Nat}{r:Row}{c:Option Nat}(hsz:1<=sz)(hb:b<G.nx)(hr:G.t.get b=some (.row r))(hs:n*sz<=r.size):Sl G sz (.slice b 0 n c) (F2 r sz n):=
 ⟨zJ r sz n,.inr ⟨b,0,c,by rw[OU],hb,λ_=>⟨r,hr,by rw[OU];omega,λi hi=>by rw[OU] at hi;rw[Zs,mW r sz hsz hi]⟩⟩⟩
theorem xN{G:Heap}{es:List Sh}{v:AV}(h:Told G (.sl es) v): ∃ls,Cut G es.length v ls∧ls.length<=maxLen∧ ∀i,i<ls.length->(ls.getD i []).length=es.length∧ ∀(j:Nat) e,es[j]? =some e->Told G e ((ls.getD i []).getD j .unk):=by
 cases h with
 |nils=>
  refine⟨[],⟨.inr (Sl.nil ..),λk hk=>?_⟩,Z8 _,λi hi=>by simp at hi⟩
  obtain rfl:k=0:=by simpa using hk
  exact⟨.nils,λ_ _=>rfl,.inr (Sl.nil ..)⟩
 |slice0=>
  refine⟨[],⟨.inl ⟨rfl,rfl⟩,λk hk=>?_⟩,Z8 _,λi hi=>by simp at hi⟩
  obtain rfl:k=0:=by simpa using hk
  exact⟨.slice0,λ_ _=>rfl,.inl ⟨rfl,rfl⟩⟩
 | @slice _ b len cap r h1 hl h0 hc hb hr hs ho hz hok=>
  have hm:len*es.length<=cap*es.length:=Y5 _ hl
  refine⟨F2 r es.length len,⟨.inr (fD h1 hb hr (by omega)),λk hkl=>?_⟩,by rw[OU];omega,λi hi=>?_⟩
  ·rw[OU] at hkl
   have hmk:k*es.length<=len*es.length:=Y5 _ hkl
   refine⟨.slice b 0 k (some cap),λG' hk=>?_,by rw[mX _ _ hkl];exact .inr (fD h1 hb hr (by omega))⟩
   have g:=hk b hb
   show Xp G' b _=_
   unfold Xp
   rw[g,hr]
   show ZX (Nat.ble k cap) (ZX (Nat.ble 0 k) (ZX (Nat.ble 0 cap) (cond (Nat.beq 0 cap) _ (OR.val (.slice b (0+0*es.length) (k - 0) (some (cap - 0))) G'))))=_
   rw[Zm (by omega),Zm (Z8 _),Zm (Z8 _),show Nat.beq 0 cap=false by rw[Yu];exact Zb (by omega),W3]
   rfl
  ·rw[OU] at hi
   rw[pD r _ hi]
   refine⟨by simp,λj e he=>?_⟩
   have hj:j<es.length:=(Xh.1 he).1
   have hij:i*es.length+j<cap*es.length:=by
    have:(i+1)*es.length<=cap*es.length:=Y5 _ (by omega)
    rw[Xu] at this;omega
   rw[Za,Yh,Wm hj]
   show Told G e (r.get (i*es.length+j))
   refine hok _ e hij ?_
   rw[W2,Nat.mul_add_mod,Z7 hj];exact he
theorem wu{α:Type}{ls:List (List AV)}{f:α->List AV}{p:α->Prop}(h: ∀i,i<ls.length-> ∃x,ls.getD i []=f x∧p x): ∃l:List α,ls=l.map f∧ ∀x∈l,p x:=by
 induction ls with
 |nil=>exact⟨[],rfl,λ_ h=>by cases h⟩
 |cons a ls ih=>
  obtain⟨x,h1,h2⟩:=h 0 (by simp)
  obtain⟨l,h3,h4⟩:=ih λi hi=>by
   have:=h (i+1) (by simp;omega)
   simpa using this
  refine⟨x::l,by rw[ZE,<-h3,<-h1];rfl,λy hy=>?_⟩
  rcases ZN.1 hy with rfl|hy
  ·exact h2
  ·exact h4 y hy
theorem Zav{l:List AV}(h:l.length=2):l=[l.getD 0 .unk,l.getD 1 .unk]:=by
 match l,h with
 |[a,b],_=>rfl
theorem K4{G:Heap}{v:AV}(h:Told G .str v): ∃s,v=.str s:=by cases h;exact⟨_,rfl⟩
theorem uB{G:Heap}{k:IntKind}{v:AV}(h:Told G (.int k) v): ∃z,v=.int k z∧k.min<=z∧z<=k.max:=by
 cases h with|int h=>exact⟨_,rfl,h⟩
theorem aD{G:Heap}{v:AV}(h:Told G (.int .u8) v): ∃c:UInt8,v=XM c:=by
 obtain⟨z,rfl,h1,h2⟩:=uB h
 have h1:0<=z:=h1
 have h2:z<=255:=h2
 refine⟨UInt8.ofNat z.toNat,?_⟩
 show AV.int .u8 z=.int .u8 (.ofNat (UInt8.ofNat z.toNat).toNat)
 rw[UInt8.toNat_ofNat',Z7 (by omega)]
 congr 1
 show z=(z.toNat:Int)
 omega
theorem fN{G:Heap}{v:AV}(h:Told G (.int .i64) v): ∃z:Int,v=.int .i64 z∧ -9223372036854775808<=z∧z<=9223372036854775807:=uB h
theorem Sz.len{H:Heap}{sz:Nat}{v:AV}{ls:List (List AV)}(h:Sz H sz v ls)(G:Heap):RV v G=.val (nI .i64 ls.length) G:=by
 rcases h with⟨rfl,rfl⟩|h
 ·rfl
 ·exact h.len G
theorem Sz.low{H:Heap}{sz:Nat}{v:AV}{ls:List (List AV)}(h:Sz H sz v ls){n:Nat}(hn:H.nx<=n):Xm n v=true:=by
 rcases h with⟨rfl,rfl⟩|h
 ·rfl
 ·exact h.low hn
theorem Sz.same{H:Heap}{sz:Nat}{v:AV}{ls:List (List AV)}(h:Sz H sz v ls)(n:Nat)(t:T Obj):Vv (.val v ⟨n,t,n⟩) v n=true:=by
 rcases h with⟨rfl,rfl⟩|h
 ·exact Ur _ _ _ (by unfold AI.same;rfl)
 ·exact h.same n t
theorem Sz.cells{H:Heap}{sz:Nat}{v:AV}{ls:List (List AV)}(h:Sz H sz v ls):v.cells=[v]:=by
 rcases h with⟨rfl,rfl⟩|h
 ·rfl
 ·exact h.cells
theorem Sz.at_{H:Heap}{sz:Nat}{v:AV}{ls:List (List AV)}(h:Sz H sz v ls){i:Nat}(hi:i<ls.length):
  ∃b o r,(∀(k:IntKind) (G:Heap),EJ sz v (nI k i) G=.val (.ptr b o) G)∧b<H.nx∧H.t.get b=some (.row r)∧(∀G:Heap,ldN sz (some (.row r)) o G=.val (.agg (ls.getD i [])) G)∧ ∀(j:Nat) (G:Heap),j<sz->ld1 (some (.row r)) (o+j) G=.val ((ls.getD i []).getD j .unk) G:=by
 rcases h with⟨rfl,_⟩|h
 ·cases hi
 ·exact h.at_ hi
theorem Sz.sam{H:Heap}{sz:Nat}{v:AV}{ls:List (List AV)}(h:Sz H sz v ls):AI.same v v=true:=by
 rcases h with⟨_,rfl⟩|h
 ·unfold AI.same;rfl
 ·rcases h.here with⟨_,rfl⟩|⟨b,o,c,rfl,_⟩
  ·unfold AI.same;rfl
  ·unfold AI.same
   rw[Z9,Z9,Z9]
   cases c<;>simp
def B6(H:Heap)(v:AV)(e sz:Nat)(ls:List (List AV))(lo:Nat):Prop:=(ls=[]∧ ∃b,v=.slice b 0 0 none∧lo<=b∧b<H.nx∧H.t.get b=some (rG e sz [] 0 false true true))∨(ls≠[]∧VT H v e sz ls lo)
theorem B6.at_{H:Heap}{v:AV}{e sz:Nat}{ls:List (List AV)}{lo:Nat}(h:B6 H v e sz ls lo): ∃b,v=.slice b 0 ls.length none∧lo<=b∧b<H.nx:=by
 rcases h with⟨rfl,b,rfl,h1,h2,_⟩|⟨hne,h|⟨_,b,r,rfl,g,h1⟩⟩
 ·exact⟨b,rfl,h1,h2⟩
 ·exact absurd h.1 hne
 ·exact⟨b,rfl,h1,g.low⟩
theorem B6.below{H H':Heap}{v:AV}{e sz:Nat}{ls:List (List AV)}{lo:Nat}(h:B6 H v e sz ls lo)(k:Zq H H' []):B6 H' v e sz ls lo:=by
 rcases h with⟨rfl,b,rfl,h1,h2,g⟩|⟨hne,h⟩
 ·exact .inl ⟨rfl,b,rfl,h1,ZO h2 k.nx,by rw[k.get b h2 (by simp)];exact g⟩
 ·exact .inr ⟨hne,VT.below h (λc _ hc=>k.get c hc (by simp)) k.ro k.nx⟩
theorem B6.sl{H:Heap}{v:AV}{e sz:Nat}{ls:List (List AV)}{lo:Nat}(h:B6 H v e sz ls lo):Sl H sz v ls:=by
 rcases h with⟨rfl,b,rfl,h1,h2,g⟩|⟨hne,h⟩
 ·exact⟨λ_ h=>(by cases h),.inr ⟨b,0,none,rfl,h2,λh=>absurd rfl h⟩⟩
 ·exact Bw h
theorem nr{H:Heap}{v:AV}{e sz bytes:Nat}{ls:List (List AV)}{lo:Nat}(h:B6 H v e sz ls lo)(hsz:1<=sz)(hby:1<=bytes)(hl:(ls.length+1)*bytes<=140737488355328)(hro:H.ro<=H.nx)(hlo:lo<=H.nx){x:List AV}(hx:x.length=sz):
  ∃v' H',Vb e sz bytes v (.slice H.nx 0 1 none) (H.new (rG e sz x 0 false true true))=.val v' H'∧B6 H' v' e sz (ls++[x]) lo∧Below lo H H'∧
   (∀c,c<H.nx->(∀b o l q,v=.slice b o l q->c≠b)->H'.t.get c=H.t.get c)∧ ∀b o l q,v'=.slice b o l q->H.nx<=b:=by
 rcases h with⟨rfl,b,rfl,h1,h2,g⟩|⟨hne,h⟩
 ·have ea:=vj (bytes:=bytes) (n:=0) (x:=x) g h2 (by rw[W3];rfl) hsz hby hl hx
  have w:Below lo H ((H.new (rG e sz x 0 false true true)).new (rG e sz ([]++x) 0 false true false)):=(Below.new lo H _).trans (Below.new lo _ _)
  refine⟨_,_,ea,.inr ⟨by simp,.inr ⟨by simp,H.nx+1,_,rfl,⟨Zx rfl _,rfl,rfl,rfl,rfl,rfl,rfl,by simpa using Cells.new e sz x 0 false true false,λl hm=>by rw[YP.1 hm];exact hx,by rw[w.ro];omega,Yo _⟩,by omega⟩⟩,w,λc hc _=>?_,λb o l q e'=>by cases e';omega⟩
  rw[YV (by show H.nx+1≠c;omega),YV (by omega)]
 ·obtain⟨v',H',ea,rb,w,a1,a2⟩:=IR (bytes:=bytes) h hsz hby hl hro hlo hx
  rw[UN] at ea
  exact⟨v',H',ea,.inr ⟨by simp,rb⟩,w,a1,a2⟩
def Sr(l:List JV):JV:=.mk 5 false 0 [] l []
def Uc(w:AV):List AV:=[nI .i64 5,.bool false,nI .i64 0,.str [],w,.nils]
theorem aK{H:Heap}{S:Nat->Prop}{h:Nat}{l:List JV}{w:AV}{ls:List (List AV)}(sl:Sl H 6 w ls)(hoff:Off S w)(he:ls.length=l.length)(hl:l.length<=9000)(hm: ∀i,i<l.length->MK H S h (l.getD i default) (ls.getD i [])):MK H S (h+1) (Sr l) (Uc w):=
 ⟨w,.nils,ls,[],rfl,by decide,by decide,Z8 _,hl,Z8 _,⟨sl,hoff⟩,⟨Sl.nil _ _,OS S⟩,he,rfl,hm,λi hi=>(by cases hi)⟩
theorem MK.kept{H H':Heap}{S S':Nat->Prop}(k:Zq H H' [])(hs: ∀c,c<H.nx->S' c->S c){h:Nat}{v:JV}{cs:List AV}(r:MK H S h v cs):MK H' S' h v cs:=
 r.move (λc hc _=>k.get c hc (by simp)) k.nx hs
theorem MK.up{H:Heap}{S:Nat->Prop}: ∀{h h':Nat} {v:JV} {cs:List AV},h<=h'->MK H S h v cs->MK H S h' v cs
 |h+1,h'+1,.mk _ _ _ _ l m,cs,hh,⟨lv,mv,ls,ms,e,a1,a2,a3,a4,a5,sl,sm,e1,e2,hl,hm⟩=>
  ⟨lv,mv,ls,ms,e,a1,a2,a3,a4,a5,sl,sm,e1,e2,λi hi=>(hl i hi).up (by omega),λi hi=>by
   obtain⟨b,t,c,d⟩:=hm i hi
   exact⟨b,t,c,d.up (by omega)⟩⟩
 |h+1,0,_,_,hh,_=>by omega
structure ke(H:Heap)(lo h:Nat)(w:AV)(l:List JV):Prop where
 ok: ∃bb ls,B6 H w 73 6 ls lo∧(∀c o n q,w=.slice c o n q->c=bb)∧ls.length=l.length∧ ∀q,q<l.length->MK H (λc=>c<lo∨c=bb) h (l.getD q default) (ls.getD q [])
theorem N1{α:Type}(l:List α)(a d:α)(q:Nat):(l++[a]).getD q d=if q<l.length then l.getD q d else if q=l.length then a else d:=by
 rw[Za]
 by_cases h:q<l.length
 ·rw[if_pos h,Yc h,Za]
 ·rw[if_neg h,Zu (by omega)]
  by_cases h2:q=l.length
  ·subst h2;rw[if_pos rfl,T6];rfl
  ·rw[if_neg h2,YB (by rw[Zh,Zv];omega)];rfl
theorem ke.push{H H2:Heap}{lo h:Nat}{w:AV}{l:List JV}{v:JV}{cs:List AV}(s:ke H lo h w l)(k:Zq H H2 [])(hlo:lo<=H.nx)(NG:H2.ro<=H2.nx)(hr:MK H2 (λc=>c<H.nx) h v cs)(hl:l.length<=9000):
  ∃w' H3,Vb 73 6 88 w (.slice H2.nx 0 1 none) (H2.new (rG 73 6 cs 0 false true true))=.val w' H3∧ke H3 lo h w' (l++[v])∧Below lo H2 H3:=by
 obtain⟨bb,ls,rb,hbb,e,hv⟩:=s.ok
 have knx:=k.nx
 obtain⟨w',H3,ea,rb3,bl,only,fresh⟩:=nr (rb.below k) (bytes:=88) (by omega) (by omega) (by omega) NG (by omega) (x:=cs) hr.vr.len
 refine⟨w',H3,ea,?_,bl⟩
 obtain⟨b3,rfl,hb3,_⟩:=rb3.at_
 have hn3:=fresh _ _ _ _ rfl
 obtain⟨b0,rfl,hb0,hbH⟩:=rb.at_
 obtain rfl:b0=bb:=hbb _ _ _ _ rfl
 refine⟨b3,ls++[cs],rb3,λ_ _ _ _ e=>(by cases e;rfl),by simp[e],λq hq=>?_⟩
 rw[N1,N1,e]
 rw[Zf,Zh,Zv] at hq
 by_cases h1:q<l.length
 ·rw[if_pos h1,if_pos h1]
  refine(hv q h1).move (λc hc hS=>?_) (Zn knx bl.nx) (λc hc hS=>?_)
  ·rw[only c (by omega) (λb' o' l' q' e' hcb=>hS (.inr (by cases e';exact hcb))),k.get c hc (by simp)]
  ·rcases hS with h2|h2
   ·exact .inl h2
   ·omega
 ·have:q=l.length:=by omega
  subst this
  rw[if_neg h1,if_neg h1,if_pos rfl,if_pos rfl]
  refine hr.move (λc hc hS=>?_) bl.nx (λc hc hS=>?_)
  ·exact only c hc (λb' o' l' q' e' hcb=>hS (by cases e';rw[hcb];exact hbH))
  ·rcases hS with h2|h2
   ·show c<H.nx;omega
   ·omega
theorem ke.vr{H:Heap}{lo h:Nat}{w:AV}{l:List JV}(s:ke H lo h w l)(hl:l.length<=9000):MK H (λc=>c<lo) (h+1) (Sr l) (Uc w):=by
 obtain⟨bb,ls,rb,hbb,e,hv⟩:=s.ok
 refine aK rb.sl (λc o n q e' hc=>?_) e hl λi hi=>(hv i hi).move (λ_ _ _=>rfl) (Zl _) λc _ hc=>.inl hc
 obtain⟨b,rfl,h1,_⟩:=rb.at_
 injection e' with e1;have hc:c<lo:=hc;omega
section
variable {Zp:Lib} {fs:T CF} {fuel k n i h b:Nat} {H H0:Heap} {s:List UInt8} {cs:List AV}
def Aq:List AV:=zD
theorem yf:zD=Aq:=rfl
theorem Gs(e:Nat)(tm:TM)(H:Heap):WK e Aq tm H=.val (.ptr H.nx 0) (H.new (rG e 1 Aq 0 false true true)):=TZ ..
theorem ZgT{vs:List AV}(hv:vs.length=n)(h1:1<=n)(hro:H.ro<=b)(e:Nat)(v:AV):rK n (some (.row ⟨e,1,n,.leaf,v,0,false,true,true⟩)) b 0 (.agg vs) H=.val Xl (H.put b (.row ⟨e,1,n,Wg .leaf 0 vs,v,0,false,true,true⟩)):=by
 have RI:H.may (⟨e,1,n,.leaf,v,0,false,true,true⟩:Row) b=true:=by unfold Heap.may;rw[Zm hro];rfl
 show ZX (Nat.ble 1 n) (ZX (H.may _ b) (ZX (Nat.ble (0+n) n) (ZX (Nat.ble 0 0) (ZX (Nat.beq (YF vs) n) _))))=_
 rw[Zm h1,RI,Zm (show 0+n<=n by omega),Zm (Zl 0),Yw,hv,Z9];rfl
theorem ZfJ{vs:List AV}(hv:vs.length=n)(e:Nat)(v:AV)(G:Heap):ldN n (some (.row ⟨e,1,n,Wg .leaf 0 vs,v,0,false,true,true⟩)) 0 G=.val (.agg vs) G:=by
 show cond (Nat.ble (Nat.add 0 n) n) (OR.val (.agg (WO _ 0 n)) G) .fail=_
 rw[Zm (show Nat.add 0 n<=n by show 0+n<=n;omega)]
 show OR.val (.agg (WO _ 0 n)) G=_
 congr 2
 refine X4 λj=>?_
 by_cases hj:j<n
 ·rw[SB _ _ _ _ hj,Zg (by omega),Row.get_eq]
  show some (((Wg .leaf 0 vs).get (0+j)).getD v)=_
  rw[Sj,if_pos ⟨by omega,by omega⟩,show 0+j - 0=j by omega,Zg (by omega)];rfl
 ·rw[YB (by rw[Se];omega),YB (by omega)]
theorem Zdz(h:cs.length=6)(G:Heap):Wa 73 6 1 zV [(0,6,.agg cs)] G=.val (.slice G.nx 0 1 none) (G.new (rG 73 6 cs 0 false true true)):=by
 match cs,h with
 |[a,b,c,d,e,f],_=>rfl
theorem Zdx(G:Heap):Wa 73 6 0 (List.replicate 0 zV).flatten [] G=.val (.slice G.nx 0 0 none) (G.new (rG 73 6 [] 0 false true true)):=rfl
theorem ky(hc:cs.length=6)(G:Heap):Qd eV [(1,6,.agg cs)] G=.val (.agg (.str []::cs)) G:=by
 match cs,hc with
 |[a,b,c,d,e,f],_=>rfl
theorem Sz.each{sz:Nat}{v:AV}{ls:List (List AV)}(h:Sz H sz v ls): ∀l∈ls,l.length=sz:=by
 rcases h with⟨rfl,_⟩|h
 ·intro l hl;cases hl
 ·exact h.each
def xY(Zp:Lib)(fs:T CF)(fuel k n g h:Nat)(Hs:Heap)(xs:List (List AV))(L:List JV):Prop:= ∀i,i<L.length-> ∀G,Zq Hs G []-> ∃cs G',ZJ (LK Zp fs fuel k) fs fuel n g [.agg (xs.getD i [])] G=.ret (.agg cs) G'∧Zq G G' []∧MK G' (λc=>c<G.nx) h (L.getD i default) cs
structure aO(Hs:Heap)(v:AV)(L:List JV)(g h:Nat)(p4:AV)(m:Nat)(tm:TM)(H:Heap):Prop where
 k:Zq Hs H []
 t1:Y2 tm=.func g [] []
 t4:Xf tm=p4
 t9:Wv tm=v
 t10:Xg tm=nI .i64 L.length
 i: ∃i w,Xc tm=nI .i64 i∧i+m=L.length∧X5 tm=w∧ke H Hs.nx h w (L.take i)
def LVQ(Hs:Heap)(L:List JV)(h:Nat)(p4:AV)(o:Out)(tm:TM)(H:Heap):Prop:=o=.exit 0∧Zq Hs H []∧Xf tm=p4∧ ∃w,X5 tm=w∧ke H Hs.nx h w L
theorem ke.w{lo:Nat}{w:AV}{l:List JV}(s:ke H lo h w l): ∃b,w=.slice b 0 l.length none∧lo<=b∧b<H.nx:=by
 obtain⟨bb,ls,rb,_,e,_⟩:=s.ok
 rw[<-e];exact rb.at_
theorem cM(E:Env Zp fs fuel){Hs:Heap}{v:AV}{L:List JV}{xs:List (List AV)}{g:Nat}{p4:AV}(hl:L.length<=1000)(hro:Hs.ro<=Hs.nx)(sl:Sl Hs 35 v xs)(hx:xs.length=L.length)(ho:xY Zp fs fuel k n g h Hs xs L)(y f dd r)(X0:X)(m:Nat)(tm:TM)(H:Heap)(hI:aO Hs v L g h p4 m tm H):
  ∃o tm' H',DS ⟨ZJ (LK Zp fs fuel k) fs fuel n,y,f,dd,r⟩ tm H X0=.ok o tm' H' X0∧((o=.normal∧ ∃q,q<m∧aO Hs v L g h p4 q tm' H')∨(o≠.normal∧LVQ Hs L h p4 o tm' H')):=by
 obtain⟨k0,t1,t4,t9,t10,⟨i,w,t11,him,t5,hw⟩⟩:=hI
 have t1':=t1;have ez:=t4;have t9':=t9;have ZcO:=t10;have aC:=t5
 simp only[PM,yM,jz,qN,yL] at t1 t9 t10 t11 t5
 cases m with
 |zero=>
  have d1:decide (i<L.length)=false:=Zb (by omega)
  rw[ZB (by omega)] at hw
  simp only[t10,t11,d1,ZH,DS,ZC,ZY,Z4]
  refine⟨_,_,_,rfl,?_⟩
  exact .inr ⟨by simp,rfl,k0,ez,w,aC,hw⟩
 |succ m=>
  have d1:decide (i<L.length)=true:=Ze (by omega)
  have hi:i<L.length:=by omega
  obtain⟨bb,o,R,eI,hbb,gR,Ge,_⟩:=(sl.keep0 k0).at_ (i:=i) (by omega)
  have hxl:(xs.getD i []).length=35:=sl.each _ (by rw[Za,Zg (by omega)];exact Y0 _)
  have ho:=ho i hi
  generalize xs.getD i []=x at Ge hxl ho
  have zG:H.ro<=H.nx:=by rw[k0.ro];exact Zn hro k0.nx
  obtain⟨H1,hH1⟩:=XZ (H.new (rH 26 Aq))
  obtain⟨H2,hH2⟩:=XZ (H1.put H.nx (rH 26 x))
  have k1:Zq H H1 []:=by rw[<-hH1];exact Zq.new _ _ _
  have k2:Zq H H2 []:=by rw[<-hH2];exact k1.then_put λh=>absurd h (VA _)
  have g1:H1.t.get H.nx=some (rH 26 Aq):=by rw[<-hH1];exact Zx rfl _
  have g2:H2.t.get H.nx=some (rH 26 x):=by rw[<-hH2];exact Y1 _ _ _
  have st:=WQ (n:=35) (b:=H.nx) (l:=Aq) (vs:=x) (H:=H1) rfl hxl (by decide) (by rw[k1.ro];exact zG) 26 1 false true
  rw[hH2] at st
  have l0: ∀G:Heap,ldN 35 (some (rH 26 x)) 0 G=.val (.agg x) G:=λG=>by rw[X8 (by omega),Z6,ZB (by omega)]
  obtain⟨cs,H3,e3,k3,hv⟩:=ho H2 (k0.trans' k2)
  have NS:=k2.trans' k3
  have GJ:H3.ro<=H3.nx:=by rw[NS.ro];exact Zn zG NS.nx
  have bs:=Zdz hv.vr.len
  obtain⟨w',H4,ea,w4,k4⟩:=hw.push NS k0.nx GJ (hv.move (S':=λc=>c<H.nx) (λ_ _ _=>rfl) (Zl _) λc _ hc=>by have hc:c<H.nx:=hc;show c<H2.nx;have:=k2.nx;omega) (by rw[ZP];omega)
  have ad:=λG=>YZ (a:=i) (b:=1) (by omega) G
  have hpush:L.take i++[L.getD i default]=L.take (i+1):=(TU hi default).symm
  rw[hpush] at w4
  have uK:Zq Hs H4 []:=Below.keep (k0.trans' NS) k4 (Zl _)
  simp only[t1,t5,t9,t10,t11,d1,eI,gR,Ge,hH1,g1,st,g2,l0,e3,bs,ea,ad,yf,Gs,Y8,YS,VO,ZH,Pa,Xs,Yl,ZE,Yb,DS,ZC,ZY,Zz,Z4]
  refine⟨_,_,_,rfl,?_⟩
  exact .inl ⟨rfl,m,by omega,⟨uK,t1',ez,t9',ZcO,⟨i+1,w',rfl,by omega,rfl,w4⟩⟩⟩
theorem ij(E:Env Zp fs fuel)(hk:1<=k){v:AV}{L:List JV}{xs:List (List AV)}{g:Nat}(hl:L.length<=1000)(hro:H.ro<=H.nx)(sl:Sl H 35 v xs)(hx:xs.length=L.length)(ho:xY Zp fs fuel k (n+2) g h H xs L):
  ∃w H',ZJ (LK Zp fs fuel k) fs fuel (n+3) 36 [v,.func g [] []] H=.ret (.agg (.str []::Uc w)) H'∧Zq H H' []∧MK H' (λc=>c<H.nx) (h+1) (Sr L) (Uc w):=by
 rw[ZL (ZF E.n36 (.inr rfl) _ _) E.f36]
 obtain⟨H1,hH1⟩:=XZ (H.new (rH 77 eV))
 obtain⟨H2,hH2⟩:=XZ (H1.new (rG 73 6 [] 0 false true true))
 have k1:Zq H H1 []:=by rw[<-hH1];exact Zq.new _ _ _
 have k12:Zq H1 H2 []:=by rw[<-hH2];exact Zq.new _ _ _
 have U2:H1.nx=H.nx+1:=by rw[<-hH1];rfl
 have nx2:H2.nx=H1.nx+1:=by rw[<-hH2];rfl
 have g1:H1.t.get H.nx=some (rH 77 eV):=by rw[<-hH1];exact Zx rfl _
 have Rm:H1.ro<=H1.nx:=by rw[k1.ro];omega
 have b0:=Zdx H1
 have b0:Wa 73 6 0 (List.replicate 0 zV).flatten [] H1=.val (.slice H1.nx 0 0 none) H2:=by rw[b0,hH2]
 have ln:=sl.len
 rw[hx] at ln
 have ho1:xY Zp fs fuel k (n+2) g h H1 xs L:=λi hi G kG=>ho i hi G (k1.trans' kG)
 have s0:ke H2 H1.nx h (.slice H1.nx 0 0 none) (L.take 0):=⟨H1.nx,[],.inl ⟨rfl,H1.nx,rfl,Zl _,by omega,by rw[<-hH2];exact Zx rfl _⟩,λ_ _ _ _ e=>by cases e;rfl,rfl,λq hq=>by cases hq⟩
 simp only[hH1,b0,ln,YS,Yb,c36,ZC,ZY,Z4]
 generalize hL:XQ (DS _) fuel _ _ _=Lp
 obtain⟨o,Tx,H3,rfl,_,rfl,k3,t4,w,t5,s3⟩:=YA (P:=λT=>aO H1 v L g h (.ptr H.nx 0) L.length T H2) (Q:=LVQ H1 L h (.ptr H.nx 0))
  (λT hi=>YK (aO H1 v L g h (.ptr H.nx 0)) (LVQ H1 L h (.ptr H.nx 0)) (λm tm H' h'=>cM E hl Rm (sl.keep0 k1) hx ho1 _ _ _ _ _ m tm H' h') fuel L.length T H2 (by have:=E.big;omega) hi) hL
  (by exact⟨k12,rfl,rfl,rfl,rfl,0,_,rfl,by omega,rfl,s0⟩)
 simp only[OI,yL] at t4 t5
 have hv3:=s3.vr (by omega)
 obtain⟨bw,ew,hb1,hb2⟩:=s3.w
 have NS:=k1.trans' k3
 obtain⟨H4,e4,k4⟩:=ofList E (n:=n) hk (v:=w) (H:=H3) (.inr ⟨_,_,_,_,ew⟩) (by rw[NS.ro];exact Zn hro NS.nx)
 have e4:ZJ (LK Zp fs fuel k) fs fuel (n+2) 41 [.iface 70 w] H3=.ret (.agg (Uc w)) H4:=e4
 have bd:=ky (cs:=Uc w) rfl
 have g4:H4.t.get H.nx=some (rH 77 eV):=by rw[(k3.trans' k4).get _ (by omega) (by simp)];exact g1
 have B5:H4.ro<=H.nx:=by rw[(NS.trans' k4).ro];exact hro
 have st:=WQ (n:=7) (b:=H.nx) (l:=eV) (vs:=.str []::Uc w) (H:=H4) rfl rfl (by decide) B5 77 1 false true
 have gp:=Y1 H4 H.nx (rH 77 (.str []::Uc w))
 have rv: ∀kk,rV 7 true (some (rH 77 (.str []::Uc w))) 0 kk=kk (.agg (.str []::Uc w)):=λkk=>Pr (n:=7) (l:=.str []::Uc w) rfl kk
 simp only[t4,t5,e4,bd,g4,st,gp,rv,Tt,ZE,Yb,ZC,ZY,Zz,Z4]
 refine⟨w,_,rfl,(NS.trans' k4).then_put λh=>absurd h (VA _),?_⟩
 refine hv3.move (λc hc hS=>?_) (by exact k4.nx) (λc hc hS=>?_)
 ·have hS: ¬c<H1.nx:=hS
  rw[YT (by omega),k4.get c hc (by simp)]
 ·have hS:c<H.nx:=hS
  show c<H1.nx;omega
theorem cP(E:Env Zp fs fuel){Hs:Heap}{v:AV}{L:List JV}{xs:List (List AV)}{g:Nat}{p4:AV}(hl:L.length<=1000)(hro:Hs.ro<=Hs.nx)(sl:Sz Hs 32 v xs)(hx:xs.length=L.length)(ho:xY Zp fs fuel k n g h Hs xs L)(y f dd r)(X0:X)(m:Nat)(tm:TM)(H:Heap)(hI:aO Hs v L g h p4 m tm H):
  ∃o tm' H',DU ⟨ZJ (LK Zp fs fuel k) fs fuel n,y,f,dd,r⟩ tm H X0=.ok o tm' H' X0∧((o=.normal∧ ∃q,q<m∧aO Hs v L g h p4 q tm' H')∨(o≠.normal∧LVQ Hs L h p4 o tm' H')):=by
 obtain⟨k0,t1,t4,t9,t10,⟨i,w,t11,him,t5,hw⟩⟩:=hI
 have t1':=t1;have ez:=t4;have t9':=t9;have ZcO:=t10;have aC:=t5
 simp only[PM,yM,jz,qN,yL] at t1 t9 t10 t11 t5
 cases m with
 |zero=>
  have d1:decide (i<L.length)=false:=Zb (by omega)
  rw[ZB (by omega)] at hw
  simp only[t10,t11,d1,ZH,DU,ZC,ZY,Z4]
  refine⟨_,_,_,rfl,?_⟩
  exact .inr ⟨by simp,rfl,k0,ez,w,aC,hw⟩
 |succ m=>
  have d1:decide (i<L.length)=true:=Ze (by omega)
  have hi:i<L.length:=by omega
  obtain⟨bb,o,R,eI,hbb,gR,Ge,_⟩:=(sl.keep0 k0).at_ (i:=i) (by omega)
  have hxl:(xs.getD i []).length=32:=Sz.each sl _ (by rw[Za,Zg (by omega)];exact Y0 _)
  have ho:=ho i hi
  generalize xs.getD i []=x at Ge hxl ho
  have zG:H.ro<=H.nx:=by rw[k0.ro];exact Zn hro k0.nx
  obtain⟨H1,hH1⟩:=XZ (H.new (.row ⟨23,1,32,.leaf,nI .u8 0,0,false,true,true⟩))
  obtain⟨H2,hH2⟩:=XZ (H1.put H.nx (.row ⟨23,1,32,Wg .leaf 0 x,nI .u8 0,0,false,true,true⟩))
  have k1:Zq H H1 []:=by rw[<-hH1];exact Zq.new _ _ _
  have k2:Zq H H2 []:=by rw[<-hH2];exact k1.then_put λh=>absurd h (VA _)
  have g1:H1.t.get H.nx=some (.row ⟨23,1,32,.leaf,nI .u8 0,0,false,true,true⟩):=by rw[<-hH1];exact Zx rfl _
  have g2:H2.t.get H.nx=some (.row ⟨23,1,32,Wg .leaf 0 x,nI .u8 0,0,false,true,true⟩):=by rw[<-hH2];exact Y1 _ _ _
  have st:=ZgT (b:=H.nx) (vs:=x) (H:=H1) hxl (by decide) (by rw[k1.ro];exact zG) 23 (nI .u8 0)
  rw[hH2] at st
  have l0:=λG=>ZfJ (vs:=x) hxl 23 (nI .u8 0) G
  obtain⟨cs,H3,e3,k3,hv⟩:=ho H2 (k0.trans' k2)
  have NS:=k2.trans' k3
  have GJ:H3.ro<=H3.nx:=by rw[NS.ro];exact Zn zG NS.nx
  have bs:=Zdz hv.vr.len
  obtain⟨w',H4,ea,w4,k4⟩:=hw.push NS k0.nx GJ (hv.move (S':=λc=>c<H.nx) (λ_ _ _=>rfl) (Zl _) λc _ hc=>by have hc:c<H.nx:=hc;show c<H2.nx;have:=k2.nx;omega) (by rw[ZP];omega)
  have ad:=λG=>YZ (a:=i) (b:=1) (by omega) G
  have hpush:L.take i++[L.getD i default]=L.take (i+1):=(TU hi default).symm
  rw[hpush] at w4
  have uK:Zq Hs H4 []:=Below.keep (k0.trans' NS) k4 (Zl _)
  simp only[t1,t5,t9,t10,t11,d1,eI,gR,Ge,hH1,g1,st,g2,l0,e3,bs,ea,ad,EQ,Y8,YS,VO,ZH,Pa,Xs,Yl,ZE,Yb,DU,ZC,ZY,Zz,Z4]
  refine⟨_,_,_,rfl,?_⟩
  exact .inl ⟨rfl,m,by omega,⟨uK,t1',ez,t9',ZcO,⟨i+1,w',rfl,by omega,rfl,w4⟩⟩⟩
theorem Zb8(E:Env Zp fs fuel)(hk:1<=k){v:AV}{L:List JV}{xs:List (List AV)}{g:Nat}(hl:L.length<=1000)(hro:H.ro<=H.nx)(sl:Sz H 32 v xs)(hx:xs.length=L.length)(ho:xY Zp fs fuel k (n+2) g h H xs L):
  ∃w H',ZJ (LK Zp fs fuel k) fs fuel (n+3) 43 [v,.func g [] []] H=.ret (.agg (.str []::Uc w)) H'∧Zq H H' []∧MK H' (λc=>c<H.nx) (h+1) (Sr L) (Uc w):=by
 rw[ZL (ZF E.n43 (.inr rfl) _ _) E.f43]
 obtain⟨H1,hH1⟩:=XZ (H.new (rH 77 eV))
 obtain⟨H2,hH2⟩:=XZ (H1.new (rG 73 6 [] 0 false true true))
 have k1:Zq H H1 []:=by rw[<-hH1];exact Zq.new _ _ _
 have k12:Zq H1 H2 []:=by rw[<-hH2];exact Zq.new _ _ _
 have U2:H1.nx=H.nx+1:=by rw[<-hH1];rfl
 have nx2:H2.nx=H1.nx+1:=by rw[<-hH2];rfl
 have g1:H1.t.get H.nx=some (rH 77 eV):=by rw[<-hH1];exact Zx rfl _
 have Rm:H1.ro<=H1.nx:=by rw[k1.ro];omega
 have b0:=Zdx H1
 have b0:Wa 73 6 0 (List.replicate 0 zV).flatten [] H1=.val (.slice H1.nx 0 0 none) H2:=by rw[b0,hH2]
 have ln:=sl.len
 rw[hx] at ln
 have ho1:xY Zp fs fuel k (n+2) g h H1 xs L:=λi hi G kG=>ho i hi G (k1.trans' kG)
 have s0:ke H2 H1.nx h (.slice H1.nx 0 0 none) (L.take 0):=⟨H1.nx,[],.inl ⟨rfl,H1.nx,rfl,Zl _,by omega,by rw[<-hH2];exact Zx rfl _⟩,λ_ _ _ _ e=>by cases e;rfl,rfl,λq hq=>by cases hq⟩
 simp only[hH1,b0,ln,YS,Yb,c43,ZC,ZY,Z4]
 generalize hL:XQ (DU _) fuel _ _ _=Lp
 obtain⟨o,Tx,H3,rfl,_,rfl,k3,t4,w,t5,s3⟩:=YA (P:=λT=>aO H1 v L g h (.ptr H.nx 0) L.length T H2) (Q:=LVQ H1 L h (.ptr H.nx 0))
  (λT hi=>YK (aO H1 v L g h (.ptr H.nx 0)) (LVQ H1 L h (.ptr H.nx 0)) (λm tm H' h'=>cP E hl Rm (sl.keep0 k1) hx ho1 _ _ _ _ _ m tm H' h') fuel L.length T H2 (by have:=E.big;omega) hi) hL
  (by exact⟨k12,rfl,rfl,rfl,rfl,0,_,rfl,by omega,rfl,s0⟩)
 simp only[OI,yL] at t4 t5
 have hv3:=s3.vr (by omega)
 obtain⟨bw,ew,hb1,hb2⟩:=s3.w
 have NS:=k1.trans' k3
 obtain⟨H4,e4,k4⟩:=ofList E (n:=n) hk (v:=w) (H:=H3) (.inr ⟨_,_,_,_,ew⟩) (by rw[NS.ro];exact Zn hro NS.nx)
 have e4:ZJ (LK Zp fs fuel k) fs fuel (n+2) 41 [.iface 70 w] H3=.ret (.agg (Uc w)) H4:=e4
 have bd:=ky (cs:=Uc w) rfl
 have g4:H4.t.get H.nx=some (rH 77 eV):=by rw[(k3.trans' k4).get _ (by omega) (by simp)];exact g1
 have B5:H4.ro<=H.nx:=by rw[(NS.trans' k4).ro];exact hro
 have st:=WQ (n:=7) (b:=H.nx) (l:=eV) (vs:=.str []::Uc w) (H:=H4) rfl rfl (by decide) B5 77 1 false true
 have gp:=Y1 H4 H.nx (rH 77 (.str []::Uc w))
 have rv: ∀kk,rV 7 true (some (rH 77 (.str []::Uc w))) 0 kk=kk (.agg (.str []::Uc w)):=λkk=>Pr (n:=7) (l:=.str []::Uc w) rfl kk
 simp only[t4,t5,e4,bd,g4,st,gp,rv,Tt,ZE,Yb,ZC,ZY,Zz,Z4]
 refine⟨w,_,rfl,(NS.trans' k4).then_put λh=>absurd h (VA _),?_⟩
 refine hv3.move (λc hc hS=>?_) (by exact k4.nx) (λc hc hS=>?_)
 ·have hS: ¬c<H1.nx:=hS
  rw[YT (by omega),k4.get c hc (by simp)]
 ·have hS:c<H.nx:=hS
  show c<H1.nx;omega
theorem OT(l:List NP):(RK l).length=l.length:=by unfold RK;rw[Zi]
theorem zA(l:List NP): ∀x∈RK l,x.length=2:=λx hx=>by
 unfold RK at hx
 obtain⟨p,_,rfl⟩:=YC.1 hx;rfl
theorem Dh.sl{v:AV}{l:List NP}(h:Dh H v l):Sl H 2 v (RK l):=by
 rcases h with⟨rfl,rfl⟩|⟨b,r,rfl,hb,g,_,hs,w⟩
 ·exact Sl.nil _ _
 ·refine⟨zA l,.inr ⟨b,0,none,by rw[OT],hb,λ_=>⟨r,g,by rw[OT];omega,λi hi=>?_⟩⟩⟩
  rw[OT] at hi
  have hq:i/2<l.length:=by omega
  have hm:i % 2<2:=Vl _ (by decide)
  have hd:i=i/2*2+i % 2:=by omega
  obtain⟨w1,w2⟩:=w (i/2) l[i/2] (Zg hq)
  rw[hd,Fx (zA l) (by rw[OT];exact hq) hm,Zs]
  have e2:(RK l).getD (i/2) []=[.str l[i/2].1,.str l[i/2].2]:=by unfold RK;rw[Za,Yh,Zg hq];rfl
  rw[e2]
  rcases(show i % 2=0∨i % 2=1 by omega) with h|h
  ·rw[h];exact w1
  ·rw[h];exact w2
def dJ(x:Vz):JV:=Hq x.md x.d x.z.toNat x.l
theorem wD(E:Env Zp fs fuel)(hk:1<=k){x:Vz}(hro:H.ro<=H.nx)(hc:OA H cs x)(hz:0<=x.z)(hz2:x.z<9223372036854775808)(hmd:x.md.length<=9000):
  ∃cs' H',ZJ (LK Zp fs fuel k) fs fuel (n+5) 34 [.agg cs] H=.ret (.agg cs') H'∧Zq H H' []∧MK H' (λc=>c<H.nx) 4 (dJ x) cs':=by
 obtain⟨v,rfl,hN,hd,hl,hS⟩:=hc
 obtain⟨u,hu⟩: ∃u:Nat,x.z=(u:Int):=⟨x.z.toNat,(Int.toNat_of_nonneg hz).symm⟩
 unfold dJ
 rw[hu,Wi]
 exact lQ E hk hd (by omega) hmd hro hN.sl (by omega) λp hp=>by
  obtain⟨i,hi,rfl⟩:=W6.1 hp
  have:=hS i
  rw[Za,Zg hi] at this
  have h1:x.l[i].1.length<=1000:=this.1
  have h2:x.l[i].2.length<=1000:=this.2
  omega
def xX(x:Vz):Prop:=0<=x.z∧x.z<9223372036854775808∧x.md.length<=9000
theorem L7{α β:Type}(f:α->β)(l:List α)(d:α)(e:β)(h:i<l.length):(l.map f).getD i e=f (l.getD i d):=by
 rw[Za,Yh,Za,Zg h];rfl
theorem zq(E:Env Zp fs fuel)(hk:1<=k){v:AV}{L:List Vz}(hro:H.ro<=H.nx)(hV:Te H v L)(hg: ∀x∈L,xX x):
  ∃xs,Sl H 35 v xs∧xs.length=(L.map dJ).length∧xY Zp fs fuel k (n+5) 34 4 H xs (L.map dJ):=by
 obtain⟨xs,sl,e,hc⟩:=hV
 refine⟨xs,sl,by rw[Zi];exact e,λi hi G kG=>?_⟩
 rw[Zi] at hi
 have hx:=hg (L.getD i default) (by rw[Za,Zg hi];exact Y0 hi)
 rw[L7 dJ L default default hi]
 exact wD E hk (by rw[kG.ro];exact Zn hro kG.nx) ((hc i hi).keep kG) hx.1 hx.2.1 hx.2.2
theorem dM(E:Env Zp fs fuel)(hk:1<=k){d:List UInt8}(hro:H.ro<=H.nx)(hd:d.length=32):
  ∃cs' H',ZJ (LK Zp fs fuel k) fs fuel (n+5) 40 [.agg (d.map XM)] H=.ret (.agg cs') H'∧Zq H H' []∧MK H' (λc=>c<H.nx) (h+1) (TT (R6 d)) cs':=by
 rw[ZL (ZF E.n40 (.inr rfl) _ _) E.f40]
 have tI:(d.map XM).length=32:=by rw[Zi];exact hd
 obtain⟨H1,hH1⟩:=XZ (H.new (rH 23 (d.map XM)))
 obtain⟨H2,hH2⟩:=XZ (H1.new (rH 73 zV))
 have bx:=YU (l:=d.map XM) (by omega) 23 H
 rw[hH1] at bx
 have U2:H1.nx=H.nx+1:=by rw[<-hH1];rfl
 have nx2:H2.nx=H1.nx+1:=by rw[<-hH2];rfl
 have k1:Zq H H1 []:=by rw[<-hH1];exact Zq.new _ _ _
 have k2:Zq H H2 []:=by rw[<-hH2];exact k1.then_new _
 have g1:H2.t.get H.nx=some (rH 23 (d.map XM)):=by rw[<-hH2,YV (by omega),<-hH1];exact Zx rfl _
 have g2:H2.t.get H1.nx=some (rH 73 zV):=by rw[<-hH2];exact Zx rfl _
 have ld: ∀G,ldN 32 (some (rH 23 (d.map XM))) 0 G=.val (.agg (d.map XM)) G:=λG=>by
  rw[X8 (by omega),Z6,ZB (by omega)]
 have Qw:H2.ro<=H2.nx:=by rw[k2.ro];exact Zn hro k2.nx
 obtain⟨H3,e3,k3⟩:=Eb E (k:=k) (n:=n) hd Qw
 have GJ:H3.ro<=H3.nx:=by rw[k3.ro];exact Zn Qw k3.nx
 have e4:=ZaB E (k:=k) (n:=n+3) hk (s:=R6 d) (H:=H3) GJ
 have e4:ZJ (LK Zp fs fuel k) fs fuel (n+4) 41 [.iface 9 (.str (R6 d))] H3=.ret (.agg (Vc (R6 d))) H3:=e4
 have g3:H3.t.get H1.nx=some (rH 73 zV):=by rw[k3.get _ (by omega) (by simp)];exact g2
 have B5:H3.ro<=H1.nx:=by rw[k3.ro,k2.ro];omega
 have st:=WQ (n:=6) (b:=H1.nx) (l:=zV) (vs:=Vc (R6 d)) (H:=H3) rfl rfl (by decide) B5 73 1 false true
 have gp:=Y1 H3 H1.nx (rH 73 (Vc (R6 d)))
 have rv: ∀kk,rV 6 true (some (rH 73 (Vc (R6 d)))) 0 kk=kk (.agg (Vc (R6 d))):=λkk=>Pr (n:=6) (l:=Vc (R6 d)) rfl kk
 simp(maxSteps:=4000000) (disch:=first|assumption|omega|(simp -implicitDefEqProofs only[ZQ,ZR]<;>first|assumption|omega)|decide) only[bx,hH2,g1,g2,ld,e3,e4,g3,st,gp,rv,WP,Y8,c40,ZC,ZY,Zz,Zw,Zr,Zt,ZA,Nat.reduceEqDiff,reduceCtorEq,Z4]
 refine⟨_,_,rfl,(k2.trans' k3).then_put (by omega),?_⟩
 exact NR (by rw[Jf hd];decide)
theorem iX(E:Env Zp fs fuel)(hk:1<=k){xs:List (List AV)}{L:List (List UInt8)}(hro:H.ro<=H.nx)(he:xs.length=L.length)(hx: ∀i,i<L.length->xs.getD i []=(L.getD i []).map XM∧(L.getD i []).length=32):
  xY Zp fs fuel k (n+5) 40 4 H xs (L.map λd=>TT (R6 d)):=λi hi G kG=>by
 rw[Zi] at hi
 rw[L7 (λd=>TT (R6 d)) L [] default hi,(hx i hi).1]
 exact dM E hk (by rw[kG.ro];exact Zn hro kG.nx) (hx i hi).2
theorem ZdX(E:Env Zp fs fuel)(hk:1<=k){u:Nat}(hro:H.ro<=H.nx):
  ∃H',ZJ (LK Zp fs fuel k) fs fuel (n+3) 37 [.str s,.iface 3 (nI .i64 u)] H=.ret (.agg (.str s::PR u)) H'∧Zq H H' []:=
 Ja E hro rfl λG kG=>⟨G,ofInt E (n:=n+1) (z:=(u:Int)) hk (by rw[kG.ro];exact Zn hro kG.nx),Zq.refl _ _⟩
end
end
end Go.AI
