/- Values checked, entries sorted, walked: proved without conditions but those that each names. -/
import Derived.Test.YtobbpmaeiiblaaaGreatDoorPB
import Derived.Test.YtobbpmaeiiblaaaGreatDoorPA
set_option maxRecDepth 1000000
set_option maxHeartbeats 0
set_option linter.unusedVariables false
set_option linter.unusedSimpArgs false
namespace Go.AI
open Go
noncomputable section
theorem QS(k:IntKind)(z:Int)(b:Nat)(H:Heap):eqV eqI false (.int k z) (nI k b) H= .val (.bool (decide (z=(b:Int)))) H:=ZCu k z b H
theorem ZfV(z:Int):decide (z=((0:Nat):Int))=decide (z=0):=rfl
def JV.apartL(kk:Nat)(b:Bool)(z:Int)(s:List UInt8)(ll ml:Nat):Bool:=(decide (kk=2)||!b)&&(decide (kk=3)||decide (z=0))&&(decide (kk=4)||decide (s=[]))&&(decide (kk=5)||decide (ll=0))&&(decide (kk=6)||decide (ml=0))
theorem ZFk{kk:Nat}{b:Bool}{z:Int}{s:List UInt8}{lv mv:AV}{ll ml:Nat}{C:Ctx}{tm:TM}{H:Heap}{x:X}{a:Bool}{b0:Nat}(t1:gt1 tm= .ptr b0 0)(ta:YF tm= .bool a)(lo:b0<H.nx)(g1:H.t.get b0=some (rG 72 1 [nI .i64 kk, .bool b, .int .i64 z, .str s,lv,mv] 0 false true true))(el: ∀G,Qe lv G= .val (nI .i64 ll) G)(em: ∀G,Qe mv G= .val (nI .i64 ml) G): ∃tm',Zbd C tm H x=ZdJ C tm' H x∧gt1 tm'= .ptr b0 0∧We tm'= .bool (a&&(decide (kk=3)||decide (z=0))):=by
 have t1':=t1
 simp only[ZbE] at t1
 simp only[ZEE] at ta
 cases a with
 |false=>
  simp(maxSteps:=4000000) (disch:=first|assumption|omega|(simp -implicitDefEqProofs only[Zu,Zv]<;>first|assumption|omega)|decide) only[YB,t1,ta,g1,ZW,QS,ZfV,UH,el,em,ZH,Zt,Zi,Zbd,ZC,N8G,Zr,Zs,Zd,Ze,Zf,Nat.reduceEqDiff,reduceCtorEq,TB0]
  refine⟨_,rfl,(by simp only[TB0,N8G];exact t1'),?_⟩
  simp only[TB0,TB1,N8G,ZY,ZZ,Bool.true_or,Bool.false_or,t1]
 |true=>
 by_cases k1:kk=3
 ·have d1:decide (kk=3)=true:=Zh k1
  simp(maxSteps:=4000000) (disch:=first|assumption|omega|(simp -implicitDefEqProofs only[Zu,Zv]<;>first|assumption|omega)|decide) only[YB,t1,ta,g1,ZW,QS,ZfV,UH,el,em,ZH,Zt,Zi,d1,Zbd,ZC,N8G,Zr,Zs,Zd,Ze,Zf,Nat.reduceEqDiff,reduceCtorEq,TB0]
  refine⟨_,rfl,(by simp only[TB0,N8G];exact t1'),?_⟩
  simp only[TB0,TB1,N8G,ZY,ZZ,Bool.true_or,Bool.false_or,d1]
 have d1:decide (kk=3)=false:=Zc k1
 by_cases f1:z=0
 ·have d2:decide (z=0)=true:=Zh f1
  simp(maxSteps:=4000000) (disch:=first|assumption|omega|(simp -implicitDefEqProofs only[Zu,Zv]<;>first|assumption|omega)|decide) only[YB,t1,ta,g1,ZW,QS,ZfV,UH,el,em,ZH,Zt,Zi,d1,d2,Zbd,ZC,N8G,Zr,Zs,Zd,Ze,Zf,Nat.reduceEqDiff,reduceCtorEq,TB0]
  refine⟨_,rfl,(by simp only[TB0,N8G];exact t1'),?_⟩
  simp only[TB0,TB1,N8G,ZY,ZZ,Bool.true_or,Bool.false_or,d1,d2]
 ·have d2:decide (z=0)=false:=Zc f1
  simp(maxSteps:=4000000) (disch:=first|assumption|omega|(simp -implicitDefEqProofs only[Zu,Zv]<;>first|assumption|omega)|decide) only[YB,t1,ta,g1,ZW,QS,ZfV,UH,el,em,ZH,Zt,Zi,d1,d2,Zbd,ZC,N8G,Zr,Zs,Zd,Ze,Zf,Nat.reduceEqDiff,reduceCtorEq,TB0]
  refine⟨_,rfl,(by simp only[TB0,N8G];exact t1'),?_⟩
  simp only[TB0,TB1,N8G,ZY,ZZ,Bool.true_or,Bool.false_or,d1,d2]
theorem ZFl{kk:Nat}{b:Bool}{z:Int}{s:List UInt8}{lv mv:AV}{ll ml:Nat}{C:Ctx}{tm:TM}{H:Heap}{x:X}{a:Bool}{b0:Nat}(t1:gt1 tm= .ptr b0 0)(ta:We tm= .bool a)(lo:b0<H.nx)(g1:H.t.get b0=some (rG 72 1 [nI .i64 kk, .bool b, .int .i64 z, .str s,lv,mv] 0 false true true))(el: ∀G,Qe lv G= .val (nI .i64 ll) G)(em: ∀G,Qe mv G= .val (nI .i64 ml) G): ∃tm',ZdJ C tm H x=ZdI C tm' H x∧gt1 tm'= .ptr b0 0∧WL tm'= .bool (a&&(decide (kk=4)||decide (s=[]))):=by
 have t1':=t1
 simp only[ZbE] at t1
 simp only[ZEI] at ta
 cases a with
 |false=>
  simp(maxSteps:=4000000) (disch:=first|assumption|omega|(simp -implicitDefEqProofs only[Zu,Zv]<;>first|assumption|omega)|decide) only[YB,t1,ta,g1,ZW,QS,ZfV,UH,el,em,ZH,Zt,Zi,ZdJ,ZC,N8G,Zr,Zs,Zd,Ze,Zf,Nat.reduceEqDiff,reduceCtorEq,TB0]
  refine⟨_,rfl,(by simp only[TB0,N8G];exact t1'),?_⟩
  simp only[TB0,TB1,N8G,ZY,ZZ,Bool.true_or,Bool.false_or,t1]
 |true=>
 by_cases k1:kk=4
 ·have d1:decide (kk=4)=true:=Zh k1
  simp(maxSteps:=4000000) (disch:=first|assumption|omega|(simp -implicitDefEqProofs only[Zu,Zv]<;>first|assumption|omega)|decide) only[YB,t1,ta,g1,ZW,QS,ZfV,UH,el,em,ZH,Zt,Zi,d1,ZdJ,ZC,N8G,Zr,Zs,Zd,Ze,Zf,Nat.reduceEqDiff,reduceCtorEq,TB0]
  refine⟨_,rfl,(by simp only[TB0,N8G];exact t1'),?_⟩
  simp only[TB0,TB1,N8G,ZY,ZZ,Bool.true_or,Bool.false_or,d1]
 have d1:decide (kk=4)=false:=Zc k1
 by_cases f1:s=[]
 ·have d2:decide (s=[])=true:=Zh f1
  simp(maxSteps:=4000000) (disch:=first|assumption|omega|(simp -implicitDefEqProofs only[Zu,Zv]<;>first|assumption|omega)|decide) only[YB,t1,ta,g1,ZW,QS,ZfV,UH,el,em,ZH,Zt,Zi,d1,d2,ZdJ,ZC,N8G,Zr,Zs,Zd,Ze,Zf,Nat.reduceEqDiff,reduceCtorEq,TB0]
  refine⟨_,rfl,(by simp only[TB0,N8G];exact t1'),?_⟩
  simp only[TB0,TB1,N8G,ZY,ZZ,Bool.true_or,Bool.false_or,d1,d2]
 ·have d2:decide (s=[])=false:=Zc f1
  simp(maxSteps:=4000000) (disch:=first|assumption|omega|(simp -implicitDefEqProofs only[Zu,Zv]<;>first|assumption|omega)|decide) only[YB,t1,ta,g1,ZW,QS,ZfV,UH,el,em,ZH,Zt,Zi,d1,d2,ZdJ,ZC,N8G,Zr,Zs,Zd,Ze,Zf,Nat.reduceEqDiff,reduceCtorEq,TB0]
  refine⟨_,rfl,(by simp only[TB0,N8G];exact t1'),?_⟩
  simp only[TB0,TB1,N8G,ZY,ZZ,Bool.true_or,Bool.false_or,d1,d2]
theorem ZFm{kk:Nat}{b:Bool}{z:Int}{s:List UInt8}{lv mv:AV}{ll ml:Nat}{C:Ctx}{tm:TM}{H:Heap}{x:X}{a:Bool}{b0:Nat}(t1:gt1 tm= .ptr b0 0)(ta:WL tm= .bool a)(lo:b0<H.nx)(g1:H.t.get b0=some (rG 72 1 [nI .i64 kk, .bool b, .int .i64 z, .str s,lv,mv] 0 false true true))(el: ∀G,Qe lv G= .val (nI .i64 ll) G)(em: ∀G,Qe mv G= .val (nI .i64 ml) G): ∃tm',ZdI C tm H x=ZdH C tm' H x∧gt1 tm'= .ptr b0 0∧Ve tm'= .bool (a&&(decide (kk=5)||decide (ll=0))):=by
 have t1':=t1
 simp only[ZbE] at t1
 simp only[Zxp] at ta
 cases a with
 |false=>
  simp(maxSteps:=4000000) (disch:=first|assumption|omega|(simp -implicitDefEqProofs only[Zu,Zv]<;>first|assumption|omega)|decide) only[YB,t1,ta,g1,ZW,QS,ZfV,UH,el,em,ZH,Zt,Zi,ZdI,ZC,N8G,Zr,Zs,Zd,Ze,Zf,Nat.reduceEqDiff,reduceCtorEq,TB0,TB1]
  refine⟨_,rfl,(by simp only[TB0,N8G];exact t1'),?_⟩
  simp only[TB0,TB1,N8G,ZY,ZZ,Bool.true_or,Bool.false_or,t1]
 |true=>
 by_cases k1:kk=5
 ·have d1:decide (kk=5)=true:=Zh k1
  simp(maxSteps:=4000000) (disch:=first|assumption|omega|(simp -implicitDefEqProofs only[Zu,Zv]<;>first|assumption|omega)|decide) only[YB,t1,ta,g1,ZW,QS,ZfV,UH,el,em,ZH,Zt,Zi,d1,ZdI,ZC,N8G,Zr,Zs,Zd,Ze,Zf,Nat.reduceEqDiff,reduceCtorEq,TB0,TB1]
  refine⟨_,rfl,(by simp only[TB0,N8G];exact t1'),?_⟩
  simp only[TB0,TB1,N8G,ZY,ZZ,Bool.true_or,Bool.false_or,d1]
 have d1:decide (kk=5)=false:=Zc k1
 by_cases f1:ll=0
 ·have d2:decide (ll=0)=true:=Zh f1
  simp(maxSteps:=4000000) (disch:=first|assumption|omega|(simp -implicitDefEqProofs only[Zu,Zv]<;>first|assumption|omega)|decide) only[YB,t1,ta,g1,ZW,QS,ZfV,UH,el,em,ZH,Zt,Zi,d1,d2,ZdI,ZC,N8G,Zr,Zs,Zd,Ze,Zf,Nat.reduceEqDiff,reduceCtorEq,TB0,TB1]
  refine⟨_,rfl,(by simp only[TB0,N8G];exact t1'),?_⟩
  simp only[TB0,TB1,N8G,ZY,ZZ,Bool.true_or,Bool.false_or,d1,d2]
 ·have d2:decide (ll=0)=false:=Zc f1
  simp(maxSteps:=4000000) (disch:=first|assumption|omega|(simp -implicitDefEqProofs only[Zu,Zv]<;>first|assumption|omega)|decide) only[YB,t1,ta,g1,ZW,QS,ZfV,UH,el,em,ZH,Zt,Zi,d1,d2,ZdI,ZC,N8G,Zr,Zs,Zd,Ze,Zf,Nat.reduceEqDiff,reduceCtorEq,TB0,TB1]
  refine⟨_,rfl,(by simp only[TB0,N8G];exact t1'),?_⟩
  simp only[TB0,TB1,N8G,ZY,ZZ,Bool.true_or,Bool.false_or,d1,d2]
theorem ZFn{kk:Nat}{b:Bool}{z:Int}{s:List UInt8}{lv mv:AV}{ll ml:Nat}{C:Ctx}{tm:TM}{H:Heap}{x:X}{a:Bool}{b0:Nat}(t1:gt1 tm= .ptr b0 0)(ta:Ve tm= .bool a)(lo:b0<H.nx)(g1:H.t.get b0=some (rG 72 1 [nI .i64 kk, .bool b, .int .i64 z, .str s,lv,mv] 0 false true true))(el: ∀G,Qe lv G= .val (nI .i64 ll) G)(em: ∀G,Qe mv G= .val (nI .i64 ml) G): ∃tm',ZdH C tm H x= .ok .normal tm' H x∧gt2 tm'= .bool (a&&(decide (kk=6)||decide (ml=0))):=by
 have t1':=t1
 simp only[ZbE] at t1
 simp only[ZEQ] at ta
 cases a with
 |false=>
  simp(maxSteps:=4000000) (disch:=first|assumption|omega|(simp -implicitDefEqProofs only[Zu,Zv]<;>first|assumption|omega)|decide) only[YB,t1,ta,g1,ZW,QS,ZfV,UH,el,em,ZH,Zt,Zi,ZdH,ZC,N8G,Zr,Zs,Zd,Ze,Zf,Nat.reduceEqDiff,reduceCtorEq,TB0,TB1]
  refine⟨_,rfl,?_⟩
  simp only[TB0,N8G,ZY,ZZ,Bool.true_or,Bool.false_or,t1]
 |true=>
 by_cases k1:kk=6
 ·have d1:decide (kk=6)=true:=Zh k1
  simp(maxSteps:=4000000) (disch:=first|assumption|omega|(simp -implicitDefEqProofs only[Zu,Zv]<;>first|assumption|omega)|decide) only[YB,t1,ta,g1,ZW,QS,ZfV,UH,el,em,ZH,Zt,Zi,d1,ZdH,ZC,N8G,Zr,Zs,Zd,Ze,Zf,Nat.reduceEqDiff,reduceCtorEq,TB0,TB1]
  refine⟨_,rfl,?_⟩
  simp only[TB0,N8G,ZY,ZZ,Bool.true_or,Bool.false_or,d1]
 have d1:decide (kk=6)=false:=Zc k1
 by_cases f1:ml=0
 ·have d2:decide (ml=0)=true:=Zh f1
  simp(maxSteps:=4000000) (disch:=first|assumption|omega|(simp -implicitDefEqProofs only[Zu,Zv]<;>first|assumption|omega)|decide) only[YB,t1,ta,g1,ZW,QS,ZfV,UH,el,em,ZH,Zt,Zi,d1,d2,ZdH,ZC,N8G,Zr,Zs,Zd,Ze,Zf,Nat.reduceEqDiff,reduceCtorEq,TB0,TB1]
  refine⟨_,rfl,?_⟩
  simp only[TB0,N8G,ZY,ZZ,Bool.true_or,Bool.false_or,d1,d2]
 ·have d2:decide (ml=0)=false:=Zc f1
  simp(maxSteps:=4000000) (disch:=first|assumption|omega|(simp -implicitDefEqProofs only[Zu,Zv]<;>first|assumption|omega)|decide) only[YB,t1,ta,g1,ZW,QS,ZfV,UH,el,em,ZH,Zt,Zi,d1,d2,ZdH,ZC,N8G,Zr,Zs,Zd,Ze,Zf,Nat.reduceEqDiff,reduceCtorEq,TB0,TB1]
  refine⟨_,rfl,?_⟩
  simp only[TB0,N8G,ZY,ZZ,Bool.true_or,Bool.false_or,d1,d2]
theorem ZsA{Zm:Lib}{fs:T CF}{fuel:Nat}(E:Env Zm fs fuel){n:Nat}{kk:Nat}{b:Bool}{z:Int}{s:List UInt8}{lv mv:AV}{ll ml:Nat}{H:Heap}(el: ∀G,Qe lv G= .val (nI .i64 ll) G)(em: ∀G,Qe mv G= .val (nI .i64 ml) G):
  ∃H',ZR (LK Zm fs fuel 0) fs fuel (n+2) 120 [.agg [nI .i64 kk, .bool b, .int .i64 z, .str s,lv,mv]] H= .ret (.bool (JV.apartL kk b z s ll ml)) H'∧Keep H H' []:=by
 rw[ZV (ZN E.n120 (.inl (by decide)) _ _) E.f120]
 obtain⟨H1,hH1⟩: ∃G,Heap.new H (rG 72 1 [nI .i64 kk, .bool b, .int .i64 z, .str s,lv,mv] 0 false true true)=G:=⟨_,rfl⟩
 have nx1:H1.nx=H.nx+1:=by rw[←hH1];rfl
 have g1:H1.t.get H.nx=some (rG 72 1 [nI .i64 kk, .bool b, .int .i64 z, .str s,lv,mv] 0 false true true):=by rw[←hH1,ZP rfl]
 have k1:Keep H H1 []:=by rw[←hH1];exact Keep.new H _ _
 have lo:H.nx<H1.nx:=by omega
 have fin: ∀{C:Ctx} {tm:TM} {x:X} {L:Res},Zbd C tm H1 x=L→gt1 tm= .ptr H.nx 0→YF tm= .bool (decide (kk=2)||!b)→ ∃tm',L= .ok .normal tm' H1 x∧gt2 tm'= .bool (JV.apartL kk b z s ll ml):=by
  intro C tm x L hL a1 a2
  obtain⟨tm1,e1,b1,b2⟩:=ZFk (C:=C) (x:=x) a1 a2 lo g1 el em
  obtain⟨tm2,e2,c1,c2⟩:=ZFl (C:=C) (x:=x) b1 b2 lo g1 el em
  obtain⟨tm3,e3,d1,d2⟩:=ZFm (C:=C) (x:=x) c1 c2 lo g1 el em
  obtain⟨tm4,e4,f1⟩:=ZFn (C:=C) (x:=x) d1 d2 lo g1 el em
  exact⟨tm4,by rw[←hL,e1,e2,e3,e4],f1⟩
 by_cases k2:kk=2
 ·have d1:decide (kk=2)=true:=Zh k2
  simp(maxSteps:=4000000) (disch:=first|assumption|omega|(simp -implicitDefEqProofs only[Zu,Zv]<;>first|assumption|omega)|decide) only[nx1,g1,hH1,ZW,ZH,Vf,d1,Zvm,ZC,N8G,Zr,Zs,Zd,Ze,Zf,Nat.reduceEqDiff,reduceCtorEq,TB0]
  generalize hS:Zbd _ _ _ _=L
  obtain⟨tm1,rfl,f2⟩:=fin hS (by simp only[TB0,N8G]) (by simp only[TB0,N8G,Bool.true_or,Bool.false_or,Bool.not_true,Bool.not_false,d1])
  simp only[ZaN] at f2
  simp(maxSteps:=4000000) (disch:=first|assumption|omega|(simp -implicitDefEqProofs only[Zu,Zv]<;>first|assumption|omega)|decide) only[f2,ZC,N8G,Zr,Zs,Zd,Ze,Zf,Nat.reducePow,Nat.reduceDiv,Nat.reduceMod,Nat.reduceEqDiff,reduceCtorEq,TB0]
  refine⟨_,rfl,?_⟩
  exact k1
 have d1:decide (kk=2)=false:=Zc k2
 cases b with
 |false=>
  simp(maxSteps:=4000000) (disch:=first|assumption|omega|(simp -implicitDefEqProofs only[Zu,Zv]<;>first|assumption|omega)|decide) only[nx1,g1,hH1,ZW,ZH,d1,Zvm,ZC,N8G,Zr,Zs,Zd,Ze,Zf,Nat.reduceEqDiff,reduceCtorEq,TB0]
  generalize hS:Zbd _ _ _ _=L
  obtain⟨tm1,rfl,f2⟩:=fin hS (by simp only[TB0,N8G]) (by simp only[TB0,N8G,Bool.true_or,Bool.false_or,Bool.not_true,Bool.not_false,d1])
  simp only[ZaN] at f2
  simp(maxSteps:=4000000) (disch:=first|assumption|omega|(simp -implicitDefEqProofs only[Zu,Zv]<;>first|assumption|omega)|decide) only[f2,ZC,N8G,Zr,Zs,Zd,Ze,Zf,Nat.reducePow,Nat.reduceDiv,Nat.reduceMod,Nat.reduceEqDiff,reduceCtorEq,TB0]
  refine⟨_,rfl,?_⟩
  exact k1
 |true=>
  simp(maxSteps:=4000000) (disch:=first|assumption|omega|(simp -implicitDefEqProofs only[Zu,Zv]<;>first|assumption|omega)|decide) only[nx1,g1,hH1,ZW,ZH,d1,Zvm,ZC,N8G,Zr,Zs,Zd,Ze,Zf,Nat.reduceEqDiff,reduceCtorEq,TB0]
  generalize hS:Zbd _ _ _ _=L
  obtain⟨tm1,rfl,f2⟩:=fin hS (by simp only[TB0,N8G]) (by simp only[TB0,N8G,Bool.true_or,Bool.false_or,Bool.not_true,Bool.not_false,d1])
  simp only[ZaN] at f2
  simp(maxSteps:=4000000) (disch:=first|assumption|omega|(simp -implicitDefEqProofs only[Zu,Zv]<;>first|assumption|omega)|decide) only[f2,ZC,N8G,Zr,Zs,Zd,Ze,Zf,Nat.reducePow,Nat.reduceDiv,Nat.reduceMod,Nat.reduceEqDiff,reduceCtorEq,TB0]
  refine⟨_,rfl,?_⟩
  exact k1
theorem ZC5{Zm:Lib}{fs:T CF}{fuel:Nat}(E:Env Zm fs fuel){k n:Nat}(hk:1≤k){kk:Nat}{b:Bool}{z:Int}{s:List UInt8}{lv mv:AV}{ll ml:Nat}{H:Heap}(el: ∀G,Qe lv G= .val (nI .i64 ll) G)(em: ∀G,Qe mv G= .val (nI .i64 ml) G):
  ZR (LK Zm fs fuel k) fs fuel (n+1) 120 [.agg [nI .i64 kk, .bool b, .int .i64 z, .str s,lv,mv]] H= .ret (.bool (JV.apartL kk b z s ll ml)) H:=by
 obtain⟨H',e,g⟩:=ZsA E (n:=898) (H:=H) el em
 exact Y6 (r:=0) rfl rfl e g (rfl) hk
end
end Go.AI
namespace Go.AI
open Go
noncomputable section
structure IXV(H0:Heap)(v:AV)(len:Nat)(pf:AV)(p:Nat→Bool)(m:Nat)(tm:TM)(H:Heap):Prop where
 i: ∃i,gt8 tm=nI .i64 i∧i≤len∧m=len - i∧ ∀j,j<i→p j=false
 t0:gt0 tm=v
 t1:gt1 tm=pf
 t7:gt7 tm=nI .i64 len
 k:Keep H0 H []
theorem Zyz{Zm:Lib}{fs:T CF}{fuel:Nat}(E:Env Zm fs fuel){k n q:Nat}{H0:Heap}{v:AV}{ls:List (List AV)}{a b:List AV}(h:Sl H0 6 v ls)(hl:ls.length≤9000){p:Nat→Bool}
  (hp: ∀i,i<ls.length→ ∀G,Keep H0 G []→ ∃G',ZR (LK Zm fs fuel k) fs fuel n q (a++([.agg (ls.getD i [])]++b)) G= .ret (.bool (p i)) G'∧Keep G G' [])(y f d r)(x:X)(m:Nat)(tm:TM)(H:Heap)(hI:IXV H0 v ls.length (.func q a b) p m tm H):
  ∃o tm' H',ZfH ⟨ZR (LK Zm fs fuel k) fs fuel n,y,f,d,r⟩ tm H x= .ok o tm' H' x∧((o= .normal∧ ∃k,k<m∧IXV H0 v ls.length (.func q a b) p k tm' H')∨(o≠ .normal∧Keep H0 H' []∧((o= .exit 0∧Zdb p ls.length= .int .i64 (.negSucc 0))∨(o= .ret∧gt4 tm'=Zdb p ls.length)))):=by
 obtain⟨⟨i,t8,hi,rfl,hf⟩,t0,t1,t7,k0⟩:=hI
 simp only[Zl9] at t8
 have t0':=t0;have t1':=t1;have t7':=t7
 simp only[Zck] at t0
 simp only[ZbE] at t1
 simp only[Zxo] at t7
 by_cases hlt:i<ls.length
 ·have d1:decide (i<ls.length)=true:=Zh hlt
  obtain⟨b',o',r',eI,hb,gb,eL,_⟩:=(h.keep0 k0).at_ hlt
  obtain⟨G',eC,kC⟩:=hp i hlt H k0
  cases hpi:p i with
  |true=>
   rw[hpi] at eC
   simp(maxSteps:=4000000) (disch:=first|assumption|omega|(simp -implicitDefEqProofs only[Zu,Zv]<;>first|assumption|omega)|decide) only[t0,t1,t7,t8,d1,eI,gb,eL,eC,ZI,Yw,ZfH,ZC,N8G,Zr,Zs,Zd,Ze,Zf,Nat.reduceEqDiff,reduceCtorEq,TB0]
   refine⟨_,_,_,rfl,?_⟩
   exact .inr ⟨by simp,k0.trans kC (by simp), .inr ⟨rfl,by unfold Zdb;rw[ZnB hlt hf hpi];rfl⟩⟩
  |false=>
   rw[hpi] at eC
   simp(maxSteps:=4000000) (disch:=first|assumption|omega|(simp -implicitDefEqProofs only[Zu,Zv]<;>first|assumption|omega)|decide) only[t0,t1,t7,t8,d1,eI,gb,eL,eC,ZI,Yw,ZfH,ZC,N8G,Zr,Zs,Zd,Ze,Zf,Nat.reduceEqDiff,reduceCtorEq,TB0]
   exact⟨_,_,_,rfl, .inl ⟨rfl,ls.length - (i+1),by omega,⟨i+1,rfl,by omega,rfl,fun j hj=>by
    by_cases e:j=i
    ·subst e;exact hpi
    ·exact hf j (by omega)⟩,t0',t1',t7',k0.trans kC (by simp)⟩⟩
 ·have d1:decide (i<ls.length)=false:=Zc hlt
  simp(maxSteps:=4000000) (disch:=first|assumption|omega|(simp -implicitDefEqProofs only[Zu,Zv]<;>first|assumption|omega)|decide) only[t7,t8,d1,ZI,ZfH,ZC,N8G,Zr,Zs,Zd,Ze,Zf,Nat.reduceEqDiff,reduceCtorEq,TB0]
  refine⟨_,_,_,rfl,?_⟩
  exact .inr ⟨by simp,k0, .inl ⟨rfl,by unfold Zdb;rw[ZnA fun j hj=>hf j (by omega)]⟩⟩
theorem ixV{Zm:Lib}{fs:T CF}{fuel:Nat}(E:Env Zm fs fuel){k n q:Nat}{H:Heap}{v:AV}{ls:List (List AV)}{a b:List AV}(h:Sl H 6 v ls)(hl:ls.length≤9000){p:Nat→Bool}
  (hp: ∀i,i<ls.length→ ∀G,Keep H G []→ ∃G',ZR (LK Zm fs fuel k) fs fuel n q (a++([.agg (ls.getD i [])]++b)) G= .ret (.bool (p i)) G'∧Keep G G' []):
  ∃H',ZR (LK Zm fs fuel k) fs fuel (n+1) 160 [v, .func q a b] H= .ret (Zdb p ls.length) H'∧Keep H H' []:=by
 rw[ZV (ZN E.n160 (.inr rfl) _ _) E.f160]
 have el:=h.len
 simp(maxSteps:=4000000) (disch:=first|assumption|omega|(simp -implicitDefEqProofs only[Zu,Zv]<;>first|assumption|omega)|decide) only[el,Zvn,ZC,N8G,Zr,Zs,Zd,Ze,Zf,Nat.reduceEqDiff,reduceCtorEq,TB0]
 generalize hL:WI (ZfH _) fuel _ _ _=L
 obtain⟨o,tm1,H1,rfl,_,k1,hq⟩:=YC (P:=fun T=>IXV H v ls.length (.func q a b) p ls.length T H) (Q:=fun o tm H'=>Keep H H' []∧((o= .exit 0∧Zdb p ls.length= .int .i64 (.negSucc 0))∨(o= .ret∧gt4 tm=Zdb p ls.length)))
  (fun T hi'=>YE (IXV H v ls.length (.func q a b) p) (fun o tm H'=>Keep H H' []∧((o= .exit 0∧Zdb p ls.length= .int .i64 (.negSucc 0))∨(o= .ret∧gt4 tm=Zdb p ls.length))) (fun m tm H' h'=>Zyz E h hl hp _ _ _ _ _ m tm H' h') fuel ls.length T H (by have:=E.big;omega) hi') hL
  ⟨⟨0,rfl,ZX _,rfl,fun j hj=>by omega⟩,rfl,rfl,rfl,Keep.refl _ _⟩
 rcases hq with⟨rfl,e⟩|⟨rfl,e⟩
 ·rw[e]
  simp(maxSteps:=4000000) (disch:=first|assumption|omega|(simp -implicitDefEqProofs only[Zu,Zv]<;>first|assumption|omega)|decide) only[Zvn,ZC,N8G,Zr,Zs,Zd,Ze,Zf,Nat.reduceEqDiff,reduceCtorEq,TB0]
  refine⟨_,rfl,?_⟩
  exact k1
 ·simp only[Zj7] at e
  simp(maxSteps:=4000000) (disch:=first|assumption|omega|(simp -implicitDefEqProofs only[Zu,Zv]<;>first|assumption|omega)|decide) only[e,Zvn,ZC,N8G,Zr,Zs,Zd,Ze,Zf,Nat.reduceEqDiff,reduceCtorEq,TB0]
  refine⟨_,rfl,?_⟩
  exact k1
theorem cfV{Zm:Lib}{fs:T CF}{fuel:Nat}(E:Env Zm fs fuel){k n q:Nat}{H:Heap}{v:AV}{ls:List (List AV)}{a b:List AV}(h:Sl H 6 v ls)(hl:ls.length≤9000){p:Nat→Bool}
  (hp: ∀i,i<ls.length→ ∀G,Keep H G []→ ∃G',ZR (LK Zm fs fuel k) fs fuel n q (a++([.agg (ls.getD i [])]++b)) G= .ret (.bool (p i)) G'∧Keep G G' []):
  ∃H',ZR (LK Zm fs fuel k) fs fuel (n+2) 121 [v, .func q a b] H= .ret (.bool ((List.range ls.length).any p)) H'∧Keep H H' []:=by
 rw[ZV (ZN E.n121 (.inr rfl) _ _) E.f121]
 obtain⟨H1,e1,k1⟩:=ixV E h hl hp
 simp(maxSteps:=4000000) (disch:=first|assumption|omega|(simp -implicitDefEqProofs only[Zu,Zv]<;>first|assumption|omega)|decide) only[e1,Zto,ZAf,ZC,N8G,Zr,Zs,Zd,Ze,Zf,Nat.reduceEqDiff,reduceCtorEq,TB0]
 refine⟨_,rfl,?_⟩
 exact k1
structure IXE(H0:Heap)(v:AV)(len:Nat)(pf:AV)(p:Nat→Bool)(m:Nat)(tm:TM)(H:Heap):Prop where
 i: ∃i,gt8 tm=nI .i64 i∧i≤len∧m=len - i∧ ∀j,j<i→p j=false
 t0:gt0 tm=v
 t1:gt1 tm=pf
 t7:gt7 tm=nI .i64 len
 k:Keep H0 H []
theorem ZyA{Zm:Lib}{fs:T CF}{fuel:Nat}(E:Env Zm fs fuel){k n q:Nat}{H0:Heap}{v:AV}{ls:List (List AV)}{a b:List AV}(h:Sl H0 7 v ls)(hl:ls.length≤9000){p:Nat→Bool}
  (hp: ∀i,i<ls.length→ ∀G,Keep H0 G []→ ∃G',ZR (LK Zm fs fuel k) fs fuel n q (a++([.agg (ls.getD i [])]++b)) G= .ret (.bool (p i)) G'∧Keep G G' [])(y f d r)(x:X)(m:Nat)(tm:TM)(H:Heap)(hI:IXE H0 v ls.length (.func q a b) p m tm H):
  ∃o tm' H',Zi9 ⟨ZR (LK Zm fs fuel k) fs fuel n,y,f,d,r⟩ tm H x= .ok o tm' H' x∧((o= .normal∧ ∃k,k<m∧IXE H0 v ls.length (.func q a b) p k tm' H')∨(o≠ .normal∧Keep H0 H' []∧((o= .exit 0∧Zdb p ls.length= .int .i64 (.negSucc 0))∨(o= .ret∧gt4 tm'=Zdb p ls.length)))):=by
 obtain⟨⟨i,t8,hi,rfl,hf⟩,t0,t1,t7,k0⟩:=hI
 simp only[Zl9] at t8
 have t0':=t0;have t1':=t1;have t7':=t7
 simp only[Zck] at t0
 simp only[ZbE] at t1
 simp only[Zxo] at t7
 by_cases hlt:i<ls.length
 ·have d1:decide (i<ls.length)=true:=Zh hlt
  obtain⟨b',o',r',eI,hb,gb,eL,_⟩:=(h.keep0 k0).at_ hlt
  obtain⟨G',eC,kC⟩:=hp i hlt H k0
  cases hpi:p i with
  |true=>
   rw[hpi] at eC
   simp(maxSteps:=4000000) (disch:=first|assumption|omega|(simp -implicitDefEqProofs only[Zu,Zv]<;>first|assumption|omega)|decide) only[t0,t1,t7,t8,d1,eI,gb,eL,eC,ZI,Yw,Zi9,ZC,N8G,Zr,Zs,Zd,Ze,Zf,Nat.reduceEqDiff,reduceCtorEq,TB0]
   refine⟨_,_,_,rfl,?_⟩
   exact .inr ⟨by simp,k0.trans kC (by simp), .inr ⟨rfl,by unfold Zdb;rw[ZnB hlt hf hpi];rfl⟩⟩
  |false=>
   rw[hpi] at eC
   simp(maxSteps:=4000000) (disch:=first|assumption|omega|(simp -implicitDefEqProofs only[Zu,Zv]<;>first|assumption|omega)|decide) only[t0,t1,t7,t8,d1,eI,gb,eL,eC,ZI,Yw,Zi9,ZC,N8G,Zr,Zs,Zd,Ze,Zf,Nat.reduceEqDiff,reduceCtorEq,TB0]
   exact⟨_,_,_,rfl, .inl ⟨rfl,ls.length - (i+1),by omega,⟨i+1,rfl,by omega,rfl,fun j hj=>by
    by_cases e:j=i
    ·subst e;exact hpi
    ·exact hf j (by omega)⟩,t0',t1',t7',k0.trans kC (by simp)⟩⟩
 ·have d1:decide (i<ls.length)=false:=Zc hlt
  simp(maxSteps:=4000000) (disch:=first|assumption|omega|(simp -implicitDefEqProofs only[Zu,Zv]<;>first|assumption|omega)|decide) only[t7,t8,d1,ZI,Zi9,ZC,N8G,Zr,Zs,Zd,Ze,Zf,Nat.reduceEqDiff,reduceCtorEq,TB0]
  refine⟨_,_,_,rfl,?_⟩
  exact .inr ⟨by simp,k0, .inl ⟨rfl,by unfold Zdb;rw[ZnA fun j hj=>hf j (by omega)]⟩⟩
theorem ixE{Zm:Lib}{fs:T CF}{fuel:Nat}(E:Env Zm fs fuel){k n q:Nat}{H:Heap}{v:AV}{ls:List (List AV)}{a b:List AV}(h:Sl H 7 v ls)(hl:ls.length≤9000){p:Nat→Bool}
  (hp: ∀i,i<ls.length→ ∀G,Keep H G []→ ∃G',ZR (LK Zm fs fuel k) fs fuel n q (a++([.agg (ls.getD i [])]++b)) G= .ret (.bool (p i)) G'∧Keep G G' []):
  ∃H',ZR (LK Zm fs fuel k) fs fuel (n+1) 88 [v, .func q a b] H= .ret (Zdb p ls.length) H'∧Keep H H' []:=by
 rw[ZV (ZN E.n88 (.inr rfl) _ _) E.f88]
 have el:=h.len
 simp(maxSteps:=4000000) (disch:=first|assumption|omega|(simp -implicitDefEqProofs only[Zu,Zv]<;>first|assumption|omega)|decide) only[el,c88,ZC,N8G,Zr,Zs,Zd,Ze,Zf,Nat.reduceEqDiff,reduceCtorEq,TB0]
 generalize hL:WI (Zi9 _) fuel _ _ _=L
 obtain⟨o,tm1,H1,rfl,_,k1,hq⟩:=YC (P:=fun T=>IXE H v ls.length (.func q a b) p ls.length T H) (Q:=fun o tm H'=>Keep H H' []∧((o= .exit 0∧Zdb p ls.length= .int .i64 (.negSucc 0))∨(o= .ret∧gt4 tm=Zdb p ls.length)))
  (fun T hi'=>YE (IXE H v ls.length (.func q a b) p) (fun o tm H'=>Keep H H' []∧((o= .exit 0∧Zdb p ls.length= .int .i64 (.negSucc 0))∨(o= .ret∧gt4 tm=Zdb p ls.length))) (fun m tm H' h'=>ZyA E h hl hp _ _ _ _ _ m tm H' h') fuel ls.length T H (by have:=E.big;omega) hi') hL
  ⟨⟨0,rfl,ZX _,rfl,fun j hj=>by omega⟩,rfl,rfl,rfl,Keep.refl _ _⟩
 rcases hq with⟨rfl,e⟩|⟨rfl,e⟩
 ·rw[e]
  simp(maxSteps:=4000000) (disch:=first|assumption|omega|(simp -implicitDefEqProofs only[Zu,Zv]<;>first|assumption|omega)|decide) only[c88,ZC,N8G,Zr,Zs,Zd,Ze,Zf,Nat.reduceEqDiff,reduceCtorEq,TB0]
  refine⟨_,rfl,?_⟩
  exact k1
 ·simp only[Zj7] at e
  simp(maxSteps:=4000000) (disch:=first|assumption|omega|(simp -implicitDefEqProofs only[Zu,Zv]<;>first|assumption|omega)|decide) only[e,c88,ZC,N8G,Zr,Zs,Zd,Ze,Zf,Nat.reduceEqDiff,reduceCtorEq,TB0]
  refine⟨_,rfl,?_⟩
  exact k1
theorem cfE{Zm:Lib}{fs:T CF}{fuel:Nat}(E:Env Zm fs fuel){k n q:Nat}{H:Heap}{v:AV}{ls:List (List AV)}{a b:List AV}(h:Sl H 7 v ls)(hl:ls.length≤9000){p:Nat→Bool}
  (hp: ∀i,i<ls.length→ ∀G,Keep H G []→ ∃G',ZR (LK Zm fs fuel k) fs fuel n q (a++([.agg (ls.getD i [])]++b)) G= .ret (.bool (p i)) G'∧Keep G G' []):
  ∃H',ZR (LK Zm fs fuel k) fs fuel (n+2) 124 [v, .func q a b] H= .ret (.bool ((List.range ls.length).any p)) H'∧Keep H H' []:=by
 rw[ZV (ZN E.n124 (.inr rfl) _ _) E.f124]
 obtain⟨H1,e1,k1⟩:=ixE E h hl hp
 simp(maxSteps:=4000000) (disch:=first|assumption|omega|(simp -implicitDefEqProofs only[Zu,Zv]<;>first|assumption|omega)|decide) only[e1,Zto,ZAg,ZC,N8G,Zr,Zs,Zd,Ze,Zf,Nat.reduceEqDiff,reduceCtorEq,TB0]
 refine⟨_,rfl,?_⟩
 exact k1
end
end Go.AI
namespace Go.AI
open Go
noncomputable section
theorem ZyB(k:Nat)(b:Bool)(n:Int)(s:List UInt8)(l:List JV)(m:List (List UInt8×JV)):JV.apart (.mk k b n s l m)=JV.apartL k b n s l.length m.length:=rfl
theorem ZvB(f:JV→Bool)(seen:List (List UInt8))(m:List (List UInt8×JV))(i:Nat)(h:i<m.length):JV.badM f seen (m.drop i)=(decide ((m.getD i default).1∈seen)||!vu (m.getD i default).1||f (m.getD i default).2||JV.badM f (seen++[(m.getD i default).1]) (m.drop (i+1))):=by
 rw[List.drop_eq_getElem_cons h,Zj,Zp h];rfl
theorem ZqS{m:List (List UInt8×JV)}{i:Nat}(h:i<m.length):(m.take (i+1)).map (·.1)=(m.take i).map (·.1)++[(m.getD i default).1]:=by
 rw[List.take_add_one,Zp h,List.map_append,Zj,Zp h];rfl
structure WM(H0:Heap)(d:Nat)(cs:List AV)(mv:AV)(mm:List (List UInt8×JV))(m:Nat)(tm:TM)(H:Heap):Prop where
 i: ∃i,W7 tm=nI .i64 i∧i≤mm.length∧m=mm.length - i∧JV.badM (JV.wrong d) [] mm=JV.badM (JV.wrong d) ((mm.take i).map (·.1)) (mm.drop i)∧ ∃es q,H.t.get (H0.nx+2)=some (.map es q)∧Seen es ((mm.take i).map (·.1))
 t2:gt2 tm= .ptr H0.nx 0
 t3:gt3 tm= .ptr (H0.nx+1) 0
 t5:gt5 tm= .map (H0.nx+2)
 t31:WL tm=mv
 t32:Ud tm=nI .i64 mm.length
 k:Keep H0 H []
 n:H0.nx+3≤H.nx
 g0:H.t.get H0.nx=some (rG 72 1 cs 0 false true true)
 g1:H.t.get (H0.nx+1)=some (rG 3 1 [nI .i64 (d+1)] 0 false true true)
theorem ZsB{Zm:Lib}{fs:T CF}{fuel:Nat}(E:Env Zm fs fuel){n d:Nat}(hd:d≤100)(ih: ∀{h:Nat} {v:JV} {cs:List AV} {H:Heap},GlobU H→H.ro≤H.nx→VR H h v cs→ ∃H',ZR (LK Zm fs fuel 2) fs fuel n 70 [.agg cs,nI .i64 d] H= .ret (.bool (JV.wrong d v)) H'∧Keep H H' []){H0:Heap}{h:Nat}{cs:List AV}{mv:AV}{mm:List (List UInt8×JV)}{ms:List (List AV)}(g:GlobU H0)(hro:H0.ro≤H0.nx)(sm:Sl H0 7 mv ms)(e2:ms.length=mm.length)(hl:mm.length≤9000)
  (hm: ∀i,i<mm.length→(mm.getD i default).1.length≤9000∧ ∃t,ms.getD i []= .str (mm.getD i default).1::t∧VR H0 h (mm.getD i default).2 t)(hn: ∃q,n=q+1)(y f r)(dd)(x:X)(m:Nat)(tm:TM)(H:Heap)(hI:WM H0 d cs mv mm m tm H):
  ∃o tm' H',Zfr ⟨ZR (LK Zm fs fuel 2) fs fuel n,y,f,r,dd⟩ tm H x= .ok o tm' H' x∧((o= .normal∧ ∃k,k<m∧WM H0 d cs mv mm k tm' H')∨(o≠ .normal∧Keep H0 H' []∧((o= .ret∧gt4 tm'= .bool true∧JV.badM (JV.wrong d) [] mm=true)∨(o= .exit 0∧JV.badM (JV.wrong d) [] mm=false∧gt2 tm'= .ptr H0.nx 0∧gt3 tm'= .ptr (H0.nx+1) 0∧H0.nx+3≤H'.nx∧H'.t.get H0.nx=some (rG 72 1 cs 0 false true true)∧H'.t.get (H0.nx+1)=some (rG 3 1 [nI .i64 (d+1)] 0 false true true))))):=by
 obtain⟨⟨i,t33,hi,rfl,hbad,es,c,gm,hseen⟩,t2,t3,t5,t31,t32,k0,hnx,g0,g1⟩:=hI
 have t2':=t2;have t3':=t3;have t5':=t5;have t31':=t31;have t32':=t32
 simp only[ZaN] at t2
 simp only[Zfl] at t3
 simp only[ZfU] at t5
 simp only[Zxp] at t31
 simp only[ZBE] at t32
 simp only[Zxq] at t33
 by_cases hlt:i<mm.length
 ·have d1:decide (i<mm.length)=true:=Zh hlt
  obtain⟨b',o',r',eI,hb,gb,eL,_⟩:=(sm.keep0 k0).at_ (i:=i) (by omega)
  obtain⟨hk9,tt,etl,hv⟩:=hm i hlt
  rw[etl] at eL
  rw[ZvB _ _ _ _ hlt] at hbad
  have htl:=hv.len
  generalize hkey:(mm.getD i default).1=key at*
  generalize hval:(mm.getD i default).2=vv at*
  obtain⟨HA,hA⟩: ∃HA,H.new (rG 100 1 (.str key::tt) 0 false true true)=HA:=⟨_,rfl⟩
  have nxA:HA.nx=H.nx+1:=by rw[←hA];rfl
  have roA:HA.ro=H0.ro:=by rw[←hA];exact k0.ro
  have kA:Keep H0 HA []:=by rw[←hA];exact k0.then_new _
  have ga0:HA.t.get H0.nx=some (rG 72 1 cs 0 false true true):=by rw[←hA,Yy (by omega)];exact g0
  have ga1:HA.t.get (H0.nx+1)=some (rG 3 1 [nI .i64 (d+1)] 0 false true true):=by rw[←hA,Yy (by omega)];exact g1
  have ga2:HA.t.get (H0.nx+2)=some (.map es c):=by rw[←hA,Yy (by omega)];exact gm
  have gaN:HA.t.get H.nx=some (rG 100 1 (.str key::tt) 0 false true true):=by rw[←hA,ZP rfl]
  have lk:=fun(G:Heap)=>Zyd (c:=c) hseen key G
  have hBt: ∀(G:Heap),G.ro≤H.nx→stN 7 (some (rG 100 1 [.str [],nI .i64 0, .bool false,nI .i64 0, .str [], .nils, .nils] 0 false true true)) H.nx 0 (.agg (.str key::tt)) G= .val Yx (G.put H.nx (rG 100 1 (.str key::tt) 0 false true true)):=fun G hG=>Y8 (n:=7) (l:=[.str [],nI .i64 0, .bool false,nI .i64 0, .str [], .nils, .nils]) (vs:= .str key::tt) (by rfl) (by rw[Zn,htl]) (by omega) hG _ _ _ _
  have hrn:(H.new (rG 100 1 [.str [],nI .i64 0, .bool false,nI .i64 0, .str [], .nils, .nils] 0 false true true)).ro≤H.nx:=by show H.ro≤_;rw[k0.ro];omega
  have hB:=hBt _ hrn
  rw[VX rfl,hA] at hB
  have ldt: ∀(G:Heap),ldN 6 (some (rG 100 1 (.str key::tt) 0 false true true)) 1 G= .val (.agg tt) G:=fun G=>by
   rw[WH (by rw[Zn,htl];omega)]
   congr 2
   rw[V2,Yl,ZK (by omega)]
  have ld0: ∀(G:Heap),ld1 (some (rG 100 1 (.str key::tt) 0 false true true)) 0 G= .val (.str key) G:=fun G=>by
   rw[ZH (by rw[Zn];omega)];rfl
  obtain⟨q,rfl⟩:=hn
  by_cases hs:key∈(mm.take i).map (·.1)
  ·rw[if_pos hs] at lk
   have b1:JV.badM (JV.wrong d) [] mm=true:=by rw[hbad,Zh hs];rfl
   have dl:decide (0<1)=true:=rfl
   simp(maxSteps:=4000000) (disch:=first|assumption|omega|(simp -implicitDefEqProofs only[Zu,Zv]<;>first|assumption|omega)|decide) only[t2,t3,t5,t31,t32,t33,d1,eI,gb,eL,nxA,hB,ga0,ga1,ga2,gaN,ld0,ldt,lk,ZI,ZU,ZdM,Zii,ZdN,Zkq,ZH,WH,YO,ZT,dl,Zfr,ZC,N8G,Zr,Zs,Zd,Ze,Zf,Nat.reduceEqDiff,reduceCtorEq,TB0,TB1]
   refine⟨_,_,_,rfl,?_⟩
   exact .inr ⟨by simp,kA, .inl ⟨rfl,rfl,b1⟩⟩
  ·rw[if_neg hs] at lk
   have dl:decide (0<0)=false:=rfl
   have ev:=fun{j}=>ZFf (Zm:=Zm) (fs:=fs) (fuel:=fuel) E (k:=2) (n:=j) (by decide) (s:=key) (H:=HA) (g.keep0 kA) (by omega) (by omega)
   cases hvu:vu key with
   |false=>
    rw[hvu] at ev
    have b1:JV.badM (JV.wrong d) [] mm=true:=by rw[hbad,hvu];simp
    simp(maxSteps:=4000000) (disch:=first|assumption|omega|(simp -implicitDefEqProofs only[Zu,Zv]<;>first|assumption|omega)|decide) only[t2,t3,t5,t31,t32,t33,d1,eI,gb,eL,nxA,hB,ga0,ga1,ga2,gaN,ld0,ldt,lk,ZI,ZU,ZdM,Zii,ZdN,Zkq,ZH,WH,YO,ZT,dl,ev,Zfr,ZC,N8G,Zr,Zs,Zd,Ze,Zf,Nat.reduceEqDiff,reduceCtorEq,TB0,TB1]
    refine⟨_,_,_,rfl,?_⟩
    exact .inr ⟨by simp,kA, .inl ⟨rfl,rfl,b1⟩⟩
   |true=>
    rw[hvu] at ev
    obtain⟨HC,eC,kC⟩:=ih (g.keep0 kA) (by omega) (hv.keep kA)
    cases hw:JV.wrong d vv with
    |true=>
     rw[hw] at eC
     have b1:JV.badM (JV.wrong d) [] mm=true:=by rw[hbad,hw];simp
     simp(maxSteps:=4000000) (disch:=first|assumption|omega|(simp -implicitDefEqProofs only[Zu,Zv]<;>first|assumption|omega)|decide) only[t2,t3,t5,t31,t32,t33,d1,eI,gb,eL,nxA,hB,ga0,ga1,ga2,gaN,ld0,ldt,lk,ZI,ZU,ZdM,Zii,ZdN,Zkq,ZH,WH,YO,ZT,dl,ev,eC,Zfr,ZC,N8G,Zr,Zs,Zd,Ze,Zf,Nat.reduceEqDiff,reduceCtorEq,TB0,TB1]
     refine⟨_,_,_,rfl,?_⟩
     exact .inr ⟨by simp,kA.trans kC (by simp), .inl ⟨rfl,rfl,b1⟩⟩
    |false=>
     rw[hw] at eC
     rw[Zc hs,hvu,hw] at hbad
     have kAC:=kA.trans kC (by simp)
     have c0:HC.t.get H0.nx=some (rG 72 1 cs 0 false true true):=by rw[kC.get _ (by omega) (by simp)];exact ga0
     have c1:HC.t.get (H0.nx+1)=some (rG 3 1 [nI .i64 (d+1)] 0 false true true):=by rw[kC.get _ (by omega) (by simp)];exact ga1
     have c2:HC.t.get (H0.nx+2)=some (.map es c):=by rw[kC.get _ (by omega) (by simp)];exact ga2
     have cN:HC.t.get H.nx=some (rG 100 1 (.str key::tt) 0 false true true):=by rw[kC.get _ (by omega) (by simp)];exact gaN
     have up:=Zye (c:=c) hseen hs (b:=H0.nx+2) (H:=HC) (by rw[kAC.ro];omega)
     have hCn:=kC.nx
     simp(maxSteps:=4000000) (disch:=first|assumption|omega|(simp -implicitDefEqProofs only[Zu,Zv]<;>first|assumption|omega)|decide) only[t2,t3,t5,t31,t32,t33,d1,eI,gb,eL,nxA,hB,ga0,ga1,ga2,gaN,ld0,ldt,lk,ZI,ZU,ZdM,Zii,ZdN,Zkq,ZH,WH,YO,ZT,dl,ev,eC,c0,c1,c2,cN,up,Yw,Zfr,ZC,N8G,Zr,Zs,Zd,Ze,Zf,Nat.reduceEqDiff,reduceCtorEq,TB0,TB1]
     refine⟨_,_,_,rfl,?_⟩
     exact .inl ⟨rfl,mm.length - (i+1),by omega,⟨⟨i+1,rfl,by omega,rfl,by rw[ZqS hlt,hkey];exact hbad,_,_,Yo ..,by rw[ZqS hlt,hkey];exact hseen.push key c⟩,t2',t3',t5',t31',t32',kAC.then_put (fun h=>by omega),by rw[ZrG];omega,by rw[Z3 (by omega)];exact c0,by rw[Z3 (by omega)];exact c1⟩⟩
 ·have d1:decide (i<mm.length)=false:=Zc hlt
  simp(maxSteps:=4000000) (disch:=first|assumption|omega|(simp -implicitDefEqProofs only[Zu,Zv]<;>first|assumption|omega)|decide) only[t32,t33,d1,ZI,Zfr,ZC,N8G,Zr,Zs,Zd,Ze,Zf,Nat.reduceEqDiff,reduceCtorEq,TB0,TB1]
  refine⟨_,_,_,rfl,?_⟩
  exact .inr ⟨by simp,k0, .inr ⟨rfl,by rw[hbad,Y7 (by omega)];rfl,t2',t3',hnx,g0,g1⟩⟩
theorem ZvC{Zm:Lib}{fs:T CF}{fuel:Nat}(E:Env Zm fs fuel): ∀(d:Nat),d≤100→ ∀{n:Nat},4*d+10≤n→ ∀{h:Nat} {v:JV} {cs:List AV} {H:Heap},GlobU H→H.ro≤H.nx→VR H h v cs→ ∃H',ZR (LK Zm fs fuel 2) fs fuel n 70 [.agg cs,nI .i64 d] H= .ret (.bool (JV.wrong d v)) H'∧Keep H H' []:=by
 intro d
 induction d with
 |zero=>
  intro hd n hn h v cs H g hro hv
  obtain⟨n,rfl⟩: ∃q,n=q+1:=⟨n - 1,by omega⟩
  obtain⟨h,rfl⟩: ∃q,h=q+1:=by cases h with|zero=>exact hv.elim|succ q=>exact⟨q,rfl⟩
  obtain⟨kk,b,z,s,l,m⟩:=v
  obtain⟨lv,mv,ls,ms,rfl, -⟩:=hv
  rw[ZV (ZN E.n70 (.inl (by decide)) _ _) E.f70]
  have d0:decide (0=0)=true:=rfl
  obtain⟨H1,hH1⟩: ∃G,Heap.new H (rG 72 1 [nI .i64 kk, .bool b, .int .i64 z, .str s,lv,mv] 0 false true true)=G:=⟨_,rfl⟩
  obtain⟨H2,hH2⟩: ∃G,Heap.new H1 (rG 3 1 [nI .i64 0] 0 false true true)=G:=⟨_,rfl⟩
  have nx1:H1.nx=H.nx+1:=by rw[←hH1];rfl
  have nx2:H2.nx=H.nx+1+1:=by rw[←hH2,ZdA,nx1]
  have k2:Keep H H2 []:=by rw[←hH2,←hH1];exact(Keep.new H _ _).then_new _
  have ga:H2.t.get H.nx=some (rG 72 1 [nI .i64 kk, .bool b, .int .i64 z, .str s,lv,mv] 0 false true true):=by rw[←hH2,Yy (by omega),←hH1,ZP rfl]
  have gb:H2.t.get (H.nx+1)=some (rG 3 1 [nI .i64 0] 0 false true true):=by rw[←hH2,ZP nx1]
  simp(maxSteps:=4000000) (disch:=first|assumption|omega|(simp -implicitDefEqProofs only[Zu,Zv]<;>first|assumption|omega)|decide) only[hH1,nx1,hH2,nx2,ga,gb,d0,ZW,ZH,JV.wrong,c70,ZC,N8G,Zr,Zs,Zd,Ze,Zf,Nat.reduceEqDiff,reduceCtorEq,TB0,TB1]
  refine⟨_,rfl,?_⟩
  exact k2
 |succ d ih=>
  intro hd n hn h v cs H g hro hv
  obtain⟨n,rfl⟩: ∃q,n=q+4:=⟨n - 4,by omega⟩
  obtain⟨h,rfl⟩: ∃q,h=q+1:=by cases h with|zero=>exact hv.elim|succ q=>exact⟨q,rfl⟩
  obtain⟨kk,b,z,s,l,m⟩:=v
  obtain⟨lv,mv,ls,ms,rfl,hz1,hz2,hs9,hl9,hm9,sl,sm,e1,e2,hl,hm⟩:=hv
  rw[ZV (ZN E.n70 (.inl (by decide)) _ _) E.f70]
  have d0:decide (d+1=0)=false:=Zc (by omega)
  obtain⟨H1,hH1⟩: ∃G,Heap.new H (rG 72 1 [nI .i64 kk, .bool b, .int .i64 z, .str s,lv,mv] 0 false true true)=G:=⟨_,rfl⟩
  obtain⟨H2,hH2⟩: ∃G,Heap.new H1 (rG 3 1 [nI .i64 (d+1)] 0 false true true)=G:=⟨_,rfl⟩
  have nx1:H1.nx=H.nx+1:=by rw[←hH1];rfl
  have nx2:H2.nx=H.nx+1+1:=by rw[←hH2,ZdA,nx1]
  have k2:Keep H H2 []:=by rw[←hH2,←hH1];exact(Keep.new H _ _).then_new _
  have ga:H2.t.get H.nx=some (rG 72 1 [nI .i64 kk, .bool b, .int .i64 z, .str s,lv,mv] 0 false true true):=by rw[←hH2,Yy (by omega),←hH1,ZP rfl]
  have gb:H2.t.get (H.nx+1)=some (rG 3 1 [nI .i64 (d+1)] 0 false true true):=by rw[←hH2,ZP nx1]
  have ea:=fun{j}=>ZC5 (Zm:=Zm) (fs:=fs) (fuel:=fuel) E (k:=2) (n:=j) (by decide) (kk:=kk) (b:=b) (z:=z) (s:=s) (H:=H2) sl.len sm.len
  have ev:=fun{j}=>ZFf (Zm:=Zm) (fs:=fs) (fuel:=fuel) E (k:=2) (n:=j) (by decide) (s:=s) (H:=H2) (g.keep0 k2) (by rw[k2.ro];omega) (by omega)
  have el:=sm.len
  rw[e1,e2,←ZyB kk b z s l m] at ea
  rw[e2] at el
  unfold JV.wrong
  by_cases h1:kk<1
  ·have dd1:decide (kk<1)=true:=Zh h1
   simp(maxSteps:=4000000) (disch:=first|assumption|omega|(simp -implicitDefEqProofs only[Zu,Zv]<;>first|assumption|omega)|decide) only[hH1,nx1,hH2,nx2,ga,gb,d0,dd1,ZW,ZI,ZH,c70,ZC,N8G,Zr,Zs,Zd,Ze,Zf,Nat.reduceEqDiff,reduceCtorEq,TB0,TB1]
   refine⟨_,rfl,?_⟩
   exact k2
  have dd1:decide (kk<1)=false:=Zc h1
  by_cases h6:6<kk
  ·have dd6:decide (6<kk)=true:=Zh h6
   simp(maxSteps:=4000000) (disch:=first|assumption|omega|(simp -implicitDefEqProofs only[Zu,Zv]<;>first|assumption|omega)|decide) only[hH1,nx1,hH2,nx2,ga,gb,d0,dd1,dd6,ZW,ZI,ZU,ZH,c70,ZC,N8G,Zr,Zs,Zd,Ze,Zf,Nat.reduceEqDiff,reduceCtorEq,TB0,TB1]
   refine⟨_,rfl,?_⟩
   exact k2
  have dd6:decide (6<kk)=false:=Zc h6
  cases hap:JV.apart (.mk kk b z s l m) with
  |false=>
   rw[hap] at ea
   simp(maxSteps:=4000000) (disch:=first|assumption|omega|(simp -implicitDefEqProofs only[Zu,Zv]<;>first|assumption|omega)|decide) only[hH1,nx1,hH2,nx2,ga,gb,d0,dd1,dd6,ea,ZW,ZI,ZU,ZH,WH,Yl,List.take_succ_cons,List.take_zero,c70,ZC,N8G,Zr,Zs,Zd,Ze,Zf,Nat.reduceEqDiff,reduceCtorEq,TB0,TB1]
   refine⟨_,rfl,?_⟩
   exact k2
  |true=>
  rw[hap] at ea
  cases hvu:vu s with
  |false=>
   rw[hvu] at ev
   simp(maxSteps:=4000000) (disch:=first|assumption|omega|(simp -implicitDefEqProofs only[Zu,Zv]<;>first|assumption|omega)|decide) only[hH1,nx1,hH2,nx2,ga,gb,d0,dd1,dd6,ea,ev,ZW,ZI,ZU,ZH,WH,Yl,List.take_succ_cons,List.take_zero,c70,ZC,N8G,Zr,Zs,Zd,Ze,Zf,Nat.reduceEqDiff,reduceCtorEq,TB0,TB1]
   refine⟨_,rfl,?_⟩
   exact k2
  |true=>
  rw[hvu] at ev
  obtain⟨H3,hH3⟩: ∃G,Heap.new H2 (.map [] 0)=G:=⟨_,rfl⟩
  have nx3:H3.nx=H.nx+1+1+1:=by rw[←hH3,ZdA,nx2]
  have k3:Keep H H3 []:=by rw[←hH3];exact k2.then_new _
  have gc0:H3.t.get H.nx=some (rG 72 1 [nI .i64 kk, .bool b, .int .i64 z, .str s,lv,mv] 0 false true true):=by rw[←hH3,Yy (by omega)];exact ga
  have gc1:H3.t.get (H.nx+1)=some (rG 3 1 [nI .i64 (d+1)] 0 false true true):=by rw[←hH3,Yy (by omega)];exact gb
  have gc2:H3.t.get (H.nx+2)=some (.map [] 0):=by rw[←hH3,ZP nx2]
  simp(maxSteps:=4000000) (disch:=first|assumption|omega|(simp -implicitDefEqProofs only[Zu,Zv]<;>first|assumption|omega)|decide) only[hH1,nx1,hH2,nx2,ga,gb,d0,dd1,dd6,ea,ev,hH3,nx3,gc0,gc1,el,Zvt,ZW,ZI,ZU,ZH,WH,Yl,List.take_succ_cons,List.take_zero,c70,ZC,N8G,Zr,Zs,Zd,Ze,Zf,Nat.reduceEqDiff,reduceCtorEq,TB0,TB1]
  generalize hL:WI (Zfr _) fuel _ _ _=L
  obtain⟨o,tm1,H4,rfl,_,k4,hq⟩:=YC (P:=fun T=>WM H d [nI .i64 kk, .bool b, .int .i64 z, .str s,lv,mv] mv m m.length T H3) (Q:=fun o tm' H'=>Keep H H' []∧((o= .ret∧gt4 tm'= .bool true∧JV.badM (JV.wrong d) [] m=true)∨(o= .exit 0∧JV.badM (JV.wrong d) [] m=false∧gt2 tm'= .ptr H.nx 0∧gt3 tm'= .ptr (H.nx+1) 0∧H.nx+3≤H'.nx∧H'.t.get H.nx=some (rG 72 1 [nI .i64 kk, .bool b, .int .i64 z, .str s,lv,mv] 0 false true true)∧H'.t.get (H.nx+1)=some (rG 3 1 [nI .i64 (d+1)] 0 false true true))))
   (fun T hi'=>YE (WM H d [nI .i64 kk, .bool b, .int .i64 z, .str s,lv,mv] mv m) _ (fun q tm H' h'=>ZsB E (n:=n+3) (d:=d) (by omega) (fun g' r' v'=>ih (by omega) (by omega) g' r' v') g hro sm e2 hm9 hm ⟨n+2,rfl⟩ _ _ _ _ _ q tm H' h') fuel m.length T H3 (by have:=E.big;omega) hi') hL
   ⟨⟨0,rfl,ZX _,rfl,rfl,[],0,gc2,Seen.nil⟩,rfl,rfl,rfl,rfl,rfl,k3,by omega,gc0,gc1⟩
  rcases hq with⟨rfl,e4,hbad⟩|⟨rfl,hbad,e2',e3',hn3,g4,g5⟩
  ·simp only[Zj7] at e4
   rw[hbad]
   simp(maxSteps:=4000000) (disch:=first|assumption|omega|(simp -implicitDefEqProofs only[Zu,Zv]<;>first|assumption|omega)|decide) only[e4,c70,ZC,N8G,Zr,Zs,Zd,Ze,Zf,Nat.reduceEqDiff,reduceCtorEq,TB0,TB1]
   simp only[Bool.or_true,Bool.true_or]
   refine⟨_,rfl,?_⟩
   exact k4
  ·simp only[ZaN] at e2'
   simp only[Zfl] at e3'
   rw[hbad]
   have hcf:=cfV E (k:=2) (n:=n+1) (q:=122) (a:=[]) (b:=[.ptr (H.nx+1) 0]) (sl.keep0 k4) (by omega) (p:=fun i=>JV.wrong d (l.getD i default)) (fun i hi G kG=>by
    have kk0:=k4.trans kG (by simp)
    have g5':G.t.get (H.nx+1)=some (rG 3 1 [nI .i64 (d+1)] 0 false true true):=by rw[kG.get _ (by omega) (by simp)];exact g5
    rw[List.nil_append,List.singleton_append,ZV (ZN E.n122 (.inr rfl) _ _) E.f122]
    have hv:=(hl i (by omega)).keep kk0
    have hlen:=hv.len
    obtain⟨H7,hH7⟩: ∃q,Heap.new G (rG 72 1 (ls.getD i []) 0 false true true)=q:=⟨_,rfl⟩
    have g7:H7.t.get G.nx=some (rG 72 1 (ls.getD i []) 0 false true true):=by rw[←hH7,ZP rfl]
    have g7':H7.t.get (H.nx+1)=some (rG 3 1 [nI .i64 (d+1)] 0 false true true):=by rw[←hH7,Yy (by have:=kG.nx;omega)];exact g5'
    have k7:Keep G H7 []:=by rw[←hH7];exact Keep.new _ _ _
    obtain⟨H8,e8,k8⟩:=ih (by omega) (n:=n) (by omega) (g.keep0 (kk0.trans k7 (by simp))) (by rw[k7.ro,kk0.ro];have:=kk0.nx;have:=k7.nx;omega) (hv.keep k7)
    have ldx: ∀(G':Heap),ldN 6 (some (rG 72 1 (ls.getD i []) 0 false true true)) 0 G'= .val (.agg (ls.getD i [])) G':=fun G'=>by
     rw[WH (by omega)];congr 2;rw[Yl,ZK (by omega)]
    have bx:=Vf (l:=ls.getD i []) (by omega) 72 G
    rw[hH7] at bx
    simp(maxSteps:=4000000) (disch:=first|assumption|omega|(simp -implicitDefEqProofs only[Zu,Zv]<;>first|assumption|omega)|decide) only[bx,g7,g7',ldx,ZH,YO,ZT,e8,ZAl,ZC,N8G,Zr,Zs,Zd,Ze,Zf,Nat.reduceEqDiff,reduceCtorEq,TB0]
    exact⟨_,rfl,k7.trans k8 (by simp)⟩)
   obtain⟨H9,e9,k9⟩:=hcf
   rw[show(List.range ls.length).any (fun i=>JV.wrong d (l.getD i default))=l.any (JV.wrong d) by rw[e1];exact Zji l _] at e9
   simp(maxSteps:=4000000) (disch:=first|assumption|omega|(simp -implicitDefEqProofs only[Zu,Zv]<;>first|assumption|omega)|decide) only[e2',e3',g4,ZH,e9,c70,ZC,N8G,Zr,Zs,Zd,Ze,Zf,Nat.reduceEqDiff,reduceCtorEq,TB0,TB1]
   simp only[Bool.or_false,Bool.false_or,Bool.not_true,dd1,dd6,hvu,hap]
   refine⟨_,rfl,?_⟩
   exact k4.trans k9 (by simp)
end
end Go.AI
namespace Go.AI
open Go
noncomputable section
theorem ZyC{Zm:Lib}{fs:T CF}{fuel:Nat}(E:Env Zm fs fuel): ∀(d:Nat),d≤100→ ∀{n:Nat},4*d+10≤n→ ∀{h:Nat} {v:JV} {cs:List AV} {H:Heap},VR H h v cs→ ∃H',ZR (LK Zm fs fuel 2) fs fuel n 71 [.agg cs,nI .i64 d] H= .ret (.bool (JV.deep d v)) H'∧Keep H H' []:=by
 intro d
 induction d with
 |zero=>
  intro hd n hn h v cs H hv
  obtain⟨n,rfl⟩: ∃q,n=q+1:=⟨n - 1,by omega⟩
  obtain⟨h,rfl⟩: ∃q,h=q+1:=by cases h with|zero=>exact hv.elim|succ q=>exact⟨q,rfl⟩
  obtain⟨kk,b,z,s,l,m⟩:=v
  obtain⟨lv,mv,ls,ms,rfl, -⟩:=hv
  rw[ZV (ZN E.n71 (.inl (by decide)) _ _) E.f71]
  have d0:decide (0=0)=true:=rfl
  obtain⟨H1,hH1⟩: ∃G,Heap.new H (rG 72 1 [nI .i64 kk, .bool b, .int .i64 z, .str s,lv,mv] 0 false true true)=G:=⟨_,rfl⟩
  obtain⟨H2,hH2⟩: ∃G,Heap.new H1 (rG 3 1 [nI .i64 0] 0 false true true)=G:=⟨_,rfl⟩
  have nx1:H1.nx=H.nx+1:=by rw[←hH1];rfl
  have nx2:H2.nx=H.nx+1+1:=by rw[←hH2,ZdA,nx1]
  have k2:Keep H H2 []:=by rw[←hH2,←hH1];exact(Keep.new H _ _).then_new _
  have ga:H2.t.get H.nx=some (rG 72 1 [nI .i64 kk, .bool b, .int .i64 z, .str s,lv,mv] 0 false true true):=by rw[←hH2,Yy (by omega),←hH1,ZP rfl]
  have gb:H2.t.get (H.nx+1)=some (rG 3 1 [nI .i64 0] 0 false true true):=by rw[←hH2,ZP nx1]
  simp(maxSteps:=4000000) (disch:=first|assumption|omega|(simp -implicitDefEqProofs only[Zu,Zv]<;>first|assumption|omega)|decide) only[hH1,nx1,hH2,nx2,ga,gb,d0,ZW,ZH,JV.deep,c71,ZC,N8G,Zr,Zs,Zd,Ze,Zf,Nat.reduceEqDiff,reduceCtorEq,TB0]
  refine⟨_,rfl,?_⟩
  exact k2
 |succ d ih=>
  intro hd n hn h v cs H hv
  obtain⟨n,rfl⟩: ∃q,n=q+4:=⟨n - 4,by omega⟩
  obtain⟨h,rfl⟩: ∃q,h=q+1:=by cases h with|zero=>exact hv.elim|succ q=>exact⟨q,rfl⟩
  obtain⟨kk,b,z,s,l,m⟩:=v
  obtain⟨lv,mv,ls,ms,rfl,hz1,hz2,hs9,hl9,hm9,sl,sm,e1,e2,hl,hm⟩:=hv
  rw[ZV (ZN E.n71 (.inl (by decide)) _ _) E.f71]
  have d0:decide (d+1=0)=false:=Zc (by omega)
  obtain⟨H1,hH1⟩: ∃G,Heap.new H (rG 72 1 [nI .i64 kk, .bool b, .int .i64 z, .str s,lv,mv] 0 false true true)=G:=⟨_,rfl⟩
  obtain⟨H2,hH2⟩: ∃G,Heap.new H1 (rG 3 1 [nI .i64 (d+1)] 0 false true true)=G:=⟨_,rfl⟩
  have nx1:H1.nx=H.nx+1:=by rw[←hH1];rfl
  have nx2:H2.nx=H.nx+1+1:=by rw[←hH2,ZdA,nx1]
  have k2:Keep H H2 []:=by rw[←hH2,←hH1];exact(Keep.new H _ _).then_new _
  have ga:H2.t.get H.nx=some (rG 72 1 [nI .i64 kk, .bool b, .int .i64 z, .str s,lv,mv] 0 false true true):=by rw[←hH2,Yy (by omega),←hH1,ZP rfl]
  have gb:H2.t.get (H.nx+1)=some (rG 3 1 [nI .i64 (d+1)] 0 false true true):=by rw[←hH2,ZP nx1]
  obtain⟨H4,eV,k4'⟩:=cfV E (k:=2) (n:=n+1) (q:=123) (a:=[]) (b:=[.ptr (H.nx+1) 0]) (sl.keep0 k2) (by omega) (p:=fun i=>JV.deep d (l.getD i default)) (fun i hi G kG=>by
   have kk0:=k2.trans kG (by simp)
   have g5':G.t.get (H.nx+1)=some (rG 3 1 [nI .i64 (d+1)] 0 false true true):=by rw[kG.get _ (by omega) (by simp)];exact gb
   rw[List.nil_append,List.singleton_append,ZV (ZN E.n123 (.inr rfl) _ _) E.f123]
   have hv:=(hl i (by omega)).keep kk0
   have hlen:=hv.len
   obtain⟨H7,hH7⟩: ∃q,Heap.new G (rG 72 1 (ls.getD i []) 0 false true true)=q:=⟨_,rfl⟩
   have g7:H7.t.get G.nx=some (rG 72 1 (ls.getD i []) 0 false true true):=by rw[←hH7,ZP rfl]
   have ldx: ∀(G':Heap),ldN 6 (some (rG 72 1 (ls.getD i []) 0 false true true)) 0 G'= .val (.agg (ls.getD i [])) G':=fun G'=>by
    rw[WH (by omega)];congr 2;rw[Yl,ZK (by omega)]
   have bx:=Vf (l:=ls.getD i []) (by omega) 72 G
   have g7':H7.t.get (H.nx+1)=some (rG 3 1 [nI .i64 (d+1)] 0 false true true):=by rw[←hH7,Yy (by have:=kG.nx;omega)];exact g5'
   have k7:Keep G H7 []:=by rw[←hH7];exact Keep.new _ _ _
   obtain⟨H8,e8,k8⟩:=ih (by omega) (n:=n) (by omega) (hv.keep k7)
   rw[hH7] at bx
   simp(maxSteps:=4000000) (disch:=first|assumption|omega|(simp -implicitDefEqProofs only[Zu,Zv]<;>first|assumption|omega)|decide) only[bx,g7,g7',ldx,ZH,YO,ZT,e8,ZAm,ZC,N8G,Zr,Zs,Zd,Ze,Zf,Nat.reduceEqDiff,reduceCtorEq,TB0]
   exact⟨_,rfl,k7.trans k8 (by simp)⟩)
  rw[show(List.range ls.length).any (fun i=>JV.deep d (l.getD i default))=l.any (JV.deep d) by rw[e1];exact Zji l _] at eV
  have k4:=k2.trans k4' (by simp)
  have n4:=k4'.nx
  have g4:H4.t.get H.nx=some (rG 72 1 [nI .i64 kk, .bool b, .int .i64 z, .str s,lv,mv] 0 false true true):=by rw[k4'.get _ (by omega) (by simp)];exact ga
  have g5:H4.t.get (H.nx+1)=some (rG 3 1 [nI .i64 (d+1)] 0 false true true):=by rw[k4'.get _ (by omega) (by simp)];exact gb
  unfold JV.deep
  cases hL:l.any (JV.deep d) with
  |true=>
   rw[hL] at eV
   simp(maxSteps:=4000000) (disch:=first|assumption|omega|(simp -implicitDefEqProofs only[Zu,Zv]<;>first|assumption|omega)|decide) only[hH1,nx1,hH2,nx2,ga,gb,g4,g5,d0,ZW,ZH,eV,Bool.true_or,c71,ZC,N8G,Zr,Zs,Zd,Ze,Zf,Nat.reduceEqDiff,reduceCtorEq,TB0]
   refine⟨_,rfl,?_⟩
   exact k4
  |false=>
   rw[hL] at eV
   obtain⟨H5,eE,k5⟩:=cfE E (k:=2) (n:=n+1) (q:=125) (a:=[]) (b:=[.ptr (H.nx+1) 0]) (sm.keep0 k4) (by omega) (p:=fun i=>JV.deep d (m.getD i default).2) (fun i hi G kG=>by
    have kk0:=k4.trans kG (by simp)
    have g5':G.t.get (H.nx+1)=some (rG 3 1 [nI .i64 (d+1)] 0 false true true):=by rw[kG.get _ (by omega) (by simp)];exact g5
    rw[List.nil_append,List.singleton_append,ZV (ZN E.n125 (.inr rfl) _ _) E.f125]
    obtain⟨hk9,tt,etl,hv⟩:=hm i (by omega)
    have hv:=hv.keep kk0
    have hlen:=hv.len
    obtain⟨H7,hH7⟩: ∃q,Heap.new G (rG 100 1 (.str (m.getD i default).1::tt) 0 false true true)=q:=⟨_,rfl⟩
    have g7:H7.t.get G.nx=some (rG 100 1 (.str (m.getD i default).1::tt) 0 false true true):=by rw[←hH7,ZP rfl]
    have ldx: ∀(G':Heap),ldN 6 (some (rG 100 1 (.str (m.getD i default).1::tt) 0 false true true)) 1 G'= .val (.agg tt) G':=fun G'=>by
     rw[WH (by rw[Zn];omega)];congr 2;rw[V2,Yl,ZK (by omega)]
    have bx:=Vf (l:= .str (m.getD i default).1::tt) (by rw[Zn];omega) 100 G
    rw[etl]
    have g7':H7.t.get (H.nx+1)=some (rG 3 1 [nI .i64 (d+1)] 0 false true true):=by rw[←hH7,Yy (by have:=kG.nx;omega)];exact g5'
    have k7:Keep G H7 []:=by rw[←hH7];exact Keep.new _ _ _
    obtain⟨H8,e8,k8⟩:=ih (by omega) (n:=n) (by omega) (hv.keep k7)
    rw[hH7] at bx
    simp(maxSteps:=4000000) (disch:=first|assumption|omega|(simp -implicitDefEqProofs only[Zu,Zv]<;>first|assumption|omega)|decide) only[bx,g7,g7',ldx,ZH,YO,ZT,e8,ZAn,ZC,N8G,Zr,Zs,Zd,Ze,Zf,Nat.reduceEqDiff,reduceCtorEq,TB0]
    exact⟨_,rfl,k7.trans k8 (by simp)⟩)
   rw[show(List.range ms.length).any (fun i=>JV.deep d (m.getD i default).2)=m.any (fun e=>JV.deep d e.2) by rw[e2];exact Zji m fun e=>JV.deep d e.2] at eE
   simp(maxSteps:=4000000) (disch:=first|assumption|omega|(simp -implicitDefEqProofs only[Zu,Zv]<;>first|assumption|omega)|decide) only[hH1,nx1,hH2,nx2,ga,gb,g4,g5,d0,ZW,ZH,eV,eE,Bool.false_or,c71,ZC,N8G,Zr,Zs,Zd,Ze,Zf,Nat.reduceEqDiff,reduceCtorEq,TB0]
   refine⟨_,rfl,?_⟩
   exact k4.trans k5 (by simp)
theorem ZC6{Zm:Lib}{fs:T CF}{fuel:Nat}(E:Env Zm fs fuel){k n:Nat}(hk:3≤k){h:Nat}{v:JV}{cs:List AV}{H:Heap}(g:GlobU H)(hro:H.ro≤H.nx)(hv:VR H h v cs):ZR (LK Zm fs fuel k) fs fuel (n+1) 70 [.agg cs,nI .i64 32] H= .ret (.bool (JV.wrong 32 v)) H:=by
 obtain⟨H',e,g⟩:=ZvC E 32 (by omega) (n:=900) (by omega) g hro hv
 exact Y6 (r:=2) rfl rfl e g rfl hk
theorem ZFo{Zm:Lib}{fs:T CF}{fuel:Nat}(E:Env Zm fs fuel){k n:Nat}(hk:3≤k){h:Nat}{v:JV}{cs:List AV}{H:Heap}(hv:VR H h v cs):ZR (LK Zm fs fuel k) fs fuel (n+1) 71 [.agg cs,nI .i64 32] H= .ret (.bool (JV.deep 32 v)) H:=by
 obtain⟨H',e,g⟩:=ZyC E 32 (by omega) (n:=900) (by omega) hv
 exact Y6 (r:=2) rfl rfl e g rfl hk
theorem ZsC{Zm:Lib}{fs:T CF}{fuel:Nat}(E:Env Zm fs fuel){n:Nat}{h:Nat}{v:JV}{cs:List AV}{H:Heap}(g:GlobU H)(hro:H.ro≤H.nx)(hv:VR H h v cs):
  ∃H',ZR (LK Zm fs fuel 3) fs fuel (n+2) 33 [.agg cs] H= .ret (nI .i64 (JV.check v)) H'∧Keep H H' []:=by
 rw[ZV (ZN E.n33 (.inl (by decide)) _ _) E.f33]
 have hlen:=hv.len
 obtain⟨H1,hH1⟩: ∃G,Heap.new H (rG 72 1 cs 0 false true true)=G:=⟨_,rfl⟩
 have g1:H1.t.get H.nx=some (rG 72 1 cs 0 false true true):=by rw[←hH1,ZP rfl]
 have k1:Keep H H1 []:=by rw[←hH1];exact Keep.new H _ _
 have ldx: ∀(G':Heap),ldN 6 (some (rG 72 1 cs 0 false true true)) 0 G'= .val (.agg cs) G':=fun G'=>by
  rw[WH (by omega)];congr 2;rw[Yl,ZK (by omega)]
 have bx:=Vf (l:=cs) (by omega) 72 H
 rw[hH1] at bx
 have ew:=fun{j}=>ZC6 (Zm:=Zm) (fs:=fs) (fuel:=fuel) E (k:=3) (n:=j) (by decide) (g.keep0 k1) (by rw[k1.ro];have:=k1.nx;omega) (hv.keep k1)
 have ed:=fun{j}=>ZFo (Zm:=Zm) (fs:=fs) (fuel:=fuel) E (k:=3) (n:=j) (by decide) (hv.keep k1)
 unfold JV.check
 cases hw:JV.wrong 32 v with
 |true=>
  rw[hw] at ew
  simp(maxSteps:=4000000) (disch:=first|assumption|omega|(simp -implicitDefEqProofs only[Zu,Zv]<;>first|assumption|omega)|decide) only[bx,g1,ldx,ew,if_true,Bool.false_eq_true,if_false,c33,ZC,N8G,Zr,Zs,Zd,Ze,Zf,Nat.reduceEqDiff,reduceCtorEq,TB0]
  refine⟨_,rfl,?_⟩
  exact k1
 |false=>
  rw[hw] at ew
  cases hd:JV.deep 32 v with
  |true=>
   rw[hd] at ed
   simp(maxSteps:=4000000) (disch:=first|assumption|omega|(simp -implicitDefEqProofs only[Zu,Zv]<;>first|assumption|omega)|decide) only[bx,g1,ldx,ew,ed,if_true,Bool.false_eq_true,if_false,c33,ZC,N8G,Zr,Zs,Zd,Ze,Zf,Nat.reduceEqDiff,reduceCtorEq,TB0]
   refine⟨_,rfl,?_⟩
   exact k1
  |false=>
   rw[hd] at ed
   simp(maxSteps:=4000000) (disch:=first|assumption|omega|(simp -implicitDefEqProofs only[Zu,Zv]<;>first|assumption|omega)|decide) only[bx,g1,ldx,ew,ed,if_true,Bool.false_eq_true,if_false,c33,ZC,N8G,Zr,Zs,Zd,Ze,Zf,Nat.reduceEqDiff,reduceCtorEq,TB0]
   refine⟨_,rfl,?_⟩
   exact k1
theorem ZyD{Zm:Lib}{fs:T CF}{fuel:Nat}(E:Env Zm fs fuel){k n:Nat}(hk:4≤k){h:Nat}{v:JV}{cs:List AV}{H:Heap}(g:GlobU H)(hro:H.ro≤H.nx)(hv:VR H h v cs):
  ZR (LK Zm fs fuel k) fs fuel (n+1) 33 [.agg cs] H= .ret (nI .i64 (JV.check v)) H:=by
 obtain⟨H',e,g⟩:=ZsC E (n:=898) (H:=H) g hro hv
 exact Y6 (r:=3) rfl rfl e g (rfl) hk
end
end Go.AI
namespace Go.AI
open Go
noncomputable section
def Zkb(a b:List UInt8):AV:=if Yg a b=true then .int .i64 (.negSucc 0) else if Yg b a=true then nI .i64 1 else nI .i64 0
theorem ZAL(a b:List UInt8)(H:Heap):Zeo YR Yg (Zkb a b) (nI .i64 0) H= .val (.bool (Yg a b)) H:=by
 unfold Zkb
 split
 ·rename_i h;rw[h];rfl
 ·rename_i h
  rw[Bool.eq_false_iff.2 h]
  split<;>rfl
theorem Zim(a b:List UInt8)(H:Heap):Zeo YR Yg (.str a) (.str b) H= .val (.bool (Yg a b)) H:=by
 show U0 (Yg a b) H=_
 cases Yg a b<;>rfl
theorem ZtB(a b:List UInt8)(H:Heap):Zeo U1 W4 (.str a) (.str b) H= .val (.bool (Yg b a)) H:=by
 show U0 (Yg b a) H=_
 cases Yg b a<;>rfl
theorem ZsD(a:List UInt8)(H:Heap):eqV eqS true (.str a) (.str a) H= .val (.bool false) H:=by
 rw[VW,Zh rfl];rfl
theorem ZvD{Zm:Lib}{fs:T CF}{fuel:Nat}(E:Env Zm fs fuel){n:Nat}{s:List UInt8}{H:Heap}:
  ∃H',ZR (LK Zm fs fuel 0) fs fuel (n+2) 135 [.str s] H= .ret (.bool false) H'∧Keep H H' []:=by
 rw[ZV (ZN E.n135 (.inl (by decide)) _ _) E.f135]
 simp(maxSteps:=4000000) (disch:=first|assumption|omega|(simp -implicitDefEqProofs only[Zu,Zv]<;>first|assumption|omega)|decide) only[ZsD,ZAv,ZC,N8G,Zr,Zs,Zd,Ze,Zf,Nat.reduceEqDiff,reduceCtorEq,TB0]
 refine⟨_,rfl,?_⟩
 exact Keep.refl _ _
theorem ZBM{Zm:Lib}{fs:T CF}{fuel:Nat}(E:Env Zm fs fuel){k n:Nat}(hk:1≤k){s:List UInt8}{H:Heap}:
  ZR (LK Zm fs fuel k) fs fuel (n+1) 135 [.str s] H= .ret (.bool false) H:=by
 obtain⟨H',e,g⟩:=ZvD E (n:=898) (H:=H)
 exact Y6 (r:=0) rfl rfl e g (rfl) hk
theorem ZoR{Zm:Lib}{fs:T CF}{fuel:Nat}(E:Env Zm fs fuel){n:Nat}{a b:List UInt8}{H:Heap}:
  ∃H',ZR (LK Zm fs fuel 1) fs fuel (n+3) 83 [.str a, .str b] H= .ret (Zkb a b) H'∧Keep H H' []:=by
 rw[ZV (ZN E.n83 (.inl (by decide)) _ _) E.f83]
 have n1:=fun{j}=>ZBM (Zm:=Zm) (fs:=fs) (fuel:=fuel) E (k:=1) (n:=j) (by decide) (s:=a) (H:=H)
 have n2:=fun{j}=>ZBM (Zm:=Zm) (fs:=fs) (fuel:=fuel) E (k:=1) (n:=j) (by decide) (s:=b) (H:=H)
 unfold Zkb
 cases h1:Yg a b with
 |true=>
  simp(maxSteps:=4000000) (disch:=first|assumption|omega|(simp -implicitDefEqProofs only[Zu,Zv]<;>first|assumption|omega)|decide) only[n1,n2,h1,Zim,if_true,c83,ZC,N8G,Zr,Zs,Zd,Ze,Zf,Nat.reduceEqDiff,reduceCtorEq,TB0]
  refine⟨_,rfl,?_⟩
  exact Keep.refl _ _
 |false=>
  cases h2:Yg b a with
  |true=>
   simp(maxSteps:=4000000) (disch:=first|assumption|omega|(simp -implicitDefEqProofs only[Zu,Zv]<;>first|assumption|omega)|decide) only[n1,n2,h1,h2,Zim,ZtB,if_true,Bool.false_eq_true,if_false,c83,ZC,N8G,Zr,Zs,Zd,Ze,Zf,Nat.reduceEqDiff,reduceCtorEq,TB0]
   refine⟨_,rfl,?_⟩
   exact Keep.refl _ _
  |false=>
   simp(maxSteps:=4000000) (disch:=first|assumption|omega|(simp -implicitDefEqProofs only[Zu,Zv]<;>first|assumption|omega)|decide) only[n1,n2,h1,h2,Zim,ZtB,if_true,Bool.false_eq_true,if_false,c83,ZC,N8G,Zr,Zs,Zd,Ze,Zf,Nat.reduceEqDiff,reduceCtorEq,TB0]
   refine⟨_,rfl,?_⟩
   exact Keep.refl _ _
theorem ZyE{Zm:Lib}{fs:T CF}{fuel:Nat}(E:Env Zm fs fuel){k n:Nat}(hk:2≤k){a b:List UInt8}{H:Heap}:
  ZR (LK Zm fs fuel k) fs fuel (n+1) 83 [.str a, .str b] H= .ret (Zkb a b) H:=by
 obtain⟨H',e,g⟩:=ZoR E (n:=897) (H:=H)
 exact Y6 (r:=1) rfl rfl e g (by unfold Zkb;split;rfl;split<;>rfl) hk
theorem ZyF{Zm:Lib}{fs:T CF}{fuel:Nat}(E:Env Zm fs fuel){n:Nat}{a b:List UInt8}{t u:List AV}{H:Heap}(ht:t.length=6)(hu:u.length=6):
  ∃H',ZR (LK Zm fs fuel 2) fs fuel (n+3) 117 [.agg (.str a::t), .agg (.str b::u)] H= .ret (Zkb a b) H'∧Keep H H' []:=by
 rw[ZV (ZN E.n117 (.inl (by decide)) _ _) E.f117]
 obtain⟨H1,hH1⟩: ∃G,H.new (rG 100 1 (.str a::t) 0 false true true)=G:=⟨_,rfl⟩
 have bx:=Vf (l:= .str a::t) (by rw[Zn];omega) 100 H
 rw[hH1] at bx
 have nx1:H1.nx=H.nx+1:=by rw[←hH1];rfl
 have g1:H1.t.get H.nx=some (rG 100 1 (.str a::t) 0 false true true):=by rw[←hH1,ZP rfl]
 obtain⟨H2,hH2⟩: ∃G,H1.new (rG 100 1 (.str b::u) 0 false true true)=G:=⟨_,rfl⟩
 have by_:=Vf (l:= .str b::u) (by rw[Zn];omega) 100 H1
 rw[hH2,nx1] at by_
 have g2:H2.t.get H.nx=some (rG 100 1 (.str a::t) 0 false true true):=by rw[←hH2,Yy (by omega)];exact g1
 have g3:H2.t.get (H.nx+1)=some (rG 100 1 (.str b::u) 0 false true true):=by rw[←hH2,ZP nx1]
 have l2: ∀G:Heap,ld1 (some (rG 100 1 (.str a::t) 0 false true true)) 0 G= .val (.str a) G:=fun G=>by rw[ZH (by rw[Zn];omega)];rfl
 have l3: ∀G:Heap,ld1 (some (rG 100 1 (.str b::u) 0 false true true)) 0 G= .val (.str b) G:=fun G=>by rw[ZH (by rw[Zn];omega)];rfl
 have k2:Keep H H2 []:=by rw[←hH2,←hH1];exact(Keep.new H _ _).then_new _
 have ec:=fun{j}=>ZyE (Zm:=Zm) (fs:=fs) (fuel:=fuel) E (k:=2) (n:=j) (by decide) (a:=a) (b:=b) (H:=H2)
 simp(maxSteps:=4000000) (disch:=first|assumption|omega|(simp -implicitDefEqProofs only[Zu,Zv]<;>first|assumption|omega)|decide) only[bx,by_,nx1,g2,g3,l2,l3,ec,Zt,ZAu,ZC,N8G,Zr,Zs,Zd,Ze,Zf,Nat.reduceEqDiff,reduceCtorEq,TB0]
 refine⟨_,rfl,?_⟩
 exact k2
theorem ZG9{Zm:Lib}{fs:T CF}{fuel:Nat}(E:Env Zm fs fuel){k n:Nat}(hk:3≤k){a b:List UInt8}{t u:List AV}{H:Heap}(ht:t.length=6)(hu:u.length=6):
  ZR (LK Zm fs fuel k) fs fuel (n+1) 117 [.agg (.str a::t), .agg (.str b::u)] H= .ret (Zkb a b) H:=by
 obtain⟨H',e,g⟩:=ZyF E (n:=897) (H:=H) ht hu
 exact Y6 (r:=2) rfl rfl e g (by unfold Zkb;split;rfl;split<;>rfl) hk
def ERel(H0:Heap)(h:Nat)(x:List AV)(e:List UInt8×JV):Prop:=e.1.length≤9000∧ ∃t,x= .str e.1::t∧VR H0 h e.2 t
theorem Recs.ldN{H:Heap}{b e sz:Nat}{ls:List (List AV)}{r:Row}(h:Recs H b e sz ls r){i:Nat}(hi:i<ls.length)(G:Heap):AI.ldN sz (some (.row r)) (i*sz) G= .val (.agg (ls.getD i [])) G:=by
 have hm:(i+1)*sz≤ls.length*sz:=Ww _ hi
 rw[Nat.add_mul,Nat.one_mul] at hm
 have hf:=U6 h.each
 show(cond (Nat.ble (Nat.add (i*sz) sz) r.size) (OR.val (.agg (loadN r (i*sz) sz)) G) .fail)=_
 rw[Zl (show Nat.add (i*sz) sz≤r.size by rw[h.size];exact hm),h.cells.load (by rw[hf];exact hm),Zih h.each hi];rfl
structure SRow(H0:Heap)(h b:Nat)(M:List (List UInt8×JV))(H:Heap):Prop where
 ok: ∃L r,Recs H b 100 7 L r∧L.length=M.length∧ ∀i,i<M.length→ERel H0 h (L.getD i []) (M.getD i default)
theorem SRow.keep{H0:Heap}{h b:Nat}{M:List (List UInt8×JV)}{H H':Heap}(s:SRow H0 h b M H)(k:Keep H H' []):SRow H0 h b M H':=by
 obtain⟨L,r,h1,h2⟩:=s.ok
 exact⟨L,r,h1.moved (k.get b h1.low (by simp)) k.ro k.nx,h2⟩
theorem SRow.at_{H0:Heap}{h b:Nat}{M:List (List UInt8×JV)}{H:Heap}(s:SRow H0 h b M H):
  ∃r,H.t.get b=some (.row r)∧b<H.nx∧H.ro≤b∧ ∀i,i<M.length→ ∃t,t.length=6∧VR H0 h (M.getD i default).2 t∧(M.getD i default).1.length≤9000∧ ∀G:Heap,ldN 7 (some (.row r)) (i*7) G= .val (.agg (.str (M.getD i default).1::t)) G:=by
 obtain⟨L,r,h1,h2,h3⟩:=s.ok
 refine⟨r,h1.at_,h1.low,h1.ro,fun i hi=>?_⟩
 obtain⟨h4,t,h5,h6⟩:=h3 i hi
 refine⟨t,h6.len,h6,h4,fun G=>?_⟩
 rw[←h5];exact h1.ldN (by omega) G
theorem ERel.len{H0:Heap}{h:Nat}{x:List AV}{e:List UInt8×JV}(r:ERel H0 h x e):x.length=7:=by
 obtain⟨_,t,rfl,h1⟩:=r
 rw[Zn,h1.len]
theorem Zks{α:Type}[Inhabited α]{L:List α}{j:Nat}(h:j+1<L.length)(d:α)(i:Nat):(swp L j).getD i d=if i=j then L.getD (j+1) default else if i=j+1 then L.getD j default else L.getD i d:=by
 unfold swp
 rw[Zj]
 by_cases h1:i=j
 ·subst h1;rw[if_pos rfl,List.getElem?_set_self (by rw[List.length_set];omega)];rfl
 ·rw[if_neg h1,List.getElem?_set_ne (fun e=>h1 e.symm)]
  by_cases h2:i=j+1
  ·subst h2;rw[if_pos rfl,List.getElem?_set_self h];rfl
  ·rw[if_neg h2,List.getElem?_set_ne (fun e=>h2 e.symm),←Zj]
theorem SRow.swap{H0:Heap}{h b:Nat}{M:List (List UInt8×JV)}{H:Heap}(s:SRow H0 h b M H){j:Nat}(hj:j+1<M.length):
  ∃r r1 r2 t u,H.t.get b=some (.row r)∧b<H.nx∧H.ro≤b∧t.length=6∧u.length=6∧VR H0 h (M.getD (j+1) default).2 t∧VR H0 h (M.getD j default).2 u∧
   (∀G:Heap,ldN 7 (some (.row r)) ((j+1)*7) G= .val (.agg (.str (M.getD (j+1) default).1::t)) G)∧(∀G:Heap,ldN 7 (some (.row r)) (j*7) G= .val (.agg (.str (M.getD j default).1::u)) G)∧
   stN 7 (some (.row r)) b ((j+1)*7) (.agg (.str (M.getD j default).1::u)) H= .val Yx (H.put b (.row r1))∧
   stN 7 (some (.row r1)) b (j*7) (.agg (.str (M.getD (j+1) default).1::t)) (H.put b (.row r1))= .val Yx (H.put b (.row r2))∧SRow H0 h b (swp M j) (H.put b (.row r2)):=by
 obtain⟨L,r,h1,h2,h3⟩:=s.ok
 have ea:=h3 (j+1) hj
 have eb:=h3 j (by omega)
 have la:=ea.len
 have lb:=eb.len
 obtain⟨h4,t,h5,h6⟩:=ea
 obtain⟨h7,u,h8,h9⟩:=eb
 obtain⟨r1,s1,q1⟩:=h1.store (i:=j+1) (by omega) (vs:=L.getD j []) lb (by omega)
 obtain⟨r2,s2,q2⟩:=q1.store (i:=j) (by rw[List.length_set];omega) (vs:=L.getD (j+1) []) la (by omega)
 rw[Zh6] at s2 q2
 have d1: ∀G:Heap,ldN 7 (some (.row r)) ((j+1)*7) G= .val (.agg (L.getD (j+1) [])) G:=fun G=>h1.ldN (by omega) G
 have d2: ∀G:Heap,ldN 7 (some (.row r)) (j*7) G= .val (.agg (L.getD j [])) G:=fun G=>h1.ldN (by omega) G
 have q3:SRow H0 h b (swp M j) (H.put b (.row r2)):=⟨_,r2,q2,by rw[List.length_set,List.length_set,Zbe];exact h2,fun i hi=>by
  rw[Zbe] at hi
  rw[Zks hj,show((L.set (j+1) (L.getD j [])).set j (L.getD (j+1) [])).getD i []=(swp L j).getD i [] from rfl,Zks (by omega)]
  by_cases i1:i=j
  ·rw[if_pos i1,if_pos i1];exact h3 (j+1) hj
  ·rw[if_neg i1,if_neg i1]
   by_cases i2:i=j+1
   ·rw[if_pos i2,if_pos i2];exact h3 j (by omega)
   ·rw[if_neg i2,if_neg i2];exact h3 i hi⟩
 rw[h5] at d1 s2
 rw[h8] at d2 s1
 exact⟨r,r1,r2,t,u,h1.at_,h1.low,h1.ro,h6.len,h9.len,h6,h9,d1,d2,s1,s2,q3⟩
theorem Sl.sameV{H:Heap}{sz:Nat}{v:AV}{ls:List (List AV)}(h:Sl H sz v ls):AI.same v v=true:=by
 rcases h.here with⟨rfl,rfl⟩|⟨b,o,c,rfl,_⟩
 ·unfold AI.same;rfl
 ·unfold AI.same;rw[Yc,Yc,Yc]
  cases c with
  |none=>rfl
  |some c=>exact Yc c
theorem VR.low{H:Heap}: ∀{h:Nat} {v:JV} {cs:List AV},VR H h v cs→ ∀{n:Nat},H.nx≤n→Zan n cs=true
 |h+1, .mk _ _ _ _ l m,cs,⟨lv,mv,ls,ms,e,a1,a2,a3,a4,a5,sl,sm,_⟩,n,hn=>by
  rw[e]
  show cond (YA n lv) (cond (YA n mv) true false) false=true
  rw[sl.low hn,sm.low hn];rfl
theorem VR.same{H:Heap}: ∀{h:Nat} {v:JV} {cs:List AV},VR H h v cs→UM cs cs=true
 |h+1, .mk k b z s l m,cs,⟨lv,mv,ls,ms,e,a1,a2,a3,a4,a5,sl,sm,_⟩=>by
  rw[e]
  unfold UM;rw[Ztd];unfold UM
  rw[show AI.same (.bool b) (.bool b)=true by unfold AI.same;cases b<;>rfl];unfold UM
  rw[Zh1];unfold UM;rw[Zh2];unfold UM;rw[sl.sameV];unfold UM;rw[sm.sameV];unfold UM;rfl
theorem Zin{s:List UInt8}{t:List AV}(h:UM t t=true)(n:Nat)(q:T Obj):Vk (.val (.agg (.str s::t)) ⟨n,q,n⟩) (.agg (.str s::t)) n=true:=Zad (by unfold UM;rw[Zh2];exact h) n q
theorem ZlX(n f:Nat):YA n (.func f [] [])=true:=rfl
end
end Go.AI
namespace Go.AI
open Go
noncomputable section
def ZsE(Zm:Lib)(fs:T CF)(fuel k f:Nat):Prop:= ∀{a b:List UInt8} {t u:List AV} {H:Heap} {j:Nat},t.length=6→u.length=6→ZR (LK Zm fs fuel k) fs fuel (j+1) f [.agg (.str a::t), .agg (.str b::u)] H= .ret (Zkb a b) H
structure ZAM(H0 HK:Heap)(S:List Nat)(h b f n i:Nat)(cp:Option Nat)(T:List (List UInt8×JV))(m:Nat)(tm:TM)(H:Heap):Prop where
 j: ∃j M,gt9 tm=nI .i64 j∧m=j∧j≤i∧M.length=n∧SRow H0 h b M H∧ZaO ltE j M=T
 t0:gt0 tm= .slice b 0 n cp
 t1:gt1 tm=nI .i64 0
 t2:gt2 tm=nI .i64 n
 t3:gt3 tm= .func f [] []
 t8:gt8 tm=nI .i64 i
 k:Keep HK H S
theorem ZC7{Zm:Lib}{fs:T CF}{fuel:Nat}(E:Env Zm fs fuel){k n0 f:Nat}(hf:ZsE Zm fs fuel k f){H0 HK:Heap}{S:List Nat}{h b n i:Nat}{cp:Option Nat}{T:List (List UInt8×JV)}(hi:i<n)(hn:n≤9000)(hnk:H0.nx≤HK.nx)(hb:b<HK.nx→b∈S)(y fr d r)(x:X)(m:Nat)(tm:TM)(H:Heap)(hI:ZAM H0 HK S h b f n i cp T m tm H):
  ∃o tm' H',ZfJ ⟨ZR (LK Zm fs fuel k) fs fuel (n0+1),y,fr,d,r⟩ tm H x= .ok o tm' H' x∧((o= .normal∧ ∃q,q<m∧ZAM H0 HK S h b f n i cp T q tm' H')∨(o≠ .normal∧(o= .exit 2∧gt0 tm'= .slice b 0 n cp∧gt1 tm'=nI .i64 0∧gt2 tm'=nI .i64 n∧gt3 tm'= .func f [] []∧gt8 tm'=nI .i64 i∧Keep HK H' S∧SRow H0 h b T H'))):=by
 obtain⟨⟨j,M,t9,rfl,hj,hM,sr,hT⟩,t0,t1,t2,t3,t8,k0⟩:=hI
 have t0':=t0;have t1':=t1;have t2':=t2;have t3':=t3;have t8':=t8
 simp only[Zck] at t0
 simp only[ZbE] at t1
 simp only[Zfl] at t3
 simp only[ZED] at t9
 cases m with
 |zero=>
  have d0:decide (0<0)=false:=rfl
  have hT:M=T:=hT
  subst hT
  simp(maxSteps:=4000000) (disch:=first|assumption|omega|(simp -implicitDefEqProofs only[Zu,Zv]<;>first|assumption|omega)|decide) only[t0,t1,t3,t9,d0,ZU,ZfJ,ZC,N8G,Zr,Zs,Zd,Ze,Zf,Nat.reducePow,Nat.reduceDiv,Nat.reduceMod,Nat.reduceEqDiff,reduceCtorEq,TB0,TB1]
  refine⟨_,_,_,rfl,?_⟩
  exact .inr ⟨by simp,rfl,(by simp only[TB0,N8G];exact t0'),(by simp only[TB0,N8G];exact t1'),(by simp only[TB0,N8G];exact t2'),(by simp only[TB0,N8G];exact t3'),(by simp only[TB0,N8G];exact t8'),k0,sr⟩
 |succ q=>
  have d0:decide (0<q+1)=true:=rfl
  obtain⟨rw0,r1,r2,t,u,g,blo,bro,ht,hu,vt,vu_,l1,l2,s1,s2,sr2⟩:=sr.swap (j:=q) (by omega)
  have lo1:=vt.low (n:=H.nx) (Z6 hnk k0.nx)
  have lo2:=vu_.low (n:=H.nx) (Z6 hnk k0.nx)
  have sa1:=fun(n:Nat) (z:AI.T Obj)=>Zin (s:=(M.getD (q+1) default).1) vt.same n z
  have sa2:=fun(n:Nat) (z:AI.T Obj)=>Zin (s:=(M.getD q default).1) vu_.same n z
  have hc:=fun{j}=>hf (j:=j) (a:=(M.getD (q+1) default).1) (b:=(M.getD q default).1) (H:=H) ht hu
  have lt:=ZAL (M.getD (q+1) default).1 (M.getD q default).1
  have hT:(if Yg (M.getD (q+1) default).1 (M.getD q default).1 then ZaO ltE q (swp M q) else M)=T:=hT
  have lwb:YA H.nx (.slice b 0 n cp)=true:=YP blo 0 n cp
  generalize hk1:(M.getD (q+1) default).1=k1 at*
  generalize hk2:(M.getD q default).1=k2 at*
  have ca: ∀n,YA n (Zkb k1 k2)=true:=fun n=>by unfold Zkb;split;rfl;split<;>rfl
  cases hs:Yg k1 k2 with
  |false=>
   rw[hs] at lt hT
   have hT:M=T:=hT
   subst hT
   simp(maxSteps:=4000000) (disch:=first|assumption|omega|(simp -implicitDefEqProofs only[Zu,Zv]<;>first|assumption|omega)|decide) only[t0,t1,t3,t9,d0,g,l1,l2,lo1,lo2,sa1,sa2,hc,lt,lwb,ca,ZlX,ZL,ZU,Zal,YO,ZT,ZfJ,ZC,N8G,Zr,Zs,Zd,Ze,Zf,Nat.reducePow,Nat.reduceDiv,Nat.reduceMod,Nat.reduceEqDiff,reduceCtorEq,TB0,TB1]
   refine⟨_,_,_,rfl,?_⟩
   exact .inr ⟨by simp,rfl,(by simp only[TB0,N8G];exact t0'),(by simp only[TB0,N8G];exact t1'),(by simp only[TB0,N8G];exact t2'),(by simp only[TB0,N8G];exact t3'),(by simp only[TB0,N8G];exact t8'),k0,sr⟩
  |true=>
   rw[hs] at lt hT
   simp(maxSteps:=4000000) (disch:=first|assumption|omega|(simp -implicitDefEqProofs only[Zu,Zv]<;>first|assumption|omega)|decide) only[t0,t1,t3,t9,d0,g,l1,l2,lo1,lo2,sa1,sa2,hc,lt,lwb,ca,s1,s2,Zh6,ZlX,ZL,ZU,Zal,YO,ZT,ZfJ,ZC,N8G,Zr,Zs,Zd,Ze,Zf,Nat.reducePow,Nat.reduceDiv,Nat.reduceMod,Nat.reduceEqDiff,reduceCtorEq,TB0,TB1]
   refine⟨_,_,_,rfl,?_⟩
   exact .inl ⟨rfl,q,Ys _,⟨⟨q,swp M q,(by simp only[TB0,N8G]),rfl,by omega,by rw[Zbe];exact hM,sr2,hT⟩,(by simp only[TB0,N8G];exact t0'),(by simp only[TB0,N8G];exact t1'),(by simp only[TB0,N8G];exact t2'),(by simp only[TB0,N8G];exact t3'),(by simp only[TB0,N8G];exact t8'),k0.then_put hb⟩⟩
end
end Go.AI
namespace Go.AI
open Go
noncomputable section
structure ZAN(H0 HK:Heap)(S:List Nat)(h b f n:Nat)(cp:Option Nat)(T:List (List UInt8×JV))(m:Nat)(tm:TM)(H:Heap):Prop where
 i: ∃i M,gt8 tm=nI .i64 i∧m=n - i∧1≤i∧M.length=n∧SRow H0 h b M H∧Zka ltE (n - i) i M=T
 t0:gt0 tm= .slice b 0 n cp
 t1:gt1 tm=nI .i64 0
 t2:gt2 tm=nI .i64 n
 t3:gt3 tm= .func f [] []
 k:Keep HK H S
theorem ZAO{Zm:Lib}{fs:T CF}{fuel:Nat}(E:Env Zm fs fuel){k n0 f:Nat}(hf:ZsE Zm fs fuel k f){H0 HK:Heap}{S:List Nat}{h b n:Nat}{cp:Option Nat}{T:List (List UInt8×JV)}(hn:n≤9000)(hnk:H0.nx≤HK.nx)(hb:b<HK.nx→b∈S)(y fr r)(x:X)(m:Nat)(tm:TM)(H:Heap)(hI:ZAN H0 HK S h b f n cp T m tm H):
  ∃o tm' H',ZbT ⟨ZR (LK Zm fs fuel k) fs fuel (n0+1),y,fr,fuel,r⟩ tm H x= .ok o tm' H' x∧((o= .normal∧ ∃q,q<m∧ZAN H0 HK S h b f n cp T q tm' H')∨(o≠ .normal∧(o= .exit 0∧Keep HK H' S∧SRow H0 h b T H'))):=by
 obtain⟨⟨i,M,t8,rfl,hi1,hM,sr,hT⟩,t0,t1,t2,t3,k0⟩:=hI
 have t0':=t0;have t1':=t1;have t2':=t2;have t3':=t3;have t8':=t8
 simp only[ZaN] at t2
 simp only[Zl9] at t8
 by_cases hlt:i<n
 ·have d1:decide (i<n)=true:=Zh hlt
  simp(maxSteps:=4000000) (disch:=first|assumption|omega|(simp -implicitDefEqProofs only[Zu,Zv]<;>first|assumption|omega)|decide) only[t2,t8,d1,ZI,ZbT,ZC,N8G,Zr,Zs,Zd,Ze,Zf,Nat.reduceEqDiff,reduceCtorEq,TB0]
  generalize hL:WI (ZfJ _) fuel _ _ _=L
  obtain⟨o,tm1,H1,rfl,_,rfl,a0,a1,a2,a3,a8,k1,sr1⟩:=YC (P:=fun T'=>ZAM H0 HK S h b f n i cp (ZaO ltE i M) i T' H) (Q:=fun o tm' H'=>o= .exit 2∧gt0 tm'= .slice b 0 n cp∧gt1 tm'=nI .i64 0∧gt2 tm'=nI .i64 n∧gt3 tm'= .func f [] []∧gt8 tm'=nI .i64 i∧Keep HK H' S∧SRow H0 h b (ZaO ltE i M) H')
   (fun T' hi'=>YE (ZAM H0 HK S h b f n i cp (ZaO ltE i M)) _ (fun m tm H' h'=>ZC7 E hf hlt hn hnk hb _ _ _ _ _ m tm H' h') fuel i T' H (by have:=E.big;omega) hi') hL
   ⟨⟨i,M,(by simp only[TB0,N8G]),rfl,Zk _,hM,sr,rfl⟩,(by simp only[TB0,N8G];exact t0'),(by simp only[TB0,N8G];exact t1'),(by simp only[TB0,N8G];exact t2'),(by simp only[TB0,N8G];exact t3'),(by simp only[TB0,N8G];exact t8'),k0⟩
  have a8':=a8
  simp only[Zl9] at a8
  simp(maxSteps:=4000000) (disch:=first|assumption|omega|(simp -implicitDefEqProofs only[Zu,Zv]<;>first|assumption|omega)|decide) only[a8,Yw,ZbT,ZC,N8G,Zr,Zs,Zd,Ze,Zf,Nat.reduceEqDiff,reduceCtorEq,TB0]
  refine⟨_,_,_,rfl,?_⟩
  exact .inl ⟨rfl,n - (i+1),by omega,⟨⟨i+1,ZaO ltE i M,(by simp only[TB0,N8G]),rfl,by omega,by rw[ZaJ];exact hM,sr1,by rw[show n - i=(n - (i+1))+1 by omega] at hT;exact hT⟩,(by simp only[TB0,N8G];exact a0),(by simp only[TB0,N8G];exact a1),(by simp only[TB0,N8G];exact a2),(by simp only[TB0,N8G];exact a3),k1⟩⟩
 ·have d1:decide (i<n)=false:=Zc hlt
  rw[show n - i=0 by omega] at hT
  have hT:M=T:=hT
  subst hT
  simp(maxSteps:=4000000) (disch:=first|assumption|omega|(simp -implicitDefEqProofs only[Zu,Zv]<;>first|assumption|omega)|decide) only[t2,t8,d1,ZI,ZbT,ZC,N8G,Zr,Zs,Zd,Ze,Zf,Nat.reduceEqDiff,reduceCtorEq,TB0]
  refine⟨_,_,_,rfl,?_⟩
  exact .inr ⟨by simp,rfl,k0,sr⟩
theorem ZAP{Zm:Lib}{fs:T CF}{fuel:Nat}(E:Env Zm fs fuel){k n0 f:Nat}(hf:ZsE Zm fs fuel k f){H0 HK H:Heap}{S:List Nat}{h b n:Nat}{cp:Option Nat}{M:List (List UInt8×JV)}(hn:n≤9000)(hnk:H0.nx≤HK.nx)(hb:b<HK.nx→b∈S)(hM:M.length=n)(k0:Keep HK H S)(sr:SRow H0 h b M H):
  ∃H',ZR (LK Zm fs fuel k) fs fuel (n0+2) 169 [.slice b 0 n cp,nI .i64 0,nI .i64 n, .func f [] []] H= .ret (.tup []) H'∧Keep HK H' S∧SRow H0 h b (WQ ltE M) H':=by
 rw[ZV (ZN E.n169 (.inr rfl) _ _) E.f169]
 simp(maxSteps:=4000000) (disch:=first|assumption|omega|(simp -implicitDefEqProofs only[Zu,Zv]<;>first|assumption|omega)|decide) only[Yw,Zi,Zsm,ZC,N8G,Zr,Zs,Zd,Ze,Zf,Nat.reduceEqDiff,reduceCtorEq,TB0]
 generalize hL:WI (ZbT _) fuel _ _ _=L
 obtain⟨o,tm1,H1,rfl,_,rfl,k1,sr1⟩:=YC (P:=fun T'=>ZAN H0 HK S h b f n cp (WQ ltE M) (n - 1) T' H) (Q:=fun o tm' H'=>o= .exit 0∧Keep HK H' S∧SRow H0 h b (WQ ltE M) H')
  (fun T' hi'=>YE (ZAN H0 HK S h b f n cp (WQ ltE M)) _ (fun m tm H' h'=>ZAO E hf hn hnk hb _ _ _ _ m tm H' h') fuel (n - 1) T' H (by have:=E.big;omega) hi') hL
  ⟨⟨1,M,rfl,rfl,Zk _,hM,sr,by unfold WQ;rw[hM]⟩,rfl,rfl,rfl,rfl,k0⟩
 simp(maxSteps:=4000000) (disch:=first|assumption|omega|(simp -implicitDefEqProofs only[Zu,Zv]<;>first|assumption|omega)|decide) only[Zsm,ZC,N8G,Zr,Zs,Zd,Ze,Zf,Nat.reduceEqDiff,reduceCtorEq,TB0]
 refine⟨_,rfl,?_⟩
 exact⟨k1,sr1⟩
theorem ZnJ{a:TM→Heap→X→Res}{F:Nat}{tm:TM}{H H':Heap}{x:X}{L:Res}(hL:WI a F tm H x=L)(hF:0<F)(h: ∃tm',a tm H x= .ok .ret tm' H' x): ∃tm',L= .ok .ret tm' H' x:=by
 obtain⟨tm',h⟩:=h
 cases F with
 |zero=>omega
 |succ F=>
  refine⟨tm',?_⟩
  rw[←hL]
  show ZaP (a tm H x) _=_
  rw[h];rfl
theorem U7(k:IntKind)(a b:Nat)(H:Heap):Zeo ZcG QU (nI k a) (nI k b) H= .val (.bool (decide (a≤b))) H:=Zh3 k a b H
theorem ZAQ{Zm:Lib}{fs:T CF}{fuel:Nat}(E:Env Zm fs fuel){k n0 f:Nat}(hf:ZsE Zm fs fuel k f){H0 H:Heap}{h b n lim:Nat}{cp:Option Nat}{M:List (List UInt8×JV)}(hn:n≤12)(hb:H0.nx≤b)(hM:M.length=n)(k0:Keep H0 H [])(sr:SRow H0 h b M H):
  ∃H',ZR (LK Zm fs fuel k) fs fuel (n0+3) 185 [.slice b 0 n cp,nI .i64 0,nI .i64 n,nI .i64 lim, .func f [] []] H= .ret (.tup []) H'∧Keep H0 H' []∧SRow H0 h b (WQ ltE M) H':=by
 rw[ZV (ZN E.n185 (.inr rfl) _ _) E.f185]
 obtain⟨H1,e1,k1,sr1⟩:=ZAP E (k:=k) (n0:=n0) hf (cp:=cp) (HK:=H0) (S:=[]) (by omega) (Zk _) (fun h=>absurd h (by omega)) hM k0 sr
 have d1:decide (n≤12)=true:=Zh hn
 simp(maxSteps:=4000000) (disch:=first|assumption|omega|(simp -implicitDefEqProofs only[Zu,Zv]<;>first|assumption|omega)|decide) only[Zkp,Zsl,ZC,N8G,Zr,Zs,Zd,Ze,Zf,Nat.reduceEqDiff,reduceCtorEq,TB0]
 generalize hL:WI (Zic _) fuel _ _ _=L
 obtain⟨tm',h⟩: ∃tm',L= .ok .ret tm' H1 ⟨[],none⟩:=by
  have hF:0<fuel:=by have:=E.big;omega
  refine ZnJ hL hF ?_
  simp(maxSteps:=4000000) (disch:=first|assumption|omega|(simp -implicitDefEqProofs only[Zu,Zv]<;>first|assumption|omega)|decide) only[d1,e1,YO,U7,Nat.sub_zero,Zic,ZC,N8G,Zr,Zs,Zd,Ze,Zf,Nat.reducePow,Nat.reduceDiv,Nat.reduceMod,Nat.reduceEqDiff,reduceCtorEq,TB0,TB1,TB2,TB3,TB4]
  exact⟨_,rfl⟩
 subst h
 simp(maxSteps:=4000000) (disch:=first|assumption|omega|(simp -implicitDefEqProofs only[Zu,Zv]<;>first|assumption|omega)|decide) only[Zkp,Zsl,ZC,N8G,Zr,Zs,Zd,Ze,Zf,Nat.reduceEqDiff,reduceCtorEq,TB0]
 refine⟨_,rfl,?_⟩
 exact⟨k1,sr1⟩
end
end Go.AI
namespace Go.AI
open Go
noncomputable section
theorem ZsF(l:List PI)(p q:PI)(a b:EvF)(c:Ctx)(tm:TM)(H:Heap)(x:X):Ziy l p q a b c tm H x=W5 (l.map (·.dst)) (Zf2 p q a b) l c [] tm H x:=rfl
theorem ZvE(f g:OpF)(o1 o2:List (ZE×EvF))(d1 d2:ZE)(k1 k2:Zgo)(i1 i2 b1 b2:Nat)(e1 e2:Option (EvF×Bool))(a b:EvF)(rs:List RD)(tm:TM)(H:Heap)(x:X):Zf2 ⟨f,e1,o1,d1,k1,i1,b1⟩ ⟨g,e2,o2,d2,k2,i2,b2⟩ a b rs tm H x=ZtO (Vt b1 rs) (ZtO (Vt b2 rs) (AI.apart (a (rsF tm o1)) (b (rsF tm o2)) (onV (f (rsF tm o1) H) fun H1=>onV (g (rsF tm o2) H1) fun H2=> .ok .normal tm H2 x))):=rfl
theorem ZyG(k:Res):ZtO [] k=k:=rfl
theorem ZyH{b c:Nat}(h: ¬b=c)(o q:Nat)(k:Res):AI.apart (.ptr b o) (.ptr c q) k=k:=by
 show cond (Nat.beq b c) .fail k=k
 rw[Ye,Zc h];rfl
theorem ZAR(v:AV)(H:Heap)(k:Heap→Res):onV (.val v H) k=k H:=rfl
theorem ZyI{α:Type}(l:List α)(a b:α):(l++[a]).set l.length b=l++[b]:=by
 induction l with
 |nil=>rfl
 |cons x l ih=>show x::(l++[a]).set l.length b=_;rw[ih];rfl
theorem ZlY{H:Heap}{v:AV}{e sz:Nat}{ls:List (List AV)}{lo:Nat}(h:RBuf H v e sz ls lo):v.cells=[v]:=by
 rcases h with⟨_,rfl⟩|⟨_,b,r,rfl,_⟩<;>rfl
theorem ZHa(H:Heap):ZbR 100 7 1 [.str [],nI .i64 0, .bool false,nI .i64 0, .str [], .nils, .nils] [(0,7, .agg [.str [],nI .i64 0, .bool false,nI .i64 0, .str [], .nils, .nils])] H= .val (.slice H.nx 0 1 none) (H.new (rG 100 7 [.str [],nI .i64 0, .bool false,nI .i64 0, .str [], .nils, .nils] 0 false true true)):=rfl
theorem ZyJ{H:Heap}{v:AV}{ls:List (List AV)}{lo:Nat}(h:RBuf H v 100 7 ls lo)(hl:ls.length≤9000)(hro:H.ro≤H.nx)(hlo:lo≤H.nx){x:List AV}(hx:x.length=7):
  ∃b r r' H',UX 100 7 104 v (.slice H.nx 0 1 none) (H.new (rG 100 7 [.str [],nI .i64 0, .bool false,nI .i64 0, .str [], .nils, .nils] 0 false true true))= .val (.slice b 0 (ls.length+1) none) H'∧lo≤b∧b<H'.nx∧H'.t.get b=some (.row r)∧
   (∀G:Heap,Zlw 7 (.slice b 0 (ls.length+1) none) (nI .i64 ls.length) G= .val (.ptr b (ls.length*7)) G)∧stN 7 (some (.row r)) b (ls.length*7) (.agg x) H'= .val Yx (H'.put b (.row r'))∧RBuf (H'.put b (.row r')) (.slice b 0 (ls.length+1) none) 100 7 (ls++[x]) lo∧Below lo H H':=by
 obtain⟨v',H',e,hb,w⟩:=Zda h (bytes:=104) (by omega) (by omega) (by omega) hro hlo (x:=[.str [],nI .i64 0, .bool false,nI .i64 0, .str [], .nils, .nils]) rfl
 rcases hb with⟨h1,_⟩|⟨_,b,r,rfl,hr,hlb⟩
 ·simp at h1
 ·rw[Zq,Zn,Zw] at e
  obtain⟨r',s1,q1⟩:=hr.store (i:=ls.length) (by simp) hx (by omega)
  rw[ZyI] at q1
  refine⟨b,r,r',H',e,hlb,hr.low,hr.at_,fun G=>?_,s1, .inr ⟨by simp,b,r',by rw[Zq];rfl,q1,hlb⟩,w⟩
  rw[Zal (by omega),Zi]
theorem ZyK{C:Ctx}{tm:TM}{H:Heap}{X0:X}{sb:Nat}{v:AV}{ls:List (List AV)}{x:List AV}(t2:gt2 tm= .ptr sb 0)(g:H.t.get sb=some (rG 70 1 [v] 0 false true true))(hr:RBuf H v 100 7 ls (sb+1))(hsb:sb<H.nx)(hro:H.ro≤sb)(hx:x.length=7)(lx: ∀n,H.nx≤n→Zan n x=true)(sx:UM x x=true)(hl:ls.length≤9000):
  ∃tm' H' v',ZoG C (st7 tm (.agg x)) H X0= .ok .normal tm' H' X0∧H'.t.get sb=some (rG 70 1 [v'] 0 false true true)∧RBuf H' v' 100 7 (ls++[x]) (sb+1)∧Below sb H H':=by
 simp only[ZaN] at t2
 obtain⟨H1,hH1⟩: ∃G,H.new (rG 100 1 x 0 false true true)=G:=⟨_,rfl⟩
 have nx1:H1.nx=H.nx+1:=by rw[←hH1];rfl
 have ro1:H1.ro=H.ro:=by rw[←hH1];rfl
 have hB:=Y8 (n:=7) (l:=[.str [],nI .i64 0, .bool false,nI .i64 0, .str [], .nils, .nils]) (vs:=x) (by rfl) hx (by omega) (show(H.new (rG 100 1 [.str [],nI .i64 0, .bool false,nI .i64 0, .str [], .nils, .nils] 0 false true true)).ro≤H.nx by show H.ro≤_;omega) 100 1 false true
 rw[VX rfl,hH1] at hB
 have gs1:H1.t.get sb=some (rG 70 1 [v] 0 false true true):=by rw[←hH1,Yy (by omega)];exact g
 have gx1:H1.t.get H.nx=some (rG 100 1 x 0 false true true):=by rw[←hH1,ZP rfl]
 have ldx: ∀G:Heap,ldN 7 (some (rG 100 1 x 0 false true true)) 0 G= .val (.agg x) G:=fun G=>by rw[WH (by omega)];congr 2;rw[Yl,ZK (by omega)]
 have b1:Below sb H H1:=by rw[←hH1];exact Below.new sb H _
 have hr1:RBuf H1 v 100 7 ls (sb+1):=hr.below (fun c h1 h2=>by rw[←hH1,Yy (by omega)]) ro1 (by omega)
 obtain⟨b,r,r',H2,ea,hlb,hb2,gr,ix,s1,r2,w2⟩:=ZyJ hr1 hl (by omega) (by omega) hx
 rw[nx1] at ea
 have gs2:H2.t.get sb=some (rG 70 1 [v] 0 false true true):=by rw[w2.get sb (by omega) (by omega)];exact gs1
 have hne: ¬b=sb:=by omega
 have gs3:(H2.put b (.row r')).t.get sb=some (rG 70 1 [v] 0 false true true):=by rw[Z3 hne];exact gs2
 have st:=Zbc (fz:=0) (b:=sb) (H:=H2.put b (.row r')) (l:=[v]) (o:=0) (v:= .slice b 0 (ls.length+1) none) rfl (by simp) (by show H2.ro≤sb;rw[w2.ro,ro1];exact hro) (by omega) 70 1 false true
 have lsv:=hr1.low (n:=H.nx+1) (by omega)
 have lv:=hr1.len
 have ssv:=hr1.same
 have lx1:=lx (H.nx+1) (by omega)
 have lx2:=lx H2.nx (by have:=w2.nx;omega)
 have ax:=Zad sx
 have lsb:YA (H.nx+1) (.ptr sb 0)=true:=ZL (by omega) 0
 have lsb2:YA H2.nx (.ptr sb 0)=true:=ZL (by have:=w2.nx;omega) 0
 have lbb: ∀o,YA H2.nx (.ptr b o)=true:=fun o=>ZL hb2 o
 have lxn:YA (H.nx+1) (.ptr H.nx 0)=true:=ZL (by omega) 0
 have lsl:YA H2.nx (.slice b 0 (ls.length+1) none)=true:=YP hb2 _ _ _
 have la2:YA (H.nx+1+1) (.slice (H.nx+1) 0 1 none)=true:=YP (by omega) _ _ _
 simp(maxSteps:=4000000) (disch:=first|assumption|omega|(simp -implicitDefEqProofs only[Zu,Zv]<;>first|assumption|omega)|decide) only[t2,hB,gs1,gx1,nx1,ldx,lv,ea,gr,ix,s1,gs3,st,lsv,ssv,lx1,lx2,ax,lsb,lsb2,lbb,lxn,lsl,la2,ZsF,ZvE,ZyG,ZAR,ZyH,ZHa,Wi,ZH,Zt,Zi,ZoG,ZC,N8G,Zr,Zs,Zd,Ze,Zf,Nat.reducePow,Nat.reduceDiv,Nat.reduceMod,Nat.reduceEqDiff,reduceCtorEq,TB0]
 refine⟨_,_, .slice b 0 (ls.length+1) none,rfl,Yo ..,?_,?_⟩
 ·exact r2.below (fun c h1 _=>by rw[Z3 (by omega)]) rfl (Zk _)
 ·exact b1.trans ((w2.mono (Nat.le_succ _)).trans ((Below.put (by omega)).trans (Below.put (Zk _))))
end
end Go.AI
namespace Go.AI
open Go
noncomputable section
theorem ZsG(nx:TM→Heap→X→Res)(d:ZE)(c:Ctx)(tm:TM)(H H':Heap)(x:X)(b:Nat)(l:List AV):ZaT nx d c tm H x (.oth (.yield b l H'))=ZjZ nx d tm x (c.yld b l H'):=rfl
theorem ZqT(P:Program)(b:Nat)(l:List AV)(H:Heap):Zqq P (.yield b) l H= .oth (.yield b l H):=rfl
theorem ZvF{fs:T CF}{g:Nat}{cf:CF}(h:fs.get g=some cf)(fuel:Nat)(call:Nat→List AV→Heap→CR)(a b:List AV)(round:List AV→Heap→CR)(tm:TM)(H:Heap)(x:X):
  Qn fs fuel call (.func g a b) round tm H x=Zv9 (Zdk (fun _ _ _ _=> .fail) cf.rs (cf.body ⟨call,fun l ys H'=>cond (Nat.beq l H.nx) (round ys H') .fail,Vc,fuel,false⟩ (UN (a++(.yield H.nx::b))) (H.new .loop) ⟨[],none⟩)) tm x:=by
 show ZiA Res.fail fs g _=_
 unfold ZiA
 rw[h]
theorem ZsH(q:EvF)(ps:List ZE)(a:D)(c:Ctx)(tm:TM)(H:Heap)(x:X):ZnW q ps a c tm H x=c.rng (q tm) (fun ys H=>cond (Nat.beq (Yt ys) (Yt ps)) (Zdi (a ⟨c.call,Wk,Vc,c.fuel,true⟩ (ZaV tm ps ys) H ⟨[],none⟩)) .fail) tm H x:=rfl
structure Gat(H0:Heap)(sb:Nat)(xs:List (List AV))(i:Nat)(G:Heap):Prop where
 k:Keep H0 G []
 low:sb<G.nx
 hi:H0.nx≤sb
 ro:G.ro≤sb
 ok: ∃v,G.t.get sb=some (rG 70 1 [v] 0 false true true)∧RBuf G v 100 7 (xs.take i) (sb+1)
theorem Gat.keep{H0:Heap}{sb:Nat}{xs:List (List AV)}{i:Nat}{G G':Heap}(g:Gat H0 sb xs i G)(k:Keep G G' []):Gat H0 sb xs i G':=by
 obtain⟨v,h1,h2⟩:=g.ok
 exact⟨g.k.trans k (by simp),ZF g.low k.nx,g.hi,by rw[k.ro];exact g.ro,v,by rw[k.get _ g.low (by simp)];exact h1,h2.below (fun c _ hc=>k.get c hc (by simp)) k.ro k.nx⟩
structure VI2(H0:Heap)(sb B:Nat)(src:AV)(xs:List (List AV))(m:Nat)(tm:TM)(H:Heap):Prop where
 i: ∃i,gt7 tm=nI .i64 i∧i≤xs.length∧m=xs.length - i∧Gat H0 sb xs i H
 t0:gt0 tm= .yield B
 t5:gt5 tm=src
 t6:gt6 tm=nI .i64 xs.length
theorem ZC8{cl:Nat→List AV→Heap→CR}{Y:Nat→List AV→Heap→CR}{H0:Heap}{sb B:Nat}{src:AV}{xs:List (List AV)}(sl:Sl H0 7 src xs)(hn:xs.length≤9000)
  (hy: ∀i G,i<xs.length→Gat H0 sb xs i G→ ∃G',Y B [.agg (xs.getD i [])] G= .ret (.bool true) G'∧Gat H0 sb xs (i+1) G')(f d r)(x:X)(m:Nat)(tm:TM)(H:Heap)(h:VI2 H0 sb B src xs m tm H):
  ∃o tm' H',Zib ⟨cl,Y,f,d,r⟩ tm H x= .ok o tm' H' x∧((o= .normal∧ ∃q,q<m∧VI2 H0 sb B src xs q tm' H')∨(o≠ .normal∧(o= .exit 0∧Gat H0 sb xs xs.length H'))):=by
 obtain⟨⟨i,t7,hi,rfl,g⟩,t0,t5,t6⟩:=h
 have t0':=t0;have t5':=t5;have t6':=t6
 simp only[Zck] at t0
 simp only[ZfU] at t5
 simp only[Zj8] at t6
 simp only[Zxo] at t7
 by_cases hlt:i<xs.length
 ·have d1:decide (i<xs.length)=true:=Zh hlt
  obtain⟨b,o,rw_,eI,hb,gb,eL,_⟩:=(sl.keep0 g.k).at_ hlt
  have hx:(xs.getD i []).length=7:=sl.each _ (by rw[Zj,Zp hlt];exact YL hlt)
  obtain⟨H1,hH1⟩: ∃G,H.new (rG 100 1 (xs.getD i []) 0 false true true)=G:=⟨_,rfl⟩
  have hro:H.ro≤H.nx:=by have:=g.ro;have:=g.low;omega
  have hB:=Y8 (n:=7) (l:=[.str [],nI .i64 0, .bool false,nI .i64 0, .str [], .nils, .nils]) (vs:=xs.getD i []) (by rfl) hx (by omega) (show(H.new (rG 100 1 [.str [],nI .i64 0, .bool false,nI .i64 0, .str [], .nils, .nils] 0 false true true)).ro≤H.nx from hro) 100 1 false true
  rw[VX rfl,hH1] at hB
  have gx1:H1.t.get H.nx=some (rG 100 1 (xs.getD i []) 0 false true true):=by rw[←hH1,ZP rfl]
  have ldx: ∀G:Heap,ldN 7 (some (rG 100 1 (xs.getD i []) 0 false true true)) 0 G= .val (.agg (xs.getD i [])) G:=fun G=>by rw[WH (by omega)];congr 2;rw[Yl,ZK (by omega)]
  have k1:Keep H H1 []:=by rw[←hH1];exact Keep.new H _ _
  obtain⟨G',ey,g'⟩:=hy i H1 hlt (g.keep k1)
  generalize xs.getD i []=xx at*
  simp(maxSteps:=4000000) (disch:=first|assumption|omega|(simp -implicitDefEqProofs only[Zu,Zv]<;>first|assumption|omega)|decide) only[t0,t5,t6,t7,d1,eI,gb,eL,hB,gx1,ldx,ey,ZI,ZsG,ZqT,W3,Yw,Zib,ZC,N8G,Zr,Zs,Zd,Ze,Zf,Nat.reduceEqDiff,reduceCtorEq,TB0]
  refine⟨_,_,_,rfl,?_⟩
  exact .inl ⟨rfl,xs.length - (i+1),by omega,⟨⟨i+1,(by simp only[TB0,N8G]),by omega,rfl,g'⟩,(by simp only[TB0,N8G];exact t0'),(by simp only[TB0,N8G];exact t5'),(by simp only[TB0,N8G];exact t6')⟩⟩
 ·have d1:decide (i<xs.length)=false:=Zc hlt
  have:i=xs.length:=by omega
  subst this
  simp(maxSteps:=4000000) (disch:=first|assumption|omega|(simp -implicitDefEqProofs only[Zu,Zv]<;>first|assumption|omega)|decide) only[t6,t7,d1,ZI,Zib,ZC,N8G,Zr,Zs,Zd,Ze,Zf,Nat.reduceEqDiff,reduceCtorEq,TB0]
  refine⟨_,_,_,rfl,?_⟩
  exact .inr ⟨by simp,rfl,g⟩
theorem ZFp{Zm:Lib}{fs:T CF}{fuel:Nat}(E:Env Zm fs fuel){H0 H:Heap}{sb vb:Nat}{src:AV}{xs:List (List AV)}(sl:Sl H0 7 src xs)(hn:xs.length≤9000){call:Nat→List AV→Heap→CR}{round:List AV→Heap→CR}(gv:H0.t.get vb=some (rG 70 1 [src] 0 false true true))(lvb:vb<H0.nx)
  (hy: ∀i G,i<xs.length→Gat H0 sb xs i G→ ∃G',round [.agg (xs.getD i [])] G= .ret (.bool true) G'∧Gat H0 sb xs (i+1) G')(g:Gat H0 sb xs 0 H)(tm:TM)(x:X):
  ∃H',Qn fs fuel call (.func 158 [] [.ptr vb 0]) round tm H x= .ok .normal tm H' x∧Gat H0 sb xs xs.length H':=by
 rw[ZvF E.f158]
 have hro:H.ro≤H.nx:=by have:=g.ro;have:=g.low;omega
 have k1:Keep H (H.new .loop) []:=Keep.new _ _ _
 have g1:=g.keep k1
 have gv1:(H.new .loop).t.get vb=some (rG 70 1 [src] 0 false true true):=by rw[g1.k.get _ lvb (by simp)];exact gv
 have el:=sl.len
 have hy': ∀i G,i<xs.length→Gat H0 sb xs i G→ ∃G',(fun l ys H'=>cond (Nat.beq l H.nx) (round ys H') CR.fail) H.nx [.agg (xs.getD i [])] G= .ret (.bool true) G'∧Gat H0 sb xs (i+1) G':=fun i G h1 h2=>by
  obtain⟨G',e,h3⟩:=hy i G h1 h2
  refine⟨G',?_,h3⟩
  show cond (Nat.beq H.nx H.nx) (round _ G) CR.fail=_
  rw[Yc];exact e
 generalize(fun l ys H'=>cond (Nat.beq l H.nx) (round ys H') CR.fail)=Y at hy'
 simp(maxSteps:=4000000) (disch:=first|assumption|omega|(simp -implicitDefEqProofs only[Zu,Zv]<;>first|assumption|omega)|decide) only[gv1,el,ZH,List.nil_append,QB,Zx3,ZC,N8G,Zr,Zs,Zd,Ze,Zf,Nat.reduceEqDiff,reduceCtorEq,TB0]
 generalize hL:WI (Zib _) fuel _ _ _=L
 obtain⟨o,tm1,H1,rfl,_,rfl,g2⟩:=YC (P:=fun T=>VI2 H0 sb H.nx src xs xs.length T (H.new .loop)) (Q:=fun o tm' H'=>o= .exit 0∧Gat H0 sb xs xs.length H')
  (fun T hi'=>YE (VI2 H0 sb H.nx src xs) _ (fun m tm H' h'=>ZC8 sl hn hy' _ _ _ _ m tm H' h') fuel xs.length T _ (by have:=E.big;omega) hi') hL
  ⟨⟨0,rfl,ZX _,rfl,g1⟩,rfl,rfl,rfl⟩
 simp(maxSteps:=4000000) (disch:=first|assumption|omega|(simp -implicitDefEqProofs only[Zu,Zv]<;>first|assumption|omega)|decide) only[gv1,Zx3,ZC,N8G,Zr,Zs,Zd,Ze,Zf,Nat.reduceEqDiff,reduceCtorEq,TB0]
 refine⟨_,rfl,?_⟩
 exact g2
theorem ZC9{Zm:Lib}{fs:T CF}{fuel:Nat}(E:Env Zm fs fuel){k n0:Nat}{H0 H:Heap}{vb:Nat}{src:AV}{xs:List (List AV)}(sl:Sl H0 7 src xs)(hn:xs.length≤9000)(gv:H0.t.get vb=some (rG 70 1 [src] 0 false true true))(lvb:vb<H0.nx)
  (hx: ∀i,i<xs.length→(∀n,H0.nx≤n→Zan n (xs.getD i [])=true)∧UM (xs.getD i []) (xs.getD i [])=true)(k0:Keep H0 H [])(hro:H.ro≤H.nx):
  ∃v H',ZR (LK Zm fs fuel k) fs fuel (n0+1) 184 [.nils, .func 158 [] [.ptr vb 0]] H= .ret v H'∧Keep H0 H' []∧RBuf H' v 100 7 xs (H.nx+1)∧H'.ro≤H'.nx:=by
 rw[ZV (ZN E.n184 (.inr rfl) _ _) E.f184]
 obtain⟨H1,hH1⟩: ∃G,H.new (rG 70 1 [.nils] 0 false true true)=G:=⟨_,rfl⟩
 have nx1:H1.nx=H.nx+1:=by rw[←hH1];rfl
 have k1:Keep H0 H1 []:=by rw[←hH1];exact k0.then_new _
 have g1:Gat H0 H.nx xs 0 H1:=⟨k1,by omega,k0.nx,by rw[←hH1];exact hro, .nils,by rw[←hH1,ZP rfl], .inl ⟨rfl,rfl⟩⟩
 simp(maxSteps:=4000000) (disch:=first|assumption|omega|(simp -implicitDefEqProofs only[Zu,Zv]<;>first|assumption|omega)|decide) only[hH1,nx1,ZsH,Zx2,ZC,N8G,Zr,Zs,Zd,Ze,Zf,Nat.reduceEqDiff,reduceCtorEq,TB0]
 generalize hR:Qn fs fuel _ _ _ _ _ _=R
 obtain⟨H2,rfl,g2⟩: ∃H2,R= .ok .normal ((N8.u0 (N8.u0 (N8.u6 fun _=> .func 158 [] [.ptr vb 0])) (N8.u0 (N8.u0 (N8.u4 fun _=> .nils)) (N8.u0 (N8.u0 (N8.u2 fun _=> .ptr H.nx 0)) (N8.u0 (N8.u0 (N8.u1 fun _=> .func 158 [] [.ptr vb 0])) (N8.u0 (N8.u0 (N8.u0 fun _=> .nils)) tm0)))))) H2 ⟨[],none⟩∧Gat H0 H.nx xs xs.length H2:=by
  rw[←hR]
  refine ZFp E sl hn gv lvb (fun i G hi g=>?_) g1 _ _
  obtain⟨v,h1,h2⟩:=g.ok
  have hx7:(xs.getD i []).length=7:=sl.each _ (by rw[Zj,Zp hi];exact YL hi)
  obtain⟨tm',G',v',e,h3,h4,w⟩:=ZyK (C:=⟨ZR (LK Zm fs fuel k) fs fuel n0,Wk,Vc,fuel,true⟩) (X0:=⟨[],none⟩) (tm:=(N8.u0 (N8.u0 (N8.u6 fun _=> .func 158 [] [.ptr vb 0])) (N8.u0 (N8.u0 (N8.u4 fun _=> .nils)) (N8.u0 (N8.u0 (N8.u2 fun _=> .ptr H.nx 0)) (N8.u0 (N8.u0 (N8.u1 fun _=> .func 158 [] [.ptr vb 0])) (N8.u0 (N8.u0 (N8.u0 fun _=> .nils)) tm0)))))) (by rfl) h1 h2 g.low g.ro hx7 (fun n hn'=>(hx i hi).1 n (Z6 g.k.nx hn')) (hx i hi).2 (by rw[Yb];omega)
  refine⟨G',?_,?_⟩
  ·exact congrArg Zdi e
  ·exact⟨Below.keep g.k w g.hi,by have:=w.nx;have:=g.low;omega,g.hi,by rw[w.ro];exact g.ro,v',h3,by rw[Zam hi []];exact h4⟩
 obtain⟨v,h1,h2⟩:=g2.ok
 rw[ZK (Zk _)] at h2
 simp(maxSteps:=4000000) (disch:=first|assumption|omega|(simp -implicitDefEqProofs only[Zu,Zv]<;>first|assumption|omega)|decide) only[h1,ZH,Zx2,ZC,N8G,Zr,Zs,Zd,Ze,Zf,Nat.reduceEqDiff,reduceCtorEq,TB0]
 refine⟨_,_,rfl,g2.k,h2,?_⟩
 have:=g2.ro;have:=g2.low;omega
end
end Go.AI
namespace Go.AI
open Go
noncomputable section
theorem Zkt{n:Nat}(h:n<9223372036854775808)(H:Heap):ZhZ .u64 (nI .i64 n) H= .val (nI .u64 n) H:=by
 unfold nI;rw[Zh7,YV]
 show OR.val (.int .u64 (IntKind.u64.wrap (.ofNat n))) H=_
 rw[Zbs,Z0 (by omega)]
theorem ZAS{Zm:Lib}{fs:T CF}{fuel:Nat}(E:Env Zm fs fuel){k n:Nat}(hk:1≤k){x:Nat}(hx:x<18446744073709551616){H:Heap}:ZR (LK Zm fs fuel k) fs fuel (n+2) 186 [nI .u64 x] H= .ret (nI .i64 (Zaq x)) H:=by
 rw[ZV (ZN E.n186 (.inr rfl) _ _) E.f186]
 have e:=fun{j}=>ZBI (Zm:=Zm) (fs:=fs) (fuel:=fuel) E (k:=k) (n:=j) hk (x:=x) hx (H:=H)
 simp(maxSteps:=4000000) (disch:=first|assumption|omega|(simp -implicitDefEqProofs only[Zu,Zv]<;>first|assumption|omega)|decide) only[e,ZAw,ZC,N8G,Zr,Zs,Zd,Ze,Zf,Nat.reduceEqDiff,reduceCtorEq,TB0]
theorem ZDa{Zm:Lib}{fs:T CF}{fuel:Nat}(E:Env Zm fs fuel){k n:Nat}{src:AV}{H:Heap}(hs:src.cells=[src]):ZR (LK Zm fs fuel k) fs fuel (n+1) 116 [src] H= .ret (.func 158 [] [.ptr H.nx 0]) (H.new (rG 70 1 [src] 0 false true true)):=by
 rw[ZV (ZN E.n116 (.inr rfl) _ _) E.f116]
 have bx:=Zqn hs 70 H
 simp(maxSteps:=4000000) (disch:=first|assumption|omega|(simp -implicitDefEqProofs only[Zu,Zv]<;>first|assumption|omega)|decide) only[bx,ZAt,ZC,N8G,Zr,Zs,Zd,Ze,Zf,Nat.reduceEqDiff,reduceCtorEq,TB0]
structure ZAT(H0:Heap)(m:Nat)(tm:TM)(H:Heap):Prop where
 t8:gt8 tm=nI .i64 1
 t2:gt2 tm=nI .i64 0
 h:H=H0
theorem ZvG{C:Ctx}{H0:Heap}(x:X)(m:Nat)(tm:TM)(H:Heap)(h:ZAT H0 m tm H): ∃o tm' H',ZbT C tm H x= .ok o tm' H' x∧((o= .normal∧ ∃q,q<m∧ZAT H0 q tm' H')∨(o≠ .normal∧(o= .exit 0∧H'=H0))):=by
 obtain⟨t8,t2,rfl⟩:=h
 simp only[Zl9] at t8
 simp only[ZaN] at t2
 have d1:decide (1<0)=false:=rfl
 simp(maxSteps:=4000000) (disch:=first|assumption|omega|(simp -implicitDefEqProofs only[Zu,Zv]<;>first|assumption|omega)|decide) only[t2,t8,d1,ZI,ZbT,ZC,N8G,Zr,Zs,Zd,Ze,Zf,Nat.reduceEqDiff,reduceCtorEq,TB0]
 refine⟨_,_,_,rfl,?_⟩
 exact .inr ⟨by simp,rfl,rfl⟩
theorem ZAU{Zm:Lib}{fs:T CF}{fuel:Nat}(E:Env Zm fs fuel){k n0 f:Nat}{H:Heap}:ZR (LK Zm fs fuel k) fs fuel (n0+1) 169 [.nils,nI .i64 0,nI .i64 0, .func f [] []] H= .ret (.tup []) H:=by
 rw[ZV (ZN E.n169 (.inr rfl) _ _) E.f169]
 simp(maxSteps:=4000000) (disch:=first|assumption|omega|(simp -implicitDefEqProofs only[Zu,Zv]<;>first|assumption|omega)|decide) only[Yw,Zi,Zsm,ZC,N8G,Zr,Zs,Zd,Ze,Zf,Nat.reduceEqDiff,reduceCtorEq,TB0]
 generalize hL:WI (ZbT _) fuel _ _ _=L
 obtain⟨o,tm1,H1,rfl,_,rfl,rfl⟩:=YC (P:=fun T'=>ZAT H 0 T' H) (Q:=fun o tm' H'=>o= .exit 0∧H'=H)
  (fun T' hi'=>YE (ZAT H) _ (fun m tm H' h'=>ZvG _ m tm H' h') fuel 0 T' H (by have:=E.big;omega) hi') hL ⟨rfl,rfl,rfl⟩
 simp(maxSteps:=4000000) (disch:=first|assumption|omega|(simp -implicitDefEqProofs only[Zu,Zv]<;>first|assumption|omega)|decide) only[Zsm,ZC,N8G,Zr,Zs,Zd,Ze,Zf,Nat.reduceEqDiff,reduceCtorEq,TB0]
theorem ZAV{Zm:Lib}{fs:T CF}{fuel:Nat}(E:Env Zm fs fuel){k n0 f lim:Nat}{H:Heap}:ZR (LK Zm fs fuel k) fs fuel (n0+2) 185 [.nils,nI .i64 0,nI .i64 0,nI .i64 lim, .func f [] []] H= .ret (.tup []) H:=by
 rw[ZV (ZN E.n185 (.inr rfl) _ _) E.f185]
 have e1:=ZAU E (k:=k) (n0:=n0) (f:=f) (H:=H)
 have d1:decide (0≤12)=true:=rfl
 simp(maxSteps:=4000000) (disch:=first|assumption|omega|(simp -implicitDefEqProofs only[Zu,Zv]<;>first|assumption|omega)|decide) only[Zkp,Zsl,ZC,N8G,Zr,Zs,Zd,Ze,Zf,Nat.reduceEqDiff,reduceCtorEq,TB0]
 generalize hL:WI (Zic _) fuel _ _ _=L
 obtain⟨tm',h⟩: ∃tm',L= .ok .ret tm' H ⟨[],none⟩:=by
  have hF:0<fuel:=by have:=E.big;omega
  refine ZnJ hL hF ?_
  simp(maxSteps:=4000000) (disch:=first|assumption|omega|(simp -implicitDefEqProofs only[Zu,Zv]<;>first|assumption|omega)|decide) only[d1,e1,YO,U7,Nat.sub_zero,UO,Zic,ZC,N8G,Zr,Zs,Zd,Ze,Zf,Nat.reducePow,Nat.reduceDiv,Nat.reduceMod,Nat.reduceEqDiff,reduceCtorEq,TB0,TB1,TB2,TB3,TB4]
  exact⟨_,rfl⟩
 subst h
 simp(maxSteps:=4000000) (disch:=first|assumption|omega|(simp -implicitDefEqProofs only[Zu,Zv]<;>first|assumption|omega)|decide) only[Zkp,Zsl,ZC,N8G,Zr,Zs,Zd,Ze,Zf,Nat.reduceEqDiff,reduceCtorEq,TB0]
def ZFq(H0:Heap)(h:Nat)(M:List (List UInt8×JV))(v:AV)(H:Heap):Prop:=(M=[]∧v= .nils)∨(M≠[]∧ ∃b,v= .slice b 0 M.length none∧H0.nx≤b∧SRow H0 h b (WQ ltE M) H)
theorem ZFr{Zm:Lib}{fs:T CF}{fuel:Nat}(E:Env Zm fs fuel){k n0 f:Nat}(hk:1≤k)(hf:ZsE Zm fs fuel k f){H0 H:Heap}{h lo:Nat}{v:AV}{ms:List (List AV)}{M:List (List UInt8×JV)}(hn:M.length≤12)(hlo:H0.nx≤lo)(e:ms.length=M.length)(hE: ∀i,i<M.length→ERel H0 h (ms.getD i []) (M.getD i default))(k0:Keep H0 H [])(rb:RBuf H v 100 7 ms lo):
  ∃H',ZR (LK Zm fs fuel k) fs fuel (n0+4) 157 [v, .func f [] []] H= .ret (.tup []) H'∧Keep H0 H' []∧ZFq H0 h M v H':=by
 rw[ZV (ZN E.n157 (.inr rfl) _ _) E.f157]
 have el:=rb.len
 rw[e] at el
 have eb:=fun{j}=>ZAS (Zm:=Zm) (fs:=fs) (fuel:=fuel) E (k:=k) (n:=j) hk (x:=M.length) (by omega) (H:=H)
 rcases rb with⟨h1,rfl⟩|⟨h1,b,r,rfl,hr,hb⟩
 ·subst h1
  have hM:M=[]:=List.length_eq_zero_iff.1 e.symm
  subst hM
  have ep:=fun{j}=>ZAV E (k:=k) (n0:=j) (f:=f) (lim:=Zaq 0) (H:=H)
  simp only[Zw] at el eb
  simp(maxSteps:=4000000) (disch:=first|assumption|omega|(simp -implicitDefEqProofs only[Zu,Zv]<;>first|assumption|omega)|decide) only[el,eb,ep,Zkt,Zx4,ZC,N8G,Zr,Zs,Zd,Ze,Zf,Nat.reduceEqDiff,reduceCtorEq,TB0]
  refine⟨_,rfl,?_⟩
  exact⟨k0, .inl ⟨rfl,rfl⟩⟩
 ·have hM:M≠[]:=by rintro rfl;exact h1 (List.length_eq_zero_iff.1 e)
  rw[e] at el ⊢
  obtain⟨H1,ep,k1,sr⟩:=ZAQ E (k:=k) (n0:=n0) (lim:=Zaq M.length) hf (cp:=none) hn (Z6 hlo hb) rfl k0 ⟨ms,r,hr,e,hE⟩
  simp(maxSteps:=4000000) (disch:=first|assumption|omega|(simp -implicitDefEqProofs only[Zu,Zv]<;>first|assumption|omega)|decide) only[el,eb,ep,Zkt,Zx4,ZC,N8G,Zr,Zs,Zd,Ze,Zf,Nat.reduceEqDiff,reduceCtorEq,TB0]
  refine⟨_,rfl,?_⟩
  exact⟨k1, .inr ⟨hM,b,rfl,Z6 hlo hb,sr⟩⟩
theorem ZAW{Zm:Lib}{fs:T CF}{fuel:Nat}(E:Env Zm fs fuel){k n0 f:Nat}(hk:1≤k)(hf:ZsE Zm fs fuel k f){H:Heap}{h vb:Nat}{src:AV}{ms:List (List AV)}{M:List (List UInt8×JV)}(sl:Sl H 7 src ms)(gv:H.t.get vb=some (rG 70 1 [src] 0 false true true))(lvb:vb<H.nx)(hro:H.ro≤H.nx)
  (hn:M.length≤12)(e:ms.length=M.length)(hE: ∀i,i<M.length→ERel H h (ms.getD i []) (M.getD i default)):
  ∃v H',ZR (LK Zm fs fuel k) fs fuel (n0+5) 115 [.func 158 [] [.ptr vb 0], .func f [] []] H= .ret v H'∧Keep H H' []∧ZFq H h M v H':=by
 rw[ZV (ZN E.n115 (.inr rfl) _ _) E.f115]
 obtain⟨v,H1,e1,k1,rb,ro1⟩:=ZC9 E (k:=k) (n0:=n0+2) sl (by omega) gv lvb (fun i hi=>by
  obtain⟨_,t,e2,hv⟩:=hE i (by omega)
  rw[e2]
  exact⟨fun n hn'=>hv.low hn',by unfold UM;rw[Zh2];exact hv.same⟩) (Keep.refl H []) hro
 have ec:ZR (LK Zm fs fuel k) fs fuel (n0+4) 156 [.func 158 [] [.ptr vb 0]] H= .ret v H1:=by
  rw[ZV (ZN E.n156 (.inr rfl) _ _) E.f156]
  simp(maxSteps:=4000000) (disch:=first|assumption|omega|(simp -implicitDefEqProofs only[Zu,Zv]<;>first|assumption|omega)|decide) only[e1,ZAs,ZC,N8G,Zr,Zs,Zd,Ze,Zf,Nat.reduceEqDiff,reduceCtorEq,TB0]
 obtain⟨H2,e2,k2,sr⟩:=ZFr E (k:=k) (n0:=n0) hk hf hn (Nat.le_succ _) e hE k1 rb
 simp(maxSteps:=4000000) (disch:=first|assumption|omega|(simp -implicitDefEqProofs only[Zu,Zv]<;>first|assumption|omega)|decide) only[ec,e2,ZAr,ZC,N8G,Zr,Zs,Zd,Ze,Zf,Nat.reduceEqDiff,reduceCtorEq,TB0]
 refine⟨_,_,rfl,?_⟩
 exact⟨k2,sr⟩
end
end Go.AI
